import PyProof.Rows.All
import Wide.All
import OpenK.AllK
import Wide.FinOn
import HandS.ForExc
import HandS.Comp
import HandS.Dict
import HandS.Iter
import HandS.Wide
import HandS.IsInst
import HandS.Set
import HandS.SetFor
import HandS.Strs
import HandS.SortInts
import HandS.SortRule
import HandS.TupAny
import HandS.Zip
import HandS.More
import HandS.Conv
import HandS.EndBits
import KE.KDictPairs
import HandS.WordsDict
import KE.KExcSuper
import HandS.ExcInit
import HandS.Style
import PySem.Challenge.RW_freshshapes_k00_names_led_by_renamings
import PyProof.Rows.ReprOcc
set_option Elab.async false
set_option linter.all false
set_option maxRecDepth 100000
set_option maxHeartbeats 4000000
/-! Fz0: what a piece of Python does, as a plain Lean function over PyData: the relations, the judgements -/
namespace Fz
open PySem PySem.Spec PyProof.Rows L2

abbrev D := PyData

/-- what is fixed through a law -/
structure Gb where
  P : Program
  w : World
  K : PySem.W.Frag
  mg : Str → Option Value
  base : Heap
abbrev gOf (X : Cx) : Gb := ⟨X.prog, X.w, X.K, X.mg, X.base⟩

theorem sm_rd {H H' : Hp} {a : Addr} {u : HO} (e : Same H H') (h : Rd H a u) : Rd H' a u := by
  rcases h with h | ⟨o, h⟩
  · exact .inl (e _ _ h)
  · exact .inr ⟨o, e _ _ h⟩
theorem sm_t {K : PySem.W.Frag} {H H' : Hp} {a : Addr} {xs : List V} (e : Same H H') (h : SqT K H a xs) : SqT K H' a xs := by
  rcases h with h | h
  · exact .inl (sm_rd e h)
  · exact .inr h

/-- a tuple that is known to be one and no more: it has no dict -/
def PlT (K : PySem.W.Frag) (H : Hp) (a : Addr) (xs : List V) : Prop := (∃ ob : Obj, H a = some (.frz ob (.tup xs)) ∧ ob.dict = none) ∨
  ∃ (ob : Obj) (its : Array Value) (n : Nat), (K.lookup a = some ob ∧ ob.dict = none) ∧ ob.cls = .type "tuple" ∧ ob.data = .seq its n ∧ its.size ≤ sizeLine ∧ Vals xs its.toList
theorem PlT.sq {K : PySem.W.Frag} {H : Hp} {a : Addr} {xs : List V} : PlT K H a xs → SqT K H a xs
  | .inl ⟨ob, h, _⟩ => .inl (.inr ⟨ob, h⟩)
  | .inr ⟨ob, its, n, ⟨h1, _⟩, h2, h3, h4, h5⟩ => .inr ⟨ob, its, n, h1, h2, h3, h4, h5⟩
theorem PlT.mono {K : PySem.W.Frag} {H H' : Hp} {a : Addr} {xs : List V} (e : Same H H') : PlT K H a xs → PlT K H' a xs
  | .inl ⟨ob, h, d⟩ => .inl ⟨ob, e _ _ h, d⟩
  | .inr h => .inr h
theorem PlT.new {K : PySem.W.Frag} {H : Hp} {a : Addr} {xs : List V} {ob : Obj} (d : ob.dict = none) : PlT K (upd H a (.frz ob (.tup xs))) a xs := .inl ⟨ob, upd_same, d⟩
def kD : Key → D
  | .inl i => .int i
  | .inr x => .str x

mutual
/-- the value v is the datum d, by what F knows -/
inductive Rp (K : PySem.W.Frag) (F : Hp) : V → D → Prop
  | non : Rp K F .non .none
  | bl (b : Bool) : Rp K F (.bl b) (.bool b)
  | int (i : Int) : Rp K F (.int i) (.int i)
  | str (x : Str) : Rp K F (.str x) (.str x)
  | lst {a : Addr} {xs : List V} {ds : List D} : SqL K F a xs → xs.length ≤ sizeLine → RpL K F xs ds → Rp K F (.ref a) (.list ds)
  | tup {a : Addr} {xs : List V} {ds : List D} : PlT K F a xs → xs.length ≤ sizeLine → RpL K F xs ds → Rp K F (.ref a) (.tuple ds)
  | dic {a : Addr} {o : Obj} {kvs : List (Key × V)} {ds : List (D × D)} : F a = some (.frz o (.dK kvs)) → RpK K F kvs ds → Rp K F (.ref a) (.dict ds)
inductive RpL (K : PySem.W.Frag) (F : Hp) : List V → List D → Prop
  | nil : RpL K F [] []
  | cons {v : V} {vs : List V} {d : D} {ds : List D} : Rp K F v d → RpL K F vs ds → RpL K F (v :: vs) (d :: ds)
inductive RpK (K : PySem.W.Frag) (F : Hp) : List (Key × V) → List (D × D) → Prop
  | nil : RpK K F [] []
  | cons {k : Key} {v : V} {kvs : List (Key × V)} {d : D} {ds : List (D × D)} : Rp K F v d → RpK K F kvs ds → RpK K F ((k, v) :: kvs) ((kD k, d) :: ds)
end

mutual
theorem Rp.mono {K : PySem.W.Frag} {F F' : Hp} (e : Same F F') : ∀ {v : V} {d : D}, Rp K F v d → Rp K F' v d
  | _, _, .non => .non
  | _, _, .bl b => .bl b
  | _, _, .int i => .int i
  | _, _, .str x => .str x
  | _, _, .lst h z r => .lst (e.seq h) z (RpL.mono e r)
  | _, _, .tup h z r => .tup (h.mono e) z (RpL.mono e r)
  | _, _, .dic h r => .dic (e _ _ h) (RpK.mono e r)
theorem RpL.mono {K : PySem.W.Frag} {F F' : Hp} (e : Same F F') : ∀ {v : List V} {d : List D}, RpL K F v d → RpL K F' v d
  | _, _, .nil => .nil
  | _, _, .cons h r => .cons (Rp.mono e h) (RpL.mono e r)
theorem RpK.mono {K : PySem.W.Frag} {F F' : Hp} (e : Same F F') : ∀ {v : List (Key × V)} {d : List (D × D)}, RpK K F v d → RpK K F' v d
  | _, _, .nil => .nil
  | _, _, .cons h r => .cons (Rp.mono e h) (RpK.mono e r)
end

/-- a value of the mirror: a datum, or an object of ours that changes (the n-th), or a set of data -/
inductive Vl where
  | d (x : D)
  | r (n : Nat)
  | s (xs : List D)
  | w (xs : List D)

/-- the set at a has just these members, each once -/
def StR (g : Gb) (F : Hp) (a : Addr) (xs : List D) : Prop := ∃ ns : List Int, xs = ns.map PyData.int ∧ ns.Nodup ∧ F a = some (SetO g.w a (fun j => decide (j ∈ ns)) ns.length)
def RvV (g : Gb) (φ : List Addr) (F : Hp) : V → Vl → Prop
  | v, .d x => Rp g.K F v x
  | v, .r n => ∃ a, φ[n]? = some a ∧ v = .ref a
  | v, .s xs => ∃ a, v = .ref a ∧ StR g F a xs
  | v, .w ds => ∃ a xs, v = .ref a ∧ SqT g.K F a xs ∧ RpL g.K F xs ds
def RvL (g : Gb) (φ : List Addr) (F : Hp) : List V → List Vl → Prop := Paired (RvV g φ F)

theorem pre_get {φ φ' : List Addr} (p : φ <+: φ') {n : Nat} {a : Addr} (h : φ[n]? = some a) : φ'[n]? = some a := by
  obtain ⟨t, rfl⟩ := p
  rw [List.getElem?_append_left (List.getElem?_eq_some_iff.mp h).1]
  exact h
theorem RvV.mono {g : Gb} {φ φ' : List Addr} {F F' : Hp} (p : φ <+: φ') (e : Same F F') {v : V} {d : Vl} (h : RvV g φ F v d) : RvV g φ' F' v d := by
  cases d with
  | d x => exact Rp.mono e h
  | r n =>
    obtain ⟨a, h1, h2⟩ := h
    exact ⟨a, pre_get p h1, h2⟩
  | s xs =>
    obtain ⟨a, h1, ns, h2, h3, h4⟩ := h
    exact ⟨a, h1, ns, h2, h3, e _ _ h4⟩
  | w ds =>
    obtain ⟨a, xs, h1, h2, h3⟩ := h
    exact ⟨a, xs, h1, sm_t e h2, h3.mono e⟩
theorem RvL.mono {g : Gb} {φ φ' : List Addr} {F F' : Hp} (p : φ <+: φ') (e : Same F F') {v : List V} {d : List Vl} (h : RvL g φ F v d) : RvL g φ' F' v d :=
  Paired.mapP h fun _ _ q => RvV.mono p e q

/-- an object that changes -/
inductive O where
  | lst (xs : List D)
  | dic (kvs : List (D × D))
  | gone
def OR (g : Gb) (F : Hp) (o : Option HO) : O → Prop
  | .lst ds => ∃ vs, o = some (.lst vs) ∧ vs.length ≤ sizeLine ∧ RpL g.K F vs ds
  | .dic ds => ∃ kvs, o = some (.dK kvs) ∧ RpK g.K F kvs ds
  | .gone => o ≠ none
theorem OR.mono {g : Gb} {F F' : Hp} (e : Same F F') {o : Option HO} {x : O} (h : OR g F o x) : OR g F' o x := by
  cases x with
  | lst ds => obtain ⟨vs, h1, z, h2⟩ := h; exact ⟨vs, h1, z, h2.mono e⟩
  | dic ds => obtain ⟨vs, h1, h2⟩ := h; exact ⟨vs, h1, h2.mono e⟩
  | gone => exact h
theorem OR.some {g : Gb} {F : Hp} {o : Option HO} {x : O} (h : OR g F o x) : o ≠ none := by
  cases x with
  | lst ds => obtain ⟨vs, h1, _, h2⟩ := h; rw [h1]; exact fun z => nomatch z
  | dic ds => obtain ⟨vs, h1, h2⟩ := h; rw [h1]; exact fun z => nomatch z
  | gone => exact h

/-- the heap: what is known (F), and our own objects hp at φ -/
structure Own (g : Gb) (φ : List Addr) (F : Hp) (hp : List O) (H : Hp) : Prop where
  len : φ.length = hp.length
  nd : φ.Nodup
  ex : Same F H
  out : ∀ (n : Nat) (a : Addr) (o : O), φ[n]? = some a → hp[n]? = some o → o ≠ .gone → F a = none
  ob : ∀ (n : Nat) (a : Addr) (o : O), φ[n]? = some a → hp[n]? = some o → OR g F (H a) o

theorem Own.has {g : Gb} {φ : List Addr} {F H : Hp} {hp : List O} (o : Own g φ F hp H) {a : Addr} (h : a ∈ φ) : H a ≠ none := by
  obtain ⟨n, hn⟩ := List.mem_iff_getElem?.mp h
  have hl : n < hp.length := by rw [← o.len]; exact (List.getElem?_eq_some_iff.mp hn).1
  exact (o.ob n a hp[n] hn (List.getElem?_eq_getElem hl)).some

/-- new objects are known -/
structure Grow (F F' H H' : Hp) : Prop where
  s : Same H H'
  f : Same F F'
  ex : Same F' H'
  new : ∀ a, H a ≠ none → F' a = F a
theorem Grow.refl {F H : Hp} (e : Same F H) : Grow F F H H := ⟨Same.refl _, Same.refl _, e, fun _ _ => rfl⟩
theorem same_upd {H : Hp} {p : Addr} {o : HO} (h : H p = none) : Same H (upd H p o) := fun a u e => by
  rw [upd_ne (ne_of_none e h)]; exact e
theorem same_none {F H : Hp} (e : Same F H) {p : Addr} (h : H p = none) : F p = none := by
  cases q : F p with
  | none => rfl
  | some o => rw [e _ _ q] at h; cases h
theorem Grow.one {F H : Hp} (e : Same F H) {p : Addr} {o : HO} (h : H p = none) : Grow F (upd F p o) H (upd H p o) := by
  refine ⟨same_upd h, same_upd (same_none e h), fun a u q => ?_, fun a q => ?_⟩
  · by_cases c : a = p
    · subst c; rw [upd_same] at q ⊢; exact q
    · rw [upd_ne c] at q ⊢; exact e _ _ q
  · rw [upd_ne (fun z => q (by rw [z]; exact h))]
theorem Grow.trans {F F1 F2 H H1 H2 : Hp} (a : Grow F F1 H H1) (b : Grow F1 F2 H1 H2) : Grow F F2 H H2 := by
  refine ⟨a.s.trans b.s, a.f.trans b.f, b.ex, fun x hx => ?_⟩
  have h1 : H1 x ≠ none := by
    cases q : H x with
    | none => exact absurd q hx
    | some o => rw [a.s _ _ q]; exact fun z => nomatch z
  rw [b.new x h1, a.new x hx]
theorem Own.grow {g : Gb} {φ : List Addr} {F F' H H' : Hp} {hp : List O} (o : Own g φ F hp H) (gr : Grow F F' H H') : Own g φ F' hp H' := by
  refine ⟨o.len, o.nd, gr.ex, fun n a x h1 h2 h3 => ?_, fun n a x h1 h2 => ?_⟩
  · rw [gr.new a (o.has (List.mem_of_getElem? h1))]; exact o.out n a x h1 h2 h3
  · have h := o.ob n a x h1 h2
    have hs := h.some
    cases q : H a with
    | none => exact absurd q hs
    | some u =>
      rw [gr.s _ _ q]
      rw [q] at h
      exact h.mono gr.f

/-- the slots -/
structure Loc (g : Gb) (φ : List Addr) (F : Hp) (loc : List (Option Vl)) (σ : L2.St) : Prop where
  len : loc.length = σ.length
  at_ : ∀ (i : Nat) (v : Vl), loc[i]? = some (some v) → ∃ x, σ[i]? = some (some x) ∧ RvV g φ F x v
theorem Loc.mono {g : Gb} {φ φ' : List Addr} {F F' : Hp} {loc : List (Option Vl)} {σ : L2.St} (p : φ <+: φ') (e : Same F F') (h : Loc g φ F loc σ) : Loc g φ' F' loc σ :=
  ⟨h.len, fun i v q => let ⟨x, a, b⟩ := h.at_ i v q; ⟨x, a, b.mono p e⟩⟩
theorem Loc.set {g : Gb} {φ : List Addr} {F : Hp} {loc : List (Option Vl)} {σ : L2.St} (h : Loc g φ F loc σ) {i : Nat} {v : Vl} {x : V} (r : RvV g φ F x v) : Loc g φ F (loc.set i (some v)) (σ.set i (some x)) := by
  refine ⟨by rw [List.length_set, List.length_set]; exact h.len, fun j u q => ?_⟩
  by_cases c : i = j
  · subst c
    have hi : i < loc.length := by
      have := (List.getElem?_eq_some_iff.mp q).1
      rw [List.length_set] at this
      exact this
    rw [List.getElem?_set_self hi] at q
    cases q
    exact ⟨x, List.getElem?_set_self (by rw [← h.len]; exact hi), r⟩
  · rw [List.getElem?_set_ne c] at q
    obtain ⟨y, a, b⟩ := h.at_ j u q
    exact ⟨y, by rw [List.getElem?_set_ne c]; exact a, b⟩
/-- slots forgotten -/
theorem Loc.del {g : Gb} {φ : List Addr} {F : Hp} {loc : List (Option Vl)} {σ : L2.St} (h : Loc g φ F loc σ) {i : Nat} {x : Option V} : Loc g φ F (loc.set i none) (σ.set i x) := by
  refine ⟨by rw [List.length_set, List.length_set]; exact h.len, fun j u q => ?_⟩
  by_cases c : i = j
  · subst c
    have hi : i < loc.length := by
      have := (List.getElem?_eq_some_iff.mp q).1
      rw [List.length_set] at this
      exact this
    rw [List.getElem?_set_self hi] at q
    cases q
  · rw [List.getElem?_set_ne c] at q
    obtain ⟨y, a, b⟩ := h.at_ j u q
    exact ⟨y, by rw [List.getElem?_set_ne c]; exact a, b⟩

/-! ### results -/
/-- an exception of the program's own, with its value -/
structure Exn where
  cls : Str
  val : D
inductive Res (α : Type) where
  | ok (a : α) (hp : List O)
  | exc (e : Exn) (hp : List O)
  | bad
def Res.bind {α β : Type} (r : Res α) (f : α → List O → Res β) : Res β := match r with
  | .ok v hp => f v hp
  | .exc e hp => .exc e hp
  | .bad => .bad
abbrev Ls := List (Option Vl)
abbrev EM := Ls → List O → Res Vl
abbrev AM := Ls → List O → Res (List Vl)
abbrev TM := Ls → List O → Res Bool
inductive Flw where
  | nx | bk | ct
  | rt (v : Vl)
inductive RS where
  | ok (f : Flw) (loc : Ls) (hp : List O)
  | exc (e : Exn) (loc : Ls) (hp : List O)
  | bad
abbrev SM := Ls → List O → RS
abbrev FM := List Vl → List O → Res Vl

def PostX (g : Gb) (φ : List Addr) (F : Hp) (W : XK) (e : Exn) (hp : List O) : Prop :=
  ∀ φ' F' H' C dx x, φ <+: φ' → Same F F' → Own g φ' F' hp H' → g.mg e.cls = some (.ref C) → H' dx = some (.xd [(("value" : Str), x)]) → Rp g.K F' x e.val → W (.ref C) (some dx) H'
def PostG {α β : Type} (g : Gb) (R : List Addr → Hp → β → α → Prop) (φ : List Addr) (F : Hp) (W : XK) (Q : β → Hp → Prop) : Res α → Prop
  | .ok v hp => ∀ φ' F' H' x, φ <+: φ' → Same F F' → Own g φ' F' hp H' → R φ' F' x v → Q x H'
  | .exc e hp => PostX g φ F W e hp
  | .bad => False
def atEnd (g : Gb) (φ : List Addr) (F : Hp) (E : Ends) (σ : L2.St) (H : Hp) : Flw → Prop
  | .nx => E.nx σ H
  | .bk => E.bk σ H
  | .ct => E.ct σ H
  | .rt v => ∀ x, RvV g φ F x v → E.rt x H
def PostS (g : Gb) (φ : List Addr) (F : Hp) (W : WX) (E : Ends) : RS → Prop
  | .ok f loc hp => ∀ φ' F' H' σ', φ <+: φ' → Same F F' → Own g φ' F' hp H' → Loc g φ' F' loc σ' → atEnd g φ' F' E σ' H' f
  | .exc e loc hp => ∀ φ' F' H' σ' C dx x, φ <+: φ' → Same F F' → Own g φ' F' hp H' → Loc g φ' F' loc σ' → g.mg e.cls = some (.ref C) → H' dx = some (.xd [(("value" : Str), x)]) → Rp g.K F' x e.val → W (.ref C) (some dx) σ' H'
  | .bad => False

section
variable {g : Gb} {α β γ δ : Type} {R : List Addr → Hp → β → α → Prop} {φ φ1 : List Addr} {F F1 : Hp} {W W' : XK} {Q Q' : β → Hp → Prop}
theorem PostX.weak {e : Exn} {hp : List O} (p : φ <+: φ1) (s : Same F F1) (h : PostX g φ F W e hp) : PostX g φ1 F1 W e hp :=
  fun φ' F' H' C dx x a b => h φ' F' H' C dx x (p.trans a) (s.trans b)
theorem PostG.weak {r : Res α} (p : φ <+: φ1) (s : Same F F1) (h : PostG g R φ F W Q r) : PostG g R φ1 F1 W Q r := by
  cases r with
  | ok v hp => exact fun φ' F' H' x a b => h φ' F' H' x (p.trans a) (s.trans b)
  | exc e hp => exact PostX.weak p s h
  | bad => exact h
theorem PostG.imp {r : Res α} (hq : ∀ x H, Q x H → Q' x H) (h : PostG g R φ F W Q r) : PostG g R φ F W Q' r := by
  cases r with
  | ok v hp => exact fun φ' F' H' x a b c d => hq _ _ (h φ' F' H' x a b c d)
  | exc e hp => exact h
  | bad => exact h
/-- one piece, then the rest -/
theorem PostG.bind {R2 : List Addr → Hp → δ → γ → Prop} {Q2 : δ → Hp → Prop} {r : Res α} {f : α → List O → Res γ} (h : PostG g R2 φ F W Q2 (r.bind f)) :
    PostG g R φ F W (fun x H1 => ∃ φ1 F1 hp1 v, φ <+: φ1 ∧ Same F F1 ∧ Own g φ1 F1 hp1 H1 ∧ R φ1 F1 x v ∧ r = .ok v hp1 ∧ PostG g R2 φ1 F1 W Q2 (f v hp1)) r := by
  cases r with
  | ok v hp => exact fun φ' F' H' x a b c d => ⟨φ', F', hp, v, a, b, c, d, rfl, PostG.weak a b h⟩
  | exc e hp => exact h
  | bad => exact h
theorem PostG.here {v : α} {hp : List O} {H : Hp} {x : β} (o : Own g φ F hp H) (r : R φ F x v) (h : PostG g R φ F W Q (.ok v hp)) : Q x H :=
  h φ F H x (List.prefix_refl _) (Same.refl _) o r
theorem PostG.grown {v : α} {hp : List O} {H H' F' : Hp} {x : β} (o : Own g φ F hp H) (gr : Grow F F' H H') (r : R φ F' x v) (h : PostG g R φ F W Q (.ok v hp)) : Q x H' :=
  h φ F' H' x (List.prefix_refl _) gr.f (o.grow gr) r
end

/-! ### the judgements -/
def tE (g : Gb) (W : WX) (m : EM) : TE := fun σ H Q => ∃ φ F hp loc, Own g φ F hp H ∧ Loc g φ F loc σ ∧ PostG g (RvV g) φ F (fun c d H' => W c d σ H') Q (m loc hp)
def tT (g : Gb) (W : WX) (m : TM) : TT := fun σ H Q => ∃ φ F hp loc, Own g φ F hp H ∧ Loc g φ F loc σ ∧ PostG g (fun _ _ a b => a = b) φ F (fun c d H' => W c d σ H') Q (m loc hp)
def tA (g : Gb) (W : WX) (m : AM) : TA := fun σ H Q => ∃ φ F hp loc, Own g φ F hp H ∧ Loc g φ F loc σ ∧ PostG g (RvL g) φ F (fun c d H' => W c d σ H') Q (m loc hp)
def tS (g : Gb) (W : WX) (m : SM) : TS := fun E σ H => ∃ φ F hp loc, Own g φ F hp H ∧ Loc g φ F loc σ ∧ PostS g φ F W E (m loc hp)
def ME (X : Cx) (W : WX) (e : Expr) (m : EM) : Prop := PE X e (tE (gOf X) W m)
def MT (X : Cx) (W : WX) (e : Expr) (m : TM) : Prop := PT X e (tT (gOf X) W m)
def MA (X : Cx) (W : WX) (es : List Expr) (m : AM) : Prop := PA X es (tA (gOf X) W m)
def MS (X : Cx) (W : WX) (st : Stmt) (m : SM) : Prop := PS X st (tS (gOf X) W m)
def MSs (X : Cx) (W : WX) (st : List Stmt) (m : SM) : Prop := PSs X st (tS (gOf X) W m)
theorem PE.imp {X : Cx} {e : Expr} {t t' : TE} (h : PE X e t) (i : ∀ σ H Q, t' σ H Q → t σ H Q) : PE X e t' := ⟨fun pins s σ H Q I q => h.run pins s σ H Q I (i σ H Q q)⟩
theorem PT.imp {X : Cx} {e : Expr} {t t' : TT} (h : PT X e t) (i : ∀ σ H Q, t' σ H Q → t σ H Q) : PT X e t' := ⟨fun pins s σ H Q I q => h.run pins s σ H Q I (i σ H Q q)⟩
theorem PW.imp {X : Cx} {e : Expr} {t t' : TT} (h : PW X e t) (i : ∀ σ H Q, t' σ H Q → t σ H Q) : PW X e t' := ⟨fun wh pins s σ H Q I q => h.run wh pins s σ H Q I (i σ H Q q)⟩
theorem PA.imp {X : Cx} {e : List Expr} {t t' : TA} (h : PA X e t) (i : ∀ σ H Q, t' σ H Q → t σ H Q) : PA X e t' := ⟨fun pos pins s σ H Q I q => h.run pos pins s σ H Q I (i σ H Q q)⟩
theorem PS.imp {X : Cx} {e : Stmt} {t t' : TS} (h : PS X e t) (i : ∀ E σ H, t' E σ H → t E σ H) : PS X e t' := ⟨fun pins s σ H E I q => h.run pins s σ H E I (i E σ H q)⟩
theorem PSs.imp {X : Cx} {e : List Stmt} {t t' : TS} (h : PSs X e t) (i : ∀ E σ H, t' E σ H → t E σ H) : PSs X e t' := ⟨fun pins s σ H E I q => h.run pins s σ H E I (i E σ H q)⟩

/-! ### seeing an object as a datum -/
def viewD (hp : List O) : Vl → Option D
  | .d x => some x
  | .r n => match hp[n]? with
    | some (.lst ds) => some (.list ds)
    | some (.dic ds) => some (.dict ds)
    | _ => none
  | .s _ => none
  | .w _ => none
/-- what stands at the value is read off H, what is in it is known -/
inductive Vw (K : PySem.W.Frag) (F H : Hp) : V → D → Prop
  | kn {v : V} {d : D} : Rp K F v d → Vw K F H v d
  | lst {a : Addr} {xs : List V} {ds : List D} : H a = some (.lst xs) → xs.length ≤ sizeLine → RpL K F xs ds → Vw K F H (.ref a) (.list ds)
  | dic {a : Addr} {kvs : List (Key × V)} {ds : List (D × D)} : H a = some (.dK kvs) → RpK K F kvs ds → Vw K F H (.ref a) (.dict ds)
theorem Own.view {g : Gb} {φ : List Addr} {F H : Hp} {hp : List O} (o : Own g φ F hp H) {x : V} {v : Vl} {d : D} (r : RvV g φ F x v) (h : viewD hp v = some d) : Vw g.K F H x d := by
  cases v with
  | d y => cases h; exact .kn r
  | r n =>
    obtain ⟨a, h1, rfl⟩ := r
    unfold viewD at h
    dsimp only at h
    cases q : hp[n]? with
    | none => rw [q] at h; cases h
    | some z =>
      have ho := o.ob n a z h1 q
      rw [q] at h
      cases z with
      | lst ds =>
        cases h
        obtain ⟨vs, e, z, r⟩ := ho
        exact .lst e z r
      | dic ds =>
        cases h
        obtain ⟨vs, e, r⟩ := ho
        exact .dic e r
      | gone => cases h
  | s xs => cases h
  | w xs => cases h

theorem RpL.len {K : PySem.W.Frag} {F : Hp} : ∀ {v : List V} {d : List D}, RpL K F v d → v.length = d.length
  | _, _, .nil => rfl
  | _, _, .cons _ r => by rw [List.length_cons, List.length_cons, RpL.len r]
theorem RpL.get {K : PySem.W.Frag} {F : Hp} : ∀ {v : List V} {d : List D} {i : Nat} {x : D}, RpL K F v d → d[i]? = some x → ∃ y, v[i]? = some y ∧ Rp K F y x
  | _, _, _, _, .nil, e => by simp at e
  | _, _, 0, _, .cons h _, e => by simp at e; subst e; exact ⟨_, rfl, h⟩
  | _, _, i + 1, x, .cons _ r, e => by
    obtain ⟨u, h1, h2⟩ := RpL.get (i := i) (x := x) r (by simpa using e)
    exact ⟨u, by simpa using h1, h2⟩
theorem RpL.get' {K : PySem.W.Frag} {F : Hp} : ∀ {v : List V} {d : List D} {i : Nat} {y : V}, RpL K F v d → v[i]? = some y → ∃ x, d[i]? = some x ∧ Rp K F y x
  | _, _, _, _, .nil, e => by simp at e
  | _, _, 0, _, .cons h _, e => by simp at e; subst e; exact ⟨_, rfl, h⟩
  | _, _, i + 1, x, .cons _ r, e => by
    obtain ⟨u, h1, h2⟩ := RpL.get' (i := i) (y := x) r (by simpa using e)
    exact ⟨u, by simpa using h1, h2⟩
theorem RpL.app {K : PySem.W.Frag} {F : Hp} : ∀ {v w : List V} {d e : List D}, RpL K F v d → RpL K F w e → RpL K F (v ++ w) (d ++ e)
  | _, _, _, _, .nil, r => r
  | _, _, _, _, .cons h t, r => .cons h (RpL.app t r)
theorem RpL.take {K : PySem.W.Frag} {F : Hp} : ∀ {v : List V} {d : List D} (n : Nat), RpL K F v d → RpL K F (v.take n) (d.take n)
  | _, _, 0, _ => .nil
  | _, _, _ + 1, .nil => .nil
  | _, _, n + 1, .cons h t => .cons h (RpL.take n t)
theorem RpL.drop {K : PySem.W.Frag} {F : Hp} : ∀ {v : List V} {d : List D} (n : Nat), RpL K F v d → RpL K F (v.drop n) (d.drop n)
  | _, _, 0, r => r
  | _, _, _ + 1, .nil => .nil
  | _, _, n + 1, .cons h t => RpL.drop n t
theorem RpL.set {K : PySem.W.Frag} {F : Hp} {y : V} {x : D} (h : Rp K F y x) : ∀ {v : List V} {d : List D} (n : Nat), RpL K F v d → RpL K F (v.set n y) (d.set n x)
  | _, _, _, .nil => .nil
  | _, _, 0, .cons _ t => .cons h t
  | _, _, n + 1, .cons h' t => .cons h' (RpL.set h n t)
/-- a list of ints, of bools .. read back -/
theorem RpL.ints {K : PySem.W.Frag} {F : Hp} : ∀ {ns : List Int} {v : List V}, RpL K F v (ns.map PyData.int) → v = ns.map V.int
  | [], _, .nil => rfl
  | n :: ns, _, .cons h r => by
    cases h
    rw [RpL.ints (ns := ns) r]; rfl
theorem RpL.bools {K : PySem.W.Frag} {F : Hp} : ∀ {ns : List Bool} {v : List V}, RpL K F v (ns.map PyData.bool) → v = ns.map V.bl
  | [], _, .nil => rfl
  | n :: ns, _, .cons h r => by
    cases h
    rw [RpL.bools (ns := ns) r]; rfl
theorem RpL.strs {K : PySem.W.Frag} {F : Hp} : ∀ {ns : List Str} {v : List V}, RpL K F v (ns.map PyData.str) → v = ns.map V.str
  | [], _, .nil => rfl
  | n :: ns, _, .cons h r => by
    cases h
    rw [RpL.strs (ns := ns) r]; rfl
theorem RpL.of_ints {K : PySem.W.Frag} {F : Hp} : ∀ (ns : List Int), RpL K F (ns.map V.int) (ns.map PyData.int)
  | [] => .nil
  | n :: ns => .cons (.int n) (RpL.of_ints ns)
theorem RpL.of_strs {K : PySem.W.Frag} {F : Hp} : ∀ (ns : List Str), RpL K F (ns.map V.str) (ns.map PyData.str)
  | [] => .nil
  | n :: ns => .cons (.str n) (RpL.of_strs ns)

/-! ### tuples made -/
section
variable {X : Cx}
def tTupF (t : TA) : TE := fun σ H Q => t σ H fun xs H1 => xs.length ≤ sizeLine ∧ ∀ p ob, H1 p = none → ob.dict = none → Q (.ref p) (upd H1 p (.frz ob (.tup xs)))
theorem Inv.layT {pins : List (Addr × Obj)} {σ : L2.St} {H : Hp} {s : Shared} {h' : Heap} {tk : Nat} {xs : List V} {its : List Value} (I : Inv X pins σ H s) (kp : ∀ b o, s.heap.get? b = some o → h'.get? b = some o) (r : Vals xs its) (z : xs.length ≤ sizeLine) :
    Inv X pins σ (upd H h'.objs.size (.frz { cls := .type "tuple", data := .seq its.toArray } (.tup xs))) { s with heap := h'.push { cls := .type "tuple", data := .seq its.toArray }, toks := tk } := by
  have I1 : Inv X pins σ H { s with heap := h', toks := tk } := I.kept kp
  exact I1.laid (t' := tk) (fun b o e => Heap.get?_push_of_some _ e) (Nat.le_refl _) ⟨Heap.get?_push_size _ rfl, z, its, r, IsTup.new _ _⟩
theorem pe_tupF {es : List Expr} {t : TA} {pos : Pos} {x1} (h : PA X es t) : PE X (.Tuple es x1 pos) (tTupF t) := by
  constructor
  intro pins s σ H Q I hq
  apply wpAny_Tuple_spliced
  refine thn (h.run pos pins s σ H _ I hq) ?_
  rintro us s1 ⟨xs, H1, I1, r, z, q⟩
  refine ⟨by rw [← r.length]; exact z, ?_⟩
  have I2 := Inv.layT (h' := s1.heap) (tk := s1.toks) I1 (fun _ _ e => e) r z
  exact ⟨.ref _, _, I2, rfl, q _ _ (I1.hok.fresh (Nat.le_refl _)) rfl⟩
def rTupF (K : PySem.W.Frag) : List V → Hp → VK → Prop := fun xs H Q => ∃ p ys, xs = [.ref p] ∧ ((SqL K H p ys ∧ ∀ l ob, H l = none → ob.dict = none → Q (.ref l) (upd H l (.frz ob (.tup ys)))) ∨ (SqT K H p ys ∧ Q (.ref p) H))
theorem call_tupF : CallR X (.type "tuple") (rTupF X.K) := by
  intro pins s σ H xs us Q I r h
  obtain ⟨p, ys, rfl, h⟩ := h
  obtain rfl := Vals.ref1 r
  rcases h with ⟨hq, q⟩ | ⟨hq, q⟩
  · obtain ⟨its, rv, pl, hz⟩ := I.list hq
    have hl := rv.length
    refine call_tuple_list pl.isList (fun h' kp => ?_) (by simp only [List.size_toArray]; omega)
    exact ⟨.ref h'.objs.size, _, Inv.layT (tk := s.toks) I kp rv hz, rfl, q _ _ ((I.kept (t' := s.toks) kp).hok.fresh (Nat.le_refl _)) rfl⟩
  · obtain ⟨its, rv, pl, hz⟩ := I.tuple hq
    exact call_tuple_same pl ⟨.ref p, H, I, rfl, q⟩
def rCatF (K : PySem.W.Frag) : R2 := fun x y H Q => ∃ a b xs ys, x = .ref a ∧ y = .ref b ∧ SqT K H a xs ∧ SqT K H b ys ∧ xs.length + ys.length ≤ sizeLine ∧
  (xs = [] → Q (.ref b) H) ∧ (ys = [] → Q (.ref a) H) ∧ ∀ p ob, H p = none → ob.dict = none → Q (.ref p) (upd H p (.frz ob (.tup (xs ++ ys))))
theorem op_catF : OpR X (binaryOp .Add) (rCatF X.K) := by
  intro pins s σ H x y v u Q I rx ry h
  obtain ⟨a, b, xs, ys, rfl, rfl, ha, hb, hz, q0, q1, q2⟩ := h
  obtain rfl : v = Value.ref a := rx
  obtain rfl : u = Value.ref b := ry
  obtain ⟨its, r1, p1, _⟩ := I.tuple ha
  obtain ⟨its2, r2, p2, _⟩ := I.tuple hb
  by_cases hx : xs = []
  · subst hx
    cases r1
    exact cat_tup0 p1 p2 ⟨.ref b, H, I, rfl, q0 rfl⟩
  apply HT.cat_tup p1 p2 (fun z => hx (r1.nil_iff.mp z)) ?_ ?_ (by rw [← r1.length, ← r2.length]; exact hz)
  · intro z
    exact ⟨.ref a, H, I, rfl, q1 (r2.nil_iff.mp z)⟩
  · intro z
    exact ⟨.ref _, _, Inv.layT (h' := s.heap) (tk := s.toks) I (fun _ _ e => e) (r1.append r2) (by rw [List.length_append]; exact hz), rfl, q2 _ _ (I.hok.fresh (Nat.le_refl _)) rfl⟩
end
end Fz

set_option Elab.async false
set_option linter.all false
set_option maxRecDepth 100000
set_option maxHeartbeats 4000000
/-! FzG: a def's promise where no guard of the run is under way (repr wants to know) -/
namespace Fz
open PySem PySem.Spec PyProof.Rows L2

structure Rm (k : Nat) (A : Around) : Prop where
  r : Room k A
  g : A.guards = some []
theorem Rm.le {j k : Nat} {A : Around} (h : Rm k A) (l : j ≤ k) : Rm j A := ⟨h.r.mono l, h.g⟩
theorem guards_in {A : Around} (h : A.guards = some []) (env : Env) : (A.deeper env).guards = some [] := by
  first
    | exact h
    | (show pushGuards [] A.guards = some []; rw [h]; rfl)
    | simp [Around.deeper, Around.under, Code.guards, Code.isGuard, pushGuards, h]
theorem Rm.down {k : Nat} {A : Around} (h : Rm (k + 1) A) (env : Env) : Rm k (A.deeper env) := ⟨h.r.deeper env, guards_in h.g env⟩
theorem Rm.up {k : Nat} {A : Around} {env : Env} (h : Room k (A.deeper env)) (g : A.guards = some []) : Rm k (A.deeper env) := ⟨h, guards_in g env⟩

structure FnG (g : Gb) (k : Nat) (fa : Addr) (fd : FuncData) (ps : List Str) (sp : Sp) : Prop where
  len : ∀ vs H Q E, sp vs H Q E → vs.length = ps.length
  run : ∀ {A : Around} {outer : List Env} {s : Shared} {H : Hp} {args : Args} {us : List Value} {vs : List V} {Q : VK} {E : XK}, Rm k A → Env0 g.P g.w g.K g.mg g.base A outer s H → BindsTo s fd args (ps.zip us) → Vals vs us → sp vs H Q E →
    codeAny (model g.P g.w) A (.call (.ref fa) args) (CR (L2.CX g.P g.w) outer g.P g.w H s Q E) s
theorem FnG.le {g : Gb} {j k : Nat} {fa : Addr} {fd : FuncData} {ps : List Str} {sp : Sp} (F : FnG g j fa fd ps sp) (h : j ≤ k) : FnG g k fa fd ps sp := ⟨F.len, fun hr => F.run (hr.le h)⟩

/-- a def of the text, by its body -/
theorem fng_of {g : Gb} {k : Nat} {fa : Addr} {fd : FuncData} {x qual : Str} {st : Stmt} {N ps : List Str} {sp : Sp} (Fu : Fun g.K x qual st fa fd) (S : FnScope N ps (defScope st)) (len : ∀ vs H Q E, sp vs H Q E → vs.length = ps.length)
    (body : ∀ (cdv : Value) (A : Around) (outer : List Env) (s : Shared) (H : Hp) (vs : List V) (Q : VK) (E : XK), Rm k (A.deeper (envOfC qual (defScope st) s.heap.objs.size fa cdv)) → sp vs H Q E →
      ∃ t, PSs (cxOf (L2.CX g.P g.w) g.P g.w g.K g.mg g.base N qual (defScope st) fa cdv A outer s H E) (defBody st) t ∧ t { nx := fun _ H' => Q .non H', rt := Q } (start N vs) H) : FnG g (k + 1) fa fd ps sp := by
  obtain ⟨oc, od, kV, doc, pm, an, cdv, ct, osl, rfl, lk, hcd⟩ := Fu.ex
  constructor
  · exact len
  intro A outer s H args us vs Q E hr e0 hb r hsp
  have n1 := len _ _ _ _ hsp
  have kin : g.K.In s.heap := e0.mod.kin.keeps fun b o q => (e0.bs b o q).1
  have nolim : s.heap.NoLimit := e0.mod.nolimit.keeps fun b o q => (e0.bs b o q).1
  have kinds : ∀ z ∈ ps.zip us, (defScope st).names.lookup z.1 = some .local ∨ ((defScope st).names.lookup z.1 = some .cell ∧ ((cellsFrom (s.heap.objs.size + 1) (defScope st).names []).lookup z.1).isSome = true) := by
    rintro ⟨a, b⟩ hz
    exact (S.par a (List.of_mem_zip hz).1).imp id fun q => ⟨q, PySem.W.cellsFrom_some _ _ _ (.inl q)⟩
  obtain ⟨t, ht, hq⟩ := body cdv A outer s H vs Q E (hr.down _) hsp
  apply codeAny_call_function hr.r.depth (kin _ _ lk) rfl S.co S.gen rfl (PySem.W.codeRec_of kin hcd) (hb _ _ _ _ ?_)
  apply wpAny_newFunctionEnv_cells S.kind kinds
  intro env he s1 xin
  cases he
  constructor
  · exact nolim.keeps xin.toInCall.keep
  apply codeAny_func
  have I0 := inv_start (CX := L2.CX g.P g.w) (E := E) (mg := g.mg) S hr.r.hd e0 n1 r xin
  apply wpAny_mono (ht.run [] s1 (start N vs) H _ I0 hq) ?_ (fun _ _ z => z)
  intro fl s' hs
  cases fl with
  | brk => obtain ⟨_, _, _, z⟩ := hs; exact z.elim
  | cont => obtain ⟨_, _, _, z⟩ := hs; exact z.elim
  | next =>
    obtain ⟨σ1, H1, J, q⟩ := hs
    exact ⟨.non, H1, J.os, J.bare, J.base, J.hok, rfl, q⟩
  | ret u =>
    obtain ⟨v1, σ1, H1, J, rv, q⟩ := hs
    exact ⟨v1, H1, J.os, J.bare, J.base, J.hok, rv, q⟩

section
variable {X : Cx} {k : Nat} {fa : Addr} {fd : FuncData} {ps ks : List Str} {sp : Sp} {W : WX} {x : Str} {p pos : Pos} {e : Expr} {es : List Expr} {kws : List Keyword} {t tk : TA} {ord : List Nat}
theorem run_fnG {pins : List (Addr × Obj)} {σ : L2.St} {H : Hp} {s : Shared} {Q : VK} {us bs : List Value} {kw : List (Str × Value)} {vs : List V} (F : FnG (gOf X) k fa fd ps sp) (hr : Rm k X.A) (tx : Takes X W) (I : Inv X pins σ H s) (b : BindsTo s fd ⟨us, kw⟩ (ps.zip bs)) (r : Vals vs bs)
    (h : sp vs H Q (fun c d H' => W c d σ H')) : wpAny (model X.prog X.w) X.A (call (.ref fa) us kw) (EP X pins σ Q) X.xe s := by
  apply wpAny_call
  refine codeAny_mono (F.run hr I.env0 b r h) ?_
  rintro (er | fl) s' z
  · exact passAt tx σ pins H s er s' I z
  cases fl with
  | ret u => exact I.after z
  | next => exact z.elim
  | brk => exact z.elim
  | cont => exact z.elim
def tCallG (sp : Sp) (W : WX) (t : TA) : TE := fun σ H Q => t σ H fun vs H1 => sp vs H1 Q fun c d H' => W c d σ H'
theorem pe_callG (F : FnG (gOf X) k fa fd ps sp) (hr : Rm k X.A) (tx : Takes X W) (hg : Gl X x) (hm : X.mg x = some (.ref fa)) (hk : PySem.W.keepIn X.K (.ref fa) = true) (hb : Binds X.K fd ps []) (ha : PA X (e :: es) t)
    (hdb : (x == ("__debug__" : Str)) = false) (he : starEach (e :: es) X.env = (false, eval e X.env) :: starEach es X.env) (hpl : (backTo pos (starEach es X.env)).any (·.1) = false) : PE X (.Call (.Name x p) (e :: es) [] pos) (tCallG sp W t) := by
  constructor
  intro pins s σ H Q I h
  apply wpAny_Call_Name_kw
  apply ld_glob I hg hm ?_ hdb
  apply PySem.W.callWith_K (h₀ := X.base) I.ok.mod.kin hk ?_ he hpl
  refine thn (ha.run pos pins s σ H _ I h) ?_
  rintro us s1 ⟨vs, H1, I1, r, q⟩
  have n1 := F.len _ _ _ _ q
  have b := hb s1 us I1.kIn (by rw [List.append_nil, ← r.length]; exact n1)
  rw [List.append_nil] at b
  exact ⟨I1.kIn, run_fnG F hr tx I1 b r q⟩

/-! ### by keyword -/
def pick {α : Type} (ord : List Nat) (l : List α) : List α := ord.filterMap (l[·]?)
/-- us by place, then the keywords' values ws, those at ord -/
def BindK (fd : FuncData) (ps ks : List Str) (ord : List Nat) : Prop :=
  ∀ (s : Shared) (us ws : List Value), ws.length = ks.length → (us ++ pick ord ws).length = ps.length → BindsTo s fd ⟨us, ks.zip ws⟩ (ps.zip (us ++ pick ord ws))
theorem pick_paired {α β : Type} {R : α → β → Prop} {l : List α} {m : List β} (h : Paired R l m) : ∀ ord, Paired R (pick ord l) (pick ord m)
  | [] => .nil
  | i :: r => by
    have key : ∀ {l : List α} {m : List β}, Paired R l m → ∀ j : Nat, (l[j]? = none ∧ m[j]? = none) ∨ ∃ a b, l[j]? = some a ∧ m[j]? = some b ∧ R a b := by
      intro l m h
      induction h with
      | nil => exact fun j => .inl ⟨by simp, by simp⟩
      | cons a b ih =>
        intro j
        cases j with
        | zero => exact .inr ⟨_, _, rfl, rfl, a⟩
        | succ j => simpa using ih j
    unfold pick
    rw [List.filterMap_cons, List.filterMap_cons]
    rcases key h i with ⟨h1, h2⟩ | ⟨a, b, h1, h2, h3⟩
    · rw [h1, h2]; exact pick_paired h r
    · rw [h1, h2]; exact .cons h3 (pick_paired h r)
def tCallGK (sp : Sp) (W : WX) (ord : List Nat) (n : Nat) (t tk : TA) : TE := fun σ H Q => t σ H fun vs H1 => tk σ H1 fun zs H2 => zs.length = n ∧ sp (vs ++ pick ord zs) H2 Q fun c d H' => W c d σ H'
theorem pe_callGK (F : FnG (gOf X) k fa fd ps sp) (hr : Rm k X.A) (tx : Takes X W) (hg : Gl X x) (hm : X.mg x = some (.ref fa)) (hk : PySem.W.keepIn X.K (.ref fa) = true) (hb : BindK fd ps ks ord) (ha : PA X (e :: es) t) (hkw : PK X kws tk)
    (hall : (backToKw pos (keywordEach kws X.env)).all (·.1.isSome) = true) (hks : (backToKw pos (keywordEach kws X.env)).filterMap (·.1) = ks)
    (hdb : (x == ("__debug__" : Str)) = false) (he : starEach (e :: es) X.env = (false, eval e X.env) :: starEach es X.env)
    (hpl : ((backTo pos (starEach (e :: es) X.env)).any (·.1) || (backToKw pos (keywordEach kws X.env)).any (·.1.isNone)) = false) :
    PE X (.Call (.Name x p) (e :: es) kws pos) (tCallGK sp W ord ks.length t tk) := by
  constructor
  intro pins s σ H Q I h
  apply wpAny_Call_Name_kw
  apply ld_glob I hg hm ?_ hdb
  apply PySem.W.callWith_KW (h₀ := X.base) I.ok.mod.kin hk hall ?_ hpl he
  refine thn (ha.run pos pins s σ H _ I h) ?_
  rintro us s1 ⟨vs, H1, I1, r, q⟩
  refine thn (hkw.run pos pins s1 σ H1 _ I1 q) ?_
  rintro ws s2 ⟨zs, H2, I2, rz, hn, q2⟩
  rw [hks]
  have rr : Vals (vs ++ pick ord zs) (us ++ pick ord ws) := r.append (pick_paired rz ord)
  have n1 := F.len _ _ _ _ q2
  have n2 : zs.length = ws.length := rz.length
  exact ⟨I2.kIn, run_fnG F hr tx I2 (hb s2 us ws (by omega) (by rw [← rr.length]; exact n1)) rr q2⟩
theorem pe_callGK0 (F : FnG (gOf X) k fa fd ps sp) (hr : Rm k X.A) (tx : Takes X W) (hg : Gl X x) (hm : X.mg x = some (.ref fa)) (hk : PySem.W.keepIn X.K (.ref fa) = true) (hb : BindK fd ps ks ord) (hkw : PK X kws tk)
    (hall : (backToKw pos (keywordEach kws X.env)).all (·.1.isSome) = true) (hks : (backToKw pos (keywordEach kws X.env)).filterMap (·.1) = ks)
    (hdb : (x == ("__debug__" : Str)) = false)
    (hpl : ((backTo pos (starEach [] X.env)).any (·.1) || (backToKw pos (keywordEach kws X.env)).any (·.1.isNone)) = false) :
    PE X (.Call (.Name x p) [] kws pos) (tCallGK sp W ord ks.length tNil tk) := by
  constructor
  intro pins s σ H Q I h
  apply wpAny_Call_Name_kw
  apply ld_glob I hg hm ?_ hdb
  apply PySem.W.callWith_KW0 (h₀ := X.base) I.ok.mod.kin hk hall ?_ hpl
  refine thn (hkw.run pos pins s σ H _ I h) ?_
  rintro ws s2 ⟨zs, H2, I2, rz, hn, q2⟩
  rw [hks]
  have rr : Vals (pick ord zs) (pick ord ws) := pick_paired rz ord
  have n1 := F.len _ _ _ _ q2
  have n2 : zs.length = ws.length := rz.length
  have b := hb s2 [] ws (by omega) (by rw [List.nil_append, ← rr.length]; exact n1)
  rw [List.nil_append] at b
  exact ⟨I2.kIn, run_fnG (us := []) F hr tx I2 b rr q2⟩
end

/-! ### the law -/
/-- the heap that the law's def begins on: the script is known, or it is the module's own -/
theorem law_run {P : Program} {w : World} {K : PySem.W.Frag} {mg mb : Str → Option Value} {k : Nat} {fa a : Addr} {fd : FuncData} {x : Str} {sp : Sp} {s1 : Shared} {vs : List Value} {ns : List Int}
    (kin : K.In s1.heap) (h1 : s1.heap.Ns mainGlobals mg) (h2 : s1.heap.Ns builtinsNs mb) (h3 : ∀ x : Str, x ≠ "__name__" → mb x = bootBuiltins x) (h4 : s1.heap.NoLimit) (h5 : s1.gens = #[])
    (ha : s1.heap.get? a = some { cls := .type "list", data := .seq vs.toArray }) (hi : IntsAre vs ns) (hl : ns.length ≤ sizeLine) (hr : Rm k callerA)
    (F : ∀ base : Heap, K.In base → base.Ns mainGlobals mg → FnG ⟨P, w, K, mg, base⟩ k fa fd [x] sp) (hbind : ∀ (s : Shared) (u : Value), BindsTo s fd ⟨[u], []⟩ [(x, u)])
    (hsp : ∀ H : Hp, Only H → SqL K H a (ns.map V.int) → sp [.ref a] H (fun v _ => v = .bl true) fun _ _ _ => False) :
    codeAny (model P w) callerA (.call (.ref fa) ⟨[.ref a], []⟩) (fun r s' => r = .ok (.ret (.bool true)) ∧ OldK s1.heap s'.heap ∧ s'.os = s1.os ∧ AllBare s'.gens) s1 := by
  have rv := vals_ints hi
  have nv := hi.length
  suffices go : ∀ H : Hp, Only H → SqL K H a (ns.map V.int) → HOk P w H s1.heap → (∀ b, H b ≠ none → b = a ∧ K.lookup a = none) → codeAny (model P w) callerA (.call (.ref fa) ⟨[.ref a], []⟩) (fun r s' => r = .ok (.ret (.bool true)) ∧ OldK s1.heap s'.heap ∧ s'.os = s1.os ∧ AllBare s'.gens) s1 by
    cases hk : K.lookup a with
    | some o =>
      have q := kin a o hk
      rw [ha] at q
      cases q
      refine go (fun _ => none) (fun _ => .inl rfl) (.inr ⟨_, vs.toArray, _, hk, rfl, rfl, rfl, ?_, by simpa using rv⟩) ?_ fun b z => absurd rfl z
      · rw [List.size_toArray, nv]; exact hl
      · intro b u z; exact nomatch (show (none : Option HO) = some u from z)
    | none =>
      let ob : Obj := { cls := .type "list", data := .seq vs.toArray }
      let H0 : Hp := fun b => if b = a then some (.frz ob (.lst (ns.map V.int))) else none
      have at0 : H0 a = some (.frz ob (.lst (ns.map V.int))) := if_pos rfl
      have off : ∀ b, b ≠ a → H0 b = none := fun b hb => if_neg hb
      refine go H0 ?_ (.inl (.inr ⟨ob, at0⟩)) ?_ ?_
      · intro b
        by_cases hb : b = a
        · exact .inr ⟨_, _, by rw [hb]; exact at0⟩
        · exact .inl (off b hb)
      · intro b u z
        by_cases hb : b = a
        · subst hb
          rw [at0] at z
          cases z
          exact ⟨ha, by rw [List.length_map]; exact hl, vs, _, rv, ha⟩
        · rw [off b hb] at z
          cases z
      · intro b z
        by_cases hb : b = a
        · exact ⟨hb, hk⟩
        · exact absurd (off b hb) z
  intro H only hS hok hA
  have isA : ∀ {b : Addr}, H b ≠ none → b = a := fun z => (hA _ z).1
  have dictFree : ∀ {b : Addr} {o : Obj} {es : Array DictEntry} {n : Nat}, s1.heap.get? b = some o → o.data = .dict es n → H b = none := by
    intro b o es n e d
    refine Classical.byContradiction fun z => ?_
    rw [isA z, ha] at e
    cases e
    exact nomatch (show Data.seq vs.toArray _ = Data.dict es n from d)
  have ns' : ∀ {b : Addr} {m : Str → Option Value}, s1.heap.Ns b m → (hidT s1.heap H).Ns b m := by
    rintro b m ⟨o, es, n, e, d, r⟩
    exact ⟨o, es, n, hidT_get e (dictFree e d), d, r⟩
  have kin' : K.In (hidT s1.heap H) := by
    intro b o e
    refine hidT_get (kin b o e) (Classical.byContradiction fun z => ?_)
    obtain ⟨rfl, z2⟩ := hA b z
    rw [z2] at e
    cases e
  have hM : Mod K mg (hidT s1.heap H) := by
    obtain ⟨mc, c1, c2⟩ := h4
    exact ⟨kin', ns' h1, ⟨mb, ns' h2, h3⟩, mc, ns' c1, c2⟩
  have e0 : Env0 P w K mg (hidT s1.heap H) callerA [] s1 H :=
    ⟨rfl, hM, fun b o e => of_hidT e, Nat.le_of_eq (hidT_size _ _), trivial, fun b hb => absurd (show b ∈ ([] : List Addr) from hb) List.not_mem_nil, hok, .of_eq h5⟩
  have run := (F _ kin' (ns' h1)).run (vs := [.ref a]) (us := [.ref a]) (args := ⟨[.ref a], []⟩) hr e0 (hbind s1 (.ref a)) (.cons rfl .nil) (hsp H only hS)
  apply codeAny_mono run
  rintro (er | fl) s' z
  · obtain ⟨_, _, _, _, _, _, _, _, _, _, _, _, z⟩ := z
    exact z.elim
  cases fl with
  | next => exact z.elim
  | brk => exact z.elim
  | cont => exact z.elim
  | ret u =>
    obtain ⟨v, H', os, bare, un, hok', r', q⟩ := z
    obtain rfl : v = .bl true := q
    obtain rfl : u = Value.bool true := r'
    refine ⟨rfl, OldK.of_keep ?_, os, bare⟩
    intro b o e
    by_cases q : H b = none
    · exact un.keep b o e q (fun z => absurd (show b ∈ ([] : List Addr) from z) List.not_mem_nil) (by simp)
    · rcases only b with z | ⟨ob, xs, z⟩
      · exact absurd z q
      · obtain ⟨g1, _⟩ := hok b _ z
        obtain ⟨g2, _⟩ := hok' b _ (un.frzs b ob _ z)
        rw [e] at g1
        cases g1
        exact g2

/-- the goal hc of a head -/
theorem walk_fz {l : PySem.W.OpenLaw} {n k : Nat} {q : Program} {loose : List Str} {XP : (Str → Option Value) → Heap → Prop} {YP : World → Heap → Prop} {d : DefRec} {K : Params → PySem.W.Frag} {sp : World → Sp} {x : Str}
    (hn : l.most = some n) (hn2 : n ≤ sizeLine) (hdf : d.params.defaults = []) (hr : Rm k callerA) (hY : ∀ (w : World) (h : Heap), YP w h → (K w.params).In h)
    (F : ∀ (w : World) (mg : Str → Option Value) (fa : Addr) (h : Heap), (K w.params).In h → h.Ns mainGlobals mg → mg d.name = some (.ref fa) →
      ∃ fd : FuncData, (∀ (s : Shared) (u : Value), BindsTo s fd ⟨[u], []⟩ [(x, u)]) ∧ ∀ base : Heap, (K w.params).In base → base.Ns mainGlobals mg → FnG ⟨l.prog, w, K w.params, mg, base⟩ k fa fd [x] (sp w))
    (hsp : ∀ (w : World) (H : Hp) (a : Addr) (ns : List Int), ns.length ≤ n → (∀ z ∈ ns, Builtin.Int.intBits z ≤ 1048576) → Only H → SqL (K w.params) H a (ns.map V.int) → sp w [.ref a] H (fun v _ => v = .bl true) fun _ _ _ => False) :
    PySem.W.WalkO q loose XP YP l.row.toRowW d [] (fun f vs => PySem.call f vs) := by
  apply Att.attach_callB hn hdf
  intro w s0 s1 mg mb fa o pm cd doc a vs ns G Y ho hd hcd hmg hobj hints hlen hbits hg
  have kin := hY w _ Y
  obtain ⟨fd, hb, hF⟩ := F w mg fa _ kin G.T.g hmg
  exact law_run kin G.T.g G.T.b G.T.builtins G.T.nolimit hg hobj hints (Nat.le_trans hlen hn2) hr hF hb fun H only hS => hsp w H a ns hlen hbits only hS
end Fz

set_option Elab.async false
set_option linter.all false
set_option maxRecDepth 100000
set_option maxHeartbeats 4000000
/-! Fz1: expressions -/
namespace Fz
open PySem PySem.Spec PyProof.Rows L2

def asInts : List D → Option (List Int)
  | [] => some []
  | .int i :: r => (asInts r).map (i :: ·)
  | _ => none
theorem asInts_eq : ∀ {ds : List D} {ns : List Int}, asInts ds = some ns → ds = ns.map PyData.int
  | [], ns, h => by cases h; rfl
  | d :: r, ns, h => by
    cases d with
    | int i =>
      unfold asInts at h
      cases q : asInts r with
      | none => rw [q] at h; cases h
      | some ms => rw [q] at h; cases h; rw [asInts_eq q]; rfl
    | _ => cases h
@[simp] theorem asInts_map : ∀ ns : List Int, asInts (ns.map PyData.int) = some ns
  | [] => rfl
  | n :: ns => by show (asInts (ns.map PyData.int)).map (n :: ·) = _; rw [asInts_map ns]; rfl
def asBools : List D → Option (List Bool)
  | [] => some []
  | .bool i :: r => (asBools r).map (i :: ·)
  | _ => none
theorem asBools_eq : ∀ {ds : List D} {ns : List Bool}, asBools ds = some ns → ds = ns.map PyData.bool
  | [], ns, h => by cases h; rfl
  | d :: r, ns, h => by
    cases d with
    | bool i =>
      unfold asBools at h
      cases q : asBools r with
      | none => rw [q] at h; cases h
      | some ms => rw [q] at h; cases h; rw [asBools_eq q]; rfl
    | _ => cases h
@[simp] theorem asBools_map : ∀ ns : List Bool, asBools (ns.map PyData.bool) = some ns
  | [] => rfl
  | n :: ns => by show (asBools (ns.map PyData.bool)).map (n :: ·) = _; rw [asBools_map ns]; rfl
def asStrs : List D → Option (List Str)
  | [] => some []
  | .str i :: r => (asStrs r).map (i :: ·)
  | _ => none
theorem asStrs_eq : ∀ {ds : List D} {ns : List Str}, asStrs ds = some ns → ds = ns.map PyData.str
  | [], ns, h => by cases h; rfl
  | d :: r, ns, h => by
    cases d with
    | str i =>
      unfold asStrs at h
      cases q : asStrs r with
      | none => rw [q] at h; cases h
      | some ms => rw [q] at h; cases h; rw [asStrs_eq q]; rfl
    | _ => cases h
@[simp] theorem asStrs_map : ∀ ns : List Str, asStrs (ns.map PyData.str) = some ns
  | [] => rfl
  | n :: ns => by show (asStrs (ns.map PyData.str)).map (n :: ·) = _; rw [asStrs_map ns]; rfl

/-! ### the mirror's words -/
def okD (o : Option D) (hp : List O) : Res Vl := match o with
  | some d => .ok (.d d) hp
  | none => .bad
def varM (i : Nat) : EM := fun loc hp => match loc[i]? with
  | some (some v) => .ok v hp
  | _ => .bad
def cM (d : D) : EM := fun _ hp => .ok (.d d) hp
def opM (f : D → D → Option D) (a b : EM) : EM := fun loc hp => (a loc hp).bind fun u hp1 => (b loc hp1).bind fun v hp2 => match viewD hp2 u, viewD hp2 v with
  | some x, some y => okD (f x y) hp2
  | _, _ => .bad
def unM (f : D → Option D) (a : EM) : EM := fun loc hp => (a loc hp).bind fun u hp1 => match viewD hp1 u with
  | some x => okD (f x) hp1
  | none => .bad
def nilM : AM := fun _ hp => .ok [] hp
def consM (a : EM) (r : AM) : AM := fun loc hp => (a loc hp).bind fun u hp1 => (r loc hp1).bind fun us hp2 => .ok (u :: us) hp2
def viewsD (hp : List O) : List Vl → Option (List D)
  | [] => some []
  | v :: r => (viewD hp v).bind fun x => (viewsD hp r).map (x :: ·)
/-- a built-in called with data -/
def blt (f : List D → Option D) (a : AM) : EM := fun loc hp => (a loc hp).bind fun us hp1 => match viewsD hp1 us with
  | some xs => okD (f xs) hp1
  | none => .bad
/-- .. whose answer is a new list of ours -/
def bltO (f : List D → Option (List D)) (a : AM) : EM := fun loc hp => (a loc hp).bind fun us hp1 => match viewsD hp1 us with
  | some xs => (match f xs with
    | some r => .ok (.r hp1.length) (hp1 ++ [.lst r])
    | none => .bad)
  | none => .bad
def allData : List Vl → Option (List D)
  | [] => some []
  | .d x :: r => (allData r).map (x :: ·)
  | _ => none
def tupM (a : AM) : EM := fun loc hp => (a loc hp).bind fun us hp1 => match allData us with
  | some xs => if xs.length ≤ 10000 then .ok (.d (.tuple xs)) hp1 else .bad
  | none => .bad
def lstM (a : AM) : EM := fun loc hp => (a loc hp).bind fun us hp1 => match allData us with
  | some xs => if xs.length ≤ 10000 then .ok (.d (.list xs)) hp1 else .bad
  | none => .bad
def lstO (a : AM) : EM := fun loc hp => (a loc hp).bind fun us hp1 => match allData us with
  | some xs => if xs.length ≤ 10000 then .ok (.r hp1.length) (hp1 ++ [.lst xs]) else .bad
  | none => .bad
def callM (f : FM) (a : AM) : EM := fun loc hp => (a loc hp).bind fun us hp1 => f us hp1
def boolD : D → Option Bool
  | .bool b => some b
  | _ => none
/-- a test by a value that is a bool -/
def tstM (a : EM) : TM := fun loc hp => (a loc hp).bind fun u hp1 => match u with
  | .d (.bool b) => .ok b hp1
  | _ => .bad
def andT (a b : TM) : TM := fun loc hp => (a loc hp).bind fun u hp1 => if u = true then b loc hp1 else .ok false hp1
def orT (a b : TM) : TM := fun loc hp => (a loc hp).bind fun u hp1 => if u = true then .ok true hp1 else b loc hp1
def notT (a : TM) : TM := fun loc hp => (a loc hp).bind fun u hp1 => .ok (!u) hp1
/-- and, or, not as values: bools, but the last -/
def andE (a b : EM) : EM := fun loc hp => (a loc hp).bind fun u hp1 => match u with
  | .d (.bool true) => b loc hp1
  | .d (.bool false) => .ok (.d (.bool false)) hp1
  | _ => .bad
def orE (a b : EM) : EM := fun loc hp => (a loc hp).bind fun u hp1 => match u with
  | .d (.bool true) => .ok (.d (.bool true)) hp1
  | .d (.bool false) => b loc hp1
  | _ => .bad
def notE (a : EM) : EM := fun loc hp => (a loc hp).bind fun u hp1 => match u with
  | .d (.bool b) => .ok (.d (.bool (!b))) hp1
  | _ => .bad
def iteE (c : TM) (a b : EM) : EM := fun loc hp => (c loc hp).bind fun u hp1 => if u = true then a loc hp1 else b loc hp1
def chainM (f f' : D → D → Option D) (a b c : EM) : EM := fun loc hp => (a loc hp).bind fun u hp1 => (b loc hp1).bind fun v hp2 => match viewD hp2 u, viewD hp2 v with
  | some x, some y => (match f x y with
    | some (.bool true) => (c loc hp2).bind fun w hp3 => (match viewD hp3 v, viewD hp3 w with
      | some y', some z => okD (f' y' z) hp3
      | _, _ => .bad)
    | some (.bool false) => .ok (.d (.bool false)) hp2
    | _ => .bad)
  | _, _ => .bad

/-! ### how a rule of the layer does what a function on data says -/
def OpS (K : PySem.W.Frag) (r : R2) (f : D → D → Option D) : Prop :=
  ∀ (F H : Hp) (x y : V) (d e w : D) (Q : VK), Same F H → Vw K F H x d → Vw K F H y e → f d e = some w → (∀ x' F' H', Grow F F' H H' → Rp K F' x' w → Q x' H') → r x y H Q
def UnS (K : PySem.W.Frag) (r : V → Hp → VK → Prop) (f : D → Option D) : Prop :=
  ∀ (F H : Hp) (x : V) (d w : D) (Q : VK), Same F H → Vw K F H x d → f d = some w → (∀ x' F' H', Grow F F' H H' → Rp K F' x' w → Q x' H') → r x H Q
def VwL (K : PySem.W.Frag) (F H : Hp) : List V → List D → Prop := Paired (Vw K F H)
def ClS (K : PySem.W.Frag) (r : List V → Hp → VK → Prop) (f : List D → Option D) : Prop :=
  ∀ (F H : Hp) (xs : List V) (ds : List D) (w : D) (Q : VK), Same F H → VwL K F H xs ds → f ds = some w → (∀ x' F' H', Grow F F' H H' → Rp K F' x' w → Q x' H') → r xs H Q
/-- a new list -/
def ClF (K : PySem.W.Frag) (r : List V → Hp → VK → Prop) (f : List D → Option (List D)) : Prop :=
  ∀ (F H : Hp) (xs : List V) (ds w : List D) (Q : VK), Same F H → VwL K F H xs ds → f ds = some w → (∀ p ws, H p = none → ws.length ≤ sizeLine → RpL K F ws w → Q (.ref p) (upd H p (.lst ws))) → r xs H Q
theorem ClF.s {K : PySem.W.Frag} {r : List V → Hp → VK → Prop} {f : List D → Option (List D)} (h : ClF K r f) : ClS K r (fun ds => (f ds).map PyData.list) := by
  intro F H xs ds w Q e v hf q
  dsimp only at hf
  cases hw : f ds with
  | none => rw [hw] at hf; cases hf
  | some ws =>
    rw [hw] at hf
    cases hf
    exact h F H xs ds ws Q e v hw fun p us hp z r => q (.ref p) _ _ (Grow.one e hp) (.lst (SqL.of upd_same) z (r.mono (Grow.one (o := .lst us) e hp).f))

section
variable {g : Gb} {φ : List Addr} {F H : Hp} {hp : List O}
theorem Own.views (o : Own g φ F hp H) : ∀ {xs : List V} {vs : List Vl} {ds : List D}, RvL g φ F xs vs → viewsD hp vs = some ds → VwL g.K F H xs ds
  | _, _, _, .nil, h => by cases h; exact .nil
  | _, _, _, .cons (b := v) (l₂ := r) a t, h => by
    unfold viewsD at h
    cases q : viewD hp v with
    | none => rw [q] at h; cases h
    | some x =>
      rw [q] at h
      cases q2 : viewsD hp r with
      | none => rw [q2] at h; cases h
      | some xs => rw [q2] at h; cases h; exact .cons (o.view a q) (Own.views o t q2)
theorem RvL.data : ∀ {xs : List V} {vs : List Vl} {ds : List D}, RvL g φ F xs vs → allData vs = some ds → RpL g.K F xs ds
  | _, _, _, .nil, h => by cases h; exact .nil
  | _, _, _, .cons (b := v) (l₂ := r) a t, h => by
    cases v with
    | d x =>
      unfold allData at h
      cases q2 : allData r with
      | none => rw [q2] at h; cases h
      | some ys => rw [q2] at h; cases h; exact .cons a (RvL.data t q2)
    | _ => cases h
/-- an object laid that is ours -/
theorem app_at {α : Type} {l : List α} {x y : α} {n : Nat} (h : (l ++ [x])[n]? = some y) : (n < l.length ∧ l[n]? = some y) ∨ (n = l.length ∧ y = x) := by
  by_cases c : n < l.length
  · rw [List.getElem?_append_left c] at h
    exact .inl ⟨c, h⟩
  · have e : n = l.length := by
      have := (List.getElem?_eq_some_iff.mp h).1
      rw [List.length_append] at this
      simp at this
      omega
    subst e
    rw [List.getElem?_append_right (Nat.le_refl _)] at h
    simp at h
    exact .inr ⟨rfl, h.symm⟩
theorem Own.lay (o : Own g φ F hp H) {p : Addr} (hn : H p = none) {x : O} {u : HO} (h : OR g F (some u) x) : Own g (φ ++ [p]) F (hp ++ [x]) (upd H p u) := by
  have np : p ∉ φ := fun z => o.has z hn
  refine ⟨by rw [List.length_append, List.length_append, o.len]; rfl, ?_, (o.ex).trans (same_upd hn), fun n a y h1 h2 h3 => ?_, fun n a y h1 h2 => ?_⟩
  · exact List.nodup_append.mpr ⟨o.nd, by simp, fun a ha b hb => by
      have e : b = p := by simpa using hb
      subst e
      exact fun z => np (by rw [← z]; exact ha)⟩
  · rcases app_at h1 with ⟨c1, h1⟩ | ⟨c1, h1⟩
    · rcases app_at h2 with ⟨c2, h2⟩ | ⟨c2, h2⟩
      · exact o.out n a y h1 h2 h3
      · rw [o.len] at c1; omega
    · rw [h1]; exact same_none o.ex hn
  · rcases app_at h1 with ⟨c1, h1⟩ | ⟨c1, h1⟩
    · rcases app_at h2 with ⟨c2, h2⟩ | ⟨c2, h2⟩
      · have q := o.ob n a y h1 h2
        rw [upd_ne (fun z => np (by rw [← z]; exact List.mem_of_getElem? h1))]
        exact q
      · rw [o.len] at c1; omega
    · rcases app_at h2 with ⟨c2, h2⟩ | ⟨c2, h2⟩
      · rw [o.len] at c1; omega
      · rw [h1, h2, upd_same]; exact h
end

section
variable {X : Cx} {W : WX} {a b c e : Expr} {es : List Expr} {ma mb mc : EM} {am : AM} {pos : Pos}
theorem me_var {i : Nat} {x : Str} (hN : X.N[i]? = some x := by rfl) (hv : Vis X.env.scope x := by first | exact Or.inl rfl | exact Or.inr (Or.inl rfl) | exact Or.inr (Or.inr rfl)) (hd : (x == ("__debug__" : Str)) = false := by decide)
    (hcd : (x == ("__classdict__" : Str)) = false := by decide) : ME X W (.Name x pos) (varM i) := by
  refine PE.imp (pe_var hN hv hd hcd) fun σ H Q ⟨φ, F, hp, loc, o, l, h⟩ => ?_
  unfold varM at h
  cases q : loc[i]? with
  | none => rw [q] at h; exact h.elim
  | some z =>
    cases z with
    | none => rw [q] at h; exact h.elim
    | some v =>
      rw [q] at h
      obtain ⟨x, h1, h2⟩ := l.at_ i v q
      exact ⟨x, h1, h.here o h2⟩
theorem me_c {v : V} {d : D} (he : PE X e (tC v)) (hd : ∀ F, Rp X.K F v d) : ME X W e (cM d) := by
  refine PE.imp he fun σ H Q ⟨φ, F, hp, loc, o, l, h⟩ => ?_
  exact PostG.here (g := gOf X) o (show RvV (gOf X) φ F v (.d d) from hd F) h
theorem me_int {i : Int} {j} : ME X W (.Constant (.int i) j pos) (cM (.int i)) := me_c pe_int fun _ => .int i
theorem me_bl {i : Bool} {j} : ME X W (.Constant (.bool i) j pos) (cM (.bool i)) := me_c pe_bl fun _ => .bl i
theorem me_non {j} : ME X W (.Constant .none j pos) (cM .none) := me_c pe_non fun _ => .non
theorem me_str {i : Str} {j} : ME X W (.Constant (.str i) j pos) (cM (.str i)) := me_c pe_str fun _ => .str i
/-- a constant of the module -/
theorem me_glob {x : Str} {v : V} {u : Value} {d : D} (hm : X.mg x = some u) (r : RelV v u) (hd : ∀ F, Rp X.K F v d) (hg : Gl X x := by rfl) (hdb : (x == ("__debug__" : Str)) = false := by decide) : ME X W (.Name x pos) (cM d) :=
  me_c (pe_glob hg hm r hdb) hd

theorem me_op2 {r : R2} {f : D → D → Option D} (hs : OpS X.K r f) {e : Expr} (h : ∀ ta tb, PE X a ta → PE X b tb → PE X e (tOp r ta tb)) (ha : ME X W a ma) (hb : ME X W b mb) : ME X W e (opM f ma mb) := by
  refine PE.imp (h _ _ ha hb) fun σ H Q ⟨φ, F, hp, loc, o, l, h⟩ => ?_
  refine ⟨φ, F, hp, loc, o, l, (PostG.bind (R := RvV (gOf X)) h).imp fun x H1 ⟨φ1, F1, hp1, u, p1, s1, o1, r1, _, h1⟩ => ?_⟩
  refine ⟨φ1, F1, hp1, loc, o1, l.mono p1 s1, (PostG.bind (R := RvV (gOf X)) h1).imp fun y H2 ⟨φ2, F2, hp2, v, p2, s2, o2, r2, _, h2⟩ => ?_⟩
  have r1' := r1.mono p2 s2
  cases q1 : viewD hp2 u with
  | none => rw [q1] at h2; exact h2.elim
  | some d =>
    cases q2 : viewD hp2 v with
    | none => rw [q1, q2] at h2; exact h2.elim
    | some e' =>
      rw [q1, q2] at h2
      dsimp only at h2
      cases q3 : f d e' with
      | none => rw [q3] at h2; exact h2.elim
      | some w =>
        rw [q3] at h2
        exact hs F2 H2 x y d e' w Q o2.ex (o2.view r1' q1) (o2.view r2 q2) q3 fun x' F' H' gr rp => PostG.grown (g := gOf X) o2 gr (show RvV (gOf X) φ2 F' x' (.d w) from rp) h2
theorem me_op {op : Operator} {r : R2} {f : D → D → Option D} (ho : OpR X (binaryOp op) r) (hs : OpS X.K r f) (ha : ME X W a ma) (hb : ME X W b mb) : ME X W (.BinOp a op b pos) (opM f ma mb) :=
  me_op2 hs (fun _ _ h1 h2 => pe_op ho h1 h2) ha hb
theorem me_cmp {op : CmpOp} {r : R2} {f : D → D → Option D} (ho : OpR X (compareOp op) r) (hs : OpS X.K r f) (ha : ME X W a ma) (hb : ME X W b mb) (hm : behindInMarks op b = false := by first | exact nomark _ | rfl) : ME X W (.Compare a [op] [b] pos) (opM f ma mb) :=
  me_op2 hs (fun _ _ h1 h2 => pe_cmpR ho h1 h2 hm) ha hb
theorem me_ix {r : R2} {f : D → D → Option D} (ho : IxR X r) (hs : OpS X.K r f) (ha : ME X W a ma) (hb : ME X W b mb) (hp : PlainIx b := by exact fun _ _ => rfl) : ME X W (.Subscript a b pos) (opM f ma mb) :=
  me_op2 hs (fun _ _ h1 h2 => pe_ix ho h1 h2 hp) ha hb
theorem me_un {op : UnaryOp} {r : V → Hp → VK → Prop} {f : D → Option D} (ho : UnR X (unaryOp op) r) (hs : UnS X.K r f) (ha : ME X W a ma) : ME X W (.UnaryOp op a pos) (unM f ma) := by
  refine PE.imp (pe_un ho ha) fun σ H Q ⟨φ, F, hp, loc, o, l, h⟩ => ?_
  refine ⟨φ, F, hp, loc, o, l, (PostG.bind (R := RvV (gOf X)) h).imp fun x H1 ⟨φ1, F1, hp1, u, p1, s1, o1, r1, _, h1⟩ => ?_⟩
  cases q1 : viewD hp1 u with
  | none => rw [q1] at h1; exact h1.elim
  | some d =>
    rw [q1] at h1
    dsimp only at h1
    cases q3 : f d with
    | none => rw [q3] at h1; exact h1.elim
    | some w =>
      rw [q3] at h1
      exact hs F1 H1 x d w Q o1.ex (o1.view r1 q1) q3 fun x' F' H' gr rp => PostG.grown (g := gOf X) o1 gr (show RvV (gOf X) φ1 F' x' (.d w) from rp) h1

/-! arguments -/
theorem ma_nil : MA X W [] nilM := by
  refine PA.imp pa_nil fun σ H Q ⟨φ, F, hp, loc, o, l, h⟩ => ?_
  exact PostG.here (g := gOf X) (R := RvL (gOf X)) o .nil h
theorem ma_cons (ha : ME X W e ma) (hr : MA X W es am) (hs : starEach (e :: es) X.env = (false, eval e X.env) :: starEach es X.env := by rfl) : MA X W (e :: es) (consM ma am) := by
  refine PA.imp (pa_cons ha hr hs) fun σ H Q ⟨φ, F, hp, loc, o, l, h⟩ => ?_
  refine ⟨φ, F, hp, loc, o, l, (PostG.bind (R := RvV (gOf X)) h).imp fun x H1 ⟨φ1, F1, hp1, u, p1, s1, o1, r1, _, h1⟩ => ?_⟩
  refine ⟨φ1, F1, hp1, loc, o1, l.mono p1 s1, (PostG.bind (R := RvL (gOf X)) h1).imp fun y H2 ⟨φ2, F2, hp2, v, p2, s2, o2, r2, _, h2⟩ => ?_⟩
  exact PostG.here (g := gOf X) (R := RvL (gOf X)) o2 (.cons (r1.mono p2 s2) r2) h2

/-! built-ins -/
theorem me_blt {r : List V → Hp → VK → Prop} {f : List D → Option D} (hs : ClS X.K r f) {e : Expr} (h : ∀ t, PA X es t → PE X e (tCB r t)) (ha : MA X W es am) : ME X W e (blt f am) := by
  refine PE.imp (h _ ha) fun σ H Q ⟨φ, F, hp, loc, o, l, h⟩ => ?_
  refine ⟨φ, F, hp, loc, o, l, (PostG.bind (R := RvL (gOf X)) h).imp fun xs H1 ⟨φ1, F1, hp1, us, p1, s1, o1, r1, _, h1⟩ => ?_⟩
  cases q1 : viewsD hp1 us with
  | none => rw [q1] at h1; exact h1.elim
  | some ds =>
    rw [q1] at h1
    dsimp only at h1
    cases q3 : f ds with
    | none => rw [q3] at h1; exact h1.elim
    | some w =>
      rw [q3] at h1
      exact hs F1 H1 xs ds w Q o1.ex (o1.views r1 q1) q3 fun x' F' H' gr rp => PostG.grown (g := gOf X) o1 gr (show RvV (gOf X) φ1 F' x' (.d w) from rp) h1
theorem me_bltO {r : List V → Hp → VK → Prop} {f : List D → Option (List D)} (hs : ClF X.K r f) {e : Expr} (h : ∀ t, PA X es t → PE X e (tCB r t)) (ha : MA X W es am) : ME X W e (bltO f am) := by
  refine PE.imp (h _ ha) fun σ H Q ⟨φ, F, hp, loc, o, l, h⟩ => ?_
  refine ⟨φ, F, hp, loc, o, l, (PostG.bind (R := RvL (gOf X)) h).imp fun xs H1 ⟨φ1, F1, hp1, us, p1, s1, o1, r1, _, h1⟩ => ?_⟩
  cases q1 : viewsD hp1 us with
  | none => rw [q1] at h1; exact h1.elim
  | some ds =>
    rw [q1] at h1
    dsimp only at h1
    cases q3 : f ds with
    | none => rw [q3] at h1; exact h1.elim
    | some w =>
      rw [q3] at h1
      refine hs F1 H1 xs ds w Q o1.ex (o1.views r1 q1) q3 fun p ws hn z rp => ?_
      exact h1 (φ1 ++ [p]) F1 _ (.ref p) (List.prefix_append _ _) (Same.refl _) (o1.lay (x := .lst w) hn ⟨ws, rfl, z, rp⟩) ⟨p, by rw [← o1.len, List.getElem?_append_right (Nat.le_refl _)]; simp, rfl⟩
/-- a built-in function, a built-in type, by its name -/
theorem me_callB {x : Str} {id : String} {r : List V → Hp → VK → Prop} {f : List D → Option D} (hc : CallR X (.builtin id) r) (hs : ClS X.K r f) (hm : X.mg x = none) (hv : bootBuiltins x = some (.builtin id)) (ha : MA X W (e :: es) am) (hg : Gl X x := by rfl) (hn : x ≠ "__name__" := by decide)
    (hdb : (x == ("__debug__" : Str)) = false := by decide) {p : Pos} (he : starEach (e :: es) X.env = (false, eval e X.env) :: starEach es X.env := by rfl) (hpl : (backTo pos (starEach es X.env)).any (·.1) = false := by rfl) : ME X W (.Call (.Name x p) (e :: es) [] pos) (blt f am) :=
  me_blt hs (fun _ h => pe_callB hc hg hm hv h hn hdb he hpl) ha
theorem me_callTy {x : Str} {T : String} {r : List V → Hp → VK → Prop} {f : List D → Option D} (hc : CallR X (.type T) r) (hs : ClS X.K r f) (hm : X.mg x = none) (hv : bootBuiltins x = some (.type T)) (ha : MA X W (e :: es) am) (hg : Gl X x := by rfl) (hn : x ≠ "__name__" := by decide)
    (hdb : (x == ("__debug__" : Str)) = false := by decide) {p : Pos} (he : starEach (e :: es) X.env = (false, eval e X.env) :: starEach es X.env := by rfl) (hpl : (backTo pos (starEach es X.env)).any (·.1) = false := by rfl) : ME X W (.Call (.Name x p) (e :: es) [] pos) (blt f am) :=
  me_blt hs (fun _ h => pe_callTy hc hg hm hv h hn hdb he hpl) ha
theorem me_callBO {x : Str} {id : String} {r : List V → Hp → VK → Prop} {f : List D → Option (List D)} (hc : CallR X (.builtin id) r) (hs : ClF X.K r f) (hm : X.mg x = none) (hv : bootBuiltins x = some (.builtin id)) (ha : MA X W (e :: es) am) (hg : Gl X x := by rfl) (hn : x ≠ "__name__" := by decide)
    (hdb : (x == ("__debug__" : Str)) = false := by decide) {p : Pos} (he : starEach (e :: es) X.env = (false, eval e X.env) :: starEach es X.env := by rfl) (hpl : (backTo pos (starEach es X.env)).any (·.1) = false := by rfl) : ME X W (.Call (.Name x p) (e :: es) [] pos) (bltO f am) :=
  me_bltO hs (fun _ h => pe_callB hc hg hm hv h hn hdb he hpl) ha
theorem me_callTyO {x : Str} {T : String} {r : List V → Hp → VK → Prop} {f : List D → Option (List D)} (hc : CallR X (.type T) r) (hs : ClF X.K r f) (hm : X.mg x = none) (hv : bootBuiltins x = some (.type T)) (ha : MA X W (e :: es) am) (hg : Gl X x := by rfl) (hn : x ≠ "__name__" := by decide)
    (hdb : (x == ("__debug__" : Str)) = false := by decide) {p : Pos} (he : starEach (e :: es) X.env = (false, eval e X.env) :: starEach es X.env := by rfl) (hpl : (backTo pos (starEach es X.env)).any (·.1) = false := by rfl) : ME X W (.Call (.Name x p) (e :: es) [] pos) (bltO f am) :=
  me_bltO hs (fun _ h => pe_callTy hc hg hm hv h hn hdb he hpl) ha

/-! displays -/
theorem sz4 {n : Nat} (h : n ≤ 10000) : n ≤ sizeLine := Nat.le_trans h (by decide)
theorem me_tup {x1} (h : MA X W es am) : ME X W (.Tuple es x1 pos) (tupM am) := by
  refine PE.imp (pe_tupF h) fun σ H Q ⟨φ, F, hp, loc, o, l, h⟩ => ?_
  refine ⟨φ, F, hp, loc, o, l, (PostG.bind (R := RvL (gOf X)) h).imp fun xs H1 ⟨φ1, F1, hp1, us, p1, s1, o1, r1, _, h1⟩ => ?_⟩
  cases q : allData us with
  | none => rw [q] at h1; exact h1.elim
  | some ds =>
    rw [q] at h1
    dsimp only at h1
    have rp := r1.data q
    split at h1
    · rename_i hz
      have hz' := sz4 hz
      rw [← rp.len] at hz'
      refine ⟨hz', fun p ob hn hd => ?_⟩
      exact PostG.grown (g := gOf X) o1 (Grow.one o1.ex hn) (show RvV (gOf X) φ1 _ (.ref p) (.d (.tuple ds)) from .tup (.new hd) hz' (rp.mono (Grow.one (o := .frz ob (.tup xs)) o1.ex hn).f)) h1
    · exact h1.elim
theorem me_lst (h : MA X W es am) : ME X W (.List es pos) (lstM am) := by
  refine PE.imp (pe_lst h) fun σ H Q ⟨φ, F, hp, loc, o, l, h⟩ => ?_
  refine ⟨φ, F, hp, loc, o, l, (PostG.bind (R := RvL (gOf X)) h).imp fun xs H1 ⟨φ1, F1, hp1, us, p1, s1, o1, r1, _, h1⟩ => ?_⟩
  cases q : allData us with
  | none => rw [q] at h1; exact h1.elim
  | some ds =>
    rw [q] at h1
    dsimp only at h1
    have rp := r1.data q
    split at h1
    · rename_i hz
      have hz' := sz4 hz
      rw [← rp.len] at hz'
      refine ⟨hz', fun p hn => ?_⟩
      exact PostG.grown (g := gOf X) o1 (Grow.one o1.ex hn) (show RvV (gOf X) φ1 _ (.ref p) (.d (.list ds)) from .lst (SqL.of upd_same) hz' (rp.mono (Grow.one (o := .lst xs) o1.ex hn).f)) h1
    · exact h1.elim
theorem me_lstO (h : MA X W es am) : ME X W (.List es pos) (lstO am) := by
  refine PE.imp (pe_lst h) fun σ H Q ⟨φ, F, hp, loc, o, l, h⟩ => ?_
  refine ⟨φ, F, hp, loc, o, l, (PostG.bind (R := RvL (gOf X)) h).imp fun xs H1 ⟨φ1, F1, hp1, us, p1, s1, o1, r1, _, h1⟩ => ?_⟩
  cases q : allData us with
  | none => rw [q] at h1; exact h1.elim
  | some ds =>
    rw [q] at h1
    dsimp only at h1
    have rp := r1.data q
    split at h1
    · rename_i hz
      have hz' := sz4 hz
      rw [← rp.len] at hz'
      refine ⟨hz', fun p hn => ?_⟩
      exact h1 (φ1 ++ [p]) F1 _ (.ref p) (List.prefix_append _ _) (Same.refl _) (o1.lay (x := .lst ds) hn ⟨xs, rfl, hz', rp⟩) ⟨p, by rw [← o1.len, List.getElem?_append_right (Nat.le_refl _)]; simp, rfl⟩
    · exact h1.elim

/-! a def called -/
/-- the promise: the def does what f says -/
def spM (g : Gb) (np : Nat) (f : FM) : Sp := fun vs H Q E => vs.length = np ∧ ∃ φ F hp ds, Own g φ F hp H ∧ RvL g φ F vs ds ∧ PostG g (RvV g) φ F E Q (f ds hp)
structure FOk (g : Gb) (k : Nat) (x : Str) (as : Arguments) (ps : List Str) (f : FM) : Prop where
  ar : ∀ ds hp, ds.length ≠ ps.length → f ds hp = .bad
  ex : ∃ (fa : Addr) (fd : FuncData), FnG g k fa fd ps (spM g ps.length f) ∧ g.mg x = some (.ref fa) ∧ PySem.W.keepIn g.K (.ref fa) = true ∧ Binds g.K fd ps [] ∧
    ∃ qual body scope kV doc pm an cdv ct, fd = PySem.W.fnOf x qual as body scope .none kV doc pm an cdv ct
/-- how keywords fall in -/
def KwB (as : Arguments) (ps ks : List Str) (ord : List Nat) : Prop :=
  ∀ (x qual : Str) (body : List Stmt) (scope : Scope) (kV doc pm : Value) (an : Option Addr) (cdv ct : Value) (us ws : List Value), ws.length = ks.length → (us ++ pick ord ws).length = ps.length →
    bindArgs (PySem.W.fnOf x qual as body scope .none kV doc pm an cdv ct) ⟨us, ks.zip ws⟩ = pure (ps.zip (us ++ pick ord ws))
theorem FOk.le {g : Gb} {j k : Nat} {x : Str} {as : Arguments} {ps : List Str} {f : FM} (F : FOk g j x as ps f) (h : j ≤ k) : FOk g k x as ps f := by
  obtain ⟨fa, fd, a, b⟩ := F.ex
  exact ⟨F.ar, fa, fd, a.le h, b⟩
theorem me_call {k : Nat} {x : Str} {as : Arguments} {ps : List Str} {f : FM} {p : Pos} (Fo : FOk (gOf X) k x as ps f) (hr : Rm k X.A) (tk : Takes X W) (ha : MA X W (e :: es) am) (hg : Gl X x := by rfl) (hdb : (x == ("__debug__" : Str)) = false := by decide)
    (he : starEach (e :: es) X.env = (false, eval e X.env) :: starEach es X.env := by rfl) (hpl : (backTo pos (starEach es X.env)).any (·.1) = false := by rfl) : ME X W (.Call (.Name x p) (e :: es) [] pos) (callM f am) := by
  obtain ⟨fa, fd, Fn, hm, hk, hb, _⟩ := Fo.ex
  refine PE.imp (pe_callG Fn hr tk hg hm hk hb ha hdb he hpl) fun σ H Q ⟨φ, F, hp, loc, o, l, h⟩ => ?_
  refine ⟨φ, F, hp, loc, o, l, ?_⟩
  unfold callM at h
  cases q : am loc hp with
  | exc e hp' => rw [q] at h; exact h
  | bad => rw [q] at h; exact h
  | ok us hp' =>
    rw [q] at h
    intro φ' F' H' xs a b o' r'
    have hl : us.length = ps.length := by
      refine Classical.byContradiction fun c => ?_
      have h' : PostG (gOf X) (RvV (gOf X)) φ F (fun c d H' => W c d σ H') Q (f us hp') := h
      rw [Fo.ar us hp' c] at h'
      exact h'
    exact ⟨(Paired.length r').trans hl, φ', F', hp', us, o', r', PostG.weak a b h⟩
end
/-- keywords' values -/
def MK (X : Cx) (W : WX) (kws : List Keyword) (m : AM) : Prop := PK X kws (tA (gOf X) W m)
/-- f(e, .., k = v, ..) -/
def callKM (f : FM) (ord : List Nat) (n : Nat) (a b : AM) : EM := fun loc hp => (a loc hp).bind fun us hp1 => (b loc hp1).bind fun vs hp2 => if vs.length = n then f (us ++ pick ord vs) hp2 else .bad
theorem PK.imp {X : Cx} {e : List Keyword} {t t' : TA} (h : PK X e t) (i : ∀ σ H Q, t' σ H Q → t σ H Q) : PK X e t' := ⟨fun pos pins s σ H Q I q => h.run pos pins s σ H Q I (i σ H Q q)⟩
section
variable {X : Cx} {W : WX} {e : Expr} {es : List Expr} {kws : List Keyword} {ma : EM} {am km : AM} {pos : Pos}
theorem mk_nil : MK X W [] nilM := by
  refine PK.imp pk_nil fun σ H Q ⟨φ, F, hp, loc, o, l, h⟩ => ?_
  exact PostG.here (g := gOf X) (R := RvL (gOf X)) o .nil h
theorem mk_cons {nm : Option Str} {kp : Pos} (ha : ME X W e ma) (hr : MK X W kws am) : MK X W (⟨nm, e, kp⟩ :: kws) (consM ma am) := by
  refine PK.imp (pk_cons ha hr) fun σ H Q ⟨φ, F, hp, loc, o, l, h⟩ => ?_
  refine ⟨φ, F, hp, loc, o, l, (PostG.bind (R := RvV (gOf X)) h).imp fun x H1 ⟨φ1, F1, hp1, u, p1, s1, o1, r1, _, h1⟩ => ?_⟩
  refine ⟨φ1, F1, hp1, loc, o1, l.mono p1 s1, (PostG.bind (R := RvL (gOf X)) h1).imp fun y H2 ⟨φ2, F2, hp2, v, p2, s2, o2, r2, _, h2⟩ => ?_⟩
  exact PostG.here (g := gOf X) (R := RvL (gOf X)) o2 (.cons (r1.mono p2 s2) r2) h2
theorem pd_app {α β : Type} {R : α → β → Prop} : ∀ {l l' : List α} {m m' : List β}, Paired R l m → Paired R l' m' → Paired R (l ++ l') (m ++ m')
  | _, _, _, _, .nil, h => h
  | _, _, _, _, .cons a b, h => .cons a (pd_app b h)
theorem callK_reads {k : Nat} {x : Str} {as : Arguments} {ps ks : List Str} {f : FM} {ord : List Nat} (Fo : FOk (gOf X) k x as ps f) {σ : L2.St} {H : Hp} {Q : VK} {φ : List Addr} {F : Hp} {us vs : List Vl} {xs ys : List V} {hp : List O} (o : Own (gOf X) φ F hp H) (r1 : RvL (gOf X) φ F xs us) (r2 : RvL (gOf X) φ F ys vs)
    (h : PostG (gOf X) (RvV (gOf X)) φ F (fun c d H' => W c d σ H') Q (if vs.length = ks.length then f (us ++ pick ord vs) hp else .bad)) :
    ys.length = ks.length ∧ spM (gOf X) ps.length f (xs ++ pick ord ys) H Q fun c d H' => W c d σ H' := by
  split at h
  · rename_i hn
    have rr : RvL (gOf X) φ F (xs ++ pick ord ys) (us ++ pick ord vs) := pd_app r1 (pick_paired r2 ord)
    refine ⟨(Paired.length r2).trans hn, ?_, φ, F, hp, _, o, rr, h⟩
    rw [Paired.length rr]
    refine Classical.byContradiction fun c => ?_
    rw [Fo.ar _ hp c] at h
    exact h
  · exact h.elim
theorem kw_binds {as : Arguments} {ps ks : List Str} {ord : List Nat} {x qual : Str} {body : List Stmt} {scope : Scope} {kV doc pm : Value} {an : Option Addr} {cdv ct : Value} (h : KwB as ps ks ord) : BindK (PySem.W.fnOf x qual as body scope .none kV doc pm an cdv ct) ps ks ord :=
  fun s us ws h1 h2 => .of_eq (h _ _ _ _ _ _ _ _ _ _ us ws h1 h2)
theorem me_callK {k : Nat} {x : Str} {as : Arguments} {ps ks : List Str} {f : FM} {p : Pos} {ord : List Nat} (Fo : FOk (gOf X) k x as ps f) (hr : Rm k X.A) (tk : Takes X W) (hB : KwB as ps ks ord) (ha : MA X W (e :: es) am) (hkw : MK X W kws km)
    (hg : Gl X x := by rfl) (hdb : (x == ("__debug__" : Str)) = false := by decide)
    (hall : (backToKw pos (keywordEach kws X.env)).all (·.1.isSome) = true := by rfl) (hks : (backToKw pos (keywordEach kws X.env)).filterMap (·.1) = ks := by rfl)
    (he : starEach (e :: es) X.env = (false, eval e X.env) :: starEach es X.env := by rfl)
    (hpl : ((backTo pos (starEach (e :: es) X.env)).any (·.1) || (backToKw pos (keywordEach kws X.env)).any (·.1.isNone)) = false := by rfl) : ME X W (.Call (.Name x p) (e :: es) kws pos) (callKM f ord ks.length am km) := by
  obtain ⟨fa, fd, Fn, hm, hk, _, _, _, _, _, _, _, _, _, _, rfl⟩ := id Fo.ex
  refine PE.imp (pe_callGK Fn hr tk hg hm hk (kw_binds hB) ha hkw hall hks hdb he hpl) fun σ H Q ⟨φ, F, hp, loc, o, l, h⟩ => ?_
  refine ⟨φ, F, hp, loc, o, l, (PostG.bind (R := RvL (gOf X)) h).imp fun xs H1 ⟨φ1, F1, hp1, us, p1, s1, o1, r1, _, h1⟩ => ?_⟩
  refine ⟨φ1, F1, hp1, loc, o1, l.mono p1 s1, (PostG.bind (R := RvL (gOf X)) h1).imp fun ys H2 ⟨φ2, F2, hp2, vs, p2, s2, o2, r2, _, h2⟩ => ?_⟩
  exact callK_reads Fo o2 (r1.mono p2 s2) r2 h2
theorem me_callK0 {k : Nat} {x : Str} {as : Arguments} {ps ks : List Str} {f : FM} {p : Pos} {ord : List Nat} (Fo : FOk (gOf X) k x as ps f) (hr : Rm k X.A) (tk : Takes X W) (hB : KwB as ps ks ord) (hkw : MK X W kws km)
    (hg : Gl X x := by rfl) (hdb : (x == ("__debug__" : Str)) = false := by decide)
    (hall : (backToKw pos (keywordEach kws X.env)).all (·.1.isSome) = true := by rfl) (hks : (backToKw pos (keywordEach kws X.env)).filterMap (·.1) = ks := by rfl)
    (hpl : ((backTo pos (starEach [] X.env)).any (·.1) || (backToKw pos (keywordEach kws X.env)).any (·.1.isNone)) = false := by rfl) : ME X W (.Call (.Name x p) [] kws pos) (callKM f ord ks.length nilM km) := by
  obtain ⟨fa, fd, Fn, hm, hk, _, _, _, _, _, _, _, _, _, _, rfl⟩ := id Fo.ex
  refine PE.imp (pe_callGK0 Fn hr tk hg hm hk (kw_binds hB) hkw hall hks hdb hpl) fun σ H Q ⟨φ, F, hp, loc, o, l, h⟩ => ?_
  refine ⟨φ, F, hp, loc, o, l, (PostG.bind (R := RvL (gOf X)) (show PostG (gOf X) (RvV (gOf X)) φ F (fun c d H' => W c d σ H') Q ((km loc hp).bind fun vs hp2 => if vs.length = ks.length then f ([] ++ pick ord vs) hp2 else .bad) from h)).imp fun ys H2 ⟨φ2, F2, hp2, vs, p2, s2, o2, r2, _, h2⟩ => ?_⟩
  exact callK_reads (us := []) (xs := []) Fo o2 .nil r2 h2
end
end Fz

set_option Elab.async false
set_option linter.all false
set_option maxRecDepth 100000
set_option maxHeartbeats 4000000
/-! Fz2: tests, and or not, statements, loops, comprehensions, a def -/
namespace Fz
open PySem PySem.Spec PyProof.Rows L2

/-! ### tests -/
def MW (X : Cx) (W : WX) (e : Expr) (m : TM) : Prop := PW X e (tT (gOf X) W m)
section
variable {X : Cx} {W : WX} {a b c e : Expr} {es rest : List Expr} {ma mb mc : EM} {ta tb : TM} {am : AM} {pos : Pos}
theorem rp_bool {K : PySem.W.Frag} {F : Hp} {x : V} {b : Bool} (h : Rp K F x (.bool b)) : x = .bl b := by cases h; rfl
theorem mt_val (h : ME X W e ma) (he : ∀ whole, isTrue e X.env whole = (do let v ← whole; standAt e.pos; holding [v] (truthy v)) := by intro _; rfl) : MT X W e (tstM ma) := by
  refine PT.imp (pt_val h he) fun σ H Q ⟨φ, F, hp, loc, o, l, h⟩ => ?_
  refine ⟨φ, F, hp, loc, o, l, (PostG.bind (R := RvV (gOf X)) h).imp fun x H1 ⟨φ1, F1, hp1, u, p1, s1, o1, r1, _, h1⟩ => ?_⟩
  cases u with
  | r n => exact h1.elim
  | s n => exact h1.elim
  | w n => exact h1.elim
  | d x =>
    cases x with
    | bool b =>
      have e := rp_bool r1
      subst e
      exact ⟨b, rfl, PostG.here (g := gOf X) (R := fun _ _ a b => a = b) o1 rfl h1⟩
    | _ => exact h1.elim
/-- a comparison as a test -/
theorem mt_cmp {op : CmpOp} {r : R2} {f : D → D → Option D} (ho : OpR X (compareOp op) r) (hs : OpS X.K r f) (ha : ME X W a ma) (hb : ME X W b mb) (hm : behindInMarks op b = false := by first | exact nomark _ | rfl) : MT X W (.Compare a [op] [b] pos) (tstM (opM f ma mb)) := by
  have h : ∀ tx ty, PE X a tx → PE X b ty → PT X (.Compare a [op] [b] pos) (tTest (tOp r tx ty)) := fun _ _ h1 h2 => pt_cmpR ho h1 h2 hm
  have q : ME X W (.Compare a [op] [b] pos) (opM f ma mb) := me_cmp ho hs ha hb hm
  refine PT.imp (h _ _ ha hb) fun σ H Q ⟨φ, F, hp, loc, o, l, h⟩ => ?_
  show tOp r (tE (gOf X) W ma) (tE (gOf X) W mb) σ H fun x H1 => ∃ k, x = .bl k ∧ Q k H1
  have h' : PostG (gOf X) (fun _ _ a b => a = b) φ F (fun c d H' => W c d σ H') Q (tstM (opM f ma mb) loc hp) := h
  have key : tE (gOf X) W (opM f ma mb) σ H fun x H1 => ∃ k, x = .bl k ∧ Q k H1 := by
    refine ⟨φ, F, hp, loc, o, l, (PostG.bind (R := RvV (gOf X)) h').imp fun x H1 ⟨φ1, F1, hp1, u, p1, s1, o1, r1, _, h1⟩ => ?_⟩
    cases u with
    | r n => exact h1.elim
    | s n => exact h1.elim
    | w n => exact h1.elim
    | d x =>
      cases x with
      | bool b =>
        have e := rp_bool r1
        subst e
        exact ⟨b, rfl, PostG.here (g := gOf X) (R := fun _ _ a b => a = b) o1 rfl h1⟩
      | _ => exact h1.elim
  obtain ⟨φ, F, hp, loc, o, l, h⟩ := key
  refine ⟨φ, F, hp, loc, o, l, (PostG.bind (R := RvV (gOf X)) h).imp fun x H1 ⟨φ1, F1, hp1, u, p1, s1, o1, r1, _, h1⟩ => ?_⟩
  refine ⟨φ1, F1, hp1, loc, o1, l.mono p1 s1, (PostG.bind (R := RvV (gOf X)) h1).imp fun y H2 ⟨φ2, F2, hp2, v, p2, s2, o2, r2, _, h2⟩ => ?_⟩
  have r1' := r1.mono p2 s2
  cases q1 : viewD hp2 u with
  | none => rw [q1] at h2; exact h2.elim
  | some d =>
    cases q2 : viewD hp2 v with
    | none => rw [q1, q2] at h2; exact h2.elim
    | some e' =>
      rw [q1, q2] at h2
      dsimp only at h2
      cases q3 : f d e' with
      | none => rw [q3] at h2; exact h2.elim
      | some w =>
        rw [q3] at h2
        exact hs F2 H2 x y d e' w _ o2.ex (o2.view r1' q1) (o2.view r2 q2) q3 fun x' F' H' gr rp => PostG.grown (g := gOf X) o2 gr (show RvV (gOf X) φ2 F' x' (.d w) from rp) h2
theorem mw_and1 (ha : MT X W a ta) : MW X W (.BoolOp .And [a] pos) ta := pw_and1 ha
theorem mw_or1 (ha : MT X W a ta) : MW X W (.BoolOp .Or [a] pos) ta := pw_or1 ha
theorem mw_and (ha : MT X W a ta) (hb : MW X W (.BoolOp .And (b :: rest) pos) tb) : MW X W (.BoolOp .And (a :: b :: rest) pos) (andT ta tb) := by
  refine PW.imp (pw_and ha hb) fun σ H Q ⟨φ, F, hp, loc, o, l, h⟩ => ?_
  refine ⟨φ, F, hp, loc, o, l, (PostG.bind (R := fun _ _ a b => a = b) h).imp fun x H1 ⟨φ1, F1, hp1, u, p1, s1, o1, r1, _, h1⟩ => ?_⟩
  subst r1
  cases x with
  | true => exact ⟨φ1, F1, hp1, loc, o1, l.mono p1 s1, h1⟩
  | false => exact PostG.here (g := gOf X) (R := fun _ _ a b => a = b) o1 rfl h1
theorem mw_or (ha : MT X W a ta) (hb : MW X W (.BoolOp .Or (b :: rest) pos) tb) : MW X W (.BoolOp .Or (a :: b :: rest) pos) (orT ta tb) := by
  refine PW.imp (pw_or ha hb) fun σ H Q ⟨φ, F, hp, loc, o, l, h⟩ => ?_
  refine ⟨φ, F, hp, loc, o, l, (PostG.bind (R := fun _ _ a b => a = b) h).imp fun x H1 ⟨φ1, F1, hp1, u, p1, s1, o1, r1, _, h1⟩ => ?_⟩
  subst r1
  cases x with
  | true => exact PostG.here (g := gOf X) (R := fun _ _ a b => a = b) o1 rfl h1
  | false => exact ⟨φ1, F1, hp1, loc, o1, l.mono p1 s1, h1⟩
theorem mt_bo (h : MW X W e ta) : MT X W e ta := PW.pt h
theorem mt_not (ha : MT X W a ta) : MT X W (.UnaryOp .Not a pos) (notT ta) := by
  refine PT.imp (pt_not ha) fun σ H Q ⟨φ, F, hp, loc, o, l, h⟩ => ?_
  refine ⟨φ, F, hp, loc, o, l, (PostG.bind (R := fun _ _ a b => a = b) h).imp fun x H1 ⟨φ1, F1, hp1, u, p1, s1, o1, r1, _, h1⟩ => ?_⟩
  subst r1
  exact PostG.here (g := gOf X) (R := fun _ _ a b => a = b) o1 rfl h1

/-! ### and, or, not as values -/
theorem me_one {op} (h : ME X W a ma) : ME X W (.BoolOp op [a] pos) ma := pe_one h
theorem me_and (ha : ME X W a ma) (hb : ME X W (.BoolOp .And (b :: rest) pos) mb) : ME X W (.BoolOp .And (a :: b :: rest) pos) (andE ma mb) := by
  refine PE.imp (pe_and ha hb) fun σ H Q ⟨φ, F, hp, loc, o, l, h⟩ => ?_
  refine ⟨φ, F, hp, loc, o, l, (PostG.bind (R := RvV (gOf X)) h).imp fun x H1 ⟨φ1, F1, hp1, u, p1, s1, o1, r1, _, h1⟩ => ?_⟩
  cases u with
  | r n => exact h1.elim
  | s n => exact h1.elim
  | w n => exact h1.elim
  | d x =>
    cases x with
    | bool b =>
      have e := rp_bool r1
      subst e
      refine ⟨b, rfl, ?_⟩
      cases b with
      | true => exact ⟨φ1, F1, hp1, loc, o1, l.mono p1 s1, h1⟩
      | false => exact PostG.here (g := gOf X) (R := RvV (gOf X)) o1 r1 h1
    | _ => exact h1.elim
theorem me_or (ha : ME X W a ma) (hb : ME X W (.BoolOp .Or (b :: rest) pos) mb) : ME X W (.BoolOp .Or (a :: b :: rest) pos) (orE ma mb) := by
  refine PE.imp (pe_or ha hb) fun σ H Q ⟨φ, F, hp, loc, o, l, h⟩ => ?_
  refine ⟨φ, F, hp, loc, o, l, (PostG.bind (R := RvV (gOf X)) h).imp fun x H1 ⟨φ1, F1, hp1, u, p1, s1, o1, r1, _, h1⟩ => ?_⟩
  cases u with
  | r n => exact h1.elim
  | s n => exact h1.elim
  | w n => exact h1.elim
  | d x =>
    cases x with
    | bool b =>
      have e := rp_bool r1
      subst e
      refine ⟨b, rfl, ?_⟩
      cases b with
      | false => exact ⟨φ1, F1, hp1, loc, o1, l.mono p1 s1, h1⟩
      | true => exact PostG.here (g := gOf X) (R := RvV (gOf X)) o1 r1 h1
    | _ => exact h1.elim
theorem me_not (ha : ME X W a ma) : ME X W (.UnaryOp .Not a pos) (notE ma) := by
  refine PE.imp (pe_not ha) fun σ H Q ⟨φ, F, hp, loc, o, l, h⟩ => ?_
  refine ⟨φ, F, hp, loc, o, l, (PostG.bind (R := RvV (gOf X)) h).imp fun x H1 ⟨φ1, F1, hp1, u, p1, s1, o1, r1, _, h1⟩ => ?_⟩
  cases u with
  | r n => exact h1.elim
  | s n => exact h1.elim
  | w n => exact h1.elim
  | d x =>
    cases x with
    | bool b =>
      have e := rp_bool r1
      subst e
      exact ⟨b, rfl, PostG.here (g := gOf X) (R := RvV (gOf X)) o1 (show RvV (gOf X) φ1 F1 (.bl (!b)) (.d (.bool (!b))) from .bl _) h1⟩
    | _ => exact h1.elim
theorem me_ite (hc : MT X W c ta) (ha : ME X W a ma) (hb : ME X W b mb) : ME X W (.IfExp c a b pos) (iteE ta ma mb) := by
  refine PE.imp (pe_ifExp hc ha hb) fun σ H Q ⟨φ, F, hp, loc, o, l, h⟩ => ?_
  refine ⟨φ, F, hp, loc, o, l, (PostG.bind (R := fun _ _ a b => a = b) h).imp fun x H1 ⟨φ1, F1, hp1, u, p1, s1, o1, r1, _, h1⟩ => ?_⟩
  subst r1
  cases x with
  | true => exact ⟨φ1, F1, hp1, loc, o1, l.mono p1 s1, h1⟩
  | false => exact ⟨φ1, F1, hp1, loc, o1, l.mono p1 s1, h1⟩
theorem me_chain {op op' : CmpOp} {r r' : R2} {f f' : D → D → Option D} (ho : OpR X (compareOp op) r) (ho' : OpR X (compareOp op') r') (hs : OpS X.K r f) (hs' : OpS X.K r' f') (ha : ME X W a ma) (hb : ME X W b mb) (hc : ME X W c mc)
    (hm : lastMarks [op, op'] [b, c] = false := by with_unfolding_all rfl) : ME X W (.Compare a [op, op'] [b, c] pos) (chainM f f' ma mb mc) := by
  refine PE.imp (pe_chain ho ho' ha hb hc hm) fun σ H Q ⟨φ, F, hp, loc, o, l, h⟩ => ?_
  refine ⟨φ, F, hp, loc, o, l, (PostG.bind (R := RvV (gOf X)) h).imp fun x H1 ⟨φ1, F1, hp1, u, p1, s1, o1, r1, _, h1⟩ => ?_⟩
  refine ⟨φ1, F1, hp1, loc, o1, l.mono p1 s1, (PostG.bind (R := RvV (gOf X)) h1).imp fun y H2 ⟨φ2, F2, hp2, v, p2, s2, o2, r2, _, h2⟩ => ?_⟩
  have r1' := r1.mono p2 s2
  have l2 := (l.mono p1 s1).mono p2 s2
  cases q1 : viewD hp2 u with
  | none => rw [q1] at h2; exact h2.elim
  | some d =>
    cases q2 : viewD hp2 v with
    | none => rw [q1, q2] at h2; exact h2.elim
    | some e' =>
      rw [q1, q2] at h2
      dsimp only at h2
      cases q3 : f d e' with
      | none => rw [q3] at h2; exact h2.elim
      | some w =>
        rw [q3] at h2
        refine hs F2 H2 x y d e' w _ o2.ex (o2.view r1' q1) (o2.view r2 q2) q3 fun x' F' H' gr rp => ?_
        cases w with
        | bool k =>
          have e := rp_bool rp
          subst e
          refine ⟨k, rfl, ?_⟩
          have o3 := o2.grow gr
          cases k with
          | false => exact PostG.here (g := gOf X) (R := RvV (gOf X)) o3 (show RvV (gOf X) φ2 F' (.bl false) (.d (.bool false)) from .bl _) (PostG.weak (List.prefix_refl _) gr.f h2)
          | true =>
            refine ⟨φ2, F', hp2, loc, o3, l2.mono (List.prefix_refl _) gr.f, (PostG.bind (R := RvV (gOf X)) (PostG.weak (List.prefix_refl _) gr.f h2)).imp fun z H4 ⟨φ4, F4, hp4, w', p4, s4, o4, r4, _, h4⟩ => ?_⟩
            have r2' := (r2.mono (List.prefix_refl _) gr.f).mono p4 s4
            cases q5 : viewD hp4 v with
            | none => rw [q5] at h4; exact h4.elim
            | some y5 =>
              cases q6 : viewD hp4 w' with
              | none => rw [q5, q6] at h4; exact h4.elim
              | some z6 =>
                rw [q5, q6] at h4
                dsimp only at h4
                cases q7 : f' y5 z6 with
                | none => rw [q7] at h4; exact h4.elim
                | some w7 =>
                  rw [q7] at h4
                  exact hs' F4 H4 y z y5 z6 w7 Q o4.ex (o4.view r2' q5) (o4.view r4 q6) q7 fun x' F' H' gr rp => PostG.grown (g := gOf X) o4 gr (show RvV (gOf X) φ4 F' x' (.d w7) from rp) h4
        | _ => exact h2.elim
end

/-! ### statements -/
def Res.toS {α : Type} (loc : Ls) (r : Res α) (k : α → List O → RS) : RS := match r with
  | .ok v hp => k v hp
  | .exc e hp => .exc e loc hp
  | .bad => .bad
def seqM (a b : SM) : SM := fun loc hp => match a loc hp with
  | .ok .nx loc1 hp1 => b loc1 hp1
  | r => r
def skipM : SM := fun loc hp => .ok .nx loc hp
def brkM : SM := fun loc hp => .ok .bk loc hp
def cntM : SM := fun loc hp => .ok .ct loc hp
def asgM (i : Nat) (a : EM) : SM := fun loc hp => (a loc hp).toS loc fun v hp1 => .ok .nx (loc.set i (some v)) hp1
def exprM (a : EM) : SM := fun loc hp => (a loc hp).toS loc fun _ hp1 => .ok .nx loc hp1
def retM (a : EM) : SM := fun loc hp => (a loc hp).toS loc fun v hp1 => .ok (.rt v) loc hp1
def retNM : SM := fun loc hp => .ok (.rt (.d .none)) loc hp
def ifM (c : TM) (a b : SM) : SM := fun loc hp => (c loc hp).toS loc fun u hp1 => if u = true then a loc hp1 else b loc hp1
section
variable {g : Gb} {α β : Type} {R : List Addr → Hp → β → α → Prop} {φ φ1 : List Addr} {F F1 : Hp} {W : WX} {E E' : Ends}
theorem PostS.weak {r : RS} (p : φ <+: φ1) (s : Same F F1) (h : PostS g φ F W E r) : PostS g φ1 F1 W E r := by
  cases r with
  | ok f loc hp => exact fun φ' F' H' σ' a b => h φ' F' H' σ' (p.trans a) (s.trans b)
  | exc e loc hp => exact fun φ' F' H' σ' C dx x a b => h φ' F' H' σ' C dx x (p.trans a) (s.trans b)
  | bad => exact h
theorem PostS.bind {r : Res α} {k : α → List O → RS} {loc : Ls} {σ : L2.St} (l : Loc g φ F loc σ) (h : PostS g φ F W E (r.toS loc k)) :
    PostG g R φ F (fun c d H' => W c d σ H') (fun x H1 => ∃ φ1 F1 hp1 v, φ <+: φ1 ∧ Same F F1 ∧ Own g φ1 F1 hp1 H1 ∧ R φ1 F1 x v ∧ r = .ok v hp1 ∧ PostS g φ1 F1 W E (k v hp1)) r := by
  cases r with
  | ok v hp => exact fun φ' F' H' x a b c d => ⟨φ', F', hp, v, a, b, c, d, rfl, PostS.weak a b h⟩
  | exc e hp => exact fun φ' F' H' C dx x a b c d e f => h φ' F' H' σ C dx x a b c (l.mono a b) d e f
  | bad => exact h
theorem PostS.here {f : Flw} {loc : Ls} {hp : List O} {H : Hp} {σ : L2.St} (o : Own g φ F hp H) (l : Loc g φ F loc σ) (h : PostS g φ F W E (.ok f loc hp)) : atEnd g φ F E σ H f := h φ F H σ (List.prefix_refl _) (Same.refl _) o l
end
section
variable {X : Cx} {W : WX} {a b c e : Expr} {st : Stmt} {sts rest : List Stmt} {ma mb mc : EM} {ta tb : TM} {am : AM} {m m' : SM} {pos : Pos}
theorem mss_nil : MSs X W [] skipM := by
  refine PSs.imp pss_nil fun E σ H ⟨φ, F, hp, loc, o, l, h⟩ => ?_
  exact PostS.here (g := gOf X) o l h
theorem mss_cons (h1 : MS X W st m) (h2 : MSs X W rest m') : MSs X W (st :: rest) (seqM m m') := by
  refine PSs.imp (pss_cons h1 h2) fun E σ H ⟨φ, F, hp, loc, o, l, h⟩ => ?_
  refine ⟨φ, F, hp, loc, o, l, ?_⟩
  unfold seqM at h
  cases q : m loc hp with
  | ok f loc1 hp1 =>
    rw [q] at h
    cases f with
    | nx => exact fun φ' F' H' σ' a b c d => ⟨φ', F', hp1, loc1, c, d, PostS.weak a b h⟩
    | bk => exact h
    | ct => exact h
    | rt v => exact h
  | exc e loc1 hp1 => rw [q] at h; exact h
  | bad => rw [q] at h; exact h
theorem mss_one (h1 : MS X W st m) : MSs X W [st] m := pss_one h1
theorem ms_pass : MS X W (.Pass pos) skipM := by
  refine PS.imp ps_pass fun E σ H ⟨φ, F, hp, loc, o, l, h⟩ => ?_
  exact PostS.here (g := gOf X) o l h
theorem ms_break : MS X W (.Break pos) brkM := by
  refine PS.imp ps_break fun E σ H ⟨φ, F, hp, loc, o, l, h⟩ => ?_
  exact PostS.here (g := gOf X) o l h
theorem ms_continue : MS X W (.Continue pos) cntM := by
  refine PS.imp ps_continue fun E σ H ⟨φ, F, hp, loc, o, l, h⟩ => ?_
  exact PostS.here (g := gOf X) o l h
theorem ms_expr (he : ME X W e ma) (hs : swapsWith e none pos.line X.env = pure false := by rfl) : MS X W (.Expr e pos) (exprM ma) := by
  refine PS.imp (ps_expr he hs) fun E σ H ⟨φ, F, hp, loc, o, l, h⟩ => ?_
  refine ⟨φ, F, hp, loc, o, l, (PostS.bind (R := RvV (gOf X)) l h).imp fun x H1 ⟨φ1, F1, hp1, u, p1, s1, o1, r1, _, h1⟩ => ?_⟩
  exact PostS.here (g := gOf X) o1 (l.mono p1 s1) h1
theorem ms_ret (he : ME X W e ma) : MS X W (.Return (some e) pos) (retM ma) := by
  refine PS.imp (ps_ret he) fun E σ H ⟨φ, F, hp, loc, o, l, h⟩ => ?_
  refine ⟨φ, F, hp, loc, o, l, (PostS.bind (R := RvV (gOf X)) l h).imp fun x H1 ⟨φ1, F1, hp1, u, p1, s1, o1, r1, _, h1⟩ => ?_⟩
  exact PostS.here (g := gOf X) o1 (l.mono p1 s1) h1 x r1
theorem ms_retN : MS X W (.Return none pos) retNM := by
  refine PS.imp ps_retN fun E σ H ⟨φ, F, hp, loc, o, l, h⟩ => ?_
  exact PostS.here (g := gOf X) o l h .non .non
theorem ms_if {s1 s2 : List Stmt} (hc : MT X W c ta) (h1 : MSs X W s1 m) (h2 : MSs X W s2 m') : MS X W (.If c s1 s2 pos) (ifM ta m m') := by
  refine PS.imp (ps_if hc h1 h2) fun E σ H ⟨φ, F, hp, loc, o, l, h⟩ => ?_
  refine ⟨φ, F, hp, loc, o, l, (PostS.bind (R := fun _ _ a b => a = b) l h).imp fun x H1 ⟨φ1, F1, hp1, u, p1, s1, o1, r1, _, h1⟩ => ?_⟩
  subst r1
  cases x with
  | true => exact ⟨φ1, F1, hp1, loc, o1, l.mono p1 s1, h1⟩
  | false => exact ⟨φ1, F1, hp1, loc, o1, l.mono p1 s1, h1⟩
theorem ms_set {i : Nat} {x : Str} {pos' : Pos} (hN : X.N.Nodup) (he : ME X W e ma) (hi : X.N[i]? = some x := by rfl) (hx : L2.Loc X.env.scope x := by first | exact Or.inl rfl | exact Or.inr rfl) (hs : swapsWith e (some (.Name x pos')) pos.line X.env = pure false := by rfl)
    (hf : X.fn x = true ∨ X.env.scope.names.lookup x = some .local := by first | exact .inl rfl | exact .inr rfl) : MS X W (.Assign [.Name x pos'] e pos) (asgM i ma) := by
  refine PS.imp (ps_set hN hi hx he hs hf) fun E σ H ⟨φ, F, hp, loc, o, l, h⟩ => ?_
  refine ⟨φ, F, hp, loc, o, l, (PostS.bind (R := RvV (gOf X)) l h).imp fun x H1 ⟨φ1, F1, hp1, u, p1, s1, o1, r1, _, h1⟩ => ?_⟩
  exact PostS.here (g := gOf X) o1 ((l.mono p1 s1).set r1) h1
end

/-! ### targets -/
abbrev GM := Vl → Ls → List O → Option Ls
def gN (i : Nat) : GM := fun v loc _ => some (loc.set i (some v))
def goG (hp : List O) : List GM → List D → Ls → Option Ls
  | [], [], loc => some loc
  | f :: fs, d :: ds, loc => (f (.d d) loc hp).bind fun loc1 => goG hp fs ds loc1
  | _, _, _ => none
def gT (fs : List GM) : GM := fun v loc hp => match v with
  | .w ds => goG hp fs ds loc
  | v => (match viewD hp v with
    | some (.tuple ds) => goG hp fs ds loc
    | some (.list ds) => goG hp fs ds loc
    | _ => none)
/-- the slots beside sl are as they were -/
def Bes (sl : List Nat) (σ σ' : L2.St) : Prop := σ'.length = σ.length ∧ ∀ i, i ∉ sl → σ'[i]? = σ[i]?
theorem Bes.refl {sl : List Nat} {σ : L2.St} : Bes sl σ σ := ⟨rfl, fun _ _ => rfl⟩
theorem Bes.set {i : Nat} {x : Option V} {σ : L2.St} : Bes [i] σ (σ.set i x) := ⟨List.length_set, fun j h => List.getElem?_set_ne (fun e => h (by rw [e]; simp))⟩
theorem Bes.trans {a b : List Nat} {σ σ1 σ2 : L2.St} (h : Bes a σ σ1) (k : Bes b σ1 σ2) : Bes (a ++ b) σ σ2 :=
  ⟨k.1.trans h.1, fun i hi => (k.2 i fun z => hi (List.mem_append_right _ z)).trans (h.2 i fun z => hi (List.mem_append_left _ z))⟩
def tG (g : Gb) (f : GM) (sl : List Nat) : TG := fun v σ H Q => ∃ φ F hp loc u loc', Own g φ F hp H ∧ Loc g φ F loc σ ∧ RvV g φ F v u ∧ f u loc hp = some loc' ∧ ∀ σ', Loc g φ F loc' σ' → Bes sl σ σ' → Q σ' H
def tGs (g : Gb) (fs : List GM) (sl : List Nat) : TGs := fun vs σ H Q => ∃ φ F hp loc us loc', Own g φ F hp H ∧ Loc g φ F loc σ ∧ RpL g.K F vs us ∧ goG hp fs us loc = some loc' ∧ ∀ σ', Loc g φ F loc' σ' → Bes sl σ σ' → Q σ' H
def MG (X : Cx) (tg : Expr) (f : GM) (sl : List Nat) : Prop := PG X tg (tG (gOf X) f sl)
def MGs (X : Cx) (tgs : List Expr) (fs : List GM) (sl : List Nat) : Prop := PGs X tgs (tGs (gOf X) fs sl)
theorem PG.imp {X : Cx} {e : Expr} {t t' : TG} (h : PG X e t) (i : ∀ v σ H Q, t' v σ H Q → t v σ H Q) : PG X e t' := ⟨fun pins s σ H v u Q I r q => h.run pins s σ H v u Q I r (i v σ H Q q)⟩
theorem PGs.imp {X : Cx} {e : List Expr} {t t' : TGs} (h : PGs X e t) (i : ∀ v σ H Q, t' v σ H Q → t v σ H Q) : PGs X e t' := ⟨fun pins s σ H v u Q I r q => h.run pins s σ H v u Q I r (i v σ H Q q)⟩
theorem PG.or {X : Cx} {e : Expr} {t t' : TG} (h : PG X e t) (h' : PG X e t') : PG X e (fun v σ H Q => t v σ H Q ∨ t' v σ H Q) := ⟨fun pins s σ H v u Q I r q => q.elim (h.run pins s σ H v u Q I r) (h'.run pins s σ H v u Q I r)⟩
section
variable {X : Cx} {pos : Pos} {e : Expr} {es : List Expr} {f : GM} {fs : List GM} {sl sm : List Nat}
theorem mg_name {i : Nat} {x : Str} (hN : X.N.Nodup) (hi : X.N[i]? = some x := by rfl) (hx : L2.Loc X.env.scope x := by first | exact Or.inl rfl | exact Or.inr rfl) (hf : X.fn x = true ∨ X.env.scope.names.lookup x = some .local := by first | exact .inl rfl | exact .inr rfl) :
    MG X (.Name x pos) (gN i) [i] := by
  refine PG.imp (pg_name hN hi hx hf) fun v σ H Q ⟨φ, F, hp, loc, u, loc', o, l, r, h, q⟩ => ?_
  cases h
  exact q _ (l.set r) Bes.set
theorem mgs_nil : MGs X [] [] [] := by
  refine PGs.imp pgs_nil fun vs σ H Q ⟨φ, F, hp, loc, us, loc', o, l, r, h, q⟩ => ?_
  cases r with
  | nil =>
    cases h
    exact ⟨rfl, q _ l Bes.refl⟩
  | cons _ _ => cases h
theorem mgs_cons (h1 : MG X e f sl) (h2 : MGs X es fs sm) (hs : (assignEach (e :: es) X.env).map (·.2) = assign e X.env :: (assignEach es X.env).map (·.2) := by rfl) : MGs X (e :: es) (f :: fs) (sl ++ sm) := by
  refine PGs.imp (pgs_cons h1 h2 hs) fun vs σ H Q ⟨φ, F, hp, loc, us, loc', o, l, r, h, q⟩ => ?_
  cases r with
  | nil => cases h
  | @cons v vs' d ds ra rb =>
    unfold goG at h
    cases q1 : f (.d d) loc hp with
    | none => rw [q1] at h; cases h
    | some loc1 =>
      rw [q1] at h
      exact ⟨v, vs', rfl, φ, F, hp, loc, .d d, loc1, o, l, ra, q1, fun σ1 l1 b1 => ⟨φ, F, hp, loc1, ds, loc', o, l1, rb, h, fun σ2 l2 b2 => q σ2 l2 (b1.trans b2)⟩⟩
theorem goG_len {hp : List O} : ∀ {fs : List GM} {ds : List D} {loc loc' : Ls}, goG hp fs ds loc = some loc' → fs.length = ds.length
  | [], [], _, _, _ => rfl
  | f :: fs, d :: ds, loc, loc', h => by
    unfold goG at h
    cases q1 : f (.d d) loc hp with
    | none => rw [q1] at h; cases h
    | some loc1 =>
      rw [q1] at h
      rw [List.length_cons, List.length_cons, goG_len h]
  | [], _ :: _, _, _, h => by cases h
  | _ :: _, [], _, _, h => by cases h
theorem mg_tup {k : Nat} (hc : X.calm = true) (h : MGs X es fs sl) (hn : (assignEach es X.env).length = fs.length := by rfl) (hst : (assignEach es X.env).findIdx? (·.1) = none := by rfl) : MG X (.Tuple es k pos) (gT fs) sl := by
  refine PG.imp (PG.or (pg_tup hc h hn hst) (pg_lst hc h hn hst)) fun v σ H Q ⟨φ, F, hp, loc, u, loc', o, l, r, h, q⟩ => ?_
  have key : ∀ {d : D}, viewD hp u = some d → (match some d with
    | some (.tuple ds) => goG hp fs ds loc
    | some (.list ds) => goG hp fs ds loc
    | _ => none) = some loc' → gTup X.K fs.length (tGs (gOf X) fs sl) v σ H Q ∨ gLst X.K fs.length (tGs (gOf X) fs sl) v σ H Q := fun {d} q1 h => by
    have vw := o.view r q1
    cases d with
    | tuple ds =>
      cases vw with
      | kn vk => cases vk with | tup ha hz rl => exact .inl ⟨_, _, rfl, sm_t o.ex ha.sq, by rw [rl.len, goG_len h], φ, F, hp, loc, ds, loc', o, l, rl, h, q⟩
    | list ds =>
      cases vw with
      | kn vk => cases vk with | lst ha hz rl => exact .inr ⟨_, _, rfl, o.ex.seq ha, by rw [rl.len, goG_len h], φ, F, hp, loc, ds, loc', o, l, rl, h, q⟩
      | lst ha hz rl => exact .inr ⟨_, _, rfl, SqL.of ha, by rw [rl.len, goG_len h], φ, F, hp, loc, ds, loc', o, l, rl, h, q⟩
    | _ => cases h
  unfold gT at h
  cases u with
  | w ds =>
    obtain ⟨a, xs, rfl, ha, rl⟩ := r
    exact .inl ⟨a, xs, rfl, sm_t o.ex ha, by rw [rl.len, goG_len h], φ, F, hp, loc, ds, loc', o, l, rl, h, q⟩
  | d x =>
    dsimp only at h
    cases q1 : viewD hp (.d x) with
    | none => rw [q1] at h; cases h
    | some y => rw [q1] at h; exact key q1 h
  | s x => cases h
  | r n =>
    dsimp only at h
    cases q1 : viewD hp (.r n) with
    | none => rw [q1] at h; cases h
    | some y => rw [q1] at h; exact key q1 h
end
def asgG (f : GM) (a : EM) : SM := fun loc hp => (a loc hp).toS loc fun v hp1 => match f v loc hp1 with
  | some loc1 => .ok .nx loc1 hp1
  | none => .bad
theorem ms_asg {X : Cx} {W : WX} {pos : Pos} {tg e : Expr} {f : GM} {sl : List Nat} {ma : EM} (he : ME X W e ma) (hg : MG X tg f sl) (hs : swapsWithSole [tg] e pos.line X.env = pure false := by rfl) (hw : swappedStores [tg] e X.env = pure none := by rfl)
    (h1 : (assignEach [tg] X.env).map (·.2) = [assign tg X.env] := by rfl) : MS X W (.Assign [tg] e pos) (asgG f ma) := by
  refine PS.imp (ps_asg he hg hs hw h1) fun E σ H ⟨φ, F, hp, loc, o, l, h⟩ => ?_
  refine ⟨φ, F, hp, loc, o, l, (PostS.bind (R := RvV (gOf X)) l h).imp fun x H1 ⟨φ1, F1, hp1, u, p1, s1, o1, r1, _, h1⟩ => ?_⟩
  cases q : f u loc hp1 with
  | none => rw [q] at h1; exact h1.elim
  | some loc1 =>
    rw [q] at h1
    exact ⟨φ1, F1, hp1, loc, u, loc1, o1, l.mono p1 s1, r1, q, fun σ' l' _ => PostS.here (g := gOf X) o1 l' h1⟩
/-- a, b = x, y -/
def parM (i j : Nat) (a : AM) : SM := fun loc hp => (a loc hp).toS loc fun vs hp1 => match vs with
  | [v, w] => .ok .nx ((loc.set i (some v)).set j (some w)) hp1
  | _ => .bad
theorem ms_par {X : Cx} {W : WX} {i j : Nat} {x y : Str} {a b : Expr} {am : AM} {px py pt pos : Pos} {kt k2 pt2} (hc : X.calm = true) (hN : X.N.Nodup) (ha : MA X W [a, b] am) (hi : X.N[i]? = some x := by rfl) (hj : X.N[j]? = some y := by rfl) (hij : i ≠ j := by decide)
    (hx : X.env.scope.names.lookup x = some .local := by rfl) (hy : X.env.scope.names.lookup y = some .local := by rfl)
    (hw : swappedStores [.Tuple [.Name x px, .Name y py] kt pt] (.Tuple [a, b] k2 pt2) X.env = pure (some [x, y]) := by rfl)
    (hs : swapsWithSole [.Tuple [.Name x px, .Name y py] kt pt] (.Tuple [a, b] k2 pt2) pos.line X.env = pure false := by rfl) :
    MS X W (.Assign [.Tuple [.Name x px, .Name y py] kt pt] (.Tuple [a, b] k2 pt2) pos) (parM i j am) := by
  refine PS.imp (ps_par hc hN hi hj hij hx hy ha hw hs) fun E σ H ⟨φ, F, hp, loc, o, l, h⟩ => ?_
  refine ⟨φ, F, hp, loc, o, l, (PostS.bind (R := RvL (gOf X)) l h).imp fun xs H1 ⟨φ1, F1, hp1, us, p1, s1, o1, r1, _, h1⟩ => ?_⟩
  cases r1 with
  | nil => exact h1.elim
  | cons ra rb =>
    cases rb with
    | nil => exact h1.elim
    | cons rb rc =>
      cases rc with
      | cons _ _ => exact h1.elim
      | nil => exact ⟨_, _, rfl, PostS.here (g := gOf X) o1 (((l.mono p1 s1).set ra).set rb) h1⟩
/-- x op= e, ints and the like -/
def PiS (K : PySem.W.Frag) (r : TIp) (f : D → D → Option D) : Prop :=
  ∀ (F H : Hp) (x y : V) (d e w : D) (Q : VK), Same F H → Vw K F H x d → Vw K F H y e → f d e = some w → (∀ x' F' H', Grow F F' H H' → Rp K F' x' w → Q x' H') → r x y H Q
def augM (i : Nat) (f : D → D → Option D) (a : EM) : SM := fun loc hp => match loc[i]? with
  | some (some u) => (a loc hp).toS loc fun v hp1 => (match viewD hp1 u, viewD hp1 v with
    | some x, some y => (match f x y with
      | some w => .ok .nx (loc.set i (some (.d w))) hp1
      | none => .bad)
    | _, _ => .bad)
  | _ => .bad
theorem ms_aug {X : Cx} {W : WX} {i : Nat} {x : Str} {e : Expr} {ma : EM} {op : Operator} {ti : TIp} {f : D → D → Option D} {pos' pos : Pos} (hN : X.N.Nodup) (he : ME X W e ma) (ho : PIp X op ti) (hs : PiS X.K ti f) (hi : X.N[i]? = some x := by rfl)
    (hx : L2.Loc X.env.scope x := by first | exact Or.inl rfl | exact Or.inr rfl) (hf : X.fn x = true ∨ X.env.scope.names.lookup x = some .local := by first | exact .inl rfl | exact .inr rfl) : MS X W (.AugAssign (.Name x pos') op e pos) (augM i f ma) := by
  refine PS.imp (ps_aug hN hi hx he ho hf) fun E σ H ⟨φ, F, hp, loc, o, l, h⟩ => ?_
  unfold augM at h
  cases q : loc[i]? with
  | none => rw [q] at h; exact h.elim
  | some z =>
    cases z with
    | none => rw [q] at h; exact h.elim
    | some u =>
      rw [q] at h
      dsimp only at h
      obtain ⟨x, hx, rx⟩ := l.at_ i u q
      refine ⟨x, hx, φ, F, hp, loc, o, l, (PostS.bind (R := RvV (gOf X)) l h).imp fun y H1 ⟨φ1, F1, hp1, v, p1, s1, o1, r1, _, h1⟩ => ?_⟩
      have rx' := rx.mono p1 s1
      cases q1 : viewD hp1 u with
      | none => rw [q1] at h1; exact h1.elim
      | some d =>
        cases q2 : viewD hp1 v with
        | none => rw [q1, q2] at h1; exact h1.elim
        | some e' =>
          rw [q1, q2] at h1
          dsimp only at h1
          cases q3 : f d e' with
          | none => rw [q3] at h1; exact h1.elim
          | some w =>
            rw [q3] at h1
            refine hs F1 H1 x y d e' w _ o1.ex (o1.view rx' q1) (o1.view r1 q2) q3 fun x' F' H' gr rp => ?_
            exact PostS.here (g := gOf X) (o1.grow gr) (((l.mono p1 s1).mono (List.prefix_refl _) gr.f).set (show RvV (gOf X) φ1 F' x' (.d w) from rp)) (PostS.weak (List.prefix_refl _) gr.f h1)
end Fz

set_option Elab.async false
set_option linter.all false
set_option maxRecDepth 100000
set_option maxHeartbeats 4000000
/-! Fz3: what is walked, for, while, comprehensions, a def's body -/
namespace Fz
open PySem PySem.Spec PyProof.Rows L2

/-- an object of ours that must stay as it is while it is walked -/
def Kept : Option (Nat × O) → List O → Prop
  | none, _ => True
  | some (n, o), hp => hp[n]? = some o
abbrev Src := Option (Nat × O) × List Vl
abbrev IM := Ls → List O → Res Src
/-- J walks the items -/
structure Wk (g : Gb) (J : It) (φ : List Addr) (F : Hp) (src : Src) : Prop where
  len : src.2.length ≤ sizeLine
  go : ∀ φ' F' hp' H' i v, φ <+: φ' → Same F F' → Own g φ' F' hp' H' → Kept src.1 hp' → src.2[i]? = some v → J.go i H' ∧ ∀ x H'', J.yld i H' x H'' → ∃ F'', Grow F' F'' H' H'' ∧ RvV g φ' F'' x v
  stop : ∀ φ' F' hp' H' i, φ <+: φ' → Same F F' → Own g φ' F' hp' H' → Kept src.1 hp' → src.2.length ≤ i → J.stop i H'
def tI (g : Gb) (W : WX) (m : IM) : TI := fun σ H R => ∃ φ F hp loc, Own g φ F hp H ∧ Loc g φ F loc σ ∧ PostG g (fun φ F J s => Wk g J φ F s) φ F (fun c d H' => W c d σ H') R (m loc hp)
def MI (X : Cx) (W : WX) (tg e : Expr) (m : IM) : Prop := PI X tg e (tI (gOf X) W m)
theorem PI.imp {X : Cx} {tg e : Expr} {t t' : TI} (h : PI X tg e t) (i : ∀ σ H Q, t' σ H Q → t σ H Q) : PI X tg e t' := ⟨fun pins s σ H Q I q => h.run pins s σ H Q I (i σ H Q q)⟩
theorem PI.or {X : Cx} {tg e : Expr} {t t' : TI} (h : PI X tg e t) (h' : PI X tg e t') : PI X tg e (fun σ H Q => t σ H Q ∨ t' σ H Q) := ⟨fun pins s σ H Q I q => q.elim (h.run pins s σ H Q I) (h'.run pins s σ H Q I)⟩

/-- a list or a tuple -/
def seqI (a : EM) : IM := fun loc hp => (a loc hp).bind fun v hp1 => match v with
  | .d (.list ds) => .ok (none, ds.map Vl.d) hp1
  | .d (.tuple ds) => .ok (none, ds.map Vl.d) hp1
  | .r n => (match hp1[n]? with
    | some (.lst ds) => .ok (some (n, .lst ds), ds.map Vl.d) hp1
    | _ => .bad)
  | _ => .bad
theorem wk_list {g : Gb} {φ : List Addr} {F : Hp} {a : Addr} {xs : List V} {ds : List D} (h : SqL g.K F a xs) (z : xs.length ≤ sizeLine) (r : RpL g.K F xs ds) (uniq : ∀ (H : Hp) (ys : List V), SqL g.K H a ys → Same F H → ys = xs) : True := trivial
section
variable {X : Cx} {W : WX} {e tg : Expr} {ma : EM}
theorem rpl_map {g : Gb} {φ : List Addr} {F : Hp} {xs : List V} {ds : List D} (r : RpL g.K F xs ds) {i : Nat} {v : Vl} (h : (ds.map Vl.d)[i]? = some v) : ∃ x, xs[i]? = some x ∧ RvV g φ F x v := by
  rw [List.getElem?_map] at h
  cases q : ds[i]? with
  | none => rw [q] at h; cases h
  | some d =>
    rw [q] at h
    cases h
    obtain ⟨y, h1, h2⟩ := r.get q
    exact ⟨y, h1, h2⟩
theorem mi_seq (he : ME X W e ma) : MI X W tg e (seqI ma) := by
  refine PI.imp (PI.or (pi_list he) (pi_tup he)) fun σ H R ⟨φ, F, hp, loc, o, l, h⟩ => ?_
  have hb := PostG.bind (R := RvV (gOf X)) (Q2 := R) h
  cases q : ma loc hp with
  | bad => rw [q] at hb; exact hb.elim
  | exc ex hp1 =>
    exact .inl ⟨φ, F, hp, loc, o, l, by rw [q] at hb ⊢; exact hb⟩
  | ok v hp1 =>
    have h' : PostG (gOf X) (fun φ F J s => Wk (gOf X) J φ F s) φ F (fun c d H' => W c d σ H') R ((Res.ok v hp1).bind fun v hp1 => match v with
      | .d (.list ds) => .ok (none, ds.map Vl.d) hp1
      | .d (.tuple ds) => .ok (none, ds.map Vl.d) hp1
      | .r n => (match hp1[n]? with
        | some (.lst ds) => .ok (some (n, .lst ds), ds.map Vl.d) hp1
        | _ => .bad)
      | _ => .bad) := by rw [← q]; exact h
    cases v with
    | s n =>
      refine .inl ⟨φ, F, hp, loc, o, l, ?_⟩
      rw [q]
      exact h'.elim
    | w n =>
      refine .inl ⟨φ, F, hp, loc, o, l, ?_⟩
      rw [q]
      exact h'.elim
    | r n =>
      refine .inl ⟨φ, F, hp, loc, o, l, ?_⟩
      rw [q]
      intro φ1 F1 H1 x p1 s1 o1 r1
      obtain ⟨a, ha, rfl⟩ := r1
      dsimp only [Res.bind] at h'
      cases q2 : hp1[n]? with
      | none => rw [q2] at h'; exact h'.elim
      | some ob =>
        rw [q2] at h'
        cases ob with
        | dic _ => exact h'.elim
        | gone => exact h'.elim
        | lst ds =>
          obtain ⟨vs, e1, z1, rl⟩ := o1.ob n a _ ha q2
          refine ⟨a, rfl, ⟨vs, SqL.of e1⟩, h' φ1 F1 H1 (Itl X.K a) p1 s1 o1 ⟨by rw [List.length_map, ← rl.len]; exact z1, fun φ' F' hp' H' i v p s o' kp hi => ?_, fun φ' F' hp' H' i p s o' kp hi => ?_⟩⟩
          · obtain ⟨vs', e2, z2, rl'⟩ := o'.ob n a _ (pre_get p ha) kp
            obtain ⟨y, h1, h2⟩ := rpl_map (g := gOf X) (φ := φ') rl' hi
            refine ⟨⟨vs', y, SqL.of e2, h1⟩, fun x H'' yd => ?_⟩
            obtain ⟨rfl, h3⟩ := yd
            have h4 := h3 vs' (SqL.of e2)
            rw [h1] at h4
            cases h4
            exact ⟨F', Grow.refl o'.ex, h2⟩
          · obtain ⟨vs', e2, z2, rl'⟩ := o'.ob n a _ (pre_get p ha) kp
            exact ⟨vs', SqL.of e2, by rw [rl'.len]; rw [List.length_map] at hi; exact hi⟩
    | d x =>
      cases x with
      | list ds =>
        refine .inl ⟨φ, F, hp, loc, o, l, ?_⟩
        rw [q]
        intro φ1 F1 H1 x p1 s1 o1 r1
        cases r1 with
        | @lst a vs _ h1 z1 rl =>
          refine ⟨a, rfl, ⟨vs, o1.ex.seq h1⟩, h' φ1 F1 H1 (Itl X.K a) p1 s1 o1 ⟨by rw [List.length_map, ← rl.len]; exact z1, fun φ' F' hp' H' i v p s o' kp hi => ?_, fun φ' F' hp' H' i p s o' kp hi => ?_⟩⟩
          · obtain ⟨y, h2, h3⟩ := rpl_map (g := gOf X) (φ := φ') (rl.mono s) hi
            have hq := o'.ex.seq (s.seq h1)
            refine ⟨⟨vs, y, hq, h2⟩, fun x H'' yd => ?_⟩
            obtain ⟨rfl, h4⟩ := yd
            have h5 := h4 vs hq
            rw [h2] at h5
            cases h5
            exact ⟨F', Grow.refl o'.ex, h3⟩
          · exact ⟨vs, o'.ex.seq (s.seq h1), by rw [rl.len]; rw [List.length_map] at hi; exact hi⟩
      | tuple ds =>
        refine .inr ⟨φ, F, hp, loc, o, l, ?_⟩
        rw [q]
        intro φ1 F1 H1 x p1 s1 o1 r1
        cases r1 with
        | @tup a vs _ h0 z1 rl =>
          have h1 := h0.sq
          refine ⟨a, rfl, ⟨vs, sm_t o1.ex h1⟩, h' φ1 F1 H1 (Itt X.K a) p1 s1 o1 ⟨by rw [List.length_map, ← rl.len]; exact z1, fun φ' F' hp' H' i v p s o' kp hi => ?_, fun φ' F' hp' H' i p s o' kp hi => ?_⟩⟩
          · obtain ⟨y, h2, h3⟩ := rpl_map (g := gOf X) (φ := φ') (rl.mono s) hi
            have hq := sm_t o'.ex (sm_t s h1)
            refine ⟨⟨vs, y, hq, h2⟩, fun x H'' yd => ?_⟩
            obtain ⟨rfl, h4⟩ := yd
            have h5 := h4 vs hq
            rw [h2] at h5
            cases h5
            exact ⟨F', Grow.refl o'.ex, h3⟩
          · exact ⟨vs, sm_t o'.ex (sm_t s h1), by rw [rl.len]; rw [List.length_map] at hi; exact hi⟩
      | _ => exact h'.elim
end
/-- range(a, b) -/
def rngI (lo hi : Int) : List Vl := (List.range (hi - lo).toNat).map fun i => .d (.int (lo + (i : Nat)))
def rng1 (a : AM) : IM := fun loc hp => (a loc hp).bind fun vs hp1 => match vs with
  | [.d (.int n)] => if n ≤ 1000000 ∧ -1000000 ≤ n then .ok (none, rngI 0 n) hp1 else .bad
  | _ => .bad
def rng2 (a : AM) : IM := fun loc hp => (a loc hp).bind fun vs hp1 => match vs with
  | [.d (.int m), .d (.int n)] => if (n ≤ 1000000 ∧ -1000000 ≤ n) ∧ (m ≤ 1000000 ∧ -1000000 ≤ m) then .ok (none, rngI m n) hp1 else .bad
  | _ => .bad
theorem wk_rng {g : Gb} {φ : List Addr} {F : Hp} {lo hi : Int} (h1 : -1000000 ≤ lo) (h2 : hi ≤ 1000000) : Wk g (Itr lo (hi - lo).toNat) φ F (none, rngI lo hi) := by
  refine ⟨?_, fun φ' F' hp' H' i v p s o' kp hk => ?_, fun φ' F' hp' H' i p s o' kp hk => ?_⟩
  · rw [sizeLine_eq]
    show (rngI lo hi).length ≤ 16777216
    unfold rngI
    rw [List.length_map, List.length_range]
    omega
  · have hi' : (rngI lo hi)[i]? = some v := hk
    unfold rngI at hi'
    rw [List.getElem?_map] at hi'
    cases q : (List.range (hi - lo).toNat)[i]? with
    | none => rw [q] at hi'; cases hi'
    | some k =>
      rw [q] at hi'
      have hl := (List.getElem?_eq_some_iff.mp q).1
      rw [List.length_range] at hl
      rw [List.getElem?_range hl] at q
      cases q
      cases hi'
      refine ⟨hl, fun x H'' yd => ?_⟩
      obtain ⟨rfl, rfl⟩ := yd
      exact ⟨F', Grow.refl o'.ex, Rp.int _⟩
  · have hi' : (rngI lo hi).length ≤ i := hk
    unfold rngI at hi'
    rw [List.length_map, List.length_range] at hi'
    exact hi'
theorem rp_int {K : PySem.W.Frag} {F : Hp} {x : V} {b : Int} (h : Rp K F x (.int b)) : x = .int b := by cases h; rfl
section
variable {X : Cx} {W : WX} {e e2 tg : Expr} {am : AM} {p pos : Pos}
theorem mi_rng1 (hm : X.mg "range" = none) (ha : MA X W [e] am) (hg : Gl X "range" := by rfl) (hs : starEach [e] X.env = [(false, eval e X.env)] := by rfl) : MI X W tg (.Call (.Name "range" p) [e] [] pos) (rng1 am) := by
  refine PI.imp (pi_range1 hg hm ha hs) fun σ H R ⟨φ, F, hp, loc, o, l, h⟩ => ?_
  refine ⟨φ, F, hp, loc, o, l, (PostG.bind (R := RvL (gOf X)) h).imp fun xs H1 ⟨φ1, F1, hp1, us, p1, s1, o1, r1, _, h1⟩ => ?_⟩
  cases r1 with
  | nil => exact h1.elim
  | @cons x u _ _ ra rb =>
    cases u with
    | r n => exact h1.elim
    | s n => exact h1.elim
    | w n => exact h1.elim
    | d y =>
      cases y with
      | int n =>
        cases rb with
        | cons _ _ => exact h1.elim
        | nil =>
          dsimp only at h1
          have e := rp_int ra
          subst e
          split at h1
          · rename_i hz
            refine ⟨n, rfl, by omega, by omega, ?_⟩
            have w := wk_rng (g := gOf X) (φ := φ1) (F := F1) (lo := 0) (hi := n) (by decide) hz.1
            rw [Int.sub_zero] at w
            exact PostG.here (g := gOf X) (R := fun φ F J s => Wk (gOf X) J φ F s) o1 w h1
          · exact h1.elim
      | _ => exact h1.elim
theorem mi_rng2 (hm : X.mg "range" = none) (ha : MA X W [e, e2] am) (hg : Gl X "range" := by rfl) (hs : starEach [e, e2] X.env = [(false, eval e X.env), (false, eval e2 X.env)] := by rfl) (hs2 : starEach [e2] X.env = [(false, eval e2 X.env)] := by rfl) :
    MI X W tg (.Call (.Name "range" p) [e, e2] [] pos) (rng2 am) := by
  refine PI.imp (pi_range2 hg hm ha hs hs2) fun σ H R ⟨φ, F, hp, loc, o, l, h⟩ => ?_
  refine ⟨φ, F, hp, loc, o, l, (PostG.bind (R := RvL (gOf X)) h).imp fun xs H1 ⟨φ1, F1, hp1, us, p1, s1, o1, r1, _, h1⟩ => ?_⟩
  cases r1 with
  | nil => exact h1.elim
  | @cons x u _ _ ra rb =>
    cases u with
    | r n => exact h1.elim
    | s n => exact h1.elim
    | w n => exact h1.elim
    | d y =>
      cases y with
      | int m =>
        cases rb with
        | nil => exact h1.elim
        | @cons x2 u2 _ _ rc rd =>
          cases u2 with
          | r n => exact h1.elim
          | s n => exact h1.elim
          | w n => exact h1.elim
          | d y2 =>
            cases y2 with
            | int n =>
              cases rd with
              | cons _ _ => exact h1.elim
              | nil =>
                dsimp only at h1
                have e := rp_int ra
                subst e
                have e := rp_int rc
                subst e
                split at h1
                · rename_i hz
                  refine ⟨m, n, rfl, ⟨by omega, by omega, by omega, by omega⟩, ?_⟩
                  exact PostG.here (g := gOf X) (R := fun φ F J s => Wk (gOf X) J φ F s) o1 (wk_rng hz.2.2 hz.1.1) h1
                · exact h1.elim
            | _ => exact h1.elim
      | _ => exact h1.elim
end

/-! ### for -/
open Classical in
noncomputable def forGo (keep : Option (Nat × O)) (tg : GM) (body : SM) : List Vl → Ls → List O → RS
  | [], loc, hp => if Kept keep hp then .ok .nx loc hp else .bad
  | v :: vs, loc, hp => if Kept keep hp then (match tg v loc hp with
    | none => .bad
    | some loc1 => (match body loc1 hp with
      | .ok .nx loc2 hp2 => forGo keep tg body vs loc2 hp2
      | .ok .ct loc2 hp2 => forGo keep tg body vs loc2 hp2
      | .ok .bk loc2 hp2 => .ok .nx loc2 hp2
      | r => r)) else .bad
noncomputable def forM (im : IM) (tg : GM) (body : SM) : SM := fun loc hp => (im loc hp).toS loc fun s hp1 => forGo s.1 tg body s.2 loc hp1
section
variable {X : Cx} {W : WX} {e tg : Expr} {body : List Stmt} {im : IM} {f : GM} {m : SM} {pos : Pos}
theorem drop_get {α : Type} {l : List α} {i : Nat} (h : i < l.length) : l.drop i = l[i] :: l.drop (i + 1) := List.drop_eq_getElem_cons h
theorem ms_for (po : PassesOwn (model X.prog X.w) X.A X.env X.xe) (hc : X.calm = true) (hi : MI X W tg e im) {sl : List Nat} (hg : MG X tg f sl) (hb : MSs X W body m) (hs : ∀ x, foldedSetIterable e X.env x = pure x := by intro _; rfl) :
    MS X W (.For tg e body [] pos) (forM im f m) := by
  refine PS.imp (ps_for po hc hi hg hb hs) fun E σ H ⟨φ, F, hp, loc, o, l, h⟩ => ?_
  refine ⟨φ, F, hp, loc, o, l, (PostS.bind (R := fun φ F J s => Wk (gOf X) J φ F s) l h).imp fun J H1 ⟨φ1, F1, hp1, src, p1, s1, o1, wk, _, h1⟩ => ?_⟩
  obtain ⟨keep, items⟩ := src
  refine ⟨fun i n σ' H' => n = items.length - i ∧ i ≤ items.length ∧ ∃ φ' F' hp' loc', φ1 <+: φ' ∧ Same F1 F' ∧ Own (gOf X) φ' F' hp' H' ∧ Loc (gOf X) φ' F' loc' σ' ∧ PostS (gOf X) φ' F' W E (forGo keep f m (items.drop i) loc' hp'),
    ⟨items.length, by simp, Nat.zero_le _, φ1, F1, hp1, loc, List.prefix_refl _, Same.refl _, o1, l.mono p1 s1, h1⟩, ?_⟩
  rintro i n σ' H' ⟨rfl, hi', φ', F', hp', loc', p', s', o', l', h'⟩
  by_cases hlt : i < items.length
  · rw [drop_get hlt] at h'
    unfold forGo at h'
    split at h'
    · rename_i kp
      obtain ⟨hgo, hy⟩ := wk.go φ' F' hp' H' i items[i] p' s' o' kp (List.getElem?_eq_getElem hlt)
      refine .inr ⟨hgo, fun σ2 H2 => ∃ φ2 F2 hp2 loc2, φ1 <+: φ2 ∧ Same F1 F2 ∧ Own (gOf X) φ2 F2 hp2 H2 ∧ Loc (gOf X) φ2 F2 loc2 σ2 ∧ PostS (gOf X) φ2 F2 W E (forGo keep f m (items.drop (i + 1)) loc2 hp2),
        fun σ2 H2 q => ⟨items.length - (i + 1), by omega, rfl, hlt, q⟩, fun x H'' yd => ?_⟩
      obtain ⟨F'', gr, rv⟩ := hy x H'' yd
      have o2 := o'.grow gr
      have l2 := l'.mono (List.prefix_refl _) gr.f
      cases q : f items[i] loc' hp' with
      | none => rw [q] at h'; exact h'.elim
      | some loc1 =>
        rw [q] at h'
        dsimp only at h'
        refine ⟨φ', F'', hp', loc', items[i], loc1, o2, l2, rv, q, fun σ1 l1 _ => ⟨φ', F'', hp', loc1, o2, l1, ?_⟩⟩
        cases q2 : m loc1 hp' with
        | ok fl loc2 hp2 =>
          rw [q2] at h'
          cases fl with
          | nx => exact fun φ3 F3 H3 σ3 p3 s3 o3 l3 => ⟨φ3, F3, hp2, loc2, p'.trans p3, (s'.trans gr.f).trans s3, o3, l3, PostS.weak p3 (gr.f.trans s3) h'⟩
          | ct => exact fun φ3 F3 H3 σ3 p3 s3 o3 l3 => ⟨φ3, F3, hp2, loc2, p'.trans p3, (s'.trans gr.f).trans s3, o3, l3, PostS.weak p3 (gr.f.trans s3) h'⟩
          | bk => exact fun φ3 F3 H3 σ3 p3 s3 o3 l3 => h' φ3 F3 H3 σ3 p3 (gr.f.trans s3) o3 l3
          | rt v => exact fun φ3 F3 H3 σ3 p3 s3 o3 l3 => h' φ3 F3 H3 σ3 p3 (gr.f.trans s3) o3 l3
        | exc ex loc2 hp2 =>
          rw [q2] at h'
          exact fun φ3 F3 H3 σ3 C dx x p3 s3 => h' φ3 F3 H3 σ3 C dx x p3 (gr.f.trans s3)
        | bad => rw [q2] at h'; exact h'.elim
    · exact h'.elim
  · have e : i = items.length := by omega
    subst e
    rw [List.drop_length] at h'
    unfold forGo at h'
    split at h'
    · rename_i kp
      exact .inl ⟨wk.stop φ' F' hp' H' _ p' s' o' kp (Nat.le_refl _), PostS.here (g := gOf X) o' l' h'⟩
    · exact h'.elim
end

/-! ### while -/
def whileGo (c : TM) (body : SM) : Nat → Ls → List O → RS
  | 0, _, _ => .bad
  | n + 1, loc, hp => (c loc hp).toS loc fun b hp1 => if b = true then (match body loc hp1 with
    | .ok .nx loc2 hp2 => whileGo c body n loc2 hp2
    | .ok .ct loc2 hp2 => whileGo c body n loc2 hp2
    | .ok .bk loc2 hp2 => .ok .nx loc2 hp2
    | r => r) else .ok .nx loc hp1
/-- n: more than the turns -/
def whileM (n : Nat) (c : TM) (body : SM) : SM := fun loc hp => whileGo c body n loc hp
section
variable {X : Cx} {W : WX} {c : Expr} {body : List Stmt} {tc : TM} {m : SM} {pos : Pos}
theorem ms_while (n : Nat) (po : PassesOwn (model X.prog X.w) X.A X.env X.xe) (hc : MT X W c tc) (hb : MSs X W body m) : MS X W (.While c body [] pos) (whileM n tc m) := by
  refine PS.imp (ps_while po hc hb) fun E σ H ⟨φ, F, hp, loc, o, l, h⟩ => ?_
  refine ⟨fun k σ' H' => ∃ φ' F' hp' loc', φ <+: φ' ∧ Same F F' ∧ Own (gOf X) φ' F' hp' H' ∧ Loc (gOf X) φ' F' loc' σ' ∧ PostS (gOf X) φ' F' W E (whileGo tc m k loc' hp'),
    ⟨n, φ, F, hp, loc, List.prefix_refl _, Same.refl _, o, l, h⟩, ?_⟩
  rintro k σ' H' ⟨φ', F', hp', loc', p', s', o', l', h'⟩
  cases k with
  | zero => exact h'.elim
  | succ k =>
    unfold whileGo at h'
    refine ⟨φ', F', hp', loc', o', l', (PostS.bind (R := fun _ _ a b => a = b) l' h').imp fun b H1 ⟨φ1, F1, hp1, u, p1, s1, o1, r1, _, h1⟩ => ?_⟩
    subst r1
    have l1 := l'.mono p1 s1
    cases b with
    | false =>
      rw [if_neg Bool.false_ne_true] at h1 ⊢
      exact PostS.here (g := gOf X) o1 l1 h1
    | true =>
      rw [if_pos rfl] at h1 ⊢
      refine ⟨fun σ2 H2 => ∃ φ2 F2 hp2 loc2, φ <+: φ2 ∧ Same F F2 ∧ Own (gOf X) φ2 F2 hp2 H2 ∧ Loc (gOf X) φ2 F2 loc2 σ2 ∧ PostS (gOf X) φ2 F2 W E (whileGo tc m k loc2 hp2), fun σ2 H2 q => ⟨k, Nat.lt_succ_self _, q⟩, φ1, F1, hp1, loc', o1, l1, ?_⟩
      cases q2 : m loc' hp1 with
      | ok fl loc2 hp2 =>
        rw [q2] at h1
        cases fl with
        | nx => exact fun φ3 F3 H3 σ3 p3 s3 o3 l3 => ⟨φ3, F3, hp2, loc2, (p'.trans p1).trans p3, (s'.trans s1).trans s3, o3, l3, PostS.weak p3 s3 h1⟩
        | ct => exact fun φ3 F3 H3 σ3 p3 s3 o3 l3 => ⟨φ3, F3, hp2, loc2, (p'.trans p1).trans p3, (s'.trans s1).trans s3, o3, l3, PostS.weak p3 s3 h1⟩
        | bk => exact fun φ3 F3 H3 σ3 p3 s3 o3 l3 => h1 φ3 F3 H3 σ3 p3 s3 o3 l3
        | rt v => exact fun φ3 F3 H3 σ3 p3 s3 o3 l3 => h1 φ3 F3 H3 σ3 p3 s3 o3 l3
      | exc ex loc2 hp2 =>
        rw [q2] at h1
        exact fun φ3 F3 H3 σ3 C dx x p3 s3 => h1 φ3 F3 H3 σ3 C dx x p3 s3
      | bad => rw [q2] at h1; exact h1.elim
end

/-! ### objects of ours let go -/
def trimL (n : Nat) (loc : Ls) : Ls := loc.map fun o => match o with
  | some (.r k) => if k < n then some (.r k) else none
  | o => o
theorem Own.trim {g : Gb} {φ : List Addr} {F H : Hp} {hp : List O} (o : Own g φ F hp H) (n : Nat) : Own g (φ.take n) F (hp.take n) H := by
  refine ⟨by rw [List.length_take, List.length_take, o.len], o.nd.sublist (List.take_sublist _ _), o.ex, fun k a x h1 h2 h3 => ?_, fun k a x h1 h2 => ?_⟩
  · by_cases c : k < n
    · rw [List.getElem?_take_of_lt c] at h1 h2
      exact o.out k a x h1 h2 h3
    · rw [List.getElem?_take_eq_none (by omega)] at h1
      cases h1
  by_cases c : k < n
  · rw [List.getElem?_take_of_lt c] at h1 h2
    exact o.ob k a x h1 h2
  · rw [List.getElem?_take_eq_none (by omega)] at h1
    cases h1
theorem Loc.trim {g : Gb} {φ : List Addr} {F : Hp} {loc : Ls} {σ : L2.St} (l : Loc g φ F loc σ) (n : Nat) : Loc g (φ.take n) F (trimL n loc) σ := by
  refine ⟨by unfold trimL; rw [List.length_map]; exact l.len, fun i v h => ?_⟩
  unfold trimL at h
  rw [List.getElem?_map] at h
  cases q : loc[i]? with
  | none => rw [q] at h; cases h
  | some z =>
    rw [q] at h
    cases z with
    | none => cases h
    | some u =>
      cases u with
      | d x =>
        cases h
        obtain ⟨y, h1, h2⟩ := l.at_ i _ q
        exact ⟨y, h1, h2⟩
      | s x =>
        cases h
        obtain ⟨y, h1, h2⟩ := l.at_ i _ q
        exact ⟨y, h1, h2⟩
      | w x =>
        cases h
        obtain ⟨y, h1, h2⟩ := l.at_ i _ q
        exact ⟨y, h1, h2⟩
      | r k =>
        simp only [Option.map_some] at h
        split at h
        · rename_i hk
          cases h
          obtain ⟨y, h1, a, h2, h3⟩ := l.at_ i _ q
          exact ⟨y, h1, a, by rw [List.getElem?_take_of_lt hk]; exact h2, h3⟩
        · cases h
/-- a statement, then what it made and holds no more is let go -/
def trimM (a : SM) : SM := fun loc hp => match a loc hp with
  | .ok .nx loc1 hp1 => .ok .nx (trimL hp.length loc1) (hp1.take hp.length)
  | .ok .ct loc1 hp1 => .ok .ct (trimL hp.length loc1) (hp1.take hp.length)
  | .ok .bk loc1 hp1 => .ok .bk (trimL hp.length loc1) (hp1.take hp.length)
  | r => r
theorem pre_take {φ φ' : List Addr} (p : φ <+: φ') {n : Nat} (h : φ.length = n) : φ'.take n = φ := by
  obtain ⟨t, rfl⟩ := p
  rw [← h, List.take_left]
theorem mss_trim {X : Cx} {W : WX} {st : List Stmt} {m : SM} (h : MSs X W st m) : MSs X W st (trimM m) := by
  refine PSs.imp h fun E σ H ⟨φ, F, hp, loc, o, l, h⟩ => ⟨φ, F, hp, loc, o, l, ?_⟩
  unfold trimM at h
  cases q : m loc hp with
  | bad => rw [q] at h; exact h
  | exc e loc1 hp1 => rw [q] at h; exact h
  | ok f loc1 hp1 =>
    rw [q] at h
    have key : ∀ {f : Flw}, (∀ v, f ≠ .rt v) → PostS (gOf X) φ F W E (.ok f (trimL hp.length loc1) (hp1.take hp.length)) → PostS (gOf X) φ F W E (.ok f loc1 hp1) := fun {f} nf h φ' F' H' σ' p s o' l' => by
      have e := pre_take p o.len
      have z := h φ F' H' σ' (List.prefix_refl _) s (by have := o'.trim hp.length; rw [e] at this; exact this) (by have := l'.trim hp.length; rw [e] at this; exact this)
      cases f with
      | rt v => exact absurd rfl (nf v)
      | nx => exact z
      | bk => exact z
      | ct => exact z
    cases f with
    | rt v => exact h
    | nx => exact key (fun v => by intro z; cases z) h
    | bk => exact key (fun v => by intro z; cases z) h
    | ct => exact key (fun v => by intro z; cases z) h

/-! ### a def -/
/-- what is handed back: a datum; an object of the caller's; one of ours is known from then on -/
def finD (n : Nat) (v : Vl) (hp : List O) : Res Vl := match v with
  | .d x => .ok (.d x) (hp.take n)
  | .s x => .ok (.s x) (hp.take n)
  | .w x => .ok (.w x) (hp.take n)
  | .r k => if k < n then .ok (.r k) (hp.take n) else (match hp[k]? with
    | some (.lst ds) => .ok (.d (.list ds)) (hp.take n)
    | _ => .bad)
/-- an object of ours is handed to the caller -/
def finO (n : Nat) (v : Vl) (hp : List O) : Res Vl := match v with
  | .d x => .ok (.d x) (hp.take n)
  | .s x => .ok (.s x) (hp.take n)
  | .w x => .ok (.w x) (hp.take n)
  | .r k => if k < n then .ok (.r k) (hp.take n) else (match hp[k]? with
    | some o => if (hp.take n).length = n then .ok (.r n) (hp.take n ++ [o]) else .bad
    | none => .bad)
def runDef (fin : Nat → Vl → List O → Res Vl) (nn np : Nat) (m : SM) : FM := fun ds hp => if ds.length = np then (match m (ds.map some ++ List.replicate (nn - np) none) hp with
    | .ok (.rt v) _ hp1 => fin hp.length v hp1
    | .ok .nx _ hp1 => fin hp.length (.d .none) hp1
    | .ok _ _ _ => .bad
    | .exc e _ hp1 => .exc e (hp1.take hp.length)
    | .bad => .bad) else .bad
/-- fin tells what the caller may use -/
def FinOk (g : Gb) (fin : Nat → Vl → List O → Res Vl) : Prop := ∀ (φ φ' : List Addr) (F F' H' : Hp) (hp hp' : List O) (W : XK) (Q : VK) (v : Vl) (x : V), φ.length = hp.length → φ <+: φ' → Same F F' → Own g φ' F' hp' H' → RvV g φ' F' x v → PostG g (RvV g) φ F W Q (fin hp.length v hp') → Q x H'
theorem finD_ok (g : Gb) : FinOk g finD := by
  intro φ φ' F F' H' hp hp' W Q v x hl p s o r h
  have e := pre_take p hl
  have o1 := o.trim hp.length
  rw [e] at o1
  cases v with
  | d y => exact h φ F' H' x (List.prefix_refl _) s o1 r
  | s y => exact h φ F' H' x (List.prefix_refl _) s o1 r
  | w y => exact h φ F' H' x (List.prefix_refl _) s o1 r
  | r k =>
    unfold finD at h
    dsimp only at h
    split at h
    · rename_i hk
      obtain ⟨a, h1, h2⟩ := r
      exact h φ F' H' x (List.prefix_refl _) s o1 ⟨a, by rw [← e, List.getElem?_take_of_lt hk]; exact h1, h2⟩
    · rename_i hk
      obtain ⟨a, h1, rfl⟩ := r
      have nk : a ∉ φ := fun hm => by
        obtain ⟨j, hj⟩ := List.mem_iff_getElem?.mp hm
        have hjl := (List.getElem?_eq_some_iff.mp hj).1
        have h3 := pre_get p hj
        have : j = k := (List.getElem?_inj (List.getElem?_eq_some_iff.mp h3).1 o.nd).mp (h3.trans h1.symm)
        omega
      cases q : hp'[k]? with
      | none => rw [q] at h; exact h.elim
      | some ob =>
        rw [q] at h
        have hob := o.ob k a ob h1 q
        cases ob with
        | lst ds =>
          have fa := o.out k a _ h1 q (fun z => nomatch z)
          obtain ⟨vs, e1, z1, rl⟩ := hob
          have learn : Own g φ (upd F' a (.lst vs)) (hp'.take hp.length) H' := by
            refine ⟨o1.len, o1.nd, fun b w hb => ?_, fun n b y h4 h5 h6 => ?_, fun n b y h4 h5 => (o1.ob n b y h4 h5).mono (same_upd fa)⟩
            · by_cases c : b = a
              · subst c; rw [upd_same] at hb; rw [← hb]; exact e1
              · rw [upd_ne c] at hb; exact o.ex _ _ hb
            · rw [upd_ne (fun z => nk (by rw [← z]; exact List.mem_of_getElem? h4))]
              exact o1.out n b y h4 h5 h6
          exact h φ (upd F' a (.lst vs)) H' (.ref a) (List.prefix_refl _) (s.trans (same_upd fa)) learn (Rp.lst (SqL.of upd_same) z1 (rl.mono (same_upd fa)))
        | dic ds => exact h.elim
        | gone => exact h.elim
theorem finO_ok (g : Gb) : FinOk g finO := by
  intro φ φ' F F' H' hp hp' W Q v x hl p s o r h
  have e := pre_take p hl
  have o1 := o.trim hp.length
  rw [e] at o1
  cases v with
  | d y => exact h φ F' H' x (List.prefix_refl _) s o1 r
  | s y => exact h φ F' H' x (List.prefix_refl _) s o1 r
  | w y => exact h φ F' H' x (List.prefix_refl _) s o1 r
  | r k =>
    unfold finO at h
    dsimp only at h
    split at h
    · rename_i hk
      obtain ⟨a, h1, h2⟩ := r
      exact h φ F' H' x (List.prefix_refl _) s o1 ⟨a, by rw [← e, List.getElem?_take_of_lt hk]; exact h1, h2⟩
    · rename_i hk
      obtain ⟨a, h1, rfl⟩ := r
      have nk : a ∉ φ := fun hm => by
        obtain ⟨j, hj⟩ := List.mem_iff_getElem?.mp hm
        have hjl := (List.getElem?_eq_some_iff.mp hj).1
        have h3 := pre_get p hj
        have : j = k := (List.getElem?_inj (List.getElem?_eq_some_iff.mp h3).1 o.nd).mp (h3.trans h1.symm)
        omega
      cases q : hp'[k]? with
      | none => rw [q] at h; exact h.elim
      | some ob =>
        rw [q] at h
        dsimp only at h
        have hob := o.ob k a ob h1 q
        split at h
        · rename_i hn
          have hl1 := o1.len
          refine h (φ ++ [a]) F' H' (.ref a) (List.prefix_append _ _) s ⟨?_, ?_, o.ex, fun n b y h4 h5 h6 => ?_, fun n b y h4 h5 => ?_⟩ ⟨a, ?_, rfl⟩
          · rw [List.length_append, List.length_append, o1.len]; rfl
          · exact List.nodup_append.mpr ⟨o1.nd, by simp, fun b hb c hc => by
              have e : c = a := by simpa using hc
              subst e
              exact fun z => nk (by rw [← z]; exact hb)⟩
          · rcases app_at h4 with ⟨c1, h4⟩ | ⟨c1, h4⟩
            · rcases app_at h5 with ⟨c2, h5⟩ | ⟨c2, h5⟩
              · exact o1.out n b y h4 h5 h6
              · omega
            · rcases app_at h5 with ⟨c2, h5⟩ | ⟨c2, h5⟩
              · omega
              · rw [h4]; exact o.out k a _ h1 q (by rw [← h5]; exact h6)
          · rcases app_at h4 with ⟨c1, h4⟩ | ⟨c1, h4⟩
            · rcases app_at h5 with ⟨c2, h5⟩ | ⟨c2, h5⟩
              · exact o1.ob n b y h4 h5
              · omega
            · rcases app_at h5 with ⟨c2, h5⟩ | ⟨c2, h5⟩
              · omega
              · rw [h4, h5]; exact hob
          · rw [List.getElem?_append_right (by omega), hl]
            simp
        · exact h.elim
theorem RvL.loc {g : Gb} {φ : List Addr} {F : Hp} {vs : List V} {ds : List Vl} {N : List Str} (r : RvL g φ F vs ds) : Loc g φ F (ds.map some ++ List.replicate (N.length - ds.length) none) (L2.start N vs) := by
  have hl : vs.length = ds.length := Paired.length r
  refine ⟨by unfold L2.start; simp [hl], fun i v h => ?_⟩
  by_cases c : i < ds.length
  · rw [List.getElem?_append_left (by simpa using c), List.getElem?_map] at h
    cases q : ds[i]? with
    | none => rw [q] at h; cases h
    | some d =>
      rw [q] at h
      cases h
      have : ∀ {vs : List V} {ds : List Vl} {i : Nat}, RvL g φ F vs ds → ds[i]? = some v → ∃ x, vs[i]? = some x ∧ RvV g φ F x v := by
        intro vs ds i r
        induction r generalizing i with
        | nil => intro h; simp at h
        | cons a b ih =>
          intro h
          cases i with
          | zero => simp at h; subst h; exact ⟨_, rfl, a⟩
          | succ i =>
            obtain ⟨x, h1, h2⟩ := ih (by simpa using h)
            exact ⟨x, by simpa using h1, h2⟩
      obtain ⟨x, h1, h2⟩ := this r q
      refine ⟨x, ?_, h2⟩
      unfold L2.start
      rw [List.getElem?_append_left (by rw [List.length_map, hl]; exact c), List.getElem?_map, h1]
      rfl
  · rw [List.getElem?_append_right (by simpa using c), List.getElem?_replicate] at h
    split at h <;> cases h
theorem fok_reads {g : Gb} {N ps : List Str} {fin : Nat → Vl → List O → Res Vl} {m : SM} (hfin : FinOk g fin) {vs : List V} {H : Hp} {Q : VK} {E : XK} (h : spM g ps.length (runDef fin N.length ps.length m) vs H Q E) :
    tS g (fun c d _ H => E c d H) m { nx := fun _ H' => Q .non H', rt := Q } (L2.start N vs) H := by
  obtain ⟨hl, φ, F, hp, ds, o, r, h⟩ := h
  have hld : ds.length = ps.length := by rw [← Paired.length r]; exact hl
  unfold runDef at h
  rw [if_pos hld] at h
  refine ⟨φ, F, hp, _, o, r.loc (N := N), ?_⟩
  rw [hld]
  cases q : m (ds.map some ++ List.replicate (N.length - ps.length) none) hp with
  | bad => rw [q] at h; exact h.elim
  | exc e loc1 hp1 =>
    rw [q] at h
    intro φ' F' H' σ' C dx x p s o' l' hc hd rp
    have e := pre_take p o.len
    have o1 := o'.trim hp.length
    rw [e] at o1
    exact h φ F' H' C dx x (List.prefix_refl _) s o1 hc hd rp
  | ok f loc1 hp1 =>
    rw [q] at h
    intro φ' F' H' σ' p s o' l'
    cases f with
    | nx => exact hfin φ φ' F F' H' hp hp1 E Q (.d .none) .non o.len p s o' Rp.non h
    | bk => exact h.elim
    | ct => exact h.elim
    | rt v => exact fun x rx => hfin φ φ' F F' H' hp hp1 E Q v x o.len p s o' rx h
/-- THE RULE of a def -/
theorem fok_of {g : Gb} {x qual : Str} {st : Stmt} {fa : Addr} {fd : FuncData} {N ps : List Str} {k : Nat} {fin : Nat → Vl → List O → Res Vl} {m : SM} (hfin : FinOk g fin) (Fu : Fun g.K x qual st fa fd) (S : FnScope N ps (defScope st)) (hm : g.mg x = some (.ref fa)) (hb : Binds g.K fd ps [])
    (body : ∀ (cdv : Value) (A : Around) (outer : List Env) (s : Shared) (H : Hp) (E : XK), Rm k (A.deeper (envOfC qual (defScope st) s.heap.objs.size fa cdv)) →
      MSs (cxOf (L2.CX g.P g.w) g.P g.w g.K g.mg g.base N qual (defScope st) fa cdv A outer s H E) (fun c d _ H => E c d H) (defBody st) m) :
    FOk g (k + 1) x (defArgs st) ps (runDef fin N.length ps.length m) := by
  refine ⟨fun ds hp hl => if_neg hl, fa, fd, ?_, hm, Fu.kp, hb, ?_⟩
  · exact fng_of Fu S (fun vs H Q E h => h.1) (fun cdv A outer s H vs Q E hr h => ⟨_, body cdv A outer s H E hr, fok_reads hfin h⟩)
  · obtain ⟨oc, od, kV, doc, pm, an, cdv, ct, osl, e, _, _⟩ := Fu.ex
    exact ⟨_, _, _, _, _, _, _, _, _, e⟩
end Fz

set_option Elab.async false
set_option linter.all false
set_option maxRecDepth 100000
set_option maxHeartbeats 4000000
/-! Fz4: comprehensions, stores -/
namespace Fz
open PySem PySem.Spec PyProof.Rows L2

/-- an object of ours changed -/
theorem Own.write {g : Gb} {φ : List Addr} {F H : Hp} {hp : List O} (o : Own g φ F hp H) {n : Nat} {a : Addr} {x y : O} {u : HO} (ha : φ[n]? = some a) (hy : hp[n]? = some y) (ny : y ≠ .gone) (h : OR g F (some u) x) : Own g φ F (hp.set n x) (upd H a u) := by
  have fa := o.out n a y ha hy ny
  have other : ∀ {k : Nat} {b : Addr}, φ[k]? = some b → k ≠ n → b ≠ a := fun {k b} h1 c e => c ((List.getElem?_inj (List.getElem?_eq_some_iff.mp h1).1 o.nd).mp (by rw [h1, ha, e]))
  have hn : n < hp.length := (List.getElem?_eq_some_iff.mp hy).1
  refine ⟨by rw [List.length_set]; exact o.len, o.nd, fun b w hb => ?_, fun k b z h1 h2 h3 => ?_, fun k b z h1 h2 => ?_⟩
  · rw [upd_ne (ne_of_none hb fa)]; exact o.ex _ _ hb
  · by_cases c : k = n
    · subst c; rw [ha] at h1; cases h1; exact fa
    · rw [List.getElem?_set_ne (Ne.symm c)] at h2
      exact o.out k b z h1 h2 h3
  · by_cases c : k = n
    · subst c
      rw [ha] at h1
      cases h1
      rw [List.getElem?_set_self hn] at h2
      cases h2
      rw [upd_same]
      exact h
    · rw [List.getElem?_set_ne (Ne.symm c)] at h2
      rw [upd_ne (other h1 c)]
      exact o.ob k b z h1 h2
/-- an object of ours let go: it stands as u from then on, and is known -/
theorem Own.free {g : Gb} {φ : List Addr} {F H : Hp} {hp : List O} (o : Own g φ F hp H) {n : Nat} {a : Addr} {y : O} {u : HO} (ha : φ[n]? = some a) (hy : hp[n]? = some y) (ny : y ≠ .gone) : Own g φ (upd F a u) (hp.set n .gone) (upd H a u) ∧ Same F (upd F a u) := by
  have fa := o.out n a y ha hy ny
  have w := o.write (x := .gone) (u := u) ha hy ny (show OR g F (some u) .gone from fun z => nomatch z)
  have hn : n < hp.length := (List.getElem?_eq_some_iff.mp hy).1
  refine ⟨⟨w.len, w.nd, fun b v hb => ?_, fun k b z h1 h2 h3 => ?_, fun k b z h1 h2 => (w.ob k b z h1 h2).mono (same_upd fa)⟩, same_upd fa⟩
  · by_cases c : b = a
    · subst c; rw [upd_same] at hb ⊢; exact hb
    · rw [upd_ne c] at hb; exact w.ex _ _ hb
  · have c : k ≠ n := fun c => by
      subst c
      rw [List.getElem?_set_self hn] at h2
      cases h2
      exact h3 rfl
    have e : b ≠ a := fun e => c ((List.getElem?_inj (List.getElem?_eq_some_iff.mp h1).1 o.nd).mp (by rw [h1, ha, e]))
    rw [upd_ne e]
    exact w.out k b z h1 h2 h3

def wipeL (loc : Ls) : List Nat → Ls
  | [] => loc
  | v :: vs => (wipeL loc vs).set v none
theorem Loc.wipe {g : Gb} {φ : List Addr} {F : Hp} {loc : Ls} {σ : L2.St} (l : Loc g φ F loc σ) : ∀ vs, Loc g φ F (wipeL loc vs) (L2.wipe σ vs)
  | [] => l
  | v :: vs => (Loc.wipe l vs).del
theorem wipe_at {σ : L2.St} {i : Nat} : ∀ {vs : List Nat}, (L2.wipe σ vs)[i]? = if i ∈ vs then (if i < σ.length then some none else none) else σ[i]?
  | [] => by simp [L2.wipe]
  | v :: vs => by
    unfold L2.wipe
    by_cases c : v = i
    · subst c
      rw [List.getElem?_set]
      simp [wipe_length]
    · rw [List.getElem?_set_ne c, wipe_at]
      have : i ≠ v := Ne.symm c
      simp [this]
theorem wipe_bes {vs : List Nat} {σ σ2 : L2.St} {sl : List Nat} (h : Bes sl (L2.wipe σ vs) σ2) (hs : ∀ i ∈ sl, i ∈ vs) : L2.wipe σ2 vs = L2.wipe σ vs := by
  have hl : σ2.length = σ.length := by rw [h.1, wipe_length]
  apply List.ext_getElem?
  intro i
  rw [wipe_at, wipe_at, hl]
  by_cases c : i ∈ vs
  · rw [if_pos c, if_pos c]
  · rw [if_neg c, if_neg c, h.2 i (fun z => c (hs i z)), wipe_at, if_neg c]

def MTs (X : Cx) (W : WX) (ifs : List Expr) (m : TM) : Prop := PTs X ifs (tT (gOf X) W m)
theorem PTs.imp {X : Cx} {e : List Expr} {t t' : TT} (h : PTs X e t) (i : ∀ σ H Q, t' σ H Q → t σ H Q) : PTs X e t' := ⟨fun pins s σ H Q I q => h.run pins s σ H Q I (i σ H Q q)⟩
def yesT : TM := fun _ hp => .ok true hp
theorem mts_nil {X : Cx} {W : WX} : MTs X W [] yesT := by
  refine PTs.imp pts_nil fun σ H Q ⟨φ, F, hp, loc, o, l, h⟩ => ?_
  exact PostG.here (g := gOf X) (R := fun _ _ a b => a = b) o rfl h
theorem mts_one {X : Cx} {W : WX} {c : Expr} {m : TM} (h : MT X W c m) : MTs X W [c] m := pts_one h
/-- nothing is raised -/
abbrev WF : WX := fun _ _ _ _ => False

open Classical in
noncomputable def lcGo (keep : Option (Nat × O)) (f : GM) (tt : TM) (te : EM) (lw : Ls) : List Vl → List O → List D → Res (List D)
  | [], b, acc => if Kept keep b then .ok acc b else .bad
  | v :: vs, b, acc => if Kept keep b then (match f v lw (b ++ [.lst acc]) with
    | none => .bad
    | some loc1 => (match tt loc1 (b ++ [.lst acc]) with
      | .ok c h1 => if c = true then (match te loc1 h1 with
        | .ok (.d x) h2 => if h2[b.length]? = some (.lst acc) then lcGo keep f tt te lw vs (h2.take b.length) (acc ++ [x]) else .bad
        | _ => .bad) else if h1[b.length]? = some (.lst acc) then lcGo keep f tt te lw vs (h1.take b.length) acc else .bad
      | _ => .bad)) else .bad
noncomputable def lcM (own : List Nat) (im : IM) (f : GM) (tt : TM) (te : EM) : EM := fun loc hp => (im loc hp).bind fun s hp1 => (lcGo s.1 f tt te (wipeL loc own) s.2 hp1 []).bind fun acc hp2 => .ok (.d (.list acc)) hp2

theorem Kept.app {keep : Option (Nat × O)} {b : List O} {x : O} (h : Kept keep b) : Kept keep (b ++ [x]) := by
  cases keep with
  | none => trivial
  | some p =>
    obtain ⟨n, o⟩ := p
    have h' : b[n]? = some o := h
    show (b ++ [x])[n]? = some o
    rw [List.getElem?_append_left (List.getElem?_eq_some_iff.mp h').1]
    exact h'
/-- the last object is known from then on -/
theorem Own.learn {g : Gb} {φ : List Addr} {F H : Hp} {hp : List O} {D : Addr} {x : O} {u : HO} (o : Own g (φ ++ [D]) F (hp ++ [x]) H) (nx : x ≠ .gone) (hu : H D = some u) : Own g φ (upd F D u) hp H ∧ Same F (upd F D u) := by
  have hl : φ.length = hp.length := by have := o.len; simp at this; exact this
  have fD := o.out hp.length D x (by rw [← hl, List.getElem?_append_right (Nat.le_refl _)]; simp) (by rw [List.getElem?_append_right (Nat.le_refl _)]; simp) nx
  have nd := List.nodup_append.mp o.nd
  have nD : D ∉ φ := fun z => nd.2.2 D z D (by simp) rfl
  have up : ∀ {n : Nat} {b : Addr}, φ[n]? = some b → (φ ++ [D])[n]? = some b := fun {n b} h1 => by rw [List.getElem?_append_left (List.getElem?_eq_some_iff.mp h1).1]; exact h1
  have up2 : ∀ {n : Nat} {y : O}, hp[n]? = some y → (hp ++ [x])[n]? = some y := fun {n y} h1 => by rw [List.getElem?_append_left (List.getElem?_eq_some_iff.mp h1).1]; exact h1
  refine ⟨⟨hl, nd.1, fun b w hb => ?_, fun n b y h1 h2 h3 => ?_, fun n b y h1 h2 => (o.ob n b y (up h1) (up2 h2)).mono (same_upd fD)⟩, same_upd fD⟩
  · by_cases c : b = D
    · subst c; rw [upd_same] at hb; rw [← hb]; exact hu
    · rw [upd_ne c] at hb; exact o.ex _ _ hb
  · rw [upd_ne (fun z => nD (by rw [← z]; exact List.mem_of_getElem? h1))]
    exact o.out n b y (up h1) (up2 h2) h3

theorem lc_reads {X : Cx} {W : WX} {own : List (Str × Nat)} {sl : List Nat} {im : IM} {f : GM} {tt : TM} {te : EM} (hsl : ∀ i ∈ sl, i ∈ own.map (·.2)) {σ : L2.St} {H : Hp} {Q : VK}
    (h : tE (gOf X) W (lcM (own.map (·.2)) im f tt te) σ H Q) : tLc (tI (gOf X) W im) (tG (gOf X) f sl) (tT (gOf X) WF tt) (tE (gOf X) WF te) (own.map (·.2)) σ H Q := by
  obtain ⟨φ, F, hp, loc, o, l, h⟩ := h
  refine ⟨φ, F, hp, loc, o, l, (PostG.bind (R := fun φ F J s => Wk (gOf X) J φ F s) h).imp fun J H1 ⟨φ1, F1, hp1, src, p1, s1, o1, wk, _, h1⟩ => ?_⟩
  obtain ⟨keep, items⟩ := src
  intro Da hD
  have lw := (l.mono p1 s1).wipe (own.map (·.2))
  have hl1 := o1.len
  refine ⟨fun i m H' => m = items.length - i ∧ i ≤ items.length ∧ ∃ F' b acc, Same F1 F' ∧ Own (gOf X) (φ1 ++ [Da]) F' (b ++ [.lst acc]) H' ∧ b.length = hp1.length ∧ acc.length ≤ i ∧
      PostG (gOf X) (RvV (gOf X)) φ1 F' (fun c d H' => W c d σ H') Q ((lcGo keep f tt te (wipeL loc (own.map (·.2))) (items.drop i) b acc).bind fun acc hp2 => .ok (.d (.list acc)) hp2),
    ⟨items.length, by simp, Nat.zero_le _, F1, hp1, [], Same.refl _, o1.lay (x := .lst []) hD ⟨[], rfl, Nat.zero_le _, .nil⟩, rfl, Nat.le_refl _, h1⟩, ?_⟩
  rintro i m H' ⟨rfl, hi', F', b, acc, s', o', hb, ha, h'⟩
  have sz : items.length ≤ sizeLine := wk.len
  by_cases hlt : i < items.length
  · rw [drop_get hlt] at h'
    unfold lcGo at h'
    split at h'
    · rename_i kp
      obtain ⟨hgo, hy⟩ := wk.go (φ1 ++ [Da]) F' _ H' i items[i] (List.prefix_append _ _) s' o' kp.app (List.getElem?_eq_getElem hlt)
      refine .inr ⟨hgo, fun H2 => ∃ F' b acc, Same F1 F' ∧ Own (gOf X) (φ1 ++ [Da]) F' (b ++ [.lst acc]) H2 ∧ b.length = hp1.length ∧ acc.length ≤ i + 1 ∧
          PostG (gOf X) (RvV (gOf X)) φ1 F' (fun c d H' => W c d σ H') Q ((lcGo keep f tt te (wipeL loc (own.map (·.2))) (items.drop (i + 1)) b acc).bind fun acc hp2 => .ok (.d (.list acc)) hp2),
        fun H2 q => ⟨items.length - (i + 1), by omega, rfl, hlt, q⟩, fun x H'' yd => ?_⟩
      obtain ⟨F'', gr, rv⟩ := hy x H'' yd
      have o2 := o'.grow gr
      have l2 := lw.mono (List.prefix_append φ1 [Da]) (s'.trans gr.f)
      cases q : f items[i] (wipeL loc (own.map (·.2))) (b ++ [.lst acc]) with
      | none => rw [q] at h'; exact h'.elim
      | some loc1 =>
        rw [q] at h'
        dsimp only at h'
        refine ⟨φ1 ++ [Da], F'', _, _, items[i], loc1, o2, l2, rv, q, fun σ1 l1 bes => ⟨wipe_bes bes hsl, ?_⟩⟩
        refine ⟨φ1 ++ [Da], F'', _, loc1, o2, l1, ?_⟩
        -- the state behind a piece, back to the frame of the loop
        have back : ∀ {φ3 : List Addr} {F3 H3 : Hp} {h3 : List O}, φ1 ++ [Da] <+: φ3 → Own (gOf X) φ3 F3 h3 H3 → h3[b.length]? = some (.lst acc) → Own (gOf X) (φ1 ++ [Da]) F3 (h3.take b.length ++ [.lst acc]) H3 ∧ (h3.take b.length).length = hp1.length := fun {φ3 F3 H3 h3} p3 o3 e3 => by
          have hbl : b.length < h3.length := (List.getElem?_eq_some_iff.mp e3).1
          have t := o3.trim (b.length + 1)
          have e1 : φ3.take (b.length + 1) = φ1 ++ [Da] := pre_take p3 (by simp; omega)
          have e2 : h3.take (b.length + 1) = h3.take b.length ++ [.lst acc] := by rw [List.take_add_one, e3]; rfl
          rw [e1, e2] at t
          exact ⟨t, by rw [List.length_take]; omega⟩
        cases q2 : tt loc1 (b ++ [.lst acc]) with
        | bad => rw [q2] at h'; exact h'.elim
        | exc _ _ => rw [q2] at h'; exact h'.elim
        | ok c h1' =>
          rw [q2] at h'
          dsimp only at h'
          intro φ2 F2 H2 c' p2 s2 o2' ec
          subst ec
          cases c' with
          | false =>
            rw [if_neg Bool.false_ne_true] at h' ⊢
            split at h'
            · rename_i e3
              obtain ⟨t, tl⟩ := back p2 o2' e3
              exact ⟨F2, _, acc, (s'.trans gr.f).trans s2, t, tl, by omega, PostG.weak (List.prefix_refl _) (gr.f.trans s2) h'⟩
            · exact h'.elim
          | true =>
            rw [if_pos rfl] at h' ⊢
            refine ⟨φ2, F2, h1', loc1, o2', l1.mono p2 s2, ?_⟩
            cases q3 : te loc1 h1' with
            | bad => rw [q3] at h'; exact h'.elim
            | exc _ _ => rw [q3] at h'; exact h'.elim
            | ok y h2' =>
              rw [q3] at h'
              cases y with
              | r _ => exact h'.elim
              | s _ => exact h'.elim
              | w _ => exact h'.elim
              | d y =>
                dsimp only at h'
                intro φ3 F3 H3 yv p3 s3 o3 ry
                split at h'
                · rename_i e3
                  obtain ⟨t, tl⟩ := back (p2.trans p3) o3 e3
                  have hDa : (φ1 ++ [Da])[b.length]? = some Da := by
                    rw [List.getElem?_append_right (by omega)]
                    have : b.length - φ1.length = 0 := by omega
                    rw [this]
                    rfl
                  have tl' : (h2'.take b.length).length = b.length := by omega
                  have hya : (h2'.take b.length ++ [O.lst acc])[b.length]? = some (.lst acc) := by
                    rw [List.getElem?_append_right (by omega)]
                    have : b.length - (h2'.take b.length).length = 0 := by omega
                    rw [this]
                    rfl
                  obtain ⟨vs, e4, z4, r4⟩ := t.ob b.length Da (.lst acc) hDa hya
                  have hvl : vs.length < sizeLine := by rw [r4.len]; omega
                  refine ⟨vs, e4, hvl, F3, h2'.take b.length, acc ++ [y], ((s'.trans gr.f).trans s2).trans s3, ?_, tl, by rw [List.length_append]; simp; omega, PostG.weak (List.prefix_refl _) ((gr.f.trans s2).trans s3) h'⟩
                  have w := t.write (x := .lst (acc ++ [y])) (u := .lst (vs ++ [yv])) hDa hya (fun z => nomatch z) ⟨_, rfl, by rw [List.length_append]; simp; omega, r4.app (.cons ry .nil)⟩
                  have e5 : (h2'.take b.length ++ [O.lst acc]).set b.length (.lst (acc ++ [y])) = h2'.take b.length ++ [.lst (acc ++ [y])] := by
                    rw [List.set_append_right _ _ (by omega)]
                    have : b.length - (h2'.take b.length).length = 0 := by omega
                    rw [this]
                    rfl
                  rw [e5] at w
                  exact w
                · exact h'.elim
    · exact h'.elim
  · have e : i = items.length := by omega
    subst e
    rw [List.drop_length] at h'
    unfold lcGo at h'
    split at h'
    · rename_i kp
      have hDa : (φ1 ++ [Da])[b.length]? = some Da := by
        rw [List.getElem?_append_right (by omega)]
        have : b.length - φ1.length = 0 := by omega
        rw [this]
        rfl
      obtain ⟨vs, e4, z4, r4⟩ := o'.ob b.length Da (.lst acc) hDa (by
        rw [List.getElem?_append_right (Nat.le_refl _)]
        simp)
      obtain ⟨o5, s5⟩ := o'.learn (fun z => nomatch z) e4
      exact .inl ⟨wk.stop (φ1 ++ [Da]) F' _ H' _ (List.prefix_append _ _) s' o' kp.app (Nat.le_refl _),
        h' φ1 _ H' (.ref Da) (List.prefix_refl _) s5 o5 (show RvV (gOf X) φ1 _ (.ref Da) (.d (.list acc)) from Rp.lst (SqL.of upd_same) z4 (r4.mono s5))⟩
    · exact h'.elim

theorem me_lc {X : Cx} {W : WX} {elt tg iter : Expr} {ifs : List Expr} {scope : Scope} {own : List (Str × Nat)} {sl : List Nat} {pos : Pos} {im : IM} {f : GM} {tt : TM} {te : EM} (hc : X.calm = true) (hN : X.N.Nodup) (hi : MI X W tg iter im) (ok : BlkOk X.N X.env.scope scope own)
    (hg : ∀ (s : Shared) (H : Hp) (C : Addr) (cl : List (Str × Addr)) (fp : List Addr), MG (X.blk s H scope (compEnvC scope cl C X.env) fp) tg f sl) (ht : ∀ (s : Shared) (H : Hp) (C : Addr) (cl : List (Str × Addr)) (fp : List Addr), MTs (X.blk s H scope (compEnvC scope cl C X.env) fp) WF ifs tt)
    (he : ∀ (s : Shared) (H : Hp) (C : Addr) (cl : List (Str × Addr)) (fp : List Addr), ME (X.blk s H scope (compEnvC scope cl C X.env) fp) WF elt te) (hsl : ∀ i ∈ sl, i ∈ own.map (·.2) := by decide) (hs : ∀ x, foldedSetIterable iter X.env x = pure x := by intro _; rfl) :
    ME X W (.ListComp elt [⟨tg, iter, ifs, 0⟩] scope pos) (lcM (own.map (·.2)) im f tt te) :=
  PE.imp (pe_lc (g := tG (gOf X) f sl) (tt := tT (gOf X) WF tt) (te := tE (gOf X) WF te) hc hN hi ok hg ht he hs) fun σ H Q h => lc_reads hsl h
theorem ms_setLc {X : Cx} {W : WX} {i : Nat} {y : Str} {py : Pos} {elt tg iter : Expr} {ifs : List Expr} {scope : Scope} {own : List (Str × Nat)} {sl : List Nat} {pos spos : Pos} {im : IM} {f : GM} {tt : TM} {te : EM} (hc : X.calm = true) (hN : X.N.Nodup)
    (hi : MI X W tg iter im) (ok : BlkOk X.N X.env.scope scope own)
    (hg : ∀ (s : Shared) (H : Hp) (C : Addr) (cl : List (Str × Addr)) (fp : List Addr), MG (X.blk s H scope (compEnvC scope cl C X.env) fp) tg f sl) (ht : ∀ (s : Shared) (H : Hp) (C : Addr) (cl : List (Str × Addr)) (fp : List Addr), MTs (X.blk s H scope (compEnvC scope cl C X.env) fp) WF ifs tt)
    (he : ∀ (s : Shared) (H : Hp) (C : Addr) (cl : List (Str × Addr)) (fp : List Addr), ME (X.blk s H scope (compEnvC scope cl C X.env) fp) WF elt te)
    (hsw : swapsWith (.ListComp elt [⟨tg, iter, ifs, 0⟩] scope pos) (some (.Name y py)) spos.line X.env = pure true)
    (hsl : ∀ i ∈ sl, i ∈ own.map (·.2) := by decide) (hy : X.N[i]? = some y := by rfl) (hyl : X.env.scope.names.lookup y = some .local := by rfl) (hs : ∀ x, foldedSetIterable iter X.env x = pure x := by intro _; rfl) :
    MS X W (.Assign [.Name y py] (.ListComp elt [⟨tg, iter, ifs, 0⟩] scope pos) spos) (asgM i (lcM (own.map (·.2)) im f tt te)) := by
  refine PS.imp (ps_setLc (g := tG (gOf X) f sl) (tt := tT (gOf X) WF tt) (te := tE (gOf X) WF te) hc hN hy hyl hsw hi ok hg ht he hs) fun E σ H ⟨φ, F, hp, loc, o, l, h⟩ => ?_
  refine lc_reads (X := X) (W := W) (own := own) (f := f) (sl := sl) (tt := tt) (te := te) (im := im) hsl ⟨φ, F, hp, loc, o, l, (PostS.bind (R := RvV (gOf X)) l h).imp fun x H1 ⟨φ1, F1, hp1, u, p1, s1, o1, r1, _, h1⟩ => ?_⟩
  exact PostS.here (g := gOf X) o1 ((l.mono p1 s1).set r1) h1

/-- an object of ours is let go as a datum -/
def frzM (m : EM) : EM := fun loc hp => (m loc hp).bind fun v hp1 => match v with
  | .r k => (match hp1[k]? with
    | some (.lst ds) => .ok (.d (.list ds)) (hp1.set k .gone)
    | some (.dic ds) => .ok (.d (.dict ds)) (hp1.set k .gone)
    | _ => .bad)
  | _ => .bad
theorem PE.lockd {X : Cx} {e : Expr} {t : TE} (h : PE X e t) : PE X e (fun σ H Q => t σ H fun v H' => ∃ p u, v = .ref p ∧ H' p = some u ∧ Mut (some u) ∧ ∀ od, Q v (upd H' p (.frz od u))) := by
  refine ⟨fun pins s σ H Q I q => ?_⟩
  refine thn (h.run pins s σ H _ I q) fun u s1 ⟨v, H1, I1, r1, p, w, e1, e2, mu, q1⟩ => ?_
  obtain ⟨od, I2⟩ := I1.lock e2 mu
  exact ⟨v, _, I2, r1, q1 od⟩
theorem me_frz {X : Cx} {W : WX} {e : Expr} {m : EM} (h : ME X W e m) : ME X W e (frzM m) := by
  refine PE.imp (PE.lockd h) fun σ H Q ⟨φ, F, hp, loc, o, l, h⟩ => ?_
  refine ⟨φ, F, hp, loc, o, l, (PostG.bind (R := RvV (gOf X)) h).imp fun x H1 ⟨φ1, F1, hp1, u, p1, s1, o1, r1, _, h1⟩ => ?_⟩
  cases u with
  | d _ => exact h1.elim
  | s _ => exact h1.elim
  | w _ => exact h1.elim
  | r k =>
    obtain ⟨a, ha, rfl⟩ := r1
    dsimp only at h1
    cases q : hp1[k]? with
    | none => rw [q] at h1; exact h1.elim
    | some ob =>
      rw [q] at h1
      have hob := o1.ob k a ob ha q
      cases ob with
      | gone => exact h1.elim
      | lst ds =>
        obtain ⟨vs, e1, z1, rl⟩ := hob
        refine ⟨a, _, rfl, e1, trivial, fun od => ?_⟩
        obtain ⟨o2, s2⟩ := o1.free (u := .frz od (.lst vs)) ha q (fun z => nomatch z)
        exact h1 φ1 _ _ (.ref a) (List.prefix_refl _) s2 o2 (show RvV (gOf X) φ1 _ (.ref a) (.d (.list ds)) from Rp.lst (.inl (.inr ⟨od, upd_same⟩)) z1 (rl.mono s2))
      | dic ds =>
        obtain ⟨vs, e1, rl⟩ := hob
        refine ⟨a, _, rfl, e1, trivial, fun od => ?_⟩
        obtain ⟨o2, s2⟩ := o1.free (u := .frz od (.dK vs)) ha q (fun z => nomatch z)
        exact h1 φ1 _ _ (.ref a) (List.prefix_refl _) s2 o2 (show RvV (gOf X) φ1 _ (.ref a) (.d (.dict ds)) from Rp.dic (o := od) upd_same (rl.mono s2))
end Fz

set_option Elab.async false
set_option linter.all false
set_option maxRecDepth 100000
set_option maxHeartbeats 4000000
/-! Fz5: operators and built-ins, as functions on data -/
namespace Fz
open PySem PySem.Spec PyProof.Rows L2

/-! ### how a value looks -/
theorem vw_int {K : PySem.W.Frag} {F H : Hp} {x : V} {i : Int} (h : Vw K F H x (.int i)) : x = .int i := by cases h with | kn h => cases h; rfl
theorem vw_bool {K : PySem.W.Frag} {F H : Hp} {x : V} {i : Bool} (h : Vw K F H x (.bool i)) : x = .bl i := by cases h with | kn h => cases h; rfl
theorem vw_str {K : PySem.W.Frag} {F H : Hp} {x : V} {i : Str} (h : Vw K F H x (.str i)) : x = .str i := by cases h with | kn h => cases h; rfl
theorem vw_none {K : PySem.W.Frag} {F H : Hp} {x : V} (h : Vw K F H x .none) : x = .non := by cases h with | kn h => cases h; rfl
theorem vw_lst {K : PySem.W.Frag} {F H : Hp} {x : V} {ds : List D} (e : Same F H) (h : Vw K F H x (.list ds)) : ∃ a xs, x = .ref a ∧ SqL K H a xs ∧ xs.length ≤ sizeLine ∧ RpL K F xs ds := by
  cases h with
  | kn h => cases h with | lst h z r => exact ⟨_, _, rfl, e.seq h, z, r⟩
  | lst h z r => exact ⟨_, _, rfl, SqL.of h, z, r⟩
theorem vw_tup {K : PySem.W.Frag} {F H : Hp} {x : V} {ds : List D} (e : Same F H) (h : Vw K F H x (.tuple ds)) : ∃ a xs, x = .ref a ∧ SqT K H a xs ∧ xs.length ≤ sizeLine ∧ RpL K F xs ds ∧ Rp K F x (.tuple ds) := by
  cases h with
  | kn h => cases h with | tup h z r => exact ⟨_, _, rfl, sm_t e h.sq, z, r, .tup h z r⟩
theorem vw_dic {K : PySem.W.Frag} {F H : Hp} {x : V} {ds : List (D × D)} (e : Same F H) (h : Vw K F H x (.dict ds)) : ∃ a kvs, x = .ref a ∧ Rd H a (.dK kvs) ∧ RpK K F kvs ds := by
  cases h with
  | kn h => cases h with | dic h r => exact ⟨_, _, rfl, .inr ⟨_, e _ _ h⟩, r⟩
  | dic h r => exact ⟨_, _, rfl, Rd.of h, r⟩
theorem vwl_one {K : PySem.W.Frag} {F H : Hp} {xs : List V} {d : D} (h : VwL K F H xs [d]) : ∃ x, xs = [x] ∧ Vw K F H x d := by
  cases h with | cons a b => cases b; exact ⟨_, rfl, a⟩
theorem vwl_two {K : PySem.W.Frag} {F H : Hp} {xs : List V} {d e : D} (h : VwL K F H xs [d, e]) : ∃ x y, xs = [x, y] ∧ Vw K F H x d ∧ Vw K F H y e := by
  cases h with | cons a b => cases b with | cons b c => cases c; exact ⟨_, _, rfl, a, b⟩

theorem OpR.or {X : Cx} {f : Value → Value → Sem Value} {r r' : R2} (h : OpR X f r) (h' : OpR X f r') : OpR X f (fun x y H Q => r x y H Q ∨ r' x y H Q) :=
  fun pins s σ H x y v u Q I rx ry q => q.elim (h pins s σ H x y v u Q I rx ry) (h' pins s σ H x y v u Q I rx ry)
theorem CallR.or {X : Cx} {f : Value} {r r' : List V → Hp → VK → Prop} (h : CallR X f r) (h' : CallR X f r') : CallR X f (fun x H Q => r x H Q ∨ r' x H Q) :=
  fun pins s σ H x v Q I rx q => q.elim (h pins s σ H x v Q I rx) (h' pins s σ H x v Q I rx)

/-! ### + -/
def rCatL (K : PySem.W.Frag) : R2 := fun x y H Q => ∃ l b xs zs, x = .ref l ∧ y = .ref b ∧ SqL K H l xs ∧ SqL K H b zs ∧ xs.length + zs.length ≤ sizeLine ∧ ∀ p, H p = none → Q (.ref p) (upd H p (.lst (xs ++ zs)))
theorem op_catL {X : Cx} : OpR X (binaryOp .Add) (rCatL X.K) := by
  intro pins s σ H x y v u Q I rx ry h
  obtain ⟨l, b, xs, zs, rfl, rfl, hH, hB, hz, q⟩ := h
  cases rx
  cases ry
  obtain ⟨its, r1, ⟨⟨c1, dd1, da1, sl1⟩, n1, e1, e2, e3, e4⟩, z1⟩ := I.list hH
  obtain ⟨its2, r2, ⟨⟨c2, dd2, da2, sl2⟩, n2, k1, k2, k3, k4⟩, z2⟩ := I.list hB
  dsimp only at e2 e3 e4 k2 k3 k4
  subst e2 e3 e4 k2 k3 k4
  have l1 := r1.length
  have l2 := r2.length
  refine concat_meets ⟨_, e1, rfl⟩ ⟨_, k1, rfl⟩ noFill_list_add seq_list_add PySem.F.slot_list_add PySem.F.entry_list_add (PySem.F.args_list_add_2 _ _)
    (list_addW l b its.toArray its2.toArray n1 n2 none none sl1 sl2 (by rw [List.size_toArray, List.size_toArray]; omega)) ⟨e1, k1, ?_⟩
  have ea : its.toArray ++ its2.toArray = (its ++ its2).toArray := by simp
  rw [ea]
  exact ⟨.ref _, _, I.lnew (t' := s.toks) (r1.append r2) (by rw [List.length_append]; omega), rfl, q _ I.fresh⟩
def rAddA (K : PySem.W.Frag) : R2 := fun x y H Q => (rI0 (fun i j => .int (i + j)) x y H Q ∨ ∃ i j, x = .str i ∧ y = .str j ∧ i.length + j.length ≤ sizeLine ∧ Q (.str (i ++ j)) H) ∨ (rCatL K x y H Q ∨ rCatF K x y H Q)
theorem op_addA {X : Cx} : OpR X (binaryOp .Add) (rAddA X.K) := OpR.or (OpR.or op_add op_add_str) (OpR.or op_catL op_catF)
def addD : D → D → Option D
  | .int i, .int j => some (.int (i + j))
  | .str a, .str b => if a.length + b.length ≤ 10000000 then some (.str (a ++ b)) else none
  | .list a, .list b => if a.length + b.length ≤ 10000000 then some (.list (a ++ b)) else none
  | .tuple a, .tuple b => if a.length + b.length ≤ 10000000 then some (.tuple (a ++ b)) else none
  | _, _ => none
theorem sz7 {n : Nat} (h : n ≤ 10000000) : n ≤ sizeLine := Nat.le_trans h (by decide)
theorem s_add {K : PySem.W.Frag} : OpS K (rAddA K) addD := by
  intro F H x y d e w Q ex vx vy hf q
  unfold addD at hf
  split at hf
  · cases hf
    exact .inl (.inl ⟨_, _, vw_int vx, vw_int vy, q _ F H (Grow.refl ex) (.int _)⟩)
  · split at hf
    · rename_i hz
      cases hf
      exact .inl (.inr ⟨_, _, vw_str vx, vw_str vy, sz7 hz, q _ F H (Grow.refl ex) (.str _)⟩)
    · cases hf
  · split at hf
    · rename_i hz
      cases hf
      obtain ⟨a, xs, rfl, h1, z1, r1⟩ := vw_lst ex vx
      obtain ⟨b, ys, rfl, h2, z2, r2⟩ := vw_lst ex vy
      have hz' : xs.length + ys.length ≤ sizeLine := by rw [r1.len, r2.len]; exact sz7 hz
      exact .inr (.inl ⟨a, b, xs, ys, rfl, rfl, h1, h2, hz', fun p hp => q _ _ _ (Grow.one ex hp) (.lst (SqL.of upd_same) (by rw [List.length_append]; exact hz') ((r1.app r2).mono (Grow.one (o := .lst (xs ++ ys)) ex hp).f))⟩)
    · cases hf
  · split at hf
    · rename_i hz
      cases hf
      obtain ⟨a, xs, rfl, h1, z1, r1, k1⟩ := vw_tup ex vx
      obtain ⟨b, ys, rfl, h2, z2, r2, k2⟩ := vw_tup ex vy
      have hz' : xs.length + ys.length ≤ sizeLine := by rw [r1.len, r2.len]; exact sz7 hz
      refine .inr (.inr ⟨a, b, xs, ys, rfl, rfl, h1, h2, hz', fun e => ?_, fun e => ?_, fun p ob hp hd => ?_⟩)
      · subst e
        cases r1
        exact q _ F H (Grow.refl ex) k2
      · subst e
        cases r2
        rw [List.append_nil] at q
        exact q _ F H (Grow.refl ex) k1
      · exact q _ _ _ (Grow.one ex hp) (.tup (.new hd) (by rw [List.length_append]; exact hz') ((r1.app r2).mono (Grow.one (o := .frz ob (.tup (xs ++ ys))) ex hp).f))
    · cases hf
  · cases hf

/-! ### ints -/
def intOp (C : Int → Int → Prop) [∀ i j, Decidable (C i j)] (f : Int → Int → D) : D → D → Option D
  | .int i, .int j => if C i j then some (f i j) else none
  | _, _ => none
theorem s_int {K : PySem.W.Frag} {C C' : Int → Int → Prop} [∀ i j, Decidable (C i j)] {f : Int → Int → D} {v : Int → Int → V} (hC : ∀ i j, C i j → C' i j) (hv : ∀ i j F, Rp K F (v i j) (f i j)) : OpS K (rI C' v) (intOp C f) := by
  intro F H x y d e w Q ex vx vy hf q
  unfold intOp at hf
  split at hf
  · split at hf
    · rename_i hc
      cases hf
      exact ⟨_, _, vw_int vx, vw_int vy, hC _ _ hc, q _ F H (Grow.refl ex) (hv _ _ F)⟩
    · cases hf
  · cases hf
def intOp0 (f : Int → Int → D) : D → D → Option D
  | .int i, .int j => some (f i j)
  | _, _ => none
theorem s_int0 {K : PySem.W.Frag} {f : Int → Int → D} {v : Int → Int → V} (hv : ∀ i j F, Rp K F (v i j) (f i j)) : OpS K (rI0 v) (intOp0 f) := by
  intro F H x y d e w Q ex vx vy hf q
  unfold intOp0 at hf
  split at hf
  · cases hf
    exact ⟨_, _, vw_int vx, vw_int vy, q _ F H (Grow.refl ex) (hv _ _ F)⟩
  · cases hf
/-- factors of together less than a hundred million bits -/
def CMulX (i j : Int) : Prop := i.natAbs.log2 + j.natAbs.log2 < 100000000
instance (i j : Int) : Decidable (CMulX i j) := inferInstanceAs (Decidable (_ < _))
theorem CMulX.ok {i j : Int} (h : CMulX i j) : IntMulOk i j := by
  have b : ∀ x : Int, Builtin.Int.intBits x ≤ x.natAbs.log2 + 1 := fun x => by
    unfold Builtin.Int.intBits
    split <;> omega
  have b1 := b i
  have b2 := b j
  unfold CMulX at h
  have line : bitsLine = 134217728 := by decide
  unfold IntMulOk
  intro hh
  have big := (Bool.and_eq_true_iff.mp hh).2
  unfold Builtin.Int.intTooBig at big
  have big' := of_decide_eq_true big
  rw [line] at big'
  omega
section
variable {X : Cx}
theorem op_mulX : OpR X (binaryOp .Mult) (rI CMulX fun i j => .int (i * j)) := opI fun _ _ _ _ _ _ _ hc q => mul_int q hc.ok
end
def subD := intOp0 fun i j => .int (i - j)
def mulD := intOp CMulX fun i j => .int (i * j)
def CDivX (_ j : Int) : Prop := 0 < j ∧ j.natAbs.log2 < 9000
instance (i j : Int) : Decidable (CDivX i j) := inferInstanceAs (Decidable (_ ∧ _))
def fdivD := intOp CDivX fun i j => .int (i / j)
def CPos (_ j : Int) : Prop := 0 < j
instance (i j : Int) : Decidable (CPos i j) := inferInstanceAs (Decidable (_ < _))
def modD := intOp CPos fun i j => .int (i % j)
def CPw (i j : Int) : Prop := 0 ≤ j ∧ j ≤ 1000000 ∧ i.natAbs < 2 ^ 64
instance (i j : Int) : Decidable (CPw i j) := inferInstanceAs (Decidable (_ ∧ _ ∧ _))
def powD := intOp CPw fun i j => .int (i ^ j.toNat)
def ltD := intOp0 fun i j => .bool (decide (i < j))
def leD := intOp0 fun i j => .bool (decide (i ≤ j))
def gtD := intOp0 fun i j => .bool (decide (j < i))
def geD := intOp0 fun i j => .bool (decide (j ≤ i))
section
variable {K : PySem.W.Frag}
theorem s_sub : OpS K (rI0 fun i j => .int (i - j)) subD := s_int0 fun _ _ _ => .int _
theorem s_mul : OpS K (rI CMulX fun i j => .int (i * j)) mulD := s_int (fun _ _ h => h) fun _ _ _ => .int _
theorem s_fdiv : OpS K (rI CDivW fun i j => .int (i / j)) fdivD := s_int (fun _ _ h => h) fun _ _ _ => .int _
theorem s_mod : OpS K (rI (fun _ j => 0 < j) fun i j => .int (i % j)) modD := s_int (fun _ _ h => h) fun _ _ _ => .int _
theorem s_pow : OpS K (rI CPow fun i j => .int (i ^ j.toNat)) powD := s_int (fun _ _ h => h) fun _ _ _ => .int _
theorem s_lt : OpS K (rI0 fun i j => .bl (decide (i < j))) ltD := s_int0 fun _ _ _ => .bl _
theorem s_le : OpS K (rI0 fun i j => .bl (decide (i ≤ j))) leD := s_int0 fun _ _ _ => .bl _
theorem s_gt : OpS K (rI0 fun i j => .bl (decide (j < i))) gtD := s_int0 fun _ _ _ => .bl _
theorem s_ge : OpS K (rI0 fun i j => .bl (decide (j ≤ i))) geD := s_int0 fun _ _ _ => .bl _
end
def negD : D → Option D
  | .int i => some (.int (-i))
  | _ => none
theorem s_neg {K : PySem.W.Frag} : UnS K (rU fun i => .int (-i)) negD := by
  intro F H x d w Q ex vx hf q
  unfold negD at hf
  split at hf
  · cases hf
    exact ⟨_, vw_int vx, q _ F H (Grow.refl ex) (.int _)⟩
  · cases hf

/-! ### == -/
mutual
theorem Rp.dp {K : PySem.W.Frag} {F : Hp} : ∀ {v : V} {d : D}, Rp K F v d → d.canLay0 = true → Dp K F v d
  | _, _, .non, _ => .non
  | _, _, .bl b, _ => .bl b
  | _, _, .int i, _ => .int i
  | _, _, .str x, _ => .str x
  | _, _, .lst h z r, c => .lst h (RpL.dp r (by simpa [PyData.canLay0] using c))
  | _, _, .tup h z r, c => .tup h.sq (RpL.dp r (by simpa [PyData.canLay0] using c))
  | _, _, .dic h r, c => by simp [PyData.canLay0] at c
theorem RpL.dp {K : PySem.W.Frag} {F : Hp} : ∀ {v : List V} {d : List D}, RpL K F v d → PyData.canLayAll0 d = true → DpAll K F v d
  | _, _, .nil, _ => .nil
  | _, _, .cons (d := d) (ds := ds) h r, c => by
    have c' : d.canLay0 = true ∧ PyData.canLayAll0 ds = true := by simpa [PyData.canLayAll0] using c
    exact .cons (Rp.dp h c'.1) (RpL.dp r c'.2)
end
mutual
theorem Dp.mono {K : PySem.W.Frag} {F F' : Hp} (e : Same F F') : ∀ {v : V} {d : D}, Dp K F v d → Dp K F' v d
  | _, _, .non => .non
  | _, _, .bl b => .bl b
  | _, _, .int i => .int i
  | _, _, .str x => .str x
  | _, _, .lst h r => .lst (e.seq h) (DpAll.mono e r)
  | _, _, .tup h r => .tup (sm_t e h) (DpAll.mono e r)
theorem DpAll.mono {K : PySem.W.Frag} {F F' : Hp} (e : Same F F') : ∀ {v : List V} {d : List D}, DpAll K F v d → DpAll K F' v d
  | _, _, .nil => .nil
  | _, _, .cons h r => .cons (Dp.mono e h) (DpAll.mono e r)
end
theorem vw_dp {K : PySem.W.Frag} {F H : Hp} (e : Same F H) {x : V} {d : D} (h : Vw K F H x d) (c : d.canLay0 = true) : Dp K H x d := by
  cases h with
  | kn h => exact Dp.mono e (h.dp c)
  | lst h z r => exact .lst (SqL.of h) (DpAll.mono e (r.dp (by simpa [PyData.canLay0] using c)))
  | dic h r => simp [PyData.canLay0] at c
def eqD (x y : D) : Option D := if SeqAt.shaped x = true ∧ SeqAt.shaped y = true then some (.bool (PyData.eqv x y)) else none
def neD (x y : D) : Option D := if SeqAt.shaped x = true ∧ SeqAt.shaped y = true then some (.bool (!PyData.eqv x y)) else none
theorem s_eq {K : PySem.W.Frag} : OpS K (rEqD K) eqD := by
  intro F H x y d e w Q ex vx vy hf q
  unfold eqD at hf
  split at hf
  · rename_i c
    cases hf
    exact ⟨d, e, vw_dp ex vx (SeqAt.canLay_of_shaped c.1), vw_dp ex vy (SeqAt.canLay_of_shaped c.2), c.1, c.2, q _ F H (Grow.refl ex) (.bl _)⟩
  · cases hf
theorem s_ne {K : PySem.W.Frag} : OpS K (rNeD K) neD := by
  intro F H x y d e w Q ex vx vy hf q
  unfold neD at hf
  split at hf
  · rename_i c
    cases hf
    exact ⟨d, e, vw_dp ex vx (SeqAt.canLay_of_shaped c.1), vw_dp ex vy (SeqAt.canLay_of_shaped c.2), c.1, c.2, q _ F H (Grow.refl ex) (.bl _)⟩
  · cases hf

/-! ### len, indexes, slices -/
def lenD : List D → Option D
  | [.list ds] => some (.int ds.length)
  | [.tuple ds] => some (.int ds.length)
  | [.str x] => if x.length ≤ 10000000 then some (.int x.length) else none
  | _ => none
theorem s_len {K : PySem.W.Frag} : ClS K (fun xs H Q => ∃ x n, xs = [x] ∧ LenV K x H n ∧ Q (.int n) H) lenD := by
  intro F H xs ds w Q ex vs hf q
  unfold lenD at hf
  split at hf
  · obtain ⟨x, rfl, vx⟩ := vwl_one vs
    cases hf
    obtain ⟨a, ys, rfl, h1, z1, r1⟩ := vw_lst ex vx
    exact ⟨_, ys.length, rfl, .inl ⟨ys, h1, rfl⟩, q _ F H (Grow.refl ex) (by rw [r1.len]; exact .int _)⟩
  · obtain ⟨x, rfl, vx⟩ := vwl_one vs
    cases hf
    obtain ⟨a, ys, rfl, h1, z1, r1, _⟩ := vw_tup ex vx
    exact ⟨_, ys.length, rfl, .inr ⟨ys, h1, rfl⟩, q _ F H (Grow.refl ex) (by rw [r1.len]; exact .int _)⟩
  · split at hf
    · rename_i hz
      obtain ⟨x, rfl, vx⟩ := vwl_one vs
      cases hf
      have e := vw_str vx
      subst e
      exact ⟨_, _, rfl, ⟨sz7 hz, rfl⟩, q _ F H (Grow.refl ex) (.int _)⟩
    · cases hf
  · cases hf
def ixD : D → D → Option D
  | .list ds, .int i => atI ds i
  | .tuple ds, .int i => atI ds i
  | .str x, .int i => if x.length ≤ 10000000 then (atI x.cps.toList i).map fun c => .str ⟨#[c]⟩ else none
  | _, _ => none
theorem RpL.at {K : PySem.W.Frag} {F : Hp} {vs : List V} {ds : List D} {i : Int} {d : D} (r : RpL K F vs ds) (h : atI ds i = some d) : ∃ v, atI vs i = some v ∧ Rp K F v d := by
  unfold atI at h ⊢
  rw [r.len]
  cases q : ixN ds.length i with
  | none => rw [q] at h; cases h
  | some j =>
    rw [q] at h
    obtain ⟨v, h1, h2⟩ := r.get (i := j) h
    exact ⟨v, h1, h2⟩
theorem s_ix {K : PySem.W.Frag} : OpS K (rIx K) ixD := by
  intro F H x y d e w Q ex vx vy hf q
  unfold ixD at hf
  split at hf
  · obtain ⟨a, ys, rfl, h1, z1, r1⟩ := vw_lst ex vx
    have e := vw_int vy
    subst e
    obtain ⟨v, h2, h3⟩ := r1.at hf
    exact .inl ⟨a, ys, _, v, rfl, rfl, h1, h2, q _ F H (Grow.refl ex) h3⟩
  · obtain ⟨a, ys, rfl, h1, z1, r1, _⟩ := vw_tup ex vx
    have e := vw_int vy
    subst e
    obtain ⟨v, h2, h3⟩ := r1.at hf
    exact .inr (.inl ⟨a, ys, _, v, rfl, rfl, h1, h2, q _ F H (Grow.refl ex) h3⟩)
  · split at hf
    · rename_i x i hz
      have e := vw_str vx
      subst e
      have e := vw_int vy
      subst e
      cases q1 : atI x.cps.toList i with
      | none => rw [q1] at hf; cases hf
      | some c =>
        rw [q1] at hf
        cases hf
        exact .inr (.inr ⟨x, i, c, rfl, rfl, sz7 hz, q1, q _ F H (Grow.refl ex) (.str _)⟩)
    · cases hf
  · cases hf

/-! ### isinstance -/
def tyN : D → String
  | .none => "NoneType"
  | .bool _ => "bool"
  | .int _ => "int"
  | .str _ => "str"
  | .list _ => "list"
  | .tuple _ => "tuple"
  | .dict _ => "dict"
def isB (t T : String) : Bool := t == T || (t == "bool" && T == "int")
theorem vw_ty {K : PySem.W.Frag} {F H : Hp} (e : Same F H) {x : V} {d : D} (h : Vw K F H x d) : TyX K H x (.type (tyN d)) := by
  have lst : ∀ {a : Addr} {xs : List V}, SqL K H a xs → TyX K H (.ref a) (.type "list") := fun {a xs} h => by
    rcases h with (h | ⟨o, h⟩) | ⟨o, its, n, hk, hc, _⟩
    · exact .base (.lst h)
    · exact .base (.frz h)
    · exact .kList hk hc
  cases h with
  | kn h =>
    cases h with
    | non => exact .base .non
    | bl b => exact .base (.bl b)
    | int i => exact .base (.int i)
    | str x => exact .base (.str x)
    | lst h z r => exact lst (e.seq h)
    | tup h z r =>
      rcases sm_t e h.sq with (h | ⟨o, h⟩) | ⟨o, its, n, hk, hc, _⟩
      · exact .base (.tup h)
      · exact .fTuple h
      · exact .kTuple hk hc
    | dic h r => exact .fDict (e _ _ h)
  | lst h z r => exact .base (.lst h)
  | dic h r => exact .base (.dK h)
def isiM (T : String) (a : EM) : EM := unM (fun d => some (.bool (isB (tyN d) T))) a
theorem kit_all {T : String} (hT : T = "int" ∨ T = "bool" ∨ T = "tuple" ∨ T = "list" ∨ T = "str" ∨ T = "dict") (d : D) : kitB (tyN d) T = some (isB (tyN d) T) := by
  rcases hT with rfl | rfl | rfl | rfl | rfl | rfl <;> cases d <;> dsimp only [tyN] <;> decide +kernel
theorem me_isi {X : Cx} {W : WX} {e : Expr} {ma : EM} {T : Str} {T' : String} {p p2 pos : Pos} (hm : X.mg "isinstance" = none) (hmT : X.mg T = none) (hvT : bootBuiltins T = some (.type T')) (hT : T' = "int" ∨ T' = "bool" ∨ T' = "tuple" ∨ T' = "list" ∨ T' = "str" ∨ T' = "dict")
    (ha : ME X W e ma) (hg : Gl X "isinstance" := by rfl) (hgT : Gl X T := by rfl) (hn : T ≠ "__name__" := by decide) (hd : (T == ("__debug__" : Str)) = false := by decide)
    (he : starEach [e, .Name T p2] X.env = (false, eval e X.env) :: starEach [.Name T p2] X.env := by rfl) (hpl : (backTo pos (starEach [.Name T p2] X.env)).any (·.1) = false := by rfl)
    (he2 : starEach [.Name T p2] X.env = (false, eval (.Name T p2) X.env) :: starEach [] X.env := by rfl) :
    ME X W (.Call (.Name "isinstance" p) [e, .Name T p2] [] pos) (isiM T' ma) := by
  have hT2 : PE X (.Name T p2) (tC (.ty T')) := pe_bltn hgT hmT hvT rfl hn hd
  refine PE.imp (pe_callB call_isi hg hm boot_isinstance (pa_cons ha (pa_cons hT2 pa_nil he2) he) (by decide) (by decide) he hpl) fun σ H Q ⟨φ, F, hp, loc, o, l, h⟩ => ?_
  refine ⟨φ, F, hp, loc, o, l, (PostG.bind (R := RvV (gOf X)) h).imp fun x H1 ⟨φ1, F1, hp1, u, p1, s1, o1, r1, _, h1⟩ => ?_⟩
  cases q1 : viewD hp1 u with
  | none => rw [q1] at h1; exact h1.elim
  | some d =>
    rw [q1] at h1
    refine ⟨x, .ty T', _, _, _, rfl, .ty T', vw_ty o1.ex (o1.view r1 q1), kit_ty (kit_all hT d), ?_⟩
    exact PostG.here (g := gOf X) o1 (show RvV (gOf X) φ1 F1 _ (.d (.bool _)) from Rp.bl _) h1

/-! ### all, any -/
def allD : List D → Option D
  | [.list ds] => (asBools ds).map fun bs => .bool (bs.all id)
  | _ => none
def anyD : List D → Option D
  | [.list ds] => (asBools ds).map fun bs => .bool (bs.any id)
  | _ => none
theorem s_all {K : PySem.W.Frag} : ClS K (rAll K) allD := by
  intro F H xs ds w Q ex vs hf q
  unfold allD at hf
  split at hf
  · rename_i ds
    obtain ⟨x, rfl, vx⟩ := vwl_one vs
    obtain ⟨a, ys, rfl, h1, z1, r1⟩ := vw_lst ex vx
    cases qb : asBools ds with
    | none => rw [qb] at hf; cases hf
    | some bs =>
      rw [qb] at hf
      cases hf
      rw [asBools_eq qb] at r1
      rw [r1.bools] at h1
      exact ⟨a, bs, rfl, h1, q _ F H (Grow.refl ex) (.bl _)⟩
  · cases hf
theorem s_any {K : PySem.W.Frag} : ClS K (rAny K) anyD := by
  intro F H xs ds w Q ex vs hf q
  unfold anyD at hf
  split at hf
  · rename_i ds
    obtain ⟨x, rfl, vx⟩ := vwl_one vs
    obtain ⟨a, ys, rfl, h1, z1, r1⟩ := vw_lst ex vx
    cases qb : asBools ds with
    | none => rw [qb] at hf; cases hf
    | some bs =>
      rw [qb] at hf
      cases hf
      rw [asBools_eq qb] at r1
      rw [r1.bools] at h1
      exact ⟨a, bs, rfl, h1, q _ F H (Grow.refl ex) (.bl _)⟩
  · cases hf

/-! ### tuple(..), list(..) -/
def tupleD : List D → Option D
  | [.list ds] => some (.tuple ds)
  | [.tuple ds] => some (.tuple ds)
  | _ => none
theorem s_tuple {K : PySem.W.Frag} : ClS K (rTupF K) tupleD := by
  intro F H xs ds w Q ex vs hf q
  unfold tupleD at hf
  split at hf
  · obtain ⟨x, rfl, vx⟩ := vwl_one vs
    cases hf
    obtain ⟨a, ys, rfl, h1, z1, r1⟩ := vw_lst ex vx
    exact ⟨a, ys, rfl, .inl ⟨h1, fun p ob hp hd => q _ _ _ (Grow.one ex hp) (.tup (.new hd) z1 (r1.mono (Grow.one (o := .frz ob (.tup ys)) ex hp).f))⟩⟩
  · obtain ⟨x, rfl, vx⟩ := vwl_one vs
    cases hf
    obtain ⟨a, ys, rfl, h1, z1, r1, k1⟩ := vw_tup ex vx
    exact ⟨a, ys, rfl, .inr ⟨h1, q _ F H (Grow.refl ex) k1⟩⟩
  · cases hf
def listL : List D → Option (List D)
  | [.list ds] => some ds
  | [.tuple ds] => some ds
  | _ => none
theorem s_list {K : PySem.W.Frag} : ClF K (fun xs H Q => ∃ p ys, xs = [.ref p] ∧ (SqL K H p ys ∨ SqT K H p ys) ∧ ∀ l, H l = none → Q (.ref l) (upd H l (.lst ys))) listL := by
  intro F H xs ds w Q ex vs hf q
  unfold listL at hf
  split at hf
  · obtain ⟨x, rfl, vx⟩ := vwl_one vs
    cases hf
    obtain ⟨a, ys, rfl, h1, z1, r1⟩ := vw_lst ex vx
    exact ⟨a, ys, rfl, .inl h1, fun p hp => q p ys hp z1 r1⟩
  · obtain ⟨x, rfl, vx⟩ := vwl_one vs
    cases hf
    obtain ⟨a, ys, rfl, h1, z1, r1, k1⟩ := vw_tup ex vx
    exact ⟨a, ys, rfl, .inr h1, fun p hp => q p ys hp z1 r1⟩
  · cases hf

/-! ### int(..), abs, max, min, repr -/
def intD : List D → Option D
  | [.int i] => some (.int i)
  | [.bool b] => some (.int (if b then 1 else 0))
  | _ => none
theorem s_int1 {K : PySem.W.Frag} : ClS K (fun xs H Q => (∃ i, xs = [.int i] ∧ Q (.int i) H) ∨ ∃ k, xs = [.bl k] ∧ Q (.int (if k then 1 else 0)) H) intD := by
  intro F H xs ds w Q ex vs hf q
  unfold intD at hf
  split at hf
  · obtain ⟨x, rfl, vx⟩ := vwl_one vs
    cases hf
    have e := vw_int vx
    subst e
    exact .inl ⟨_, rfl, q _ F H (Grow.refl ex) (.int _)⟩
  · obtain ⟨x, rfl, vx⟩ := vwl_one vs
    cases hf
    have e := vw_bool vx
    subst e
    exact .inr ⟨_, rfl, q _ F H (Grow.refl ex) (.int _)⟩
  · cases hf
def absD : List D → Option D
  | [.int i] => some (.int (if i < 0 then -i else i))
  | _ => none
theorem s_abs {K : PySem.W.Frag} : ClS K (fun xs H Q => ∃ i, xs = [.int i] ∧ Q (.int (if i < 0 then -i else i)) H) absD := by
  intro F H xs ds w Q ex vs hf q
  unfold absD at hf
  split at hf
  · obtain ⟨x, rfl, vx⟩ := vwl_one vs
    cases hf
    have e := vw_int vx
    subst e
    exact ⟨_, rfl, q _ F H (Grow.refl ex) (.int _)⟩
  · cases hf
def max2D : List D → Option D
  | [.int i, .int j] => some (.int (if j > i then j else i))
  | _ => none
def min2D : List D → Option D
  | [.int i, .int j] => some (.int (if j < i then j else i))
  | _ => none
theorem s_max2 {K : PySem.W.Frag} : ClS K (fun xs H Q => ∃ i j, xs = [.int i, .int j] ∧ Q (.int (if j > i then j else i)) H) max2D := by
  intro F H xs ds w Q ex vs hf q
  unfold max2D at hf
  split at hf
  · obtain ⟨x, y, rfl, vx, vy⟩ := vwl_two vs
    cases hf
    have e := vw_int vx
    subst e
    have e := vw_int vy
    subst e
    exact ⟨_, _, rfl, q _ F H (Grow.refl ex) (.int _)⟩
  · cases hf
theorem s_min2 {K : PySem.W.Frag} : ClS K (fun xs H Q => ∃ i j, xs = [.int i, .int j] ∧ Q (.int (if j < i then j else i)) H) min2D := by
  intro F H xs ds w Q ex vs hf q
  unfold min2D at hf
  split at hf
  · obtain ⟨x, y, rfl, vx, vy⟩ := vwl_two vs
    cases hf
    have e := vw_int vx
    subst e
    have e := vw_int vy
    subst e
    exact ⟨_, _, rfl, q _ F H (Grow.refl ex) (.int _)⟩
  · cases hf
end Fz

set_option Elab.async false
set_option linter.all false
set_option maxRecDepth 100000
set_option maxHeartbeats 4000000
/-! Fz6: repr, sets of ints, sorted -/
namespace Fz
open PySem PySem.Spec PyProof.Rows L2

/-! ### repr -/
structure Gd (A : Around) : Prop where
  g : A.guards = some []
  u : A.units + 200 < cLine
theorem Rm.gd {k : Nat} {A : Around} (h : Rm k A) : Gd A := ⟨h.g, by have := h.r.un; omega⟩
theorem Gd.mk' {A : Around} (h : Gd A) (x : Option Value) : Gd (A.mark x) := ⟨h.g, h.u⟩
def repOk (d : D) : Prop := d.canLay0 = true ∧ d.showable = true ∧ d.hasDict = false ∧ d.depth ≤ 100 ∧ d.shown.length ≤ 10000000
instance (d : D) : Decidable (repOk d) := inferInstanceAs (Decidable (_ ∧ _ ∧ _ ∧ _ ∧ _))
def rRep (K : PySem.W.Frag) : List V → Hp → VK → Prop := fun xs H Q => ∃ x d, xs = [x] ∧ Dp K H x d ∧ repOk d ∧ Q (.str d.shown) H
theorem call_rep {X : Cx} (hg : Gd X.A) : CallR X (.builtin "repr") (rRep X.K) := by
  intro pins s σ H xs us Q I r h
  obtain ⟨x, d, rfl, hd, ⟨h1, h2, h3, h4, h5⟩, q⟩ := h
  obtain ⟨u, rfl, ru⟩ := vals1 r
  obtain ⟨as, rd⟩ := Dp.reads I d x u hd ru
  have hz := sz7 h5
  have hu := hg.u
  cases rd with
  | none => exact PySem.P.repr_of_none ⟨.str _, H, I.tok _, ⟨_, rfl⟩, q⟩
  | bool b => exact PySem.P.repr_of_bool ⟨.str _, H, I.tok _, ⟨_, rfl⟩, q⟩
  | int i t => exact PySem.P.repr_of_int (by simpa [PyData.showable] using h2) ⟨.str _, H, I.tok _, ⟨_, rfl⟩, q⟩
  | str y t => exact PySem.P.repr_of_str ⟨.str _, H, I.tok _, ⟨_, rfl⟩, q⟩ hz
  | list e1 e2 e3 e4 =>
    refine repr_of_reads' (.list e1 e2 e3 e4) h2 (fun z => absurd z (by rw [h3]; decide)) hg.g (by omega) (fun _ _ z => z) (fun h' u' tk kp => ?_) hz
    exact ⟨.str _, H, I.kept kp, ⟨_, rfl⟩, q⟩
  | tuple e1 e2 e3 e4 =>
    refine repr_of_reads' (.tuple e1 e2 e3 e4) h2 (fun z => absurd z (by rw [h3]; decide)) hg.g (by omega) (fun _ _ z => z) (fun h' u' tk kp => ?_) hz
    exact ⟨.str _, H, I.kept kp, ⟨_, rfl⟩, q⟩
  | dict => cases hd
def reprD : List D → Option D
  | [d] => if repOk d then some (.str d.shown) else none
  | _ => none
theorem s_repr {K : PySem.W.Frag} : ClS K (rRep K) reprD := by
  intro F H xs ds w Q ex vs hf q
  unfold reprD at hf
  split at hf
  · split at hf
    · rename_i hr
      cases hf
      obtain ⟨x, rfl, vx⟩ := vwl_one vs
      exact ⟨x, _, rfl, vw_dp ex vx hr.1, hr, q _ F H (Grow.refl ex) (.str _)⟩
    · cases hf
  · cases hf

/-! ### set(xs) of ints -/
section
variable {P : Program} {w : World} {A : Around} {E : Value → Shared → Prop} {s : Shared}
/-- a type called whose __init__ checks its arguments by a rule of its own -/
theorem type_run {T idn idi : String} {B : Builtin} {vs : List Value} {Q Q1 : Value → Shared → Prop} (ft : TypeCalled T idn idi) (hct : checkTypeCall T ⟨vs, []⟩ = pure ()) (ent : entryFor table idi = some B)
    (make : codeAny (model P w) A.in1 (.call (.builtin idn) ⟨.type T :: vs, []⟩) (wants Q1 E) s)
    (fill : ∀ ob s1, Q1 ob s1 → s1.TypeIs ob T ∧ (∀ (A' : Around) (E' : Value → Shared → Prop) (Q' : Unit → Shared → Prop), Q' () s1 → wpAny (model P w) A' (checkBuiltinCall idi ⟨ob :: vs, []⟩) Q' E' s1) ∧
      wpAny (model P w) A.in1.in1 (B ⟨ob :: vs, []⟩)
        (fun fin s2 => match fin with
          | .done f => wants (fun r s3 => r = .none ∧ Q ob s3) E (.ok f) s2
          | .again c => c.quiet = true ∧ codeAny (model P w) A.in1 c (wants (fun r s3 => r = .none ∧ Q ob s3) E) s2)
        (fun e s2 => wants (fun r s3 => r = .none ∧ Q ob s3) E (.error e) s2) s1) : wpAny (model P w) A (call (.type T) vs) Q E s := by
  obtain ⟨c, tl, order⟩ := ft.mro
  have t1 := ft.made
  have t2 := ft.sub
  have t3 := ft.notType
  have t4 := ft.canCreate
  apply wpAny_call
  apply codeAny_of_tree
  show wpAny (model P w) _ (callAny (.type T) _) _ _ s
  apply wpAny_pure
  constructor
  · exact Code.quiet_builtin _ (by decide +kernel)
  apply codeAny_builtin F.entry_type_call
  rw [Around.under_plain (weight_type_call_type T vs []) rfl]
  repeat (any_goals first | assumption | wp_step)
  apply codeAny_mono make
  rintro (e | f) s1 z
  · exact z
  cases f with
  | next => exact z.elim
  | brk => exact z.elim
  | cont => exact z.elim
  | ret ob =>
    obtain ⟨u1, u2, u3⟩ := fill ob s1 z
    have t5 := ft.init.lookup
    have t6 := ft.init.bind ob
    repeat (any_goals first | assumption | wp_step)
    apply codeAny_mono (codeAny_call_builtin ft.init.plain ent (u2 _ _ _ u3))
    rintro (e | f) s2 y
    · exact y
    cases f with
    | next => exact y.elim
    | brk => exact y.elim
    | cont => exact y.elim
    | ret r =>
      obtain ⟨rfl, y⟩ := y
      repeat (any_goals first | assumption | wp_step)
abbrev noSet (w : World) : Obj := { cls := .type "set", dict := none, data := .set #[] 0 (.fresh 0 0 (!w.params.followText "set-order")) }
theorem set_ofI {l : Addr} {items : Array Value} (ns : List Int) {Q : Value → Shared → Prop} (hh : A.handled = none) (hl : s.heap.IsList l items) (hit : IntsAre items.toList ns) (hb : ns.length + 1 < scanBound)
    (h : ∀ (h' : Heap) (tk c : Nat), SetR w h' s.heap.objs.size (fun j => decide (j ∈ ns)) c → (∀ b o, s.heap.get? b = some o → h'.get? b = some o) → Q (.ref s.heap.objs.size) { s with heap := h', toks := tk }) :
    wpAny (model P w) A (call (.type "set") [.ref l]) Q E s := by
  have nz : items.size = ns.length := by rw [← Array.length_toList]; exact hit.length
  refine type_run (Q1 := fun ob s1 => ob = .ref s.heap.objs.size ∧ s1 = { s with heap := s.heap.push (noSet w) }) F.called_set (F.typeCall_set_1 _) F.entry_set_init (code_set_led1 _ ⟨rfl, rfl⟩) ?_
  rintro ob s1 ⟨rfl, rfl⟩
  have at1 : (s.heap.push (noSet w)).get? s.heap.objs.size = some (noSet w) := Heap.get?_push_size _ rfl
  refine ⟨⟨_, at1, rfl⟩, fun _ _ _ y => check_set_init_1 ⟨_, at1, rfl⟩ y, ?_⟩
  have ls : (s.heap.push (noSet w)).IsList l items := hl.push _
  obtain ⟨⟨lc, ld, lx, lo⟩, le, hc, n0, hx⟩ := id ls
  dsimp only at hc hx
  subst hc hx
  have no1 := F.sub_list_set
  have no2 := F.sub_list_frozenset
  have no3 : (Value.type "list" == Value.type "dict") = false := by decide
  unfold Builtin.«set.__init__» noKeywords Builtin.Frozenset.updateFrom
  generalize it : pyIter = walkIt
  wp_walk
  subst it
  apply wpAny_pyIter_list ls
  apply wpAny_bind
  apply wpAny_runValue
  have sz1 : (s.heap.push (noSet w)).objs.size = s.heap.objs.size + 1 := Heap.size_push ..
  have ll : l < s.heap.objs.size := by obtain ⟨o, z, _⟩ := hl; exact Heap.lt_size z
  have d1 : l ≠ (s.heap.push (noSet w)).objs.size := by rw [sz1]; exact Nat.ne_of_lt (Nat.lt_succ_of_lt ll)
  have d2 : s.heap.objs.size ∉ [(s.heap.push (noSet w)).objs.size, l] := by
    intro z
    rcases List.mem_cons.mp z with z | z
    · rw [sz1] at z; exact Nat.ne_of_lt (Nat.lt_succ_self _) z
    · exact Nat.ne_of_gt ll (List.mem_singleton.mp z)
  have vals : ∀ (i : Nat) (v : Value), items[i]? = some v → ∃ k t, ns[i]? = some k ∧ v = .int k t := by
    intro i v z
    have hi : i < ns.length := by rw [← nz]; exact (Array.getElem?_eq_some_iff.mp z).1
    obtain ⟨t, e⟩ := hit.int_at i v (by rw [Array.getElem?_toList]; exact z)
    refine ⟨ns[i], t, List.getElem?_eq_getElem hi, ?_⟩
    rw [e, List.getD_eq_getElem?_getD, List.getElem?_eq_getElem hi]
    all_goals rfl
  have hh3 : A.in1.in1.in1.handled = none := by simpa using hh
  refine set_update_ints (Walks.list hh3 _ l d1 items).toS s.heap.objs.size d2 ns nz hb vals (items.size - 0) 0 _ (by omega) (Nat.zero_le _) ⟨⟨_, Heap.get?_push_size _ rfl, rfl, rfl⟩, ls.push _⟩ ?_ ?_
  · exact ⟨0, Nat.le_refl 0, setR_new_at (Heap.get?_push_of_some _ at1)⟩
  · rintro ⟨h1, g1, dr1, tk1, os1⟩ c mv hc hS
    obtain rfl : g1 = s.gens := mv.gens
    obtain rfl : dr1 = s.drawn := mv.drawn
    obtain rfl : os1 = s.os := mv.os
    apply wpAny_pure
    apply wpAny_pure
    refine ⟨rfl, h h1 tk1 c hS fun b o z => ?_⟩
    have lb := Heap.lt_size z
    refine mv.heap b o ?_ (Heap.get?_push_of_some _ (Heap.get?_push_of_some _ z))
    intro y
    rcases List.mem_cons.mp y with y | y
    · exact Nat.ne_of_lt lb y
    · have y' := List.mem_singleton.mp y
      rw [sz1] at y'
      exact Nat.ne_of_lt (Nat.lt_succ_of_lt lb) y'
end
end Fz

set_option Elab.async false
set_option linter.all false
set_option maxRecDepth 100000
set_option maxHeartbeats 4000000
/-! Fz7: sets and sorted, as the mirror has them -/
namespace Fz
open PySem PySem.Spec PyProof.Rows L2

/-! ### sorting, plainly -/
section
variable {α : Type} (le : α → α → Bool)
def insB (x : α) : List α → List α
  | [] => [x]
  | y :: r => if le x y = true then x :: y :: r else y :: insB x r
def sortB : List α → List α
  | [] => []
  | x :: r => insB le x (sortB r)
theorem insB_perm (x : α) : ∀ l, (insB le x l).Perm (x :: l)
  | [] => .refl _
  | y :: r => by
    unfold insB
    split
    · exact .refl _
    · exact ((insB_perm x r).cons y).trans (.swap x y r)
theorem sortB_perm : ∀ l : List α, (sortB le l).Perm l
  | [] => .refl _
  | x :: r => (insB_perm le x (sortB le r)).trans ((sortB_perm r).cons x)
variable {le}
theorem insB_pw {R : α → α → Prop} (tr : ∀ a b c, R a b → R b c → R a c) (yes : ∀ a b, le a b = true → R a b) (no : ∀ a b, ¬ le a b = true → R b a) (x : α) : ∀ {l : List α}, l.Pairwise R → (insB le x l).Pairwise R
  | [], _ => by unfold insB; simp
  | y :: r, h => by
    obtain ⟨h1, h2⟩ := List.pairwise_cons.mp h
    unfold insB
    split
    · rename_i c
      refine List.pairwise_cons.mpr ⟨fun z hz => ?_, h⟩
      rcases List.mem_cons.mp hz with e | hz
      · rw [e]; exact yes _ _ c
      · exact tr _ _ _ (yes _ _ c) (h1 z hz)
    · rename_i c
      refine List.pairwise_cons.mpr ⟨fun z hz => ?_, insB_pw tr yes no x h2⟩
      rcases List.mem_cons.mp ((insB_perm le x r).mem_iff.mp hz) with e | hz
      · rw [e]; exact no _ _ c
      · exact h1 z hz
theorem sortB_pw {R : α → α → Prop} (tr : ∀ a b c, R a b → R b c → R a c) (yes : ∀ a b, le a b = true → R a b) (no : ∀ a b, ¬ le a b = true → R b a) : ∀ l : List α, (sortB le l).Pairwise R
  | [] => .nil
  | x :: r => insB_pw tr yes no x (sortB_pw tr yes no r)
/-- one order, one list -/
theorem pw_uniq {R : α → α → Prop} (anti : ∀ a b, R a b → R b a → a = b) : ∀ {l m : List α}, l.Perm m → l.Pairwise R → m.Pairwise R → l = m
  | [], m, p, _, _ => (p.symm.eq_nil).symm
  | x :: l, [], p, _, _ => absurd p.eq_nil (by simp)
  | x :: l, y :: m, p, h1, h2 => by
    have e : x = y := by
      obtain ⟨a1, _⟩ := List.pairwise_cons.mp h1
      obtain ⟨b1, _⟩ := List.pairwise_cons.mp h2
      rcases List.mem_cons.mp (p.mem_iff.mp (List.mem_cons_self (a := x) (l := l))) with e | hx
      · exact e
      · rcases List.mem_cons.mp (p.mem_iff.mpr (List.mem_cons_self (a := y) (l := m))) with e | hy
        · exact e.symm
        · exact anti _ _ (a1 y hy) (b1 x hx)
    subst e
    rw [pw_uniq anti p.cons_inv (List.pairwise_cons.mp h1).2 (List.pairwise_cons.mp h2).2]
end
abbrev leI (a b : Int) : Bool := decide (a ≤ b)
abbrev sortI : List Int → List Int := sortB leI
theorem sortI_pw (l : List Int) : (sortI l).Pairwise (· ≤ ·) := sortB_pw (le := leI) (R := fun a b : Int => a ≤ b) (fun _ _ _ => Int.le_trans) (fun a b h => of_decide_eq_true h) (fun a b h => by
  have : ¬ a ≤ b := fun z => h (decide_eq_true z)
  show b ≤ a
  omega) l
theorem sortI_perm (l : List Int) : (sortI l).Perm l := sortB_perm leI l
theorem sortI_uniq {l m : List Int} (p : m.Perm l) (h : m.Pairwise (· ≤ ·)) : m = sortI l := pw_uniq (fun a b => Int.le_antisymm) (p.trans (sortI_perm l).symm) h (sortI_pw l)

/-! ### the ints of a list, each once -/
def dedI (l : List Int) : List Int := l.foldl (fun acc x => if x ∈ acc then acc else acc ++ [x]) []
theorem dedI_go : ∀ (l acc : List Int), acc.Nodup → (l.foldl (fun acc x => if x ∈ acc then acc else acc ++ [x]) acc).Nodup ∧ ∀ j, j ∈ l.foldl (fun acc x => if x ∈ acc then acc else acc ++ [x]) acc ↔ j ∈ acc ∨ j ∈ l
  | [], acc, h => ⟨h, fun j => by simp⟩
  | x :: l, acc, h => by
    rw [List.foldl_cons]
    by_cases c : x ∈ acc
    · rw [if_pos c]
      obtain ⟨h1, h2⟩ := dedI_go l acc h
      refine ⟨h1, fun j => ?_⟩
      rw [h2 j, List.mem_cons]
      constructor
      · rintro (z | z)
        · exact .inl z
        · exact .inr (.inr z)
      · rintro (z | z | z)
        · exact .inl z
        · exact .inl (z ▸ c)
        · exact .inr z
    · rw [if_neg c]
      obtain ⟨h1, h2⟩ := dedI_go l (acc ++ [x]) (List.nodup_append.mpr ⟨h, by simp, fun a ha b hb => by
        have e : b = x := by simpa using hb
        intro z
        exact c (by rw [← e, ← z]; exact ha)⟩)
      refine ⟨h1, fun j => ?_⟩
      rw [h2 j, List.mem_append, List.mem_singleton, List.mem_cons, or_assoc]
theorem dedI_nodup (l : List Int) : (dedI l).Nodup := (dedI_go l [] .nil).1
theorem mem_dedI {l : List Int} {j : Int} : j ∈ dedI l ↔ j ∈ l := by
  have h := (dedI_go l [] .nil).2 j
  simpa [dedI] using h
theorem dedI_of_nodup {l : List Int} (h : l.Nodup) : dedI l = l := by
  have go : ∀ (l acc : List Int), (acc ++ l).Nodup → l.foldl (fun acc x => if x ∈ acc then acc else acc ++ [x]) acc = acc ++ l := by
    intro l
    induction l with
    | nil => intro acc _; simp
    | cons x l ih =>
      intro acc h
      have hx : x ∉ acc := fun z => (List.nodup_append.mp h).2.2 x z x (List.mem_cons_self) rfl
      rw [List.foldl_cons, if_neg hx, ih (acc ++ [x]) (by rw [List.append_assoc]; exact h), List.append_assoc]
      rfl
  exact go l [] h
theorem dedI_len_le (l : List Int) : (dedI l).length ≤ l.length := by
  have go : ∀ (l acc : List Int), (l.foldl (fun acc x => if x ∈ acc then acc else acc ++ [x]) acc).length ≤ acc.length + l.length := by
    intro l
    induction l with
    | nil => intro acc; simp
    | cons x l ih =>
      intro acc
      rw [List.foldl_cons]
      split
      · have := ih acc; rw [List.length_cons]; omega
      · have := ih (acc ++ [x]); rw [List.length_append] at this; simp at this ⊢; omega
  simpa [dedI] using go l []

/-! ### set(..), len of it, sorted of it -/
theorem setR_ded {w : World} {h : Heap} {a : Addr} {ns : List Int} {c : Nat} (R : SetR w h a (fun j => decide (j ∈ ns)) c) : SetR w h a (fun j => decide (j ∈ dedI ns)) (dedI ns).length := by
  have R1 := R.congr (S' := fun j => decide (j ∈ dedI ns)) fun k => decide_eq_decide.mpr mem_dedI
  have e : c = (dedI ns).length := by
    obtain ⟨o, es, ep, t, _, _, _, _, nd, mem, _, _, n, _⟩ := R1
    have p : (es.toList.map keyOf).Perm (dedI ns) := (List.perm_ext_iff_of_nodup nd (dedI_nodup ns)).mpr fun k => by rw [← mem k]; simp
    have := p.length_eq
    rw [List.length_map, Array.length_toList] at this
    omega
  rw [← e]
  exact R1
def rSetI (K : PySem.W.Frag) (w : World) : List V → Hp → VK → Prop := fun xs H Q => ∃ l ns, xs = [.ref l] ∧ SqL K H l (ns.map V.int) ∧ ns.length ≤ 4000 ∧ ∀ p, H p = none → Q (.ref p) (upd H p (SetO w p (fun j => decide (j ∈ dedI ns)) (dedI ns).length))
theorem call_setI {X : Cx} (hc : X.calm = true) : CallR X (.type "set") (rSetI X.K X.w) := by
  intro pins s σ H xs us Q I r h
  obtain ⟨l, ns, rfl, hs, hn, q⟩ := h
  obtain ⟨its, rv, pl, _⟩ := I.list hs
  rw [Vals.ref1 r]
  refine set_ofI ns (I.ok.hd hc) pl.isList (by simpa using RZ.intsAre_vals rv) (by unfold scanBound; omega) fun h' tk c R kp => ?_
  exact ⟨.ref _, _, I.laid (t' := tk) kp (Nat.le_refl _) (setO_new (setR_ded R)), rfl, q _ (I.hok.fresh (Nat.le_refl _))⟩
end Fz

set_option Elab.async false
set_option linter.all false
set_option maxRecDepth 100000
set_option maxHeartbeats 4000000
/-! Fz8: dict(pairs), sorted pairs, as rules of the layer -/
namespace Fz
open PySem PySem.Spec PyProof.Rows L2

section
variable {X : Cx} {pins : List (Addr × Obj)} {σ : L2.St} {H : Hp} {s : Shared}
/-- x is a tuple of two -/
def PrV (K : PySem.W.Frag) (H : Hp) (x : V) (kv : Key × V) : Prop := ∃ p, x = .ref p ∧ SqT K H p [kV kv.1, kv.2]
theorem prs_back (I : Inv X pins σ H s) : ∀ {xs : List V} {kvs : List (Key × V)} {its : List Value}, Paired (PrV X.K H) xs kvs → Vals xs its →
    ∃ qs : List (Addr × Key × Value × Value), its = qs.map (fun q => Value.ref q.1) ∧ KV kvs (qs.map fun q => (q.2.1, q.2.2.2)) ∧ ∀ q ∈ qs, IsTup s.heap q.1 #[q.2.2.1, q.2.2.2] ∧ keyIs q.2.1 q.2.2.1 = true
  | _, _, _, .nil, .nil => ⟨[], rfl, .nil, fun _ h => by cases h⟩
  | _, _, _, .cons (b := kv) ⟨p, e, hp⟩ t, .cons r rt => by
    subst e
    obtain ⟨its2, rv, pt, _⟩ := I.tuple hp
    obtain ⟨u, w, rfl, ru, rw'⟩ := vals2 rv
    obtain ⟨qs, e1, e2, e3⟩ := prs_back I t rt
    cases r
    refine ⟨(p, kv.1, u, w) :: qs, by rw [e1]; rfl, .cons ⟨rfl, rw'⟩ e2, fun q hq => ?_⟩
    rcases List.mem_cons.mp hq with z | z
    · subst z; exact ⟨pt, kV_is (P := X.prog) (w := X.w) ru⟩
    · exact e3 q z
end
section
variable {X : Cx}
def rDictT (K : PySem.W.Frag) : List V → Hp → VK → Prop := fun xs H Q => ∃ a ys kvs, xs = [.ref a] ∧ (PlT K H a ys ∨ SqL K H a ys) ∧ ys.length ≤ sizeLine ∧ Paired (PrV K H) ys kvs ∧ ∀ p, H p = none → Q (.ref p) (upd H p (.dK (mergeK [] kvs)))
theorem call_dictT (hc : X.calm = true) : CallR X (.type "dict") (rDictT X.K) := by
  intro pins s σ H xs us Q I r h
  obtain ⟨a, ys, kvs, rfl, ha, hz, hp, q⟩ := h
  obtain rfl := Vals.ref1 r
  have fin : ∀ (T : String) (its : List Value), Vals ys its → PlainSeq T s.heap a its.toArray → (T = "tuple" ∨ T = "list") → wpAny (model X.prog X.w) X.A (call (.type "dict") [.ref a]) (EP X pins σ Q) X.xe s := by
    intro T its rv pl hT
    obtain ⟨qs, e1, e2, e3⟩ := prs_back I hp rv
    have n1 : qs.length = ys.length := by rw [rv.length, e1, List.length_map]
    have ok : PairItems s.heap its.toArray (fun j => (qs.map (·.1)).getD j 0) (qs.map fun q => (q.2.2.1, q.2.2.2)) := by
      refine ⟨by rw [List.size_toArray, e1]; simp, fun j k v hj => ?_⟩
      rw [List.getElem?_map] at hj
      cases hq : qs[j]? with
      | none => rw [hq] at hj; cases hj
      | some q =>
        rw [hq] at hj
        cases hj
        have e4 : (qs.map (·.1)).getD j 0 = q.1 := by rw [List.getD_eq_getElem?_getD, List.getElem?_map, hq]; rfl
        refine ⟨?_, .inl ?_⟩
        · show its.toArray[j]? = some (Value.ref ((qs.map (·.1)).getD j 0))
          rw [e4, e1]; simp [hq]
        · show s.heap.IsTuple ((qs.map (·.1)).getD j 0) _
          rw [e4]; exact (e3 q (List.mem_of_getElem? hq)).1
    have have_ : PairsHave (mixKind X.prog X.w) (qs.map fun q => (q.2.2.1, q.2.2.2)).length (PairRel (qs.map fun q => (q.2.2.1, q.2.2.2))) (qs.map fun q => (q.2.1, q.2.2.2)) := by
      refine ⟨by simp, fun i key v hi => ?_⟩
      have hi' : (qs.map fun q => (q.2.2.1, q.2.2.2))[i]? = some (key, v) := hi
      rw [List.getElem?_map] at hi'
      cases hq : qs[i]? with
      | none => rw [hq] at hi'; cases hi'
      | some q =>
        rw [hq] at hi'
        cases hi'
        exact ⟨q.2.1, by rw [List.getElem?_map, hq]; rfl, (e3 q (List.mem_of_getElem? hq)).2⟩
    have last : ∀ (h' : Heap) (tk : Nat), h'.DictOf (mixKind X.prog X.w) s.heap.objs.size (merged [] (qs.map fun q => (q.2.1, q.2.2.2))) → (∀ b o, s.heap.get? b = some o → h'.get? b = some o) →
        EP X pins σ Q (.ref s.heap.objs.size) { s with heap := h', toks := tk } := by
      intro h' tk hd kp
      have big : (s.heap.objs.size == sysModules) = false := beq_eq_false_iff_ne.mpr (Nat.ne_of_gt I.big)
      have nz : (mergeK [] kvs).length ≤ sizeLine := by
        refine Nat.le_trans (length_mergeK kvs []) ?_
        have := Paired.length hp
        rw [List.length_nil, Nat.zero_add]
        omega
      exact ⟨.ref _, _, I.laid (t' := tk) (o := .dK (mergeK [] kvs)) kp (Nat.le_refl _) ⟨nz, big, _, KV.merge e2 .nil, hd⟩, rfl, q _ (I.hok.fresh (Nat.le_refl _))⟩
    have nl : (qs.map fun q => (q.2.2.1, q.2.2.2)).length ≤ sizeLine := by rw [List.length_map]; omega
    rcases hT with rfl | rfl
    · exact PySem.call_dict_pairs (PairArg.tuple a its.toArray _ _) (I.ok.hd hc) ⟨pl, ok⟩ have_ nl fun h' tk hd kp => last h' tk hd fun b o e => kp b o (by simp) e
    · exact PySem.call_dict_pairs (PairArg.list a its.toArray _ _) (I.ok.hd hc) ⟨pl, ok⟩ have_ nl fun h' tk hd kp => last h' tk hd fun b o e => kp b o (by simp) e
  rcases ha with (⟨ob, ha, hd⟩ | ⟨ob, its, n, ⟨h1, h2⟩, h3, h4, h5, h6⟩) | ha
  · obtain ⟨e, z, its, rv, ho⟩ := I.hok a _ ha
    obtain ⟨ob', e', hcl, n, hdat⟩ := ho
    rw [e] at e'
    cases e'
    exact fin "tuple" its rv ⟨ob, n, e, hcl, hd, hdat⟩ (.inl rfl)
  · refine fin "tuple" its.toList h6 ⟨ob, n, I.kIn a ob h1, h3, h2, by simpa using h4⟩ (.inl rfl)
  · obtain ⟨its, rv, pl, _⟩ := I.list ha
    obtain ⟨o, n, e1, e2, e3, e4⟩ := pl
    exact fin "list" its rv ⟨o, n, e1, e2, e3, e4⟩ (.inr rfl)

/-! ### sorted pairs -/
abbrev leP (p q : Int × Int) : Bool := !SrtO.lexB q p
abbrev sortP : List (Int × Int) → List (Int × Int) := sortB leP
theorem leP_iff {p q : Int × Int} : leP p q = true ↔ p.1 < q.1 ∨ (p.1 = q.1 ∧ p.2 ≤ q.2) := by
  unfold leP
  rw [Bool.not_eq_true', SrtO.lexB_no]
  omega
theorem sortP_pw (l : List (Int × Int)) : (sortP l).Pairwise fun p q => leP p q = true :=
  sortB_pw (le := leP) (R := fun p q => leP p q = true) (fun a b c h k => by rw [leP_iff] at *; omega) (fun _ _ h => h) (fun a b h => by rw [leP_iff] at *; omega) l
theorem sortP_perm (l : List (Int × Int)) : (sortP l).Perm l := sortB_perm leP l
theorem sortP_uniq {l m : List (Int × Int)} (p : m.Perm l) (h : m.Pairwise fun p q => leP p q = true) : m = sortP l :=
  pw_uniq (R := fun p q => leP p q = true) (fun a b h k => by
    rw [leP_iff] at h k
    have h1 : a.1 = b.1 := by omega
    have h2 : a.2 = b.2 := by omega
    exact Prod.ext h1 h2) (p.trans (sortP_perm l).symm) h (sortP_pw l)
def rSortT (K : PySem.W.Frag) : List V → Hp → VK → Prop := fun vs H Q => ∃ (a : Addr) (xs : List V) (ps : List (Int × Int)) (R : V → Int × Int → Prop), vs = [.ref a] ∧ SqL K H a xs ∧ (∀ x p, R x p → ∃ t, x = .ref t ∧ SqT K H t [.int p.1, .int p.2]) ∧ Paired R xs ps ∧
  ∀ ys p, ys.length = xs.length → Paired R ys (sortP ps) → H p = none → Q (.ref p) (upd H p (.lst ys))
theorem paired_mem {α β : Type} {R : α → β → Prop} : ∀ {l : List α} {m : List β}, Paired R l m → ∀ x ∈ l, ∃ y, R x y
  | _, _, .nil, _, h => by cases h
  | _, _, .cons a t, x, h => by
    rcases List.mem_cons.mp h with e | e
    · subst e; exact ⟨_, a⟩
    · exact paired_mem t x e
theorem paired_map {α β : Type} {R : α → β → Prop} (k : α → β) : ∀ {l : List α}, (∀ x ∈ l, R x (k x)) → Paired R l (l.map k)
  | [], _ => .nil
  | x :: l, h => .cons (h x List.mem_cons_self) (paired_map k fun y hy => h y (List.mem_cons_of_mem _ hy))
open Classical in
theorem call_sortT : CallR X (.builtin "sorted") (rSortT X.K) := by
  intro pins s σ H vs us Q I r h
  obtain ⟨a, xs, ps, R, rfl, hs, hR, hp, q⟩ := h
  obtain ⟨its, rv, hl, hz⟩ := I.list hs
  obtain rfl := Vals.ref1 r
  have uq : ∀ x p p', R x p → R x p' → p = p' := by
    intro x p p' h1 h2
    obtain ⟨t, e1, e2⟩ := hR x p h1
    obtain ⟨t', e3, e4⟩ := hR x p' h2
    rw [e1] at e3
    cases e3
    have e := I.tuple_inj e2 e4
    cases p
    cases p'
    simpa using e
  let k : V → Int × Int := fun x => if h : ∃ p, R x p then h.choose else (0, 0)
  have kR : ∀ x ∈ xs, R x (k x) := by
    intro x hx
    have h := paired_mem hp x hx
    show R x (if h : ∃ p, R x p then h.choose else (0, 0))
    rw [dif_pos h]
    exact h.choose_spec
  have kp : ∀ {l : List V} {m : List (Int × Int)}, Paired R l m → (∀ x ∈ l, R x (k x)) → l.map k = m := by
    intro l m h
    induction h with
    | nil => intro _; rfl
    | cons a t ih =>
      intro g
      rw [List.map_cons, uq _ _ _ (g _ List.mem_cons_self) a, ih fun x hx => g x (List.mem_cons_of_mem _ hx)]
  obtain ⟨e1, e2⟩ := refs_back rv fun x m => by
    obtain ⟨t, e, _⟩ := hR x _ (kR x m)
    exact ⟨t, e⟩
  refine SrtO.sorted_pairsO (k := fun u => k (backV u)) hl.isList (by rw [← rv.length]; exact hz) (fun v hv => ?_) fun h' d out h1 h2 kp' hd hn => ?_
  · obtain ⟨t, rfl⟩ := e2 v hv
    have hm : V.ref t ∈ xs := by rw [e1]; exact List.mem_map.mpr ⟨_, hv, rfl⟩
    obtain ⟨t', e, ht⟩ := hR _ _ (kR _ hm)
    cases e
    obtain ⟨its2, r2, ⟨o, ho, hc, n, hd⟩, _⟩ := I.tuple ht
    obtain ⟨u1, u2, rfl, ⟨t1, rfl⟩, t2, rfl⟩ := vals2 r2
    exact ⟨t, o, t1, t2, n, rfl, ho, hc, hd⟩
  · have h3 : ∀ u ∈ out, ∃ a, u = Value.ref a := fun u hu => e2 u (h2.perm.mem_iff.mp hu)
    obtain ⟨n, hn⟩ := hn
    have pm : (out.map backV).Perm xs := by rw [e1]; exact h2.perm.map backV
    have key : (out.map backV).map k = sortP ps := by
      refine sortP_uniq ?_ ?_
      · rw [← kp hp kR]; exact pm.map k
      · rw [List.map_map]
        refine List.pairwise_map.mpr (h1.imp fun {x y} z => ?_)
        show leP (k (backV x)) (k (backV y)) = true
        show (!SrtO.lexB (k (backV y)) (k (backV x))) = true
        have z' : SrtO.lexB (k (backV y)) (k (backV x)) = false := z
        rw [z']
        rfl
    refine ⟨.ref d, upd H d (.lst (out.map backV)), I.laid (t' := s.toks) kp' hd ⟨by rw [pm.length_eq]; exact hz, out, n, vals_back h3, hn⟩, rfl, q _ d pm.length_eq ?_ (I.hok.fresh hd)⟩
    rw [← key]
    exact paired_map k fun x hx => kR x (pm.mem_iff.mp hx)
end
end Fz

set_option Elab.async false
set_option linter.all false
set_option maxRecDepth 100000
set_option maxHeartbeats 4000000
/-! Fz9: sorted(d.values()) -/
namespace Fz
open PySem PySem.Spec PyProof.Rows L2
theorem ints_at' : ∀ {us : List Value} {ks : List Int}, us.length = ks.length → (∀ (j : Nat) (v : Value), us[j]? = some v → ∃ (x : Int) (t : Tok), ks[j]? = some x ∧ v = Value.int x t) → IntsAre us ks
  | [], [], _, _ => .nil
  | [], _ :: _, h, _ => by simp at h
  | _ :: _, [], h, _ => by simp at h
  | u :: us, k :: ks, hl, h => by
    obtain ⟨x, t, e1, rfl⟩ := h 0 u rfl
    obtain rfl : k = x := by simpa using e1
    refine .cons _ _ (ints_at' (by simpa using hl) fun j v e => ?_)
    obtain ⟨x, t, a, b⟩ := h (j + 1) v (by simpa using e)
    exact ⟨x, t, by simpa using a, b⟩
theorem sort_src {P : Program} {w : World} {A : Around} {E : Value → Shared → Prop} {s : Shared} {Q : Value → Shared → Prop} {T : String} {r d : Addr} {n : Nat} {Pv : Nat → Value → Prop} {OK : Heap → Prop} (K : PySem.W.KdlSrc P w T r d n Pv OK) (hh : A.handled = none) (ok : OK s.heap)
    (is : List Int) (hn : n = is.length) (h64 : is.length < 64) (hv : ∀ i v, i < n → Pv i v → ∃ x t, is[i]? = some x ∧ v = Value.int x t)
    (h : ∀ (h1 h' : Heap) (tk : Nat) (out : List Value) (e : Nat), (∀ b o, s.heap.get? b = some o → h1.get? b = some o) → (∀ b o, h1.get? b = some o → h'.get? b = some o) → h'.get? h1.objs.size = some { cls := .type "list", data := .seq out.toArray e } → IntsAre out (sortI is) → Q (.ref h1.objs.size) { s with heap := h', toks := tk }) :
    wpAny (model P w) A (call (.builtin "sorted") [.ref r]) Q E s := by
  have nz : n ≤ sizeLine := by rw [sizeLine_eq]; omega
  apply Calls.call_function_entry PyProof.Rows.kind_sorted PyProof.Rows.plain_sorted PyProof.Rows.entry_sorted (PyProof.Rows.args_sorted1 _)
  unfold Builtin.«sorted»
  apply wpAny_bind (m := checkCount "sorted" 1 1 _)
  apply wpAny_pure
  apply wpAny_bind
  refine PySem.W.kdu_collect (A := A.in1) K hh ok nz fun h1 tk acc kp hacc => ?_
  have al : acc.toList.length = is.length := by rw [Array.length_toList, hacc.1, hn]
  have hS : IntsAre acc.toList is := ints_at' al fun j v e => by
    have hj : j < n := by rw [hn, ← al]; exact (List.getElem?_eq_some_iff.mp e).1
    exact hv j v hj (hacc.2 j v (by rw [← Array.getElem?_toList]; exact e))
  apply wpAny_bind
  apply wpAny_newList ?_ (by rw [al, sizeLine_eq]; omega)
  have ob : (h1.push (seqObj "list" acc.toList.toArray 0)).get? h1.objs.size = some (seqObj "list" acc.toList.toArray 0) := Heap.get?_push_size _ rfl
  show wpAny _ _ _ _ _ { s with heap := h1.push (seqObj "list" acc.toList.toArray 0), toks := tk }
  refine wpAny_bind (wpAny_holding (wpAny_call_entry PyProof.Rows.slot_list_sort ⟨_, ob, rfl⟩ PyProof.Rows.entry_list_sort ?_ (PyProof.Rows.args_list_sort _)))
  apply PyProof.Rows.list_sort_tree (s := { s with heap := h1.push (seqObj "list" acc.toList.toArray 0), toks := tk }) ob hS (by rw [al]; exact h64)
  intro out ys g1 g2 g3
  refine ⟨_, rfl, ?_⟩
  obtain ⟨e, he⟩ := PyProof.Rows.sortedHeap_at (vs := acc.toList) (out := out) ob
  apply wpAny_pure
  refine ⟨_, rfl, ?_⟩
  obtain rfl : ys = sortI is := sortI_uniq g2 g3
  refine h h1 _ tk out.toList e kp (fun b o z => ?_) (by rw [Array.toArray_toList]; exact he) g1
  have lb := Heap.lt_size z
  rw [PyProof.Rows.sortedHeap_old (Nat.ne_of_lt lb) (by rw [size_push']; exact Nat.lt_succ_of_lt lb)]
  exact Heap.get?_push_of_some _ z
def tSortVals (td : TE) : TE := fun σ H Q => td σ H fun x H1 => ∃ a kvs is, x = .ref a ∧ Rd H1 a (.dK kvs) ∧ kvs.map (·.2) = is.map V.int ∧ is.length < 64 ∧ ∀ p, H1 p = none → Q (.ref p) (upd H1 p (.lst ((sortI is).map V.int)))
theorem pe_sortVals {X : Cx} {o : Expr} {p pos apos mpos : Pos} {td : TE} (hc : X.calm = true) (hg : Gl X "sorted") (hm : X.mg "sorted" = none) (hd : PE X o td) (hbase : attributeBase o "values" X.env (eval o X.env) = eval o X.env := by rfl) (hline : (apos.endLine == mpos.line) = true := by rfl)
    (hse : starEach [Expr.Call (.Attribute o "values" apos) [] [] mpos] X.env = [(false, eval (Expr.Call (.Attribute o "values" apos) [] [] mpos) X.env)] := by rfl) :
    PE X (.Call (.Name "sorted" p) [.Call (.Attribute o "values" apos) [] [] mpos] [] pos) (tSortVals td) := by
  constructor
  intro pins s σ H Q I h
  refine wpAny_Call_Name_kw (ld_blt I hg hm (u := .builtin "sorted") (by first | rfl | decide +kernel) ?_ (by first | decide +kernel | decide) (by first | decide +kernel | decide))
  rw [hse]
  refine PySem.callWith_builtin1 (wpAny_Call_method0_late hbase hline (thn (hd.run pins s σ H _ I h) ?_))
  rintro v s1 ⟨x, H1, I1, r1, a, kvs, is, rfl, ha, hv, h64, q⟩
  obtain rfl : v = Value.ref a := r1
  obtain ⟨z, lo, vs, rel, dof⟩ := dk_rd I1.hok ha
  obtain ⟨ep, dat⟩ := dof.dictAt
  obtain ⟨ob, es, ho, ex, _⟩ := id dat
  refine ⟨"dict", "dict.values", F.plainAttrs_dict, F.slot_dict_values, F.type_dict_values, ⟨ob, ho, ex.1⟩, ?_, Calls.callWith_builtin rfl (PySem.evalArgs_none ?_)⟩
  · rintro b ⟨⟩
    exact ⟨ob, ho, ex.2.1⟩
  refine call_meetsIn F.slot_dict_values ⟨ob, ho, ex.1⟩ F.entry_dict_values (F.args_dict_values_1 (.ref a)) (meets_dict_values (mixKind X.prog X.w) a lo) ⟨⟨vs, dof⟩, ?_⟩
  have k1 : ∀ b u, s1.heap.get? b = some u → (s1.heap.push { cls := .type "dict_values", data := .fields #[.ref a] }).get? b = some u := fun b u e => Heap.get?_push_of_some _ e
  have nv : vs.length = is.length := by
    have e1 := congrArg List.length hv
    rw [List.length_map, List.length_map] at e1
    rw [← e1]
    exact (KV.length rel).symm
  refine sort_src (PySem.W.kdl_values (knd := mixKind X.prog X.w) (r := s1.heap.objs.size) (d := a) (kvs := vs) (ep := ep)) (I.ok.hd hc) ⟨⟨_, Heap.get?_push_size _ rfl, rfl, rfl⟩, dat.keep k1⟩ is nv h64 ?_ ?_
  · rintro i v hi ⟨k, hk⟩
    obtain ⟨x, h1, h2⟩ := KV.at' rel hk
    have e1 : (kvs.map (·.2))[i]? = some x := by rw [List.getElem?_map, h1]; rfl
    rw [hv, List.getElem?_map] at e1
    obtain ⟨j, hj, e2⟩ := Option.map_eq_some_iff.mp e1
    subst e2
    obtain ⟨t, e3⟩ := h2
    exact ⟨j, t, hj, e3⟩
  · intro h1 h' tk out e kp kp2 he hi
    have I2 : Inv X pins σ H1 { s1 with heap := h1, toks := tk } := I1.kept fun b u e => kp b u (k1 b u e)
    refine ⟨.ref h1.objs.size, upd H1 h1.objs.size (.lst ((sortI is).map V.int)), I2.laid (t' := tk) kp2 (Nat.le_refl _) ⟨?_, out, e, vals_ints hi, he⟩, rfl, q _ (I2.hok.fresh (Nat.le_refl _))⟩
    rw [List.length_map, (sortI_perm is).length_eq, sizeLine_eq]
    omega
end Fz

set_option Elab.async false
set_option linter.all false
set_option maxRecDepth 100000
set_option maxHeartbeats 4000000
/-! FzA: dicts, sets, sorted, as the mirror has them -/
namespace Fz
open PySem PySem.Spec PyProof.Rows L2

/-! ### one argument, told at will -/
def bindE (a : EM) (k : Vl → List O → Res Vl) : EM := fun loc hp => (a loc hp).bind k
def K1 (g : Gb) (r : List V → Hp → VK → Prop) (k : Vl → List O → Res Vl) : Prop :=
  ∀ (φ : List Addr) (F H : Hp) (hp : List O) (x : V) (v : Vl) (W : XK) (Q : VK), Own g φ F hp H → RvV g φ F x v → PostG g (RvV g) φ F W Q (k v hp) → r [x] H Q
section
variable {X : Cx} {W : WX} {e e1 : Expr} {ma : EM} {pos p : Pos}
theorem me_b1 {r : List V → Hp → VK → Prop} {k : Vl → List O → Res Vl} (hk : K1 (gOf X) r k) (h : ∀ t, PA X [e1] t → PE X e (tCB r t)) (ha : ME X W e1 ma) (hs : starEach [e1] X.env = (false, eval e1 X.env) :: starEach [] X.env := by rfl) : ME X W e (bindE ma k) := by
  refine PE.imp (h _ (pa_cons ha pa_nil hs)) fun σ H Q ⟨φ, F, hp, loc, o, l, h⟩ => ?_
  refine ⟨φ, F, hp, loc, o, l, (PostG.bind (R := RvV (gOf X)) h).imp fun x H1 ⟨φ1, F1, hp1, u, p1, s1, o1, r1, _, h1⟩ => ?_⟩
  exact hk φ1 F1 H1 hp1 x u _ Q o1 r1 h1
theorem me_b1B {x : Str} {id : String} {r : List V → Hp → VK → Prop} {k : Vl → List O → Res Vl} (hk : K1 (gOf X) r k) (hc : CallR X (.builtin id) r) (hm : X.mg x = none) (hv : bootBuiltins x = some (.builtin id)) (ha : ME X W e1 ma) (hg : Gl X x := by rfl) (hn : x ≠ "__name__" := by decide)
    (hdb : (x == ("__debug__" : Str)) = false := by decide) (hs : starEach [e1] X.env = (false, eval e1 X.env) :: starEach [] X.env := by rfl) (hpl : (backTo pos (starEach [] X.env)).any (·.1) = false := by rfl) : ME X W (.Call (.Name x p) [e1] [] pos) (bindE ma k) :=
  me_b1 hk (fun _ h => pe_callB hc hg hm hv h hn hdb hs hpl) ha hs
theorem me_b1T {x : Str} {T : String} {r : List V → Hp → VK → Prop} {k : Vl → List O → Res Vl} (hk : K1 (gOf X) r k) (hc : CallR X (.type T) r) (hm : X.mg x = none) (hv : bootBuiltins x = some (.type T)) (ha : ME X W e1 ma) (hg : Gl X x := by rfl) (hn : x ≠ "__name__" := by decide)
    (hdb : (x == ("__debug__" : Str)) = false := by decide) (hs : starEach [e1] X.env = (false, eval e1 X.env) :: starEach [] X.env := by rfl) (hpl : (backTo pos (starEach [] X.env)).any (·.1) = false := by rfl) : ME X W (.Call (.Name x p) [e1] [] pos) (bindE ma k) :=
  me_b1 hk (fun _ h => pe_callTy hc hg hm hv h hn hdb hs hpl) ha hs
end
/-- the answer is a new list: known, or ours -/
def NewL (g : Gb) (r : List V → Hp → VK → Prop) (f : Vl → List O → Option (List D)) : Prop :=
  ∀ (φ : List Addr) (F H : Hp) (hp : List O) (x : V) (v : Vl) (ds : List D) (Q : VK), Own g φ F hp H → RvV g φ F x v → f v hp = some ds → (∀ p ws, H p = none → ws.length ≤ sizeLine → RpL g.K F ws ds → Q (.ref p) (upd H p (.lst ws))) → r [x] H Q
def newD (f : Vl → List O → Option (List D)) : Vl → List O → Res Vl := fun v hp => match f v hp with
  | some ds => .ok (.d (.list ds)) hp
  | none => .bad
def newO (f : Vl → List O → Option (List D)) : Vl → List O → Res Vl := fun v hp => match f v hp with
  | some ds => .ok (.r hp.length) (hp ++ [.lst ds])
  | none => .bad
theorem NewL.d {g : Gb} {r : List V → Hp → VK → Prop} {f : Vl → List O → Option (List D)} (h : NewL g r f) : K1 g r (newD f) := by
  intro φ F H hp x v W Q o rv hq
  unfold newD at hq
  cases q : f v hp with
  | none => rw [q] at hq; exact hq.elim
  | some ds =>
    rw [q] at hq
    exact h φ F H hp x v ds Q o rv q fun p ws hp z r => PostG.grown o (Grow.one o.ex hp) (show RvV g φ _ (.ref p) (.d (.list ds)) from .lst (SqL.of upd_same) z (r.mono (Grow.one (o := .lst ws) o.ex hp).f)) hq
theorem NewL.o {g : Gb} {r : List V → Hp → VK → Prop} {f : Vl → List O → Option (List D)} (h : NewL g r f) : K1 g r (newO f) := by
  intro φ F H hp x v W Q o rv hq
  unfold newO at hq
  cases q : f v hp with
  | none => rw [q] at hq; exact hq.elim
  | some ds =>
    rw [q] at hq
    exact h φ F H hp x v ds Q o rv q fun p ws hn z r => hq (φ ++ [p]) F _ (.ref p) (List.prefix_append _ _) (Same.refl _) (o.lay (x := .lst ds) hn ⟨ws, rfl, z, r⟩) ⟨p, by rw [← o.len, List.getElem?_append_right (Nat.le_refl _)]; simp, rfl⟩
def NewDi (g : Gb) (r : List V → Hp → VK → Prop) (f : Vl → List O → Option (List (D × D))) : Prop :=
  ∀ (φ : List Addr) (F H : Hp) (hp : List O) (x : V) (v : Vl) (ds : List (D × D)) (Q : VK), Own g φ F hp H → RvV g φ F x v → f v hp = some ds → (∀ p ws, H p = none → RpK g.K F ws ds → Q (.ref p) (upd H p (.dK ws))) → r [x] H Q
def newDic (f : Vl → List O → Option (List (D × D))) : Vl → List O → Res Vl := fun v hp => match f v hp with
  | some ds => .ok (.r hp.length) (hp ++ [.dic ds])
  | none => .bad
theorem NewDi.o {g : Gb} {r : List V → Hp → VK → Prop} {f : Vl → List O → Option (List (D × D))} (h : NewDi g r f) : K1 g r (newDic f) := by
  intro φ F H hp x v W Q o rv hq
  unfold newDic at hq
  cases q : f v hp with
  | none => rw [q] at hq; exact hq.elim
  | some ds =>
    rw [q] at hq
    exact h φ F H hp x v ds Q o rv q fun p ws hn r => hq (φ ++ [p]) F _ (.ref p) (List.prefix_append _ _) (Same.refl _) (o.lay (x := .dic ds) hn ⟨ws, rfl, r⟩) ⟨p, by rw [← o.len, List.getElem?_append_right (Nat.le_refl _)]; simp, rfl⟩

/-! ### dicts, plainly -/
def keq : D → D → Bool
  | .int i, .int j => decide (i = j)
  | .str a, .str b => decide (a = b)
  | _, _ => false
def toKey : D → Option Key
  | .int i => some (.inl i)
  | .str x => some (.inr x)
  | _ => none
theorem toKey_eq {d : D} {k : Key} (h : toKey d = some k) : d = kD k := by
  unfold toKey at h
  split at h <;> cases h <;> rfl
theorem toKey_kD (k : Key) : toKey (kD k) = some k := by cases k <;> rfl
theorem keq_kD (a b : Key) : keq (kD a) (kD b) = decide (a = b) := by
  cases a <;> cases b <;> simp [keq, kD]
def valD (ds : List (D × D)) (k : D) : Option D := (ds.find? fun p => keq p.1 k).map (·.2)
def putD (ds : List (D × D)) (k v : D) : List (D × D) := if (ds.any fun p => keq p.1 k) = true then ds.map (fun p => if keq p.1 k = true then (p.1, v) else p) else ds ++ [(k, v)]
def mergeD (ps : List (D × D)) : List (D × D) := ps.foldl (fun acc p => putD acc p.1 p.2) []
section
variable {K : PySem.W.Frag} {F : Hp}
theorem RpK.len : ∀ {kvs : List (Key × V)} {ds : List (D × D)}, RpK K F kvs ds → kvs.length = ds.length
  | _, _, .nil => rfl
  | _, _, .cons _ r => by rw [List.length_cons, List.length_cons, RpK.len r]
theorem RpK.val {k : Key} : ∀ {kvs : List (Key × V)} {ds : List (D × D)}, RpK K F kvs ds → (valV kvs k = none ∧ valD ds (kD k) = none) ∨ ∃ v d, valV kvs k = some v ∧ valD ds (kD k) = some d ∧ Rp K F v d
  | _, _, .nil => .inl ⟨rfl, rfl⟩
  | _, _, .cons (k := k') (v := v) (d := d) (kvs := kvs) (ds := ds) h r => by
    by_cases c : k' = k
    · refine .inr ⟨v, d, valV_pos c, ?_, h⟩
      unfold valD
      rw [List.find?_cons, keq_kD, decide_eq_true c]
      rfl
    · have e : valD ((kD k', d) :: ds) (kD k) = valD ds (kD k) := by
        unfold valD
        rw [List.find?_cons, keq_kD, decide_eq_false c]
      rw [valV_neg c, e]
      exact RpK.val r
theorem RpK.any {k : Key} : ∀ {kvs : List (Key × V)} {ds : List (D × D)}, RpK K F kvs ds → (kvs.any fun kv => decide (kv.1 = k)) = ds.any fun p => keq p.1 (kD k)
  | _, _, .nil => rfl
  | _, _, .cons h r => by rw [List.any_cons, List.any_cons, RpK.any r, keq_kD]
theorem RpK.app : ∀ {kvs kws : List (Key × V)} {ds es : List (D × D)}, RpK K F kvs ds → RpK K F kws es → RpK K F (kvs ++ kws) (ds ++ es)
  | _, _, _, _, .nil, h => h
  | _, _, _, _, .cons a r, h => .cons a (RpK.app r h)
theorem RpK.mapPut {k : Key} {v : V} {d : D} (h : Rp K F v d) : ∀ {kvs : List (Key × V)} {ds : List (D × D)}, RpK K F kvs ds → RpK K F (kvs.map fun kv => if kv.1 = k then (kv.1, v) else kv) (ds.map fun p => if keq p.1 (kD k) = true then (p.1, d) else p)
  | _, _, .nil => .nil
  | _, _, .cons (k := k') a r => by
    rw [List.map_cons, List.map_cons]
    by_cases c : k' = k
    · rw [if_pos c, if_pos (by rw [keq_kD]; exact decide_eq_true c)]
      exact .cons h (RpK.mapPut h r)
    · rw [if_neg c, if_neg (by rw [keq_kD]; simpa using c)]
      exact .cons a (RpK.mapPut h r)
theorem RpK.put {k : Key} {v : V} {d : D} (h : Rp K F v d) {kvs : List (Key × V)} {ds : List (D × D)} (r : RpK K F kvs ds) : RpK K F (putK kvs k v) (putD ds (kD k) d) := by
  unfold putK putD
  rw [r.any]
  split
  · exact r.mapPut h
  · exact r.app (.cons h .nil)
theorem RpK.merge : ∀ {more : List (Key × V)} {ps : List (D × D)}, RpK K F more ps → RpK K F (mergeK [] more) (mergeD ps) := by
  have go : ∀ {more : List (Key × V)} {ps : List (D × D)}, RpK K F more ps → ∀ {kvs : List (Key × V)} {ds : List (D × D)}, RpK K F kvs ds → RpK K F (more.foldl (fun acc kv => putK acc kv.1 kv.2) kvs) (ps.foldl (fun acc p => putD acc p.1 p.2) ds) := by
    intro more
    induction more with
    | nil =>
      intro ps r kvs ds h
      cases r
      exact h
    | cons kv more ih =>
      intro ps r kvs ds h
      cases r with
      | cons a r => exact ih r (h.put a)
  exact fun {more ps} r => go r .nil
theorem rp_key {x : V} {k : Key} (h : Rp K F x (kD k)) : x = kV k := by
  cases k <;> cases h <;> rfl
theorem RpK.keys : ∀ {kvs : List (Key × V)} {ds : List (D × D)}, RpK K F kvs ds → RpL K F (kvs.map fun kv => kV kv.1) (ds.map (·.1))
  | _, _, .nil => .nil
  | _, _, .cons (k := k) h r => .cons (by cases k; exact .int _; exact .str _) (RpK.keys r)
theorem RpK.ints : ∀ {kvs : List (Key × V)} {ds : List (D × D)} {ns : List Int}, RpK K F kvs ds → asInts (ds.map (·.1)) = some ns → kvs.map (·.1) = ns.map Sum.inl
  | _, _, ns, .nil, h => by cases h; rfl
  | _, _, ns, .cons (k := k) (ds := ds) a r, h => by
    cases k with
    | inr x => cases h
    | inl i =>
      have h' : (asInts (ds.map (·.1))).map (i :: ·) = some ns := h
      cases q : asInts (ds.map (·.1)) with
      | none => rw [q] at h'; cases h'
      | some ms =>
        rw [q] at h'
        cases h'
        rw [List.map_cons, List.map_cons, RpK.ints r q]
theorem RpK.vals : ∀ {kvs : List (Key × V)} {ds : List (D × D)} {ns : List Int}, RpK K F kvs ds → asInts (ds.map (·.2)) = some ns → kvs.map (·.2) = ns.map V.int
  | _, _, ns, .nil, h => by cases h; rfl
  | _, _, ns, .cons (d := d) (ds := ds) a r, h => by
    rw [List.map_cons] at h
    cases d with
    | int i =>
      have h' : (asInts (ds.map (·.2))).map (i :: ·) = some ns := h
      cases q : asInts (ds.map (·.2)) with
      | none => rw [q] at h'; cases h'
      | some ms =>
        rw [q] at h'
        cases h'
        cases a
        rw [List.map_cons, List.map_cons, RpK.vals r q]
    | _ => cases h
end
def pairsD : List D → Option (List (D × D))
  | [] => some []
  | .tuple [k, v] :: r => (toKey k).bind fun _ => (pairsD r).map ((k, v) :: ·)
  | _ => none
theorem pairs_rel {K : PySem.W.Frag} {F H : Hp} (ex : Same F H) : ∀ {xs : List V} {ds : List D} {ps : List (D × D)}, RpL K F xs ds → pairsD ds = some ps → ∃ kvs, Paired (PrV K H) xs kvs ∧ RpK K F kvs ps
  | _, _, _, .nil, h => by cases h; exact ⟨[], .nil, .nil⟩
  | _, _, ps, .cons (v := x) (d := d) (ds := ds) a r, h => by
    unfold pairsD at h
    split at h
    · rename_i e; cases e
    · rename_i k v r' e
      cases e
      cases qk : toKey k with
      | none => rw [qk] at h; cases h
      | some key =>
        rw [qk] at h
        cases qr : pairsD ds with
        | none => rw [qr] at h; cases h
        | some ps' =>
          rw [qr] at h
          cases h
          obtain ⟨kvs, h1, h2⟩ := pairs_rel ex r qr
          rw [toKey_eq qk] at a ⊢
          cases a with
          | tup ha hz ra =>
            cases ra with
            | cons rk ra =>
              cases ra with
              | cons rv ra =>
                cases ra
                have e := rp_key rk
                subst e
                exact ⟨(key, _) :: kvs, .cons ⟨_, rfl, sm_t ex ha.sq⟩ h1, .cons rv h2⟩
    · cases h
end Fz

set_option Elab.async false
set_option linter.all false
set_option maxRecDepth 100000
set_option maxHeartbeats 4000000
/-! FzB: the rules for dicts, sets, sorted -/
namespace Fz
open PySem PySem.Spec PyProof.Rows L2

/-! ### sorted -/
def pairD (p : Int × Int) : D := .tuple [.int p.1, .int p.2]
def asPairs : List D → Option (List (Int × Int))
  | [] => some []
  | .tuple [.int a, .int b] :: r => (asPairs r).map ((a, b) :: ·)
  | _ => none
theorem asPairs_eq : ∀ {ds : List D} {ps : List (Int × Int)}, asPairs ds = some ps → ds = ps.map pairD
  | [], _, h => by cases h; rfl
  | d :: r, ps, h => by
    unfold asPairs at h
    split at h
    · rename_i e; cases e
    · rename_i a b r' e
      cases e
      cases q : asPairs r with
      | none => rw [q] at h; cases h
      | some qs => rw [q] at h; cases h; rw [asPairs_eq q]; rfl
    · cases h
@[simp] theorem asPairs_map : ∀ ps : List (Int × Int), asPairs (ps.map pairD) = some ps
  | [] => rfl
  | p :: ps => by show (asPairs (ps.map pairD)).map (p :: ·) = _; rw [asPairs_map ps]; rfl
def sortF : Vl → List O → Option (List D) := fun v hp => match v with
  | .s xs => (asInts xs).bind fun ns => if ns.length < 64 then some ((sortI ns).map PyData.int) else none
  | v => (match viewD hp v with
    | some (.list ds) => (match asInts ds with
      | some ns => some ((sortI ns).map PyData.int)
      | none => (asPairs ds).map fun ps => (sortP ps).map pairD)
    | some (.dict kvs) => (asInts (kvs.map (·.1))).bind fun ns => if ns.length < 64 then some ((sortI ns).map PyData.int) else none
    | _ => none)
def rSortA (K : PySem.W.Frag) (w : World) : List V → Hp → VK → Prop := fun xs H Q => (rSortedI K xs H Q ∨ rSortT K xs H Q) ∨ (rSortedSet w xs H Q ∨
  ∃ (a : Addr) (kvs : List (Key × V)) (ks : List Int), xs = [.ref a] ∧ Rd H a (.dK kvs) ∧ kvs.map (·.1) = ks.map Sum.inl ∧ ks.length < 64 ∧ ∀ (ys : List Int) (p : Addr), ys.Perm ks → ys.Pairwise (· ≤ ·) → H p = none → Q (.ref p) (upd H p (.lst (ys.map V.int))))
theorem call_sortA {X : Cx} (hc : X.calm = true) : CallR X (.builtin "sorted") (rSortA X.K X.w) := (cr_sortedI.or call_sortT).or ((cr_sortedSet hc).or (call_sortedDI hc))
theorem sortI_len (ns : List Int) : (sortI ns).length = ns.length := (sortI_perm ns).length_eq
theorem z63 {n : Nat} (h : n < 64) : n ≤ sizeLine := by rw [sizeLine_eq]; omega
theorem rp_pair {K : PySem.W.Frag} {F H : Hp} {x : V} {p : Int × Int} (e : Same F H) (h : Rp K F x (pairD p)) : ∃ t, x = .ref t ∧ SqT K H t [.int p.1, .int p.2] := by
  cases h with
  | tup ha hz r =>
    cases r with
    | cons a r =>
      cases r with
      | cons b r =>
        cases r
        cases a
        cases b
        exact ⟨_, rfl, sm_t e ha.sq⟩
theorem rpl_paired {K : PySem.W.Frag} {F : Hp} {α : Type} {f : α → D} : ∀ {xs : List V} {ps : List α}, RpL K F xs (ps.map f) → Paired (fun x p => Rp K F x (f p)) xs ps
  | _, [], .nil => .nil
  | _, _ :: _, .cons a r => .cons a (rpl_paired r)
theorem paired_rpl {K : PySem.W.Frag} {F : Hp} {α : Type} {f : α → D} : ∀ {xs : List V} {ps : List α}, Paired (fun x p => Rp K F x (f p)) xs ps → RpL K F xs (ps.map f)
  | _, _, .nil => .nil
  | _, _, .cons a r => .cons a (paired_rpl r)
theorem n_sort (g : Gb) : NewL g (rSortA g.K g.w) sortF := by
  intro φ F H hp x v ds Q o rv hf q
  have data : ∀ {y : D}, viewD hp v = some y → (match some y with
    | some (.list ds) => (match asInts ds with
      | some ns => some ((sortI ns).map PyData.int)
      | none => (asPairs ds).map fun ps => (sortP ps).map pairD)
    | some (.dict kvs) => (asInts (kvs.map (·.1))).bind fun ns => if ns.length < 64 then some ((sortI ns).map PyData.int) else none
    | _ => none) = some ds → rSortA g.K g.w [x] H Q := by
    intro y hy h
    have vw := o.view rv hy
    cases y with
    | list es =>
      dsimp only at h
      obtain ⟨a, xs, rfl, ha, hz, r⟩ := vw_lst o.ex vw
      cases qi : asInts es with
      | some ns =>
        rw [qi] at h
        cases h
        rw [asInts_eq qi] at r
        have ei := r.ints
        subst ei
        refine .inl (.inl ⟨a, ns, rfl, ha, fun ns' p pm pw hn => ?_⟩)
        rw [sortI_uniq pm pw]
        exact q p _ hn (by rw [List.length_map, sortI_len]; simpa using hz) (RpL.of_ints _)
      | none =>
        rw [qi] at h
        dsimp only at h
        cases qp : asPairs es with
        | none => rw [qp] at h; cases h
        | some ps =>
          rw [qp] at h
          cases h
          rw [asPairs_eq qp] at r
          refine .inl (.inr ⟨a, xs, ps, fun x p => Rp g.K F x (pairD p), rfl, ha, fun x p hr => rp_pair o.ex hr, rpl_paired r, fun ys p hl hr hn => ?_⟩)
          exact q p ys hn (by rw [hl]; exact hz) (paired_rpl hr)
    | dict kvs =>
      dsimp only at h
      obtain ⟨a, ks, rfl, ha, r⟩ := vw_dic o.ex vw
      cases qi : asInts (kvs.map (·.1)) with
      | none => rw [qi] at h; cases h
      | some ns =>
        rw [qi] at h
        dsimp only [Option.bind] at h
        split at h
        · rename_i h64
          cases h
          refine .inr (.inr ⟨a, ks, ns, rfl, ha, r.ints qi, h64, fun ns' p pm pw hn => ?_⟩)
          rw [sortI_uniq pm pw]
          exact q p _ hn (by rw [List.length_map, sortI_len]; exact z63 h64) (RpL.of_ints _)
        · cases h
    | _ => cases h
  unfold sortF at hf
  cases v with
  | d y => exact data rfl hf
  | r n =>
    dsimp only at hf
    cases qv : viewD hp (.r n) with
    | none => rw [qv] at hf; cases hf
    | some y => rw [qv] at hf; exact data qv hf
  | w xs => cases hf
  | s xs =>
    dsimp only at hf
    obtain ⟨a, rfl, ns, rfl, nd, ha⟩ := rv
    rw [asInts_map] at hf
    dsimp only [Option.bind] at hf
    split at hf
    · rename_i h64
      cases hf
      refine .inr (.inl ⟨a, _, ns.length, rfl, o.ex _ _ ha, h64, fun ms p pw mem hl hn => ?_⟩)
      have e : ms = sortI ns := by
        refine sortI_uniq ?_ (pw.imp fun h => Int.le_of_lt h)
        exact (List.perm_ext_iff_of_nodup (pw.imp fun h => Int.ne_of_lt h) nd).mpr fun k => by rw [mem k]; simp
      rw [e]
      exact q p _ hn (by rw [List.length_map, sortI_len]; exact z63 h64) (RpL.of_ints _)
    · cases hf

/-! ### dict(..), list(..), set(..), len(..) -/
def dicF : Vl → List O → Option (List (D × D)) := fun v hp => match viewD hp v with
  | some (.tuple ds) => if ds.length ≤ 10000000 then (pairsD ds).map mergeD else none
  | some (.list ds) => if ds.length ≤ 10000000 then (pairsD ds).map mergeD else none
  | some (.dict kvs) => some kvs
  | _ => none
def rDicA (K : PySem.W.Frag) : List V → Hp → VK → Prop := fun xs H Q => rDictT K xs H Q ∨ ∃ (a : Addr) (kvs : List (Key × V)), xs = [.ref a] ∧ Rd H a (.dK kvs) ∧ ∀ p, H p = none → Q (.ref p) (upd H p (.dK kvs))
theorem call_dicA {X : Cx} (hc : X.calm = true) : CallR X (.type "dict") (rDicA X.K) := (call_dictT hc).or call_dictD
theorem n_dic (g : Gb) : NewDi g (rDicA g.K) dicF := by
  intro φ F H hp x v ds Q o rv hf q
  unfold dicF at hf
  cases qv : viewD hp v with
  | none => rw [qv] at hf; cases hf
  | some y =>
    rw [qv] at hf
    have vw := o.view rv qv
    cases y with
    | tuple es =>
      dsimp only at hf
      split at hf
      · rename_i hz0
        cases qp : pairsD es with
        | none => rw [qp] at hf; cases hf
        | some ps =>
          rw [qp] at hf
          cases hf
          obtain ⟨a, xs, rfl, _, hz, r, k⟩ := vw_tup o.ex vw
          cases k with
          | tup pa _ r =>
            obtain ⟨kvs, h1, h2⟩ := pairs_rel o.ex r qp
            exact .inl ⟨a, _, kvs, rfl, .inl (pa.mono o.ex), by rw [r.len]; exact sz7 hz0, h1, fun p hn => q p _ hn h2.merge⟩
      · cases hf
    | list es =>
      dsimp only at hf
      split at hf
      · cases qp : pairsD es with
        | none => rw [qp] at hf; cases hf
        | some ps =>
          rw [qp] at hf
          cases hf
          obtain ⟨a, xs, rfl, ha, hz, r⟩ := vw_lst o.ex vw
          obtain ⟨kvs, h1, h2⟩ := pairs_rel o.ex r qp
          exact .inl ⟨a, _, kvs, rfl, .inr ha, hz, h1, fun p hn => q p _ hn h2.merge⟩
      · cases hf
    | dict kvs =>
      cases hf
      obtain ⟨a, ks, rfl, ha, r⟩ := vw_dic o.ex vw
      exact .inr ⟨a, ks, rfl, ha, fun p hn => q p _ hn r⟩
    | _ => cases hf
def lisF : Vl → List O → Option (List D) := fun v hp => match viewD hp v with
  | some (.tuple ds) => some ds
  | some (.list ds) => some ds
  | some (.dict kvs) => if kvs.length ≤ 10000000 then some (kvs.map (·.1)) else none
  | _ => none
def rLisA (K : PySem.W.Frag) : List V → Hp → VK → Prop := fun xs H Q => (∃ p ys, xs = [.ref p] ∧ (SqL K H p ys ∨ SqT K H p ys) ∧ ∀ l, H l = none → Q (.ref l) (upd H l (.lst ys))) ∨
  ∃ (a : Addr) (kvs : List (Key × V)), xs = [.ref a] ∧ Rd H a (.dK kvs) ∧ ∀ p, H p = none → Q (.ref p) (upd H p (.lst (kvs.map fun kv => kV kv.1)))
theorem call_lisA {X : Cx} (hc : X.calm = true) : CallR X (.type "list") (rLisA X.K) := call_list_of.or (call_listD hc)
theorem n_lis (g : Gb) : NewL g (rLisA g.K) lisF := by
  intro φ F H hp x v ds Q o rv hf q
  unfold lisF at hf
  cases qv : viewD hp v with
  | none => rw [qv] at hf; cases hf
  | some y =>
    rw [qv] at hf
    have vw := o.view rv qv
    cases y with
    | tuple es =>
      cases hf
      obtain ⟨a, xs, rfl, ha, hz, r, _⟩ := vw_tup o.ex vw
      exact .inl ⟨a, xs, rfl, .inr ha, fun p hn => q p _ hn hz r⟩
    | list es =>
      cases hf
      obtain ⟨a, xs, rfl, ha, hz, r⟩ := vw_lst o.ex vw
      exact .inl ⟨a, xs, rfl, .inl ha, fun p hn => q p _ hn hz r⟩
    | dict kvs =>
      dsimp only at hf
      split at hf
      · rename_i hz
        cases hf
        obtain ⟨a, ks, rfl, ha, r⟩ := vw_dic o.ex vw
        exact .inr ⟨a, ks, rfl, ha, fun p hn => q p _ hn (by rw [List.length_map, r.len]; exact sz7 hz) r.keys⟩
      · cases hf
    | _ => cases hf
def setF : Vl → List O → Res Vl := fun v hp => match viewD hp v with
  | some (.list ds) => (match asInts ds with
    | some ns => if ns.length ≤ 4000 then .ok (.s ((dedI ns).map PyData.int)) hp else .bad
    | none => .bad)
  | _ => .bad
theorem k_set (g : Gb) : K1 g (rSetI g.K g.w) setF := by
  intro φ F H hp x v W Q o rv hq
  unfold setF at hq
  cases qv : viewD hp v with
  | none => rw [qv] at hq; exact hq.elim
  | some y =>
    rw [qv] at hq
    have vw := o.view rv qv
    cases y with
    | list es =>
      dsimp only at hq
      cases qi : asInts es with
      | none => rw [qi] at hq; exact hq.elim
      | some ns =>
        rw [qi] at hq
        dsimp only at hq
        split at hq
        · rename_i hz
          obtain ⟨a, xs, rfl, ha, _, r⟩ := vw_lst o.ex vw
          rw [asInts_eq qi] at r
          have ei := r.ints
          subst ei
          refine ⟨a, ns, rfl, ha, hz, fun p hn => ?_⟩
          exact PostG.grown o (Grow.one o.ex hn) (show RvV g φ _ (.ref p) (.s _) from ⟨p, rfl, dedI ns, rfl, dedI_nodup ns, upd_same⟩) hq
        · exact hq.elim
    | _ => exact hq.elim
def lenF : Vl → List O → Res Vl := fun v hp => match v with
  | .s xs => .ok (.d (.int xs.length)) hp
  | v => (match viewD hp v with
    | some (.dict kvs) => .ok (.d (.int kvs.length)) hp
    | some y => okD (lenD [y]) hp
    | none => .bad)
def rLenSet (w : World) : List V → Hp → VK → Prop := fun xs H Q => ∃ a S n, xs = [.ref a] ∧ H a = some (SetO w a S n) ∧ Q (.int (n : Nat)) H
theorem call_lenSet {X : Cx} : CallR X (.builtin "len") (rLenSet X.w) := by
  intro pins s σ H xs us Q I r h
  obtain ⟨a, S, n, rfl, ha, q⟩ := h
  obtain rfl := Vals.ref1 r
  obtain ⟨o, es, ep, t, ho, hex, hd, _, _, _, hb, hf, hn, _⟩ := setO_get I ha
  exact call_len_set ho hex hd hf (by unfold scanBound at hb; omega) ⟨.int (n : Nat), H, I.tok _, ⟨_, by rw [hn]⟩, q⟩
def rLenD : List V → Hp → VK → Prop := fun xs H Q => ∃ a kvs, xs = [V.ref a] ∧ Rd H a (.dK kvs) ∧ Q (.int kvs.length) H
theorem call_lenDA {X : Cx} : CallR X (.builtin "len") rLenD := by
  intro pins s σ H xs us Q I r h
  obtain ⟨a, kvs, rfl, ha, q⟩ := h
  obtain rfl := Vals.ref1 r
  exact d_len I ha fun t s' I' => ⟨.int kvs.length, H, I', ⟨t, rfl⟩, q⟩
def rLenA (K : PySem.W.Frag) (w : World) : List V → Hp → VK → Prop := fun xs H Q => (∃ x n, xs = [x] ∧ LenV K x H n ∧ Q (.int n) H) ∨ (rLenSet w xs H Q ∨ rLenD xs H Q)
theorem call_lenA {X : Cx} : CallR X (.builtin "len") (rLenA X.K X.w) := call_len.or (call_lenSet.or call_lenDA)
theorem k_len (g : Gb) : K1 g (rLenA g.K g.w) lenF := by
  intro φ F H hp x v W Q o rv hq
  have data : ∀ {y : D}, viewD hp v = some y → PostG g (RvV g) φ F W Q (match some y with
    | some (.dict kvs) => Res.ok (.d (.int kvs.length)) hp
    | some y => okD (lenD [y]) hp
    | none => .bad) → rLenA g.K g.w [x] H Q := by
    intro y hy h
    have vw := o.view rv hy
    have nd : PostG g (RvV g) φ F W Q (okD (lenD [y]) hp) → rLenA g.K g.w [x] H Q := by
      intro h
      cases ql : lenD [y] with
      | none => rw [ql] at h; exact h.elim
      | some z =>
        rw [ql] at h
        exact .inl (s_len F H [x] [y] z Q o.ex (.cons vw .nil) ql fun x' F' H' gr rp => PostG.grown o gr (show RvV g φ F' x' (.d z) from rp) h)
    cases y with
    | dict kvs =>
      obtain ⟨a, ks, rfl, ha, r⟩ := vw_dic o.ex vw
      refine .inr (.inr ⟨a, ks, rfl, ha, ?_⟩)
      rw [r.len]
      exact PostG.here o (show RvV g φ F _ (.d (.int _)) from Rp.int _) h
    | _ => exact nd h
  unfold lenF at hq
  cases v with
  | d y => exact data rfl hq
  | r n =>
    dsimp only at hq
    cases qv : viewD hp (.r n) with
    | none => rw [qv] at hq; exact hq.elim
    | some y => rw [qv] at hq; exact data qv hq
  | w xs => exact hq.elim
  | s xs =>
    obtain ⟨a, rfl, ns, rfl, nd, ha⟩ := rv
    refine .inr (.inl ⟨a, _, ns.length, rfl, o.ex _ _ ha, ?_⟩)
    dsimp only at hq
    rw [List.length_map] at hq
    exact PostG.here o (show RvV g φ F _ (.d (.int _)) from Rp.int _) hq
/-! ### sorted(d.values()) -/
def sortVF : Vl → List O → Option (List D) := fun v hp => match viewD hp v with
  | some (.dict kvs) => (asInts (kvs.map (·.2))).bind fun ns => if ns.length < 64 then some ((sortI ns).map PyData.int) else none
  | _ => none
theorem me_sortVals {X : Cx} {W : WX} {o : Expr} {p pos apos mpos : Pos} {ma : EM} (hc : X.calm = true) (hm : X.mg "sorted" = none) (hd : ME X W o ma) (hg : Gl X "sorted" := by rfl) (hbase : attributeBase o "values" X.env (eval o X.env) = eval o X.env := by rfl) (hline : (apos.endLine == mpos.line) = true := by rfl)
    (hse : starEach [Expr.Call (.Attribute o "values" apos) [] [] mpos] X.env = [(false, eval (Expr.Call (.Attribute o "values" apos) [] [] mpos) X.env)] := by rfl) :
    ME X W (.Call (.Name "sorted" p) [.Call (.Attribute o "values" apos) [] [] mpos] [] pos) (bindE ma (newD sortVF)) := by
  refine PE.imp (pe_sortVals hc hg hm hd hbase hline hse) fun σ H Q ⟨φ, F, hp, loc, o, l, h⟩ => ?_
  refine ⟨φ, F, hp, loc, o, l, (PostG.bind (R := RvV (gOf X)) h).imp fun x H1 ⟨φ1, F1, hp1, u, p1, s1, o1, r1, _, h1⟩ => ?_⟩
  unfold newD sortVF at h1
  cases qv : viewD hp1 u with
  | none => rw [qv] at h1; exact h1.elim
  | some y =>
    rw [qv] at h1
    have vw := o1.view r1 qv
    cases y with
    | dict kvs =>
      dsimp only at h1
      obtain ⟨a, ks, rfl, ha, r⟩ := vw_dic o1.ex vw
      cases qi : asInts (kvs.map (·.2)) with
      | none => rw [qi] at h1; exact h1.elim
      | some ns =>
        rw [qi] at h1
        dsimp only [Option.bind] at h1
        split at h1
        · rename_i ds hds
          split at hds
          · rename_i h64
            cases hds
            refine ⟨a, ks, ns, rfl, ha, r.vals qi, h64, fun p hn => ?_⟩
            exact PostG.grown (g := gOf X) o1 (Grow.one o1.ex hn) (show RvV (gOf X) φ1 _ (.ref p) (.d (.list _)) from .lst (SqL.of upd_same) (by rw [List.length_map, sortI_len]; exact z63 h64) (RpL.of_ints _)) h1
          · cases hds
        · exact h1.elim
    | _ => exact h1.elim
end Fz

set_option Elab.async false
set_option linter.all false
set_option maxRecDepth 100000
set_option maxHeartbeats 4000000
/-! FzC: in, indexes of dicts, stores, tuples of ranges, zip -/
namespace Fz
open PySem PySem.Spec PyProof.Rows L2

section
variable {X : Cx}
def rDin : R2 := fun y x H Q => ∃ a o, x = .ref a ∧ DGet H a y o ∧ Q (.bl o.isSome) H
def rDnin : R2 := fun y x H Q => ∃ a o, x = .ref a ∧ DGet H a y o ∧ Q (.bl (!o.isSome)) H
theorem op_din (hu : Gd X.A) : OpR X (compareOp .In) rDin := by
  intro pins s σ H y x u v Q I ry rx h
  obtain ⟨a, o, rfl, g, q⟩ := h
  obtain rfl : v = Value.ref a := rx
  exact d_in (by have := hu.u; omega) I g ry fun s3 I3 => ⟨.bl o.isSome, H, I3, rfl, q⟩
theorem op_dnin (hu : Gd X.A) : OpR X (compareOp .NotIn) rDnin := by
  intro pins s σ H y x u v Q I ry rx h
  obtain ⟨a, o, rfl, g, q⟩ := h
  obtain rfl : v = Value.ref a := rx
  exact d_notIn (by have := hu.u; omega) I g ry fun s3 I3 => ⟨.bl (!o.isSome), H, I3, rfl, q⟩
def rDix : R2 := fun x y H Q => ∃ a v, x = .ref a ∧ DGet H a y (some v) ∧ Q v H
theorem ix_dic (hu : Gd X.A) : IxR X rDix := by
  intro value slice pins s σ H x y v u Q I rx ry h hs
  obtain ⟨a, z, rfl, g, q⟩ := h
  obtain rfl : v = Value.ref a := rx
  exact tail_any (dict_typeIs I g) PySem.F.slot_dict_getitem.lookup (d_getItem (by have := hu.u; omega) I g ry fun w' s3 I3 rw' => ⟨z, H, I3, rw', q⟩) hs
end
def inD : D → D → Option D := fun y x => match x with
  | .dict kvs => (toKey y).bind fun _ => some (.bool (valD kvs y).isSome)
  | _ => none
def ninD : D → D → Option D := fun y x => match x with
  | .dict kvs => (toKey y).bind fun _ => some (.bool (!(valD kvs y).isSome))
  | _ => none
theorem vw_get {K : PySem.W.Frag} {F H : Hp} {y x : V} {e : D} {kvs : List (D × D)} {k : Key} (ex : Same F H) (vy : Vw K F H y e) (vx : Vw K F H x (.dict kvs)) (hk : toKey e = some k) :
    ∃ a o, x = .ref a ∧ DGet H a y o ∧ ((o = none ∧ valD kvs e = none) ∨ ∃ v d, o = some v ∧ valD kvs e = some d ∧ Rp K F v d) := by
  obtain ⟨a, ks, rfl, ha, r⟩ := vw_dic ex vx
  have ee := toKey_eq hk
  subst ee
  have ey : y = kV k := by
    cases k with
    | inl i => exact vw_int (show Vw K F H y (.int i) from vy)
    | inr z => exact vw_str (show Vw K F H y (.str z) from vy)
  subst ey
  refine ⟨a, valV ks k, rfl, .inl ⟨ks, k, ha, rfl, rfl⟩, ?_⟩
  rcases r.val (k := k) with ⟨h1, h2⟩ | ⟨v, d, h1, h2, h3⟩
  · exact .inl ⟨h1, h2⟩
  · exact .inr ⟨v, d, h1, h2, h3⟩
theorem s_din {K : PySem.W.Frag} : OpS K rDin inD := by
  intro F H y x e d w Q ex vy vx hf q
  unfold inD at hf
  split at hf
  · cases hk : toKey e with
    | none => rw [hk] at hf; cases hf
    | some k =>
      rw [hk] at hf
      cases hf
      obtain ⟨a, o, rfl, g, h⟩ := vw_get ex vy vx hk
      refine ⟨a, o, rfl, g, q _ F H (Grow.refl ex) ?_⟩
      rcases h with ⟨h1, h2⟩ | ⟨v, d, h1, h2, _⟩ <;> rw [h1, h2] <;> exact .bl _
  · cases hf
theorem s_dnin {K : PySem.W.Frag} : OpS K rDnin ninD := by
  intro F H y x e d w Q ex vy vx hf q
  unfold ninD at hf
  split at hf
  · cases hk : toKey e with
    | none => rw [hk] at hf; cases hf
    | some k =>
      rw [hk] at hf
      cases hf
      obtain ⟨a, o, rfl, g, h⟩ := vw_get ex vy vx hk
      refine ⟨a, o, rfl, g, q _ F H (Grow.refl ex) ?_⟩
      rcases h with ⟨h1, h2⟩ | ⟨v, d, h1, h2, _⟩ <;> rw [h1, h2] <;> exact .bl _
  · cases hf
def rIxA (K : PySem.W.Frag) : R2 := fun x y H Q => rIx K x y H Q ∨ rDix x y H Q
theorem ix_all {X : Cx} (hu : Gd X.A) : IxR X (rIxA X.K) := ix_seq.or (ix_dic hu)
def ixA : D → D → Option D := fun x y => match x with
  | .dict kvs => (toKey y).bind fun _ => valD kvs y
  | x => ixD x y
theorem s_ixA {K : PySem.W.Frag} : OpS K (rIxA K) ixA := by
  intro F H x y d e w Q ex vx vy hf q
  unfold ixA at hf
  split at hf
  · cases hk : toKey e with
    | none => rw [hk] at hf; cases hf
    | some k =>
      rw [hk] at hf
      obtain ⟨a, o, rfl, g, h⟩ := vw_get ex vy vx hk
      rcases h with ⟨h1, h2⟩ | ⟨v, z, h1, h2, h3⟩
      · rw [show (Option.bind (some k) fun _ => valD _ e) = valD _ e from rfl, h2] at hf; cases hf
      · have hf' : some z = some w := by rw [← h2]; exact hf
        cases hf'
        subst h1
        exact .inr ⟨a, v, rfl, g, q _ F H (Grow.refl ex) h3⟩
  · exact .inl (s_ix F H x y d e w Q ex vx vy hf q)

/-! ### d.get(k, x) -/
def get2M (a b c : EM) : EM := fun loc hp => (a loc hp).bind fun u hp1 => match viewD hp1 u with
  | some (.dict _) => (b loc hp1).bind fun v hp2 => (c loc hp2).bind fun w hp3 => (match viewD hp3 u, v with
    | some (.dict kvs), .d k => (match toKey k with
      | some _ => (match valD kvs k with
        | some z => .ok (.d z) hp3
        | none => .ok w hp3)
      | none => .bad)
    | _, _ => .bad)
  | _ => .bad
section
variable {X : Cx} {W : WX} {a b c e e2 o : Expr} {ma mb mc : EM} {am : AM} {pos apos cpos p : Pos}
theorem me_get2 (hu : Gd X.A) (ha : ME X W o ma) (hb : ME X W e mb) (hc : ME X W c mc) (m : M2 X o "get" apos e c cpos) : ME X W (.Call (.Attribute o "get" apos) [e, c] [] cpos) (get2M ma mb mc) := by
  refine PE.imp (pe_dget2 (by have := hu.u; omega) ha hb hc m) fun σ H Q ⟨φ, F, hp, loc, o, l, h⟩ => ?_
  refine ⟨φ, F, hp, loc, o, l, (PostG.bind (R := RvV (gOf X)) h).imp fun x H1 ⟨φ1, F1, hp1, u, p1, s1, o1, r1, _, h1⟩ => ?_⟩
  cases qv : viewD hp1 u with
  | none => rw [qv] at h1; exact h1.elim
  | some y =>
    rw [qv] at h1
    cases y with
    | dict kvs0 =>
      obtain ⟨a, ks, rfl, had, _⟩ := vw_dic o1.ex (o1.view r1 qv)
      refine ⟨a, rfl, .inl ⟨ks, had⟩, φ1, F1, hp1, loc, o1, l.mono p1 s1, (PostG.bind (R := RvV (gOf X)) h1).imp fun y H2 ⟨φ2, F2, hp2, v, p2, s2, o2, r2, _, h2⟩ => ?_⟩
      refine ⟨φ2, F2, hp2, loc, o2, (l.mono p1 s1).mono p2 s2, (PostG.bind (R := RvV (gOf X)) h2).imp fun z H3 ⟨φ3, F3, hp3, w, p3, s3, o3, r3, _, h3⟩ => ?_⟩
      have r1' := (r1.mono p2 s2).mono p3 s3
      have r2' := r2.mono p3 s3
      cases qv3 : viewD hp3 u with
      | none => rw [qv3] at h3; exact h3.elim
      | some y3 =>
        rw [qv3] at h3
        cases y3 with
        | dict kvs =>
          cases v with
          | d k =>
            dsimp only at h3
            cases hk : toKey k with
            | none => rw [hk] at h3; exact h3.elim
            | some key =>
              rw [hk] at h3
              dsimp only at h3
              obtain ⟨a', ov, e, g, hh⟩ := vw_get o3.ex (.kn r2') (o3.view r1' qv3) hk
              cases e
              refine ⟨ov, g, ?_⟩
              rcases hh with ⟨g1, g2⟩ | ⟨v', d', g1, g2, g3⟩
              · subst g1
                rw [g2] at h3
                exact PostG.here (g := gOf X) o3 r3 h3
              · subst g1
                rw [g2] at h3
                exact PostG.here (g := gOf X) o3 (show RvV (gOf X) φ3 F3 v' (.d d') from g3) h3
          | _ => exact h3.elim
        | _ => exact h3.elim
    | _ => exact h1.elim

/-! ### {} -/
def dnewM : EM := fun _ hp => .ok (.r hp.length) (hp ++ [.dic []])
theorem me_dnew : ME X W (.Dict [] [] pos) dnewM := by
  refine PE.imp pe_dnewK fun σ H Q ⟨φ, F, hp, loc, o, l, h⟩ p hn => ?_
  exact h (φ ++ [p]) F _ (.ref p) (List.prefix_append _ _) (Same.refl _) (o.lay (x := .dic []) hn ⟨[], rfl, .nil⟩) ⟨p, by rw [← o.len, List.getElem?_append_right (Nat.le_refl _)]; simp, rfl⟩

/-! ### o[i] = v -/
def rSetD : TSet := fun o i v H Q => ∃ a H4, o = .ref a ∧ DPut H a i v H4 ∧ Q H4
theorem set_dic (hu : Gd X.A) : PSet X rSetD := by
  intro pins s σ H o i v ov iv u Q I ro ri rv h
  obtain ⟨a, H4, rfl, g, q⟩ := h
  obtain rfl : ov = Value.ref a := ro
  exact d_setItem (by have := hu.u; omega) I g ri rv fun s4 I4 => ⟨H4, I4, q⟩
def rSetA : TSet := fun o i v H Q => rSetL o i v H Q ∨ rSetD o i v H Q
theorem set_any (hu : Gd X.A) : PSet X rSetA := by
  intro pins s σ H o i v ov iv u Q I ro ri rv h
  rcases h with h | h
  · exact set_list pins s σ H o i v ov iv u Q I ro ri rv h
  · exact set_dic hu pins s σ H o i v ov iv u Q I ro ri rv h
def putF (hp : List O) : Vl → Vl → Vl → Option (List O)
  | .r n, .d i, .d z => (match hp[n]? with
    | some (.lst ds) => (match i with
      | .int k => (ixN ds.length k).map fun j => hp.set n (.lst (ds.set j z))
      | _ => none)
    | some (.dic kvs) => if kvs.length < 10000000 then (toKey i).map fun _ => hp.set n (.dic (putD kvs i z)) else none
    | _ => none)
  | _, _, _ => none
def putM (mv mo mi : EM) : SM := fun loc hp => (mv loc hp).toS loc fun z hp1 => (mo loc hp1).toS loc fun o hp2 => (mi loc hp2).toS loc fun i hp3 => match putF hp3 o i z with
  | some hp4 => .ok .nx loc hp4
  | none => .bad
theorem ms_put (hu : Gd X.A) (hv : ME X W c mc) (ho : ME X W o ma) (hi : ME X W e mb) (hs : swapsWithSole [.Subscript o e apos] c pos.line X.env = pure false := by rfl) (hw : swappedStores [.Subscript o e apos] c X.env = pure none := by rfl)
    (h1 : (assignEach [.Subscript o e apos] X.env).map (·.2) = [assign (.Subscript o e apos) X.env] := by rfl)
    (ha : ∀ v, assign (.Subscript o e apos) X.env v = (do
      let ov ← holding [v] (eval o X.env)
      let iv ← holding [v, ov] (eval e X.env)
      standAt apos
      holding [v, ov, iv] (setItem ov iv v)
      release [v, ov, iv] []) := by intro _; rfl) : MS X W (.Assign [.Subscript o e apos] c pos) (putM mc ma mb) := by
  refine PS.imp (ps_asg hv (pg_sub ho hi (set_any hu) ha) hs hw h1) fun E σ H ⟨φ, F, hp, loc, o, l, h⟩ => ?_
  refine ⟨φ, F, hp, loc, o, l, (PostS.bind (R := RvV (gOf X)) l h).imp fun z H1 ⟨φ1, F1, hp1, vz, p1, s1, o1, r1, _, h1⟩ => ?_⟩
  have l1 := l.mono p1 s1
  refine ⟨φ1, F1, hp1, loc, o1, l1, (PostS.bind (R := RvV (gOf X)) l1 h1).imp fun x H2 ⟨φ2, F2, hp2, vo, p2, s2, o2, r2, _, h2⟩ => ?_⟩
  have l2 := l1.mono p2 s2
  refine ⟨φ2, F2, hp2, loc, o2, l2, (PostS.bind (R := RvV (gOf X)) l2 h2).imp fun y H3 ⟨φ3, F3, hp3, vi, p3, s3, o3, r3, _, h3⟩ => ?_⟩
  have l3 := l2.mono p3 s3
  have rz := (r1.mono p2 s2).mono p3 s3
  have ro := r2.mono p3 s3
  cases qp : putF hp3 vo vi vz with
  | none => rw [qp] at h3; exact h3.elim
  | some hp4 =>
    rw [qp] at h3
    cases vo with
    | d _ => cases qp
    | s _ => cases qp
    | w _ => cases qp
    | r n =>
      cases vi with
      | r _ => cases qp
      | s _ => cases qp
      | w _ => cases qp
      | d i =>
        cases vz with
        | r _ => cases qp
        | s _ => cases qp
        | w _ => cases qp
        | d zd =>
          unfold putF at qp
          dsimp only at qp
          obtain ⟨a, han, rfl⟩ := ro
          cases qn : hp3[n]? with
          | none => rw [qn] at qp; cases qp
          | some ob =>
            rw [qn] at qp
            have hob := o3.ob n a ob han qn
            cases ob with
            | gone => cases qp
            | lst ds =>
              dsimp only at qp
              obtain ⟨vs, e1, z1, rl⟩ := hob
              cases i with
              | int k =>
                dsimp only at qp
                cases qj : ixN ds.length k with
                | none => rw [qj] at qp; cases qp
                | some j =>
                  rw [qj] at qp
                  cases qp
                  have ey := rp_int (show Rp X.K F3 y (.int k) from r3)
                  subst ey
                  refine .inl ⟨a, vs, k, j, rfl, rfl, e1, by rw [rl.len]; exact qj, ?_⟩
                  have w := o3.write (x := .lst (ds.set j zd)) (u := .lst (vs.set j z)) han qn (fun z => nomatch z) ⟨_, rfl, by rw [List.length_set]; exact z1, RpL.set rz j rl⟩
                  exact PostS.here (g := gOf X) w l3 h3
              | _ => cases qp
            | dic kvs =>
              dsimp only at qp
              obtain ⟨ks, e1, rl⟩ := hob
              split at qp
              · rename_i hz
                cases hk : toKey i with
                | none => rw [hk] at qp; cases qp
                | some key =>
                  rw [hk] at qp
                  cases qp
                  have ei := toKey_eq hk
                  subst ei
                  have ey := rp_key (show Rp X.K F3 y (kD key) from r3)
                  subst ey
                  refine .inr ⟨a, _, rfl, DPut.k (v := z) e1 (by rw [rl.len]; exact Nat.lt_of_lt_of_le hz (by decide)), ?_⟩
                  have w := o3.write (x := .dic (putD kvs (kD key) zd)) (u := .dK (putK ks key z)) han qn (fun z => nomatch z) ⟨_, rfl, RpK.put rz rl⟩
                  exact PostS.here (g := gOf X) w l3 h3
              · cases qp
end
end Fz

set_option Elab.async false
set_option linter.all false
set_option maxRecDepth 100000
set_option maxHeartbeats 4000000
/-! FzD: more that is walked: dicts, zip; tuples and lists of ranges -/
namespace Fz
open PySem PySem.Spec PyProof.Rows L2

/-! ### a list, a tuple or a dict walked -/
def seqA (a : EM) : IM := fun loc hp => (a loc hp).bind fun v hp1 => match v with
  | .d (.dict kvs) => if kvs.length ≤ 10000000 then .ok (none, (kvs.map (·.1)).map Vl.d) hp1 else .bad
  | .d (.list ds) => .ok (none, ds.map Vl.d) hp1
  | .d (.tuple ds) => .ok (none, ds.map Vl.d) hp1
  | .r n => (match hp1[n]? with
    | some (.lst ds) => .ok (some (n, .lst ds), ds.map Vl.d) hp1
    | _ => .bad)
  | _ => .bad
theorem seqA_eq {a : EM} {loc : Ls} {hp : List O} (h : ∀ kvs hp1, a loc hp ≠ .ok (.d (.dict kvs)) hp1) : seqA a loc hp = seqI a loc hp := by
  unfold seqA seqI
  cases q : a loc hp with
  | bad => rfl
  | exc _ _ => rfl
  | ok v hp1 =>
    cases v with
    | r n => rfl
    | s n => rfl
    | w n => rfl
    | d x =>
      cases x with
      | dict kvs => exact absurd q (h kvs hp1)
      | _ => rfl
section
variable {X : Cx} {W : WX} {e e2 tg : Expr} {ma mb : EM} {am : AM} {p pos tpos : Pos} {elts : List Expr} {kk : Nat}
theorem mi_any (he : ME X W e ma) : MI X W tg e (seqA ma) := by
  refine PI.imp (PI.or (mi_seq he) (pi_keys he)) fun σ H R ⟨φ, F, hp, loc, o, l, h⟩ => ?_
  by_cases c : ∃ kvs hp1, ma loc hp = .ok (.d (.dict kvs)) hp1
  · obtain ⟨kvs, hp1, q⟩ := c
    refine .inr ⟨φ, F, hp, loc, o, l, ?_⟩
    unfold seqA at h
    rw [q] at h
    rw [q]
    intro φ1 F1 H1 x p1 s1 o1 r1
    have r1' : Rp X.K F1 x (.dict kvs) := r1
    cases r1' with
    | @dic a ob ks _ hf rk =>
      dsimp only [Res.bind] at h
      by_cases hz : kvs.length ≤ 10000000
      rotate_left
      · rw [if_neg hz] at h; exact h.elim
      rw [if_pos hz] at h
      refine ⟨a, ob, rfl, .inl ⟨ks, o1.ex _ _ hf, ?_⟩⟩
      refine h φ1 F1 H1 (Itk a ob ks) p1 s1 o1 ⟨?_, fun φ' F' hp' H' i v p s o' kp hi => ?_, fun φ' F' hp' H' i p s o' kp hi => ?_⟩
      · show ((kvs.map (·.1)).map Vl.d).length ≤ sizeLine
        rw [List.length_map, List.length_map]
        exact sz7 hz
      · obtain ⟨y, h1, h2⟩ := rpl_map (g := gOf X) (φ := φ') ((rk.mono s).keys) hi
        rw [List.getElem?_map] at h1
        cases hk : ks[i]? with
        | none => rw [hk] at h1; cases h1
        | some kv =>
          rw [hk] at h1
          cases h1
          refine ⟨⟨o'.ex _ _ (s _ _ hf), (List.getElem?_eq_some_iff.mp hk).1⟩, fun x H'' yd => ?_⟩
          obtain ⟨rfl, k, v', h3, rfl⟩ := yd
          rw [hk] at h3
          cases h3
          exact ⟨F', Grow.refl o'.ex, h2⟩
      · refine ⟨o'.ex _ _ (s _ _ hf), ?_⟩
        have hi' : ((kvs.map (·.1)).map Vl.d).length ≤ i := hi
        rw [List.length_map, List.length_map] at hi'
        rw [rk.len]
        exact hi'
  · refine .inl ⟨φ, F, hp, loc, o, l, ?_⟩
    rw [← seqA_eq fun kvs hp1 q => c ⟨kvs, hp1, q⟩]
    exact h

/-! ### zip -/
def zipI (am : AM) : IM := fun loc hp => (am loc hp).bind fun vs hp1 => match vs with
  | [.d (.list xs), .d (.list ys)] => .ok (none, (xs.zip ys).map fun p => Vl.w [p.1, p.2]) hp1
  | [.d (.tuple xs), .d (.tuple ys)] => .ok (none, (xs.zip ys).map fun p => Vl.w [p.1, p.2]) hp1
  | _ => .bad
theorem zip_get {α β γ : Type} {f : α × β → γ} {xs : List α} {ys : List β} {i : Nat} {v : γ} (h : ((xs.zip ys).map f)[i]? = some v) : ∃ x y, xs[i]? = some x ∧ ys[i]? = some y ∧ v = f (x, y) := by
  rw [List.getElem?_map] at h
  cases q : (xs.zip ys)[i]? with
  | none => rw [q] at h; cases h
  | some p =>
    rw [q] at h
    cases h
    have q' := List.getElem?_zip_eq_some.mp q
    exact ⟨p.1, p.2, q'.1, q'.2, rfl⟩
theorem zip_stop {α β γ : Type} {f : α × β → γ} {xs : List α} {ys : List β} {i : Nat} (h : ((xs.zip ys).map f).length ≤ i) : xs.length ≤ i ∨ ys.length ≤ i := by
  rw [List.length_map, List.length_zip] at h
  omega
theorem mi_zip (hm : X.mg "zip" = none) (ha : MA X W [e, e2] am) (hg : Gl X "zip" := by rfl)
    (hs : starEach [e, e2] X.env = (false, eval e X.env) :: starEach [e2] X.env := by rfl) (hpl : (backTo pos (starEach [e2] X.env)).any (·.1) = false := by rfl) : MI X W (.Tuple elts kk tpos) (.Call (.Name "zip" p) [e, e2] [] pos) (zipI am) := by
  refine PI.imp (RZ.pi_zipA hg hm ha hs hpl) fun σ H R ⟨φ, F, hp, loc, o, l, h⟩ => ?_
  refine ⟨φ, F, hp, loc, o, l, (PostG.bind (R := RvL (gOf X)) h).imp fun vs H1 ⟨φ1, F1, hp1, us, p1, s1, o1, r1, _, h1⟩ => ?_⟩
  have out : ∀ {x y : V} {d1 d2 : D} {F' H' : Hp} {T : Addr}, Same F' H' → Rp X.K F' x d1 → Rp X.K F' y d2 → H' T = none →
      Grow F' (upd F' T (.tup [x, y])) H' (upd H' T (.tup [x, y])) ∧ ∀ φ', RvV (gOf X) φ' (upd F' T (.tup [x, y])) (.ref T) (.w [d1, d2]) := by
    intro x y d1 d2 F' H' T ex rx ry hn
    have gr := Grow.one (o := .tup [x, y]) ex hn
    exact ⟨gr, fun φ' => ⟨T, [x, y], rfl, .inl (.inl upd_same), .cons (rx.mono gr.f) (.cons (ry.mono gr.f) .nil)⟩⟩
  cases r1 with
  | nil => exact h1.elim
  | @cons x u _ _ ra rb =>
    cases rb with
    | nil => cases u with
      | d y => cases y <;> exact h1.elim
      | _ => exact h1.elim
    | @cons y w _ _ rc rd =>
      cases rd with
      | cons _ _ => cases u with
        | d y => cases y <;> (cases w with
          | d z => cases z <;> exact h1.elim
          | _ => exact h1.elim)
        | _ => exact h1.elim
      | nil =>
        cases u with
        | d u =>
          cases w with
          | d w =>
            cases u with
            | list xs =>
              cases w with
              | list ys =>
                cases ra with
                | @lst a vx _ ha za rx =>
                  cases rc with
                  | @lst b vy _ hb zb ry =>
                    refine ⟨a, b, vx, vy, rfl, .inl ⟨o1.ex.seq ha, o1.ex.seq hb, ?_⟩⟩
                    refine PostG.here (g := gOf X) (R := fun φ F J s => Wk (gOf X) J φ F s) o1 ⟨?_, fun φ' F' hp' H' i v p s o' kp hi => ?_, fun φ' F' hp' H' i p s o' kp hi => ?_⟩ h1
                    · show ((xs.zip ys).map _).length ≤ _
                      have := rx.len
                      rw [List.length_map, List.length_zip]
                      omega
                    · obtain ⟨d1, d2, e1, e2, rfl⟩ := zip_get hi
                      obtain ⟨x1, g1, g2⟩ := (rx.mono s).get e1
                      obtain ⟨y1, g3, g4⟩ := (ry.mono s).get e2
                      have q1 := o'.ex.seq (s.seq ha)
                      have q2 := o'.ex.seq (s.seq hb)
                      refine ⟨⟨vx, vy, x1, y1, q1, q2, g1, g3⟩, fun x H'' yd => ?_⟩
                      obtain ⟨T, x2, y2, rfl, hn, rfl, k1, k2⟩ := yd
                      have e3 := k1 vx q1
                      rw [g1] at e3
                      cases e3
                      have e4 := k2 vy q2
                      rw [g3] at e4
                      cases e4
                      obtain ⟨gr, rv⟩ := out o'.ex g2 g4 hn
                      exact ⟨_, gr, rv φ'⟩
                    · refine ⟨vx, vy, o'.ex.seq (s.seq ha), o'.ex.seq (s.seq hb), ?_⟩
                      rw [rx.len, ry.len]
                      exact zip_stop hi
              | _ => exact h1.elim
            | tuple xs =>
              cases w with
              | tuple ys =>
                cases ra with
                | @tup a vx _ ha za rx =>
                  cases rc with
                  | @tup b vy _ hb zb ry =>
                    refine ⟨a, b, vx, vy, rfl, .inr ⟨sm_t o1.ex ha.sq, sm_t o1.ex hb.sq, ?_⟩⟩
                    refine PostG.here (g := gOf X) (R := fun φ F J s => Wk (gOf X) J φ F s) o1 ⟨?_, fun φ' F' hp' H' i v p s o' kp hi => ?_, fun φ' F' hp' H' i p s o' kp hi => ?_⟩ h1
                    · show ((xs.zip ys).map _).length ≤ _
                      have := rx.len
                      rw [List.length_map, List.length_zip]
                      omega
                    · obtain ⟨d1, d2, e1, e2, rfl⟩ := zip_get hi
                      obtain ⟨x1, g1, g2⟩ := (rx.mono s).get e1
                      obtain ⟨y1, g3, g4⟩ := (ry.mono s).get e2
                      have q1 := sm_t o'.ex (sm_t s ha.sq)
                      have q2 := sm_t o'.ex (sm_t s hb.sq)
                      refine ⟨⟨vx, vy, x1, y1, q1, q2, g1, g3⟩, fun x H'' yd => ?_⟩
                      obtain ⟨T, x2, y2, rfl, hn, rfl, k1, k2⟩ := yd
                      have e3 := k1 vx q1
                      rw [g1] at e3
                      cases e3
                      have e4 := k2 vy q2
                      rw [g3] at e4
                      cases e4
                      obtain ⟨gr, rv⟩ := out o'.ex g2 g4 hn
                      exact ⟨_, gr, rv φ'⟩
                    · refine ⟨vx, vy, sm_t o'.ex (sm_t s ha.sq), sm_t o'.ex (sm_t s hb.sq), ?_⟩
                      rw [rx.len, ry.len]
                      exact zip_stop hi
              | _ => exact h1.elim
            | _ => exact h1.elim
          | _ => cases u <;> exact h1.elim
        | _ => exact h1.elim

/-! ### tuple(range(n)) -/
def rngD (lo hi : Int) : List D := (List.range (hi - lo).toNat).map fun i => .int (lo + (i : Nat))
def tRgF (te : L2.St → Hp → (Int → Int → Hp → Prop) → Prop) : TE := fun σ H Q => te σ H fun a b H1 => RgOk a b ∧ ∀ q ob, H1 q = none → ob.dict = none → Q (.ref q) (upd H1 q (.frz ob (.tup (rgV a b))))
theorem pe_tupRgF {te : L2.St → Hp → (Int → Int → Hp → Prop) → Prop} (hc : X.calm = true) (hg : Gl X "tuple") (hm : X.mg "tuple" = none) (he : PRg X e te) (na : starEach [e] X.env = (false, eval e X.env) :: starEach [] X.env) : PE X (.Call (.Name "tuple" p) [e] [] pos) (tRgF te) := by
  constructor
  intro pins s σ H Q I h
  refine Call_ (ld_blt I hg hm boot_tuple (PyProof.Rows.callWith_type1 (args_cons (thn (he pins s σ H _ I h) fun x s1 ⟨r, a, b, t, u, v, H1, ex, hr, I1, ok, q⟩ => args_nil ?_) na) na))
  subst ex
  obtain ⟨b1, b2, b3, b4, b5⟩ := ok
  refine call_tuple_range (n := (b - a).toNat) (I1.ok.hd hc) hr (small_one b1 b2 b3 b4) (rangeSize_nat a b) b5 fun h' tk acc hk hi => ?_
  have I2 : Inv X pins σ H1 { s1 with heap := h', toks := tk } := I1.kept hk
  have I3 := Inv.layT (h' := h') (tk := tk) I1 hk (vals_rg hi) (by rw [rgV_length, sizeLine_eq]; omega)
  rw [Array.toArray_toList] at I3
  exact ⟨.ref _, _, I3, rfl, q _ _ (I2.hok.fresh (Nat.le_refl _)) rfl⟩
def tupRg1 (am : EM) : EM := fun loc hp => (am loc hp).bind fun v hp1 => match v with
  | .d (.int n) => if n ≤ 1000000 ∧ -1000000 ≤ n then .ok (.d (.tuple (rngD 0 n))) hp1 else .bad
  | _ => .bad
theorem rpl_rng {K : PySem.W.Frag} {F : Hp} (a b : Int) : RpL K F (rgV a b) (rngD a b) := by
  unfold rgV rngD
  generalize List.range (b - a).toNat = l
  induction l with
  | nil => exact .nil
  | cons x l ih => exact .cons (.int _) ih
theorem me_tupRg1 {p2 pos2 : Pos} (hc : X.calm = true) (hm : X.mg "tuple" = none) (hm2 : X.mg "range" = none) (ha : ME X W e ma) (hg : Gl X "tuple" := by rfl) (hg2 : Gl X "range" := by rfl)
    (na : starEach [e] X.env = (false, eval e X.env) :: starEach [] X.env := by rfl)
    (nb : starEach [Expr.Call (.Name "range" p2) [e] [] pos2] X.env = (false, eval (Expr.Call (.Name "range" p2) [e] [] pos2) X.env) :: starEach [] X.env := by rfl) :
    ME X W (.Call (.Name "tuple" p) [.Call (.Name "range" p2) [e] [] pos2] [] pos) (tupRg1 ma) := by
  refine PE.imp (pe_tupRgF hc hg hm (prg_1 hg2 hm2 ha na) nb) fun σ H Q ⟨φ, F, hp, loc, o, l, h⟩ => ?_
  refine ⟨φ, F, hp, loc, o, l, (PostG.bind (R := RvV (gOf X)) h).imp fun x H1 ⟨φ1, F1, hp1, u, p1, s1, o1, r1, _, h1⟩ => ?_⟩
  cases u with
  | d y =>
    cases y with
    | int n =>
      have ex := rp_int (show Rp X.K F1 x (.int n) from r1)
      subst ex
      dsimp only at h1
      split at h1
      · rename_i hz
        refine ⟨n, rfl, ⟨by omega, by omega, by omega, by omega, by omega⟩, fun q ob hn hd => ?_⟩
        exact PostG.grown (g := gOf X) o1 (Grow.one o1.ex hn) (show RvV (gOf X) φ1 _ (.ref q) (.d (.tuple (rngD 0 n))) from .tup (.new hd) (by rw [rgV_length, sizeLine_eq]; omega) (rpl_rng 0 n)) h1
      · exact h1.elim
    | _ => exact h1.elim
  | _ => exact h1.elim
end
end Fz

set_option Elab.async false
set_option linter.all false
set_option maxRecDepth 100000
set_option maxHeartbeats 4000000
/-! FzE: an own error below ValueError whose __init__ says super().__init__(text) and keeps its value -/
namespace Fz
open PySem PySem.Spec PyProof.Rows L2

namespace Er
open PySem.W PySem.Calls PySem.HandSPX
def iA : Arguments := { posonlyargs := [], args := [{ arg := "self", annotation := none, pos := ⟨4, 17, 4, 21⟩ }, { arg := "value", annotation := none, pos := ⟨4, 23, 4, 28⟩ }], vararg := none, kwonlyargs := [], kw_defaults := [], kwarg := none, defaults := [] }
def i1 : Stmt := .Expr (.Call (.Attribute (.Call (.Name "super" ⟨5, 8, 5, 13⟩) [] [] ⟨5, 8, 5, 15⟩) "__init__" ⟨5, 8, 5, 24⟩) [.Constant (.str "freshshapes") 0 ⟨5, 25, 5, 38⟩] [] ⟨5, 8, 5, 39⟩) ⟨5, 8, 5, 39⟩
def i2 : Stmt := .Assign [.Attribute (.Name "self" ⟨6, 8, 6, 12⟩) "value" ⟨6, 8, 6, 18⟩] (.Name "value" ⟨6, 21, 6, 26⟩) ⟨6, 8, 6, 26⟩
def iB : List Stmt := [i1, i2]
def iS : Scope := { kind := .function, names := [(PySem.Str.ofString "self", .local), (PySem.Str.ofString "value", .local), (PySem.Str.ofString "__class__", .free), (PySem.Str.ofString "super", .globalImplicit)], isGenerator := false, isCoroutine := false, more := [] }
/-- what the written part says of the error's class C, of the class D that bears __init__, of that __init__ -/
structure ErT (P : Program) (K : Frag) (C D fI : Addr) : Prop where
  oex : OexC K C
  noN : findIn K (.ref C) "value" = some none
  ga : findIn K (.ref C) "__getattribute__" = some (some (.builtin "BaseException.__getattribute__"))
  gg : findIn K (.ref C) "__getattr__" = some none
  iC : findIn K (.ref C) "__init__" = some (some (.ref fI))
  tC : typeIn K (.ref fI) = some (.type "function")
  hdC : hasDictIn K C = true
  isD : (clsIn K D).isSome = true
  mro : mroIn K C (.ref D) = some true
  sup : (clsIn K C).bind (fun cd => alongIn K "__init__" ((cd.mro.dropWhile (· != .ref D)).drop 1)) = some (some (.builtin "ValueError.__init__"))
  veC : subIn K (.ref C) (.type "ValueError") = some true
  opq : nsIn K cStatics "thirdparty.any" = some none
  nos : nsIn K mainGlobals "super" = some none
  top : (P.main.scope.names.lookup ("super" : Str)).isSome = false
  fn : ∃ (oc : Value) (od : Option Addr) (kV doc pm : Value) (an : Option Addr) (cda : Addr) (ct : Value) (osl : Array (Option Value)) (cc : Addr)
      (ccl : Value) (cdd : Option Addr) (vs : Array Value) (ccs : Array (Option Value)) (file : Str) (tf : Tok) (cl : Value) (cld : Option Addr) (csl : Array (Option Value)),
    K.lookup fI = some ⟨oc, od, .func (ksFn "__init__" "FreshError.__init__" iA iB iS .none kV doc pm an (.ref cda) ct cc), osl⟩ ∧ codeIn K (.ref cda) "FreshError.__init__" = true ∧
    K.lookup cda = some ⟨ccl, cdd, .fields vs, ccs⟩ ∧ vs[2]? = some (.str file tf) ∧ ((P.main.file : Str) == file) = true ∧ K.lookup cc = some ⟨cl, cld, .cell (some (.ref D)), csl⟩
theorem ld0 {M : Model} {hh : Heap} {gg : Array GenState} {dd : Drawn} {tt : Tok} {oo : OsState} {env : Env} {m : Str → Option Value} {x : Str} {pos : Pos} {v : Value} {Q : Value → Shared → Prop} {A : Around} {E : Value → Shared → Prop} (hn : hh.Ns env.locals m) (hv : m x = some v) (h : Q v ⟨hh, gg, dd, tt, oo⟩)
    (hk : env.scope.kind = .function) (hl : env.kindOf x = some .local) (hd : (x == ("__debug__" : Str)) = false) :
    wpAny M A (eval (.Name x pos) env) Q E ⟨hh, gg, dd, tt, oo⟩ := wpAny_Name (wpAny_loadName_local hk hl hn hv h) hd
section
variable {P : Program} {w : World} {A : Around} {E : Value → Shared → Prop} {R : Result → Shared → Prop} {s : Shared} {K : Frag} {mg : Str → Option Value} {C D fI : Addr} {base : Heap}
/-- the name super, as it stands behind the top -/
structure Su (K : Frag) (mg : Str → Option Value) (h : Heap) : Prop where
  g : h.Ns mainGlobals mg
  b : ∃ mb, h.Ns builtinsNs mb ∧ mb "super" = some (.type "super")
  no : mg "super" = none
theorem Su.keeps {h h' : Heap} (S : Su K mg h) (k : ∀ b o, h.get? b = some o → h'.get? b = some o) : Su K mg h' := by
  obtain ⟨mb, hb, e⟩ := S.b
  exact ⟨S.g.keeps k, ⟨mb, hb.keeps k, e⟩, S.no⟩
structure Fin (h h' : Heap) (x C dx t1 : Addr) (v : Value) : Prop where
  keep : ∀ b o, b ≠ x → h.get? b = some o → h'.get? b = some o
  obj : h'.get? x = some { cls := .ref C, dict := some dx, data := .fields #[.ref t1, .none, .none, .none, .bool false, .none] }
  dbig : h.objs.size ≤ dx
  dne : dx ≠ x
  ns : h'.Ns1 dx (fun y => if y = "value" then some v else none)
abbrev iF (kV doc pm : Value) (an : Option Addr) (cda : Addr) (ct : Value) (cc : Addr) : FuncData := ksFn "__init__" "FreshError.__init__" iA iB iS .none kV doc pm an (.ref cda) ct cc
/-- the body, entered -/
theorem er_body (T : ErT P K C D fI) {oc : Value} {od : Option Addr} {kV doc pm : Value} {an : Option Addr} {cda : Addr} {ct : Value} {osl : Array (Option Value)} {cc : Addr} {ccl : Value} {cdd : Option Addr} {vs : Array Value} {ccs : Array (Option Value)} {file : Str} {tf : Tok} {cl : Value} {cld : Option Addr} {csl : Array (Option Value)}
    (ho : K.lookup fI = some ⟨oc, od, .func (iF kV doc pm an cda ct cc), osl⟩) (hcode : K.lookup cda = some ⟨ccl, cdd, .fields vs, ccs⟩) (hvs : vs[2]? = some (.str file tf)) (hfile : ((P.main.file : Str) == file) = true) (hcell : K.lookup cc = some ⟨cl, cld, .cell (some (.ref D)), csl⟩)
    {h0 : Heap} {g : Array GenState} {dr : Drawn} {tk : Nat} {os : OsState} {L x t0 : Addr} {v : Value} {env : Env} {Q : Flow → Shared → Prop} (env_eq : env = callEnv (iF kV doc pm an cda ct cc) L fI) (X0 : K.In h0) (S0 : Su K mg h0) (hx0 : h0.get? x = some (excO C t0)) (xL : x ≠ L) (hnx : K.lookup x = none)
    (hns : h0.Ns L fun y => ([("self", Value.ref x), ("value", v)] : List (Str × Value)).reverse.lookup y)
    (hq : ∀ h' tk' dx t1, Fin h0 h' x C dx t1 v → Q .next ⟨h', g, dr, tk', os⟩) : PySem.wpAt (model P w) A (.func iB env) (execs iB env) Q E ⟨h0, g, dr, tk, os⟩ := by
  obtain ⟨nm, q, N, bs, bm, sn, sub, ab, col, dd, k0, k1, k2, k3, k5, hC, hbm⟩ := T.oex.cls
  have hcl : clsIn K C = some { name := nm, bases := bs, mro := .ref C :: bm, ns := N, qualname := q, hasDict := true, slotNames := sn, subclasses := sub, abstract := ab, collection := col, hasDel := false } := by unfold clsIn; rw [hC]
  have isD := T.isD
  obtain ⟨cdD, eD⟩ := Option.isSome_iff_exists.mp isD
  obtain ⟨oD, hD1, hD2⟩ : ∃ oD, h0.get? D = some oD ∧ oD.data = .cls cdD := by
    unfold clsIn at eD
    split at eD
    · rename_i c d cd' sl lk
      cases eD
      exact ⟨_, X0 _ _ lk, rfl⟩
    · cases eD
  subst env_eq
  have hks : (callEnv (iF kV doc pm an cda ct cc) L fI).kindOf "super" = some .globalImplicit := rfl
  have hkc : (callEnv (iF kV doc pm an cda ct cc) L fI).kindOf "__class__" = some .free := rfl
  have hkf : (callEnv (iF kV doc pm an cda ct cc) L fI).scope.kind = .function := rfl
  have IA : InstAt h0 x (excO C t0) C none := ⟨hx0, rfl, rfl, trivial⟩
  have xC : x ≠ C := ks_ne X0 IA hcl
  -- super().__init__(text)
  refine ks_wpAt_execs_cons (st := i1) (rest := [i2]) ?_
  refine ks_wpAt_Expr_any ?_ (hi := rfl) (hs := rfl)
  refine ks_wpAt_MethodCall ?_ (he := by rfl)
  refine ks_wpAt_super_base hks hkc (by decide) rfl (X0 _ _ ho) rfl rfl rfl (X0 _ _ hcode) rfl hvs hfile T.top ?_
  obtain ⟨mb, hmb, eb⟩ := S0.b
  refine ks_loadName_global hkf hks (loadGlobal_builtin S0.g S0.no hmb eb ⟨rfl, ?_⟩)
  refine wpAny_loadName_free hkf hkc rfl ⟨_, X0 _ _ hcell, rfl⟩ ?_
  refine wpAny_loadName_local hkf (show (callEnv (iF kV doc pm an cda ct cc) L fI).kindOf "self" = some .local from rfl) hns (show _ = some (Value.ref x) from by first | rfl | with_unfolding_all rfl | kernel_rfl) ?_
  refine ks_wpAny_isType_cls hD1 hD2 ⟨rfl, ?_⟩
  refine ks_wpAny_call_super hD1 hD2 hx0 rfl (fun c e => nomatch e) (looks_mroIn X0 T.mro) fun h1 e1 kp1 => ?_
  have X1 := X0.keeps kp1
  have hx1 := kp1 _ _ hx0
  have IA1 : InstAt h1 x (excO C t0) C none := ⟨hx1, rfl, rfl, trivial⟩
  have along := T.sup
  rw [hcl] at along
  refine kxs_getMethod kxs_ValueError e1 (looks_opaque X1 T.opq) ((looks_clsIn X1 hcl).andThen .now) rfl X1 along (IA1.type.andThen (looks_subIn X1 T.veC)) xC (by decide) ?_
  dsimp only
  have hu : (h1.push (kxs_mw "ValueError.__init__" x)).get? h1.objs.size = some (kxs_mw "ValueError.__init__" x) := Heap.get?_push_at rfl rfl
  have kp2 : ∀ b o, h1.get? b = some o → (h1.push (kxs_mw "ValueError.__init__" x)).get? b = some o := fun b o e => Heap.get?_push_of_some _ e
  refine kxs_callWith (i := "ValueError.__init__") (x := x) rfl ?_
  refine evalArgs_plain (spliced_cons (Calls.Constant_str (k := 0) (pos := ⟨5, 25, 5, 38⟩) (spliced_nil ⟨hu, ?_⟩)))
  generalize hG : h1.push (kxs_mw "ValueError.__init__" x) = h2 at hu kp2
  have X2 := X1.keeps kp2
  have hx2 := kp2 _ _ hx1
  have kp02 : ∀ b o, h0.get? b = some o → h2.get? b = some o := fun b o e => kp2 _ _ (kp1 _ _ e)
  refine wpAny_call (codeAny_of_tree ?_)
  show wpAny _ A.in1 (callAny (.ref h1.objs.size) ⟨_, []⟩) _ _ _
  unfold callAny
  refine wpAny_bind (wpAny_load hu ?_)
  simp only [kxs_mw, show (Value.type "method-wrapper" == Value.type "method" || Value.type "method-wrapper" == Value.type "builtin_function_or_method" || Value.type "method-wrapper" == Value.type "method-wrapper") = true by decide, if_true]
  refine KFB.if_so (by decide) ?_
  refine wpAny_bind (check_bound_init F.excBase_ValueError.toExcCallFacts (X2 _ _ hC) hx2 rfl ?_)
  refine wpAny_bind (wpAny_pure (wpAny_pure ⟨plainId_quiet F.excBase_ValueError.init.plain _, codeAny_builtin F.excBase_ValueError.initEntry ?_⟩))
  refine exc_init_tree (cls := .ref C) (t0 := t0) (dv := none) (c2 := .none) (c3 := .none) (b4 := .bool false) hx2 (by show 1 ≤ sizeLine; decide) fun h3 kp3 hx3 ht3 => ?_
  have l1 : h0.objs.size < h1.objs.size := Heap.lt_size e1
  have l2 : h1.objs.size < h2.objs.size := Heap.lt_size hu
  have l3 : h2.objs.size < h3.objs.size := Heap.lt_size ht3
  have X3 : K.In h3 := fun b o e => kp3 b o (fun z => by rw [z, hnx] at e; cases e) (X2 b o e)
  obtain ⟨oL, esL, epL, hL, rL⟩ := hns
  have hns3 : h3.Ns L fun y => ([("self", Value.ref x), ("value", v)] : List (Str × Value)).reverse.lookup y := ⟨oL, esL, epL, kp3 _ _ xL.symm (kp02 _ _ hL), rL⟩
  -- self.value = value
  refine ks_wpAt_execs_cons (st := i2) (rest := []) ?_
  refine ks_wpAt_Assign_Attr ?_ (hs := rfl)
  refine wpAt_of_wpAny ?_
  refine ld0 (x := "value") (pos := ⟨6, 21, 6, 26⟩) (env := callEnv (iF kV doc pm an cda ct cc) L fI) (v := v) hns3 (by first | rfl | with_unfolding_all rfl | kernel_rfl) ?_ hkf rfl (by decide)
  refine ld0 (x := "self") (pos := ⟨6, 8, 6, 12⟩) (env := callEnv (iF kV doc pm an cda ct cc) L fI) (v := .ref x) hns3 (by first | rfl | with_unfolding_all rfl | kernel_rfl) ?_ hkf rfl (by decide)
  refine set_plain X3 (ox := excO C h2.objs.size) (od := none) ⟨hx3, rfl, rfl, trivial⟩ T.oex.sa ?_
  refine exc_osa X3 hx3 hcl (show refsVE (.ref C :: bm) = true from hbm) rfl T.noN fun h4 tk4 dx kp4 dn dne hx4 hn4 => ?_
  refine wpAt_of_wpAny (wpAny_execs_nil ?_)
  exact hq h4 tk4 dx h2.objs.size ⟨fun b o hb e => kp4 b o hb (kp3 b o hb (kp02 b o e)), hx4, Nat.le_trans (Nat.le_of_lt (Nat.lt_trans l1 (Nat.lt_trans l2 l3))) dn, dne, hn4⟩
/-- __init__ called -/
theorem er_init (T : ErT P K C D fI) {s : Shared} {x t0 : Addr} {v : Value} (X : K.In s.heap) (S : Su K mg s.heap) (hlim : s.heap.NoLimit) (hx : s.heap.get? x = some (excO C t0)) (hnx : K.lookup x = none) (hroom : A.depth < recursionLimit)
    (hq : ∀ h' tk dx t1, Fin s.heap h' x C dx t1 v → R (.ok (.ret .none)) { s with heap := h', toks := tk }) :
    codeAny (model P w) A (.call (.ref fI) ⟨[.ref x, v], []⟩) R s := by
  obtain ⟨oc, od, kV, doc, pm, an, cda, ct, osl, cc, ccl, cdd, vs, ccs, file, tf, cl, cld, csl, ho, hcd, hcode, hvs, hfile, hcell⟩ := T.fn
  refine ks_codeAny_call_defAt (fd := iF kV doc pm an cda ct cc) (body := iB) (binds := [("self", .ref x), ("value", v)])
    hroom (X _ _ ho) rfl hlim (codeRec_of X hcd) rfl (BindsTo.of_eq rfl) (show ∀ y ∈ iS.names, y.2 ≠ NameKind.cell by decide) (fun y hy => ?_) ?_
  · rcases List.mem_cons.mp hy with e | hy
    · rw [e]; rfl
    · rw [List.mem_singleton.mp hy]; rfl
  intro h0 hns kp0
  obtain ⟨sh, g, dr, tk, os⟩ := s
  have xL : x ≠ sh.objs.size := Nat.ne_of_lt (Heap.lt_size hx)
  have lt : sh.objs.size < h0.objs.size := hns.lt
  refine er_body T ho hcode hvs hfile hcell rfl (X.keeps kp0) (S.keeps kp0) (kp0 _ _ hx) xL hnx hns fun h' tk' dx t1 f => ?_
  exact hq h' tk' dx t1 ⟨fun b o hb e => f.keep b o hb (kp0 b o e), f.obj, Nat.le_trans (Nat.le_of_lt lt) f.dbig, f.dne, f.ns⟩
/-- the error made -/
structure Mad (h h' : Heap) (e C d : Addr) (v : Value) : Prop where
  keep : ∀ b o, h.get? b = some o → h'.get? b = some o
  new : h.objs.size ≤ e
  obj : ∃ oe vs, h'.get? e = some oe ∧ oe.cls = .ref C ∧ oe.dict = some d ∧ oe.data = .fields vs ∧ vs[1]? = some .none
  dbig : h.objs.size ≤ d
  dne : d ≠ e
  ns : h'.Ns1 d (fun y => if y = "value" then some v else none)
theorem er_made (T : ErT P K C D fI) {s : Shared} {v : Value} (X : K.In s.heap) (S : Su K mg s.heap) (hlim : s.heap.NoLimit) (hroom : A.depth + 1 < recursionLimit)
    (hq : ∀ h' tk e d, Mad s.heap h' e C d v → R (.ok (.ret (.ref e))) { s with heap := h', toks := tk }) :
    codeAny (model P w) A (.call (.ref C) ⟨[v], []⟩) R s := by
  obtain ⟨nm, q, N, bs, bm, sn, sub, ab, col, dd, k0, k1, k2, k3, k5, hC, hbm⟩ := T.oex.cls
  obtain ⟨hp, g, dr, tk, os⟩ := s
  have kp : ∀ b o, hp.get? b = some o → ((hp.push (kdv_tup [v])).push (excO C hp.objs.size)).get? b = some o := fun b o e => Heap.get?_push_of_some _ (Heap.get?_push_of_some _ e)
  have mine : ((hp.push (kdv_tup [v])).push (excO C hp.objs.size)).get? (hp.objs.size + 1) = some (excO C hp.objs.size) := by heap_get
  have free : K.lookup (hp.objs.size + 1) = none := by
    cases e : K.lookup (hp.objs.size + 1) with
    | none => rfl
    | some o =>
      have z : hp.get? (hp.objs.size + 1) = some o := X _ _ e
      exact absurd (Nat.lt_of_succ_lt (Heap.lt_size z)) (Nat.lt_irrefl _)
  refine call_own F.excBase_ValueError (fun Y => refsVE_contains Y bm hbm) (X _ _ hC) (looks_findIn X T.iC) (fun self => bind_fn X self T.tC) (by show 1 ≤ sizeLine; decide) ?_
  refine er_init (s := ⟨(hp.push (kdv_tup [v])).push (excO C hp.objs.size), g, dr, tk, os⟩) T (X.keeps kp) (S.keeps kp) (hlim.keeps kp) mine free ?_ fun h' tk' dx t1 f => ?_
  · show A.depth + 1 < recursionLimit
    exact hroom
  · have old : ∀ b o, hp.get? b = some o → h'.get? b = some o := fun b o e => f.keep b o (Nat.ne_of_lt (Nat.lt_succ_of_lt (Heap.lt_size e))) (kp b o e)
    have z : hp.objs.size + 1 + 1 ≤ dx := by
      have q := f.dbig
      rw [Heap.size_push, Heap.size_push] at q
      exact q
    exact ⟨rfl, hq h' tk' (hp.objs.size + 1) dx ⟨old, Nat.le_succ _, ⟨_, _, f.obj, rfl, rfl, rfl, rfl⟩, Nat.le_trans (Nat.le_trans (Nat.le_succ _) (Nat.le_succ _)) z, f.dne, f.ns⟩⟩
end
end Er
end Fz

set_option Elab.async false
set_option linter.all false
set_option maxRecDepth 100000
set_option maxHeartbeats 4000000
/-! FzF: raise, try -/
namespace Fz
open PySem PySem.Spec PyProof.Rows L2

/-- the own error's class by its name -/
def ErX (g : Gb) (x : Str) : Prop := ∃ C D fI, Er.ErT g.P g.K C D fI ∧ g.mg x = some (.ref C)
/-- something known that is neither list nor dict -/
theorem Own.know {g : Gb} {φ : List Addr} {F H : Hp} {hp : List O} (o : Own g φ F hp H) {d : Addr} {fs : List (Str × V)} (hd : H d = some (.xd fs)) : Own g φ (upd F d (.xd fs)) hp H ∧ Same F (upd F d (.xd fs)) := by
  have sm : Same F (upd F d (.xd fs)) := by
    intro a u e
    by_cases c : a = d
    · subst c
      rw [upd_same]
      have := o.ex _ _ e
      rw [hd] at this
      exact this
    · rw [upd_ne c]; exact e
  refine ⟨⟨o.len, o.nd, fun a u e => ?_, fun n a x h1 h2 h3 => ?_, fun n a x h1 h2 => (o.ob n a x h1 h2).mono sm⟩, sm⟩
  · by_cases c : a = d
    · subst c
      rw [upd_same] at e
      rw [← e]
      exact hd
    · rw [upd_ne c] at e; exact o.ex _ _ e
  · have hob := o.ob n a x h1 h2
    have c : a ≠ d := by
      intro c
      subst c
      rw [hd] at hob
      cases x with
      | lst ds => obtain ⟨_, e, _⟩ := hob; cases e
      | dic ds => obtain ⟨_, e, _⟩ := hob; cases e
      | gone => exact h3 rfl
    rw [upd_ne c]
    exact o.out n a x h1 h2 h3
theorem relO_val {v : V} {u : Value} (r : RelV v u) (f : Str) : RelO (List.lookup f [(("value" : Str), v)]) (if f = "value" then some u else none) := by
  by_cases c : f = "value"
  · subst c
    rw [if_pos rfl]
    have q : List.lookup ("value" : Str) [(("value" : Str), v)] = some v := by simp [List.lookup]
    rw [q]
    exact r
  · have n1 : (f == ("value" : Str)) = false := by simpa using c
    have n2 : List.lookup f [(("value" : Str), v)] = none := by simp [List.lookup, n1]
    rw [if_neg c, n2]
    trivial
section
variable {X : Cx} {C D fI : Addr} {W : WX} {e : Expr} {ma : EM} {p pos pos2 : Pos} {x : Str} {ta : TA}
def tErr (C : Addr) (ta : TA) : L2.St → Hp → XK → Prop := fun σ H Q => ta σ H fun vs H1 => ∃ v, vs = [v] ∧ ∀ d, H1 d = none → Q (.ref C) (some d) (upd H1 d (.xd [(("value" : Str), v)]))
theorem pmk_err {k : Nat} (T : Er.ErT X.prog X.K C D fI) (hm : X.mg x = some (.ref C)) (hr : Rm k X.A) (ha : PA X [e] ta) (hg : Gl X x) (hdb : (x == ("__debug__" : Str)) = false)
    (he : starEach [e] X.env = (false, eval e X.env) :: starEach [] X.env) (hpl : (backTo pos (starEach [] X.env)).any (·.1) = false) : PMk X (.Call (.Name x p) [e] [] pos) (tErr C ta) := by
  intro pins s σ H Q I h
  apply wpAny_Call_Name_kw
  apply ld_glob I hg hm ?_ hdb
  refine PySem.W.callWith_K (h₀ := X.base) I.ok.mod.kin T.oex.kC (thn (ha.run pos pins s σ H _ I h) ?_) he hpl
  rintro us s1 ⟨vs, H1, I1, r1, v, rfl, q1⟩
  refine ⟨I1.kIn, ?_⟩
  obtain ⟨u, rfl, rv⟩ := vals1 r1
  have su : Er.Su X.K X.mg s1.heap := by
    obtain ⟨mb, hb, hbb⟩ := I1.mod.blt
    exact ⟨I1.mod.glob.keeps I1.bk, ⟨mb, hb.keeps I1.bk, (hbb "super" (by decide)).trans (by first | rfl | decide +kernel)⟩, PySem.W.mg_none_of I1.mod.kin I1.mod.glob T.nos⟩
  have nolim := I1.nolimit
  obtain ⟨hp, g, dr, tk, os⟩ := s1
  apply wpAny_call
  refine Er.er_made T I1.kIn su nolim (by have := hr.r.dp; omega) fun h' tk' a d M => ?_
  show MkP X pins σ Q (.ref a) ⟨h', g, dr, tk', os⟩
  obtain ⟨oe, fv, hoe, hc, hd, hdat, h1⟩ := M.obj
  obtain ⟨G, g1, g2⟩ := restrict h' fun b => decide (b ≠ a)
  have same : ∀ b, b ≠ a → G.get? b = h'.get? b := fun b hb => g1 b (decide_eq_true hb)
  have gone : G.get? a = none := g2 a (by simp)
  have kp : ∀ b o, hp.get? b = some o → G.get? b = some o := by
    intro b o z
    rw [same b (Nat.ne_of_lt (Nat.lt_of_lt_of_le (Heap.lt_size z) M.new))]
    exact M.keep b o z
  have J : Inv X pins σ (upd H1 d (.xd [(("value" : Str), v)])) ⟨G, g, dr, tk', os⟩ :=
    I1.laid (t' := tk') kp M.dbig ⟨_, M.ns.at (fun o z => (same d M.dne).trans z), fun f => relO_val rv f⟩
  refine ⟨a, oe, fv, ⟨G, g, dr, tk', os⟩, _, .ref C, some d, rfl, J, ?_, gone, hoe, ⟨hc, hd⟩, hdat, h1, ?_, rfl, I1.bare, raises_own T.oex.exC T.oex.tyC, q1 d (I1.hok.fresh M.dbig)⟩
  · intro b o z
    by_cases c : b = a
    · rw [c] at z
      rw [show (Shared.mk G g dr tk' os).heap.get? a = none from gone] at z
      cases z
    · rw [← same b c]; exact z
  · rw [upd_ne (Ne.symm M.dne)]
    exact I1.hok.fresh M.new
/-- raise X(e) -/
def raiseM (x : Str) (a : EM) : SM := fun loc hp => (a loc hp).toS loc fun v hp1 => match v with
  | .d y => .exc ⟨x, y⟩ loc hp1
  | _ => .bad
theorem ms_raise {k : Nat} (hc : X.calm = true) (tk : Takes X W) (T : ErX (gOf X) x) (hr : Rm k X.A) (ha : ME X W e ma) (hg : Gl X x := by rfl) (hdb : (x == ("__debug__" : Str)) = false := by decide)
    (he : starEach [e] X.env = (false, eval e X.env) :: starEach [] X.env := by rfl) (hpl : (backTo pos (starEach [] X.env)).any (·.1) = false := by rfl) : MS X W (.Raise (some (.Call (.Name x p) [e] [] pos)) none pos2) (raiseM x ma) := by
  obtain ⟨C, D, fI, T, hm⟩ := T
  refine PS.imp (ps_raise hc tk (pmk_err T hm hr (pa_cons ha pa_nil he) hg hdb he hpl)) fun E σ H ⟨φ, F, hp, loc, o, l, h⟩ => ?_
  refine ⟨φ, F, hp, loc, o, l, (PostS.bind (R := RvV (gOf X)) l h).imp fun y H1 ⟨φ1, F1, hp1, u, p1, s1, o1, r1, _, h1⟩ => ?_⟩
  refine ⟨y, rfl, fun d hn => ?_⟩
  cases u with
  | r _ => exact h1.elim
  | s _ => exact h1.elim
  | w _ => exact h1.elim
  | d yd =>
    have gr : Grow F1 F1 H1 (upd H1 d (.xd [(("value" : Str), y)])) := ⟨same_upd hn, Same.refl _, o1.ex.trans (same_upd hn), fun _ _ => rfl⟩
    exact h1 φ1 F1 _ σ C d y (List.prefix_refl _) (Same.refl _) (o1.grow gr) (l.mono p1 s1) hm upd_same r1
end

/-! ### try: body, except X as n: suite -/
/-- the suite, told by the error's value: slot i holds the error -/
def SuS (X : Cx) (i : Nat) (suite : List Stmt) (m : D → SM) : Prop :=
  ∀ (a : Addr) (oe : Obj) (cls : Value) (d : Option Addr) (pn : List (Addr × Obj)), Zc cls d oe → (∃ vs, oe.data = .fields vs) →
    PSs (X.suite a ((a, oe) :: pn)) suite (fun E σ H => ∃ φ F hp loc val dd xv C D fI, cls = .ref C ∧ d = some dd ∧ Er.ErT X.prog X.K C D fI ∧ Own (gOf X) φ F hp H ∧ Loc (gOf X) φ F loc σ ∧ σ[i]? = some (some (.ref a)) ∧ F dd = some (.xd [(("value" : Str), xv)]) ∧ Rp X.K F xv val ∧
      PostS (gOf X) φ F (fun _ _ _ _ => False) E (m val loc hp))
section
variable {X : Cx} {e : Expr} {te : TE} {pos : Pos} {a : Addr} {oe : Obj} {cls : Value} {d : Option Addr} {pn : List (Addr × Obj)}
def tVal (P : Program) (K : PySem.W.Frag) (a : Addr) (cls : Value) (d : Option Addr) (te : TE) : TE := fun σ H Q => te σ H fun x H1 => x = .ref a ∧ ∃ (C D fI dd : Addr) (v : V), cls = .ref C ∧ Er.ErT P K C D fI ∧ d = some dd ∧ H1 dd = some (.xd [(("value" : Str), v)]) ∧ Q v H1
theorem pe_val (hz : Zc cls d oe) (hf : ∃ vs, oe.data = .fields vs) (he : PE (X.suite a ((a, oe) :: pn)) e te) (hb : attributeBase e "value" X.env (eval e X.env) = eval e X.env) :
    PE (X.suite a ((a, oe) :: pn)) (.Attribute e "value" pos) (tVal X.prog X.K a cls d te) := by
  constructor
  intro pins s σ H Q I h
  refine attr_of hb (thn (he.run pins s σ H _ I h) ?_)
  rintro u s1 ⟨x, H1, I1, rx, rfl, C, D, fI, dd, v, rfl, T, rfl, ea, q⟩
  obtain rfl : u = Value.ref a := rx
  obtain ⟨ha, _⟩ := I1.pin (a, oe) (List.mem_append_left _ List.mem_cons_self)
  obtain ⟨vs, hd⟩ := hf
  have ok : ObjOk X.prog X.w H1 s1.heap dd (.xd [(("value" : Str), v)]) := I1.hok dd _ ea
  obtain ⟨mA, hns, hr⟩ := ok
  obtain ⟨od, ho, hl⟩ := lookIn_ns hns
  have l : List.lookup ("value" : Str) [(("value" : Str), v)] = some v := by simp [List.lookup]
  obtain ⟨u, hu, ru⟩ := RelO.some_of (v := v) (o := mA "value") (by rw [← l]; exact hr "value")
  have J : PySem.W.InstAt s1.heap a oe C (some od) := ⟨ha, hz.1, by unfold PySem.W.notCls; rw [hd], by rw [hz.2]; exact ho⟩
  exact HandSPX.exc_get I1.kIn J T.ga T.gg T.oex.exC (PySem.W.findObj_own T.hdC T.noN rfl (by rw [hl, hu])) (handed_of ru) ⟨v, H1, I1.tok _, ru, q⟩
end
/-- found = repr(e.value) -/
def susRepr (j : Nat) : D → SM := fun val loc hp => if repOk val then .ok .nx (loc.set j (some (.d (.str val.shown)))) hp else .bad
theorem sus_repr {X : Cx} {i j : Nat} {x n : Str} {px pn pv pc pf ps : Pos} (hg : Gd X.A) (hN : X.N.Nodup) (hm : X.mg "repr" = none) (hi : X.N[i]? = some n := by rfl) (hj : X.N[j]? = some x := by rfl) (hx : L2.Loc X.env.scope x := by first | exact Or.inl rfl | exact Or.inr rfl)
    (hv : Vis X.env.scope n := by first | exact Or.inl rfl | exact Or.inr (Or.inl rfl) | exact Or.inr (Or.inr rfl)) (hnd : (n == ("__debug__" : Str)) = false := by decide) (hnc : (n == ("__classdict__" : Str)) = false := by decide)
    (hgr : Gl X "repr" := by rfl) (hb : attributeBase (.Name n pn) "value" X.env (eval (.Name n pn) X.env) = eval (.Name n pn) X.env := by rfl)
    (hs : swapsWith (.Call (.Name "repr" pf) [.Attribute (.Name n pn) "value" pv] [] pc) (some (.Name x px)) ps.line X.env = pure false := by rfl)
    (he : starEach [Expr.Attribute (.Name n pn) "value" pv] X.env = (false, eval (.Attribute (.Name n pn) "value" pv) X.env) :: starEach [] X.env := by rfl) (hpl : (backTo pc (starEach [] X.env)).any (·.1) = false := by rfl)
    (hf : X.fn x = true ∨ X.env.scope.names.lookup x = some .local := by first | exact .inl rfl | exact .inr rfl) :
    SuS X i [.Assign [.Name x px] (.Call (.Name "repr" pf) [.Attribute (.Name n pn) "value" pv] [] pc) ps] (susRepr j) := by
  intro a oe cls d pn' hz hfi
  have r1 := pe_val (X := X) (a := a) (pn := pn') (pos := pv) hz hfi (pe_var (X := X.suite a ((a, oe) :: pn')) (pos := pn) hi hv hnd hnc) hb
  have r2 := pe_callB (X := X.suite a ((a, oe) :: pn')) (p := pf) (pos := pc) (call_rep (X := X.suite a ((a, oe) :: pn')) (hg.mk' _)) hgr hm (by rfl) (pa_cons r1 pa_nil he) (by decide) (by decide) he hpl
  have r3 := pss_one (ps_set (X := X.suite a ((a, oe) :: pn')) (pos' := px) (pos := ps) hN hj hx r2 hs hf)
  refine PSs.imp r3 fun E σ H ⟨φ, F, hp, loc, val, dd, xv, C, D, fI, hcls, hd, T, o, l, hσ, hF, hrp, h⟩ => ?_
  unfold susRepr at h
  split at h
  · rename_i hr
    refine ⟨_, hσ, rfl, C, D, fI, dd, xv, hcls, T, hd, o.ex _ _ hF, xv, val, rfl, vw_dp o.ex (.kn hrp) hr.1, hr, ?_⟩
    exact PostS.here (g := gOf X) o (l.set (show RvV (gOf X) φ F (.str val.shown) (.d (.str val.shown)) from Rp.str _)) h
  · exact h.elim

/-- mt tells which errors the clause takes -/
def tryM (mt : Str → Option Bool) (i : Nat) (body : SM) (suite : D → SM) : SM := fun loc hp => match body loc hp with
  | .exc e loc1 hp1 => (match mt e.cls with
    | some true => if i < loc1.length then (match suite e.val (loc1.set i none) hp1 with
      | .ok f loc2 hp2 => .ok f (loc2.set i none) hp2
      | _ => .bad) else .bad
    | some false => .exc e loc1 hp1
    | none => .bad)
  | r => r
def Takes1 (g : Gb) (c : Value) (mt : Str → Option Bool) : Prop := ∀ x b, mt x = some b → ErX g x ∧ ∀ C, g.mg x = some (.ref C) → PySem.W.exmOne g.K (.ref C) c = some b
theorem ms_try {X : Cx} {W : WX} {x n : Str} {c : Value} {i : Nat} {body suite : List Stmt} {b0 : Stmt} {np pos pos' : Pos} {m : SM} {su : D → SM} {mt : Str → Option Bool} (hs : X.stack = X.env :: X.outer) (hf : X.env.frame = some X.env.locals) (hN : X.N.Nodup) (hc : Names X x c) (tk : Takes X W) (hmt : Takes1 (gOf X) c mt)
    (hb : ∀ (W : WX) (pn : List (Addr × Obj)) (xe : Value → Shared → Prop), Takes (X.tr pn xe) W → PassesOwn (model X.prog X.w) X.A X.env xe → MSs (X.tr pn xe) W body m) (hsu : SuS X i (b0 :: suite) su) (hi : X.N[i]? = some n := by rfl) (hln : X.env.kindOf n = some .local := by rfl) :
    MS X W (.Try body [.ExceptHandler (some (.Name x np)) (some n) (b0 :: suite) pos'] [] [] pos) (tryM mt i m su) := by
  refine PS.imp (ps_try_as (tb := fun W => tS (gOf X) W m) hs hf hN hi hln hc tk (fun W pn xe h1 h2 => hb W pn xe h1 h2) hsu) fun E σ H ⟨φ, F, hp, loc, o, l, h⟩ => ⟨φ, F, hp, loc, o, l, ?_⟩
  unfold tryM at h
  cases q : m loc hp with
  | bad => rw [q] at h; exact h
  | ok f loc1 hp1 => rw [q] at h; exact h
  | exc e loc1 hp1 =>
    rw [q] at h
    dsimp only at h
    intro φ' F' H' σ' C dx xv p s o' l' hm hx rp
    cases qm : mt e.cls with
    | none => rw [qm] at h; exact h.elim
    | some b =>
      rw [qm] at h
      obtain ⟨⟨C2, D2, fI2, T, hm2⟩, hex⟩ := hmt _ _ qm
      have hC : C2 = C := by
        have e1 : some (Value.ref C2) = some (Value.ref C) := hm2.symm.trans hm
        cases e1
        rfl
      subst hC
      refine ⟨b, hex _ hm, ?_, ?_⟩
      · intro hb1 a na
        subst hb1
        dsimp only at h
        obtain ⟨o2, s2⟩ := o'.know hx
        have l2 : Loc (gOf X) φ' (upd F' dx (.xd [(("value" : Str), xv)])) (loc1.set i none) (σ'.set i (some (.ref a))) := (l'.mono (List.prefix_refl _) s2).del
        by_cases hli : i < loc1.length
        rotate_left
        · rw [if_neg hli] at h; exact h.elim
        rw [if_pos hli] at h
        have hlen : i < σ'.length := by rw [← l'.len]; exact hli
        refine ⟨φ', _, hp1, _, e.val, dx, xv, C2, D2, fI2, rfl, rfl, T, o2, l2, List.getElem?_set_self hlen, upd_same, rp.mono s2, ?_⟩
        cases qs : su e.val (loc1.set i none) hp1 with
        | bad => rw [qs] at h; exact h.elim
        | exc _ _ _ => rw [qs] at h; exact h.elim
        | ok f loc2 hp2 =>
          rw [qs] at h
          intro φ3 F3 H3 σ3 p3 s3 o3 l3
          have z := h φ3 F3 H3 (σ3.set i none) (p.trans p3) ((s.trans s2).trans s3) o3 l3.del
          cases f with
          | nx => exact z
          | bk => exact z
          | ct => exact z
          | rt v => exact z
      · intro hb1
        subst hb1
        exact h φ' F' H' σ' C2 dx xv p s o' l' hm hx rp
end Fz

set_option Elab.async false
set_option linter.all false
set_option maxRecDepth 100000
set_option maxHeartbeats 4000000
/-! FzH: short words for printed proofs -/
namespace Fz
open PySem PySem.Spec PyProof.Rows L2

def bnames : List Str := ["len", "set", "list", "tuple", "dict", "sorted", "repr", "all", "any", "int", "abs", "max", "min", "range", "zip", "isinstance", "bool", "str", "enumerate", "sum"]
def NoB (mg : Str → Option Value) : Prop := ∀ x ∈ bnames, mg x = none
structure Cb (X : Cx) : Prop where
  calm : X.calm = true
  gd : Gd X.A
  nd : X.N.Nodup
  nb : NoB X.mg
theorem Cb.blk {X : Cx} (B : Cb X) {s : Shared} {H : Hp} {scope : Scope} {cenv : Env} {fp : List Addr} : Cb (X.blk s H scope cenv fp) := ⟨B.calm, B.gd, B.nd, B.nb⟩
theorem Cb.tr {X : Cx} (B : Cb X) {pn : List (Addr × Obj)} {xe : Value → Shared → Prop} : Cb (X.tr pn xe) := ⟨B.calm, B.gd, B.nd, B.nb⟩
/-- THE RULE of a def, with what its body wants -/
theorem fok_ofB {g : Gb} {x qual : Str} {st : Stmt} {fa : Addr} {fd : FuncData} {N ps : List Str} {k : Nat} {fin : Nat → Vl → List O → Res Vl} {m : SM} (nb : NoB g.mg) (hfin : FinOk g fin) (Fu : Fun g.K x qual st fa fd) (S : FnScope N ps (defScope st)) (hm : g.mg x = some (.ref fa)) (hb : Binds g.K fd ps [])
    (body : ∀ (cdv : Value) (A : Around) (outer : List Env) (s : Shared) (H : Hp) (E : XK), Cb (cxOf (L2.CX g.P g.w) g.P g.w g.K g.mg g.base N qual (defScope st) fa cdv A outer s H E) →
      Takes (cxOf (L2.CX g.P g.w) g.P g.w g.K g.mg g.base N qual (defScope st) fa cdv A outer s H E) (fun c d _ H => E c d H) →
      PassesOwn (model g.P g.w) (A.deeper (envOfC qual (defScope st) s.heap.objs.size fa cdv)) (envOfC qual (defScope st) s.heap.objs.size fa cdv) (cxOf (L2.CX g.P g.w) g.P g.w g.K g.mg g.base N qual (defScope st) fa cdv A outer s H E).xe →
      Rm k (A.deeper (envOfC qual (defScope st) s.heap.objs.size fa cdv)) →
      MSs (cxOf (L2.CX g.P g.w) g.P g.w g.K g.mg g.base N qual (defScope st) fa cdv A outer s H E) (fun c d _ H => E c d H) (defBody st) m) :
    FOk g (k + 1) x (defArgs st) ps (runDef fin N.length ps.length m) :=
  fok_of hfin Fu S hm hb fun cdv A outer s H E hr => body cdv A outer s H E ⟨rfl, hr.gd, S.nd, nb⟩ (takes_of rfl rfl rfl rfl) (passes_of rfl) hr
/-! == of texts beside that of shaped data -/
def eqA : D → D → Option D
  | .str a, .str b => some (.bool (decide (a = b)))
  | x, y => eqD x y
def neA : D → D → Option D
  | .str a, .str b => some (.bool (!decide (a = b)))
  | x, y => neD x y
theorem s_eqA {K : PySem.W.Frag} : OpS K (fun x y H Q => rEq x y H Q ∨ rEqD K x y H Q) eqA := by
  intro F H x y d e w Q ex vx vy hf q
  unfold eqA at hf
  split at hf
  · cases hf
    have e1 := vw_str vx
    have e2 := vw_str vy
    subst e1 e2
    refine .inl ⟨rfl, q _ F H (Grow.refl ex) ?_⟩
    rename_i a b
    rw [show decide (V.str a = V.str b) = decide (a = b) from decide_eq_decide.mpr ⟨fun z => by cases z; rfl, fun z => by rw [z]⟩]
    exact .bl _
  · exact .inr (s_eq F H x y d e w Q ex vx vy hf q)
theorem s_neA {K : PySem.W.Frag} : OpS K (fun x y H Q => rNe x y H Q ∨ rNeD K x y H Q) neA := by
  intro F H x y d e w Q ex vx vy hf q
  unfold neA at hf
  split at hf
  · cases hf
    have e1 := vw_str vx
    have e2 := vw_str vy
    subst e1 e2
    refine .inl ⟨rfl, q _ F H (Grow.refl ex) ?_⟩
    rename_i a b
    rw [show decide (V.str a = V.str b) = decide (a = b) from decide_eq_decide.mpr ⟨fun z => by cases z; rfl, fun z => by rw [z]⟩]
    exact .bl _
  · exact .inr (s_ne F H x y d e w Q ex vx vy hf q)
/-- a def that is never reached -/
theorem fok_bad {g : Gb} {x qual : Str} {st : Stmt} {fa : Addr} {fd : FuncData} {ps : List Str} {k : Nat} (Fu : Fun g.K x qual st fa fd) (hm : g.mg x = some (.ref fa)) (hb : Binds g.K fd ps []) : FOk g k x (defArgs st) ps (fun _ _ => .bad) := by
  refine ⟨fun _ _ _ => rfl, fa, fd, ⟨fun vs H Q E h => h.1, fun hr e0 b r h => ?_⟩, hm, Fu.kp, hb, ?_⟩
  · obtain ⟨_, _, _, _, _, _, _, z⟩ := h
    exact z.elim
  · obtain ⟨oc, od, kV, doc, pm, an, cdv, ct, osl, e, _, _⟩ := Fu.ex
    exact ⟨_, _, _, _, _, _, _, _, _, e⟩

section
variable {X : Cx} {W : WX} {a b c e tg : Expr} {es : List Expr} {ma mb mc : EM} {am : AM} {pos p p2 pos2 : Pos}
theorem w_gint {x : Str} {n : Int} (h : ∃ t, X.mg x = some (.int n t)) (hg : Gl X x := by rfl) (hdb : (x == ("__debug__" : Str)) = false := by decide) : ME X W (.Name x pos) (cM (.int n)) := by
  obtain ⟨t, h⟩ := h
  exact me_glob (v := .int n) h ⟨t, rfl⟩ (fun _ => .int n) hg hdb
theorem w_neg (ha : ME X W a ma) : ME X W (.UnaryOp .USub a pos) (unM negD ma) := me_un un_neg s_neg ha
theorem w_add (ha : ME X W a ma) (hb : ME X W b mb) : ME X W (.BinOp a .Add b pos) (opM addD ma mb) := me_op op_addA s_add ha hb
theorem w_sub (ha : ME X W a ma) (hb : ME X W b mb) : ME X W (.BinOp a .Sub b pos) (opM subD ma mb) := me_op op_sub s_sub ha hb
theorem w_mul (ha : ME X W a ma) (hb : ME X W b mb) : ME X W (.BinOp a .Mult b pos) (opM mulD ma mb) := me_op op_mulX s_mul ha hb
theorem w_div (ha : ME X W a ma) (hb : ME X W b mb) : ME X W (.BinOp a .FloorDiv b pos) (opM fdivD ma mb) := me_op op_fdivW s_fdiv ha hb
theorem w_mod (ha : ME X W a ma) (hb : ME X W b mb) : ME X W (.BinOp a .Mod b pos) (opM modD ma mb) := me_op op_mod s_mod ha hb
theorem w_pow (ha : ME X W a ma) (hb : ME X W b mb) : ME X W (.BinOp a .Pow b pos) (opM powD ma mb) := me_op op_pow s_pow ha hb
theorem w_ix (B : Cb X) (ha : ME X W a ma) (hb : ME X W b mb) (hp : PlainIx b := by exact fun _ _ => rfl) : ME X W (.Subscript a b pos) (opM ixA ma mb) := me_ix (ix_all B.gd) s_ixA ha hb hp
theorem gd64 {A : Around} (h : Gd A) : A.units + 64 < cLine := by have := h.u; omega
theorem w_lt (ha : ME X W a ma) (hb : ME X W b mb) : ME X W (.Compare a [.Lt] [b] pos) (opM ltD ma mb) := me_cmp op_lt s_lt ha hb
theorem w_le (ha : ME X W a ma) (hb : ME X W b mb) : ME X W (.Compare a [.LtE] [b] pos) (opM leD ma mb) := me_cmp op_le s_le ha hb
theorem w_gt (ha : ME X W a ma) (hb : ME X W b mb) : ME X W (.Compare a [.Gt] [b] pos) (opM gtD ma mb) := me_cmp op_gt s_gt ha hb
theorem w_ge (ha : ME X W a ma) (hb : ME X W b mb) : ME X W (.Compare a [.GtE] [b] pos) (opM geD ma mb) := me_cmp op_ge s_ge ha hb
theorem w_eq (B : Cb X) (ha : ME X W a ma) (hb : ME X W b mb) : ME X W (.Compare a [.Eq] [b] pos) (opM eqA ma mb) := me_cmp (OpR.or op_eq (op_eqD (gd64 B.gd))) s_eqA ha hb
theorem w_ne (B : Cb X) (ha : ME X W a ma) (hb : ME X W b mb) : ME X W (.Compare a [.NotEq] [b] pos) (opM neA ma mb) := me_cmp (OpR.or op_ne (op_neD (gd64 B.gd))) s_neA ha hb
theorem w_in (B : Cb X) (ha : ME X W a ma) (hb : ME X W b mb) (hm : behindInMarks .In b = false := by rfl) : ME X W (.Compare a [.In] [b] pos) (opM inD ma mb) := me_cmp (op_din B.gd) s_din ha hb hm
theorem w_nin (B : Cb X) (ha : ME X W a ma) (hb : ME X W b mb) (hm : behindInMarks .NotIn b = false := by rfl) : ME X W (.Compare a [.NotIn] [b] pos) (opM ninD ma mb) := me_cmp (op_dnin B.gd) s_dnin ha hb hm
theorem t_lt (ha : ME X W a ma) (hb : ME X W b mb) : MT X W (.Compare a [.Lt] [b] pos) (tstM (opM ltD ma mb)) := mt_cmp op_lt s_lt ha hb
theorem t_le (ha : ME X W a ma) (hb : ME X W b mb) : MT X W (.Compare a [.LtE] [b] pos) (tstM (opM leD ma mb)) := mt_cmp op_le s_le ha hb
theorem t_gt (ha : ME X W a ma) (hb : ME X W b mb) : MT X W (.Compare a [.Gt] [b] pos) (tstM (opM gtD ma mb)) := mt_cmp op_gt s_gt ha hb
theorem t_ge (ha : ME X W a ma) (hb : ME X W b mb) : MT X W (.Compare a [.GtE] [b] pos) (tstM (opM geD ma mb)) := mt_cmp op_ge s_ge ha hb
theorem t_eq (B : Cb X) (ha : ME X W a ma) (hb : ME X W b mb) : MT X W (.Compare a [.Eq] [b] pos) (tstM (opM eqA ma mb)) := mt_cmp (OpR.or op_eq (op_eqD (gd64 B.gd))) s_eqA ha hb
theorem t_ne (B : Cb X) (ha : ME X W a ma) (hb : ME X W b mb) : MT X W (.Compare a [.NotEq] [b] pos) (tstM (opM neA ma mb)) := mt_cmp (OpR.or op_ne (op_neD (gd64 B.gd))) s_neA ha hb
theorem t_in (B : Cb X) (ha : ME X W a ma) (hb : ME X W b mb) (hm : behindInMarks .In b = false := by rfl) : MT X W (.Compare a [.In] [b] pos) (tstM (opM inD ma mb)) := mt_cmp (op_din B.gd) s_din ha hb hm
theorem t_nin (B : Cb X) (ha : ME X W a ma) (hb : ME X W b mb) (hm : behindInMarks .NotIn b = false := by rfl) : MT X W (.Compare a [.NotIn] [b] pos) (tstM (opM ninD ma mb)) := mt_cmp (op_dnin B.gd) s_dnin ha hb hm

theorem w_len (B : Cb X) (ha : ME X W e ma) (hg : Gl X "len" := by rfl) (hs : starEach [e] X.env = (false, eval e X.env) :: starEach [] X.env := by rfl) (hpl : (backTo pos (starEach [] X.env)).any (·.1) = false := by rfl) : ME X W (.Call (.Name "len" p) [e] [] pos) (bindE ma lenF) :=
  me_b1B (k_len _) call_lenA (B.nb _ (by decide)) boot_len ha hg (by decide) (by decide) hs hpl
theorem w_set (B : Cb X) (ha : ME X W e ma) (hg : Gl X "set" := by rfl) (hs : starEach [e] X.env = (false, eval e X.env) :: starEach [] X.env := by rfl) (hpl : (backTo pos (starEach [] X.env)).any (·.1) = false := by rfl) : ME X W (.Call (.Name "set" p) [e] [] pos) (bindE ma setF) :=
  me_b1T (k_set _) (call_setI B.calm) (B.nb _ (by decide)) PyProof.Rows.boot_set ha hg (by decide) (by decide) hs hpl
theorem w_sorted (B : Cb X) (ha : ME X W e ma) (hg : Gl X "sorted" := by rfl) (hs : starEach [e] X.env = (false, eval e X.env) :: starEach [] X.env := by rfl) (hpl : (backTo pos (starEach [] X.env)).any (·.1) = false := by rfl) : ME X W (.Call (.Name "sorted" p) [e] [] pos) (bindE ma (newD sortF)) :=
  me_b1B (NewL.d (n_sort _)) (call_sortA B.calm) (B.nb _ (by decide)) PyProof.Rows.boot_sorted ha hg (by decide) (by decide) hs hpl
theorem w_list (B : Cb X) (ha : ME X W e ma) (hg : Gl X "list" := by rfl) (hs : starEach [e] X.env = (false, eval e X.env) :: starEach [] X.env := by rfl) (hpl : (backTo pos (starEach [] X.env)).any (·.1) = false := by rfl) : ME X W (.Call (.Name "list" p) [e] [] pos) (bindE ma (newD lisF)) :=
  me_b1T (NewL.d (n_lis _)) (call_lisA B.calm) (B.nb _ (by decide)) PyProof.Rows.boot_list ha hg (by decide) (by decide) hs hpl
theorem w_dict (B : Cb X) (ha : ME X W e ma) (hg : Gl X "dict" := by rfl) (hs : starEach [e] X.env = (false, eval e X.env) :: starEach [] X.env := by rfl) (hpl : (backTo pos (starEach [] X.env)).any (·.1) = false := by rfl) : ME X W (.Call (.Name "dict" p) [e] [] pos) (frzM (bindE ma (newDic dicF))) :=
  me_frz (me_b1T (NewDi.o (n_dic _)) (call_dicA B.calm) (B.nb _ (by decide)) PyProof.Rows.boot_dict ha hg (by decide) (by decide) hs hpl)
theorem w_tuple (B : Cb X) (ha : ME X W e ma) (hg : Gl X "tuple" := by rfl) (he : starEach [e] X.env = (false, eval e X.env) :: starEach [] X.env := by rfl) (hpl : (backTo pos (starEach [] X.env)).any (·.1) = false := by rfl) : ME X W (.Call (.Name "tuple" p) [e] [] pos) (blt tupleD (consM ma nilM)) :=
  me_callTy call_tupF s_tuple (B.nb _ (by decide)) PyProof.Rows.boot_tuple (ma_cons ha ma_nil he) hg (by decide) (by decide) he hpl
theorem w_int (B : Cb X) (ha : ME X W e ma) (hg : Gl X "int" := by rfl) (he : starEach [e] X.env = (false, eval e X.env) :: starEach [] X.env := by rfl) (hpl : (backTo pos (starEach [] X.env)).any (·.1) = false := by rfl) : ME X W (.Call (.Name "int" p) [e] [] pos) (blt intD (consM ma nilM)) :=
  me_callTy call_int1 s_int1 (B.nb _ (by decide)) PyProof.Rows.boot_int (ma_cons ha ma_nil he) hg (by decide) (by decide) he hpl
theorem w_abs (B : Cb X) (ha : ME X W e ma) (hg : Gl X "abs" := by rfl) (he : starEach [e] X.env = (false, eval e X.env) :: starEach [] X.env := by rfl) (hpl : (backTo pos (starEach [] X.env)).any (·.1) = false := by rfl) : ME X W (.Call (.Name "abs" p) [e] [] pos) (blt absD (consM ma nilM)) :=
  me_callB call_abs s_abs (B.nb _ (by decide)) PyProof.Rows.boot_abs (ma_cons ha ma_nil he) hg (by decide) (by decide) he hpl
theorem w_all (B : Cb X) (ha : ME X W e ma) (hg : Gl X "all" := by rfl) (he : starEach [e] X.env = (false, eval e X.env) :: starEach [] X.env := by rfl) (hpl : (backTo pos (starEach [] X.env)).any (·.1) = false := by rfl) : ME X W (.Call (.Name "all" p) [e] [] pos) (blt allD (consM ma nilM)) :=
  me_callB (cr_all B.calm) s_all (B.nb _ (by decide)) PyProof.Rows.boot_all (ma_cons ha ma_nil he) hg (by decide) (by decide) he hpl
theorem w_any (B : Cb X) (ha : ME X W e ma) (hg : Gl X "any" := by rfl) (he : starEach [e] X.env = (false, eval e X.env) :: starEach [] X.env := by rfl) (hpl : (backTo pos (starEach [] X.env)).any (·.1) = false := by rfl) : ME X W (.Call (.Name "any" p) [e] [] pos) (blt anyD (consM ma nilM)) :=
  me_callB (cr_any B.calm) s_any (B.nb _ (by decide)) PyProof.Rows.boot_any (ma_cons ha ma_nil he) hg (by decide) (by decide) he hpl
theorem w_repr (B : Cb X) (ha : ME X W e ma) (hg : Gl X "repr" := by rfl) (he : starEach [e] X.env = (false, eval e X.env) :: starEach [] X.env := by rfl) (hpl : (backTo pos (starEach [] X.env)).any (·.1) = false := by rfl) : ME X W (.Call (.Name "repr" p) [e] [] pos) (blt reprD (consM ma nilM)) :=
  me_callB (call_rep B.gd) s_repr (B.nb _ (by decide)) PyProof.Rows.boot_repr (ma_cons ha ma_nil he) hg (by decide) (by decide) he hpl
theorem w_max2 (B : Cb X) (ha : ME X W a ma) (hb : ME X W b mb) (hg : Gl X "max" := by rfl) (he : starEach [a, b] X.env = (false, eval a X.env) :: starEach [b] X.env := by rfl) (he2 : starEach [b] X.env = (false, eval b X.env) :: starEach [] X.env := by rfl) (hpl : (backTo pos (starEach [b] X.env)).any (·.1) = false := by rfl) :
    ME X W (.Call (.Name "max" p) [a, b] [] pos) (blt max2D (consM ma (consM mb nilM))) := me_callB (call_max2 B.calm) s_max2 (B.nb _ (by decide)) PyProof.Rows.boot_max (ma_cons ha (ma_cons hb ma_nil he2) he) hg (by decide) (by decide) he hpl
theorem w_min2 (B : Cb X) (ha : ME X W a ma) (hb : ME X W b mb) (hg : Gl X "min" := by rfl) (he : starEach [a, b] X.env = (false, eval a X.env) :: starEach [b] X.env := by rfl) (he2 : starEach [b] X.env = (false, eval b X.env) :: starEach [] X.env := by rfl) (hpl : (backTo pos (starEach [b] X.env)).any (·.1) = false := by rfl) :
    ME X W (.Call (.Name "min" p) [a, b] [] pos) (blt min2D (consM ma (consM mb nilM))) := me_callB (call_min2 B.calm) s_min2 (B.nb _ (by decide)) PyProof.Rows.boot_min (ma_cons ha (ma_cons hb ma_nil he2) he) hg (by decide) (by decide) he hpl
end

theorem p_add {K : PySem.W.Frag} : PiS K (ipI fun i j => i + j) (intOp0 fun i j => .int (i + j)) := by
  intro F H x y d e w Q ex vx vy hf q
  unfold intOp0 at hf
  split at hf
  · cases hf
    exact ⟨_, _, vw_int vx, vw_int vy, q _ F H (Grow.refl ex) (.int _)⟩
  · cases hf
theorem p_sub {K : PySem.W.Frag} : PiS K (ipI fun i j => i - j) (intOp0 fun i j => .int (i - j)) := by
  intro F H x y d e w Q ex vx vy hf q
  unfold intOp0 at hf
  split at hf
  · cases hf
    exact ⟨_, _, vw_int vx, vw_int vy, q _ F H (Grow.refl ex) (.int _)⟩
  · cases hf
def plusD := intOp0 fun i j => PyData.int (i + j)
def minusD := intOp0 fun i j => PyData.int (i - j)
theorem blk5 {N : List Str} {sc scope : Scope} {own : List (Str × Nat)} (h1 : scope.kind = .function) (h2 : ∀ y ∈ scope.names, scope.names.lookup y.1 = some y.2) (h3 : ∀ p ∈ own, N[p.2]? = some p.1) (h4 : ∀ y ∈ scope.names, y.2 = .free → sc.names.lookup y.1 = some .cell ∨ sc.names.lookup y.1 = some .free)
    (h5 : ∀ y ∈ scope.names, y.2 = .local ∨ y.2 = .cell → y.1 ∈ own.map (·.1) ∨ y.1 ∉ N) : BlkOk N sc scope own := ⟨h1, h2, h3, h4, h5⟩

/-! ### the law's own def, and the end -/
theorem fng_ofB {g : Gb} {x qual : Str} {st : Stmt} {fa : Addr} {fd : FuncData} {N ps : List Str} {k : Nat} {fin : Nat → Vl → List O → Res Vl} {m : SM} (nb : NoB g.mg) (hfin : FinOk g fin) (Fu : Fun g.K x qual st fa fd) (S : FnScope N ps (defScope st)) (hm : g.mg x = some (.ref fa)) (hb : Binds g.K fd ps [])
    (body : ∀ (cdv : Value) (A : Around) (outer : List Env) (s : Shared) (H : Hp) (E : XK), Cb (cxOf (L2.CX g.P g.w) g.P g.w g.K g.mg g.base N qual (defScope st) fa cdv A outer s H E) →
      Takes (cxOf (L2.CX g.P g.w) g.P g.w g.K g.mg g.base N qual (defScope st) fa cdv A outer s H E) (fun c d _ H => E c d H) →
      PassesOwn (model g.P g.w) (A.deeper (envOfC qual (defScope st) s.heap.objs.size fa cdv)) (envOfC qual (defScope st) s.heap.objs.size fa cdv) (cxOf (L2.CX g.P g.w) g.P g.w g.K g.mg g.base N qual (defScope st) fa cdv A outer s H E).xe →
      Rm k (A.deeper (envOfC qual (defScope st) s.heap.objs.size fa cdv)) →
      MSs (cxOf (L2.CX g.P g.w) g.P g.w g.K g.mg g.base N qual (defScope st) fa cdv A outer s H E) (fun c d _ H => E c d H) (defBody st) m) :
    FnG g (k + 1) fa fd ps (spM g ps.length (runDef fin N.length ps.length m)) := by
  refine (fng_of Fu S (fun vs H Q E h => h.1) (fun cdv A outer s H vs Q E hr h => ⟨_, body cdv A outer s H E ⟨rfl, hr.gd, S.nd, nb⟩ (takes_of rfl rfl rfl rfl) (passes_of rfl) hr, ?_⟩))
  exact fok_reads hfin h
def lawSp (K : PySem.W.Frag) : Sp := fun vs H Q E => ∃ (a : Addr) (ns : List Int), vs = [.ref a] ∧ SqL K H a (ns.map V.int) ∧ ns.length ≤ 63 ∧ (∀ z ∈ ns, Builtin.Int.intBits z ≤ 1048576) ∧ ∀ H', Q (.bl true) H'
theorem law_end {g : Gb} {k : Nat} {fa : Addr} {fd : FuncData} {f : FM} (F : FnG g k fa fd ["script"] (spM g 1 f)) (law : ∀ ns : List Int, ns.length ≤ 63 → (∀ z ∈ ns, Builtin.Int.intBits z ≤ 1048576) → ∃ hp, f [.d (.list (ns.map PyData.int))] [] = .ok (.d (.bool true)) hp) : FnG g k fa fd ["script"] (lawSp g.K) := by
  have up : ∀ vs H Q E, lawSp g.K vs H Q E → spM g 1 f vs H Q E := by
    rintro vs H Q E ⟨a, ns, rfl, hs, hl, hb, hq⟩
    obtain ⟨hp, e⟩ := law ns hl hb
    refine ⟨rfl, [], H, [], [.d (.list (ns.map PyData.int))], ⟨rfl, .nil, Same.refl _, fun n a o h => by simp at h, fun n a o h => by simp at h⟩, .cons (show Rp g.K H (.ref a) (.list (ns.map PyData.int)) from .lst hs ?_ (RpL.of_ints ns)) .nil, ?_⟩
    · rw [List.length_map, sizeLine_eq]; omega
    · rw [e]
      intro φ' F' H' x _ _ _ r
      have e : x = .bl true := rp_bool r
      subst e
      exact hq H'
  exact ⟨fun vs H Q E h => F.len vs H Q E (up _ _ _ _ h), fun hr he hb hv h => F.run hr he hb hv (up _ _ _ _ h)⟩
theorem walk_law {l : PySem.W.OpenLaw} {k : Nat} {q : Program} {loose : List Str} {XP : (Str → Option Value) → Heap → Prop} {YP : World → Heap → Prop} {d : DefRec} {K : Params → PySem.W.Frag} (hn : l.most = some 63) (hdf : d.params.defaults = []) (hr : Rm k callerA) (hY : ∀ (w : World) (h : Heap), YP w h → (K w.params).In h)
    (F : ∀ (w : World) (mg : Str → Option Value) (fa : Addr) (h : Heap), (K w.params).In h → h.Ns mainGlobals mg → mg d.name = some (.ref fa) →
      ∃ fd : FuncData, (∀ (s : Shared) (u : Value), BindsTo s fd ⟨[u], []⟩ [("script", u)]) ∧ ∀ base : Heap, (K w.params).In base → base.Ns mainGlobals mg → FnG ⟨l.prog, w, K w.params, mg, base⟩ k fa fd ["script"] (lawSp (K w.params))) :
    PySem.W.WalkO q loose XP YP l.row.toRowW d [] (fun f vs => PySem.call f vs) :=
  walk_fz (n := 63) (x := "script") hn (by decide) hdf hr hY F fun w H a ns hl hb _ hS => ⟨a, ns, rfl, hS, hl, hb, fun _ => rfl⟩
theorem exm_by {K : PySem.W.Frag} {C S : Addr} {b : Bool} (h1 : PySem.W.subIn K (.ref S) (.type "BaseException") = some true) (h2 : PySem.W.isClsIn K S = true) (h3 : PySem.W.typeIn K (.ref S) = some (.type "type")) (h4 : PySem.W.subIn K (.ref C) (.ref S) = some b) : PySem.W.exmOne K (.ref C) (.ref S) = some b := by
  have e1 : (PySem.W.subIn K (.ref S) (.type "BaseException") == some true) = true := by rw [h1]; rfl
  have h2' : (PySem.W.clsIn K S).isSome = true := h2
  have e2 : ((PySem.W.clsIn K S).isSome && PySem.W.typeIn K (.ref S) == some (.type "type")) = true := by rw [h2', h3]; rfl
  show (if (PySem.W.subIn K (.ref S) (.type "BaseException") == some true) = true then (if ((PySem.W.clsIn K S).isSome && PySem.W.typeIn K (.ref S) == some (.type "type")) = true then PySem.W.subIn K (.ref C) (.ref S) else none) else none) = some b
  rw [if_pos e1, if_pos e2]
  exact h4
end Fz

set_option Elab.async false
set_option linter.all false
set_option maxRecDepth 100000
set_option maxHeartbeats 8000000
/-! FzM: the mirror, evaluated -/
namespace Fz
open PySem PySem.Spec PyProof.Rows L2

@[simp] theorem bind_ok {α β : Type} (v : α) (hp : List O) (f : α → List O → Res β) : (Res.ok v hp).bind f = f v hp := rfl
@[simp] theorem bind_exc {α β : Type} (e : Exn) (hp : List O) (f : α → List O → Res β) : (Res.exc e hp : Res α).bind f = .exc e hp := rfl
@[simp] theorem toS_ok {α : Type} (loc : Ls) (v : α) (hp : List O) (k : α → List O → RS) : (Res.ok v hp).toS loc k = k v hp := rfl
@[simp] theorem toS_exc {α : Type} (loc : Ls) (e : Exn) (hp : List O) (k : α → List O → RS) : (Res.exc e hp : Res α).toS loc k = .exc e loc hp := rfl
@[simp] theorem finD_d (n : Nat) (x : D) (hp : List O) : finD n (.d x) hp = .ok (.d x) (hp.take n) := rfl
@[simp] theorem view_d (hp : List O) (x : D) : viewD hp (.d x) = some x := rfl
@[simp] theorem okD_some (d : D) (hp : List O) : okD (some d) hp = .ok (.d d) hp := rfl
@[simp] theorem viewsD_nil (hp : List O) : viewsD hp [] = some [] := rfl
@[simp] theorem viewsD_cons (hp : List O) (x : D) (r : List Vl) : viewsD hp (.d x :: r) = (viewsD hp r).map (x :: ·) := rfl
@[simp] theorem allData_nil : allData [] = some [] := rfl
@[simp] theorem allData_cons (x : D) (r : List Vl) : allData (.d x :: r) = (allData r).map (x :: ·) := rfl
/-- a comprehension that changes nothing -/
theorem lc_pure {f : GM} {te : EM} {lw : Ls} {h : D → D} : ∀ {ds : List D} {b : List O} {acc : List D}, (∀ d ∈ ds, ∀ hp : List O, ∃ loc1, f (.d d) lw hp = some loc1 ∧ te loc1 hp = .ok (.d (h d)) hp) →
    lcGo none f yesT te lw (ds.map Vl.d) b acc = .ok (acc ++ ds.map h) b
  | [], b, acc, _ => by
    rw [List.map_nil]
    unfold lcGo
    rw [if_pos (show Kept none b from trivial)]
    simp
  | d :: ds, b, acc, H => by
    obtain ⟨loc1, h1, h2⟩ := H d List.mem_cons_self (b ++ [.lst acc])
    have e : (b ++ [O.lst acc])[b.length]? = some (.lst acc) := by rw [List.getElem?_append_right (Nat.le_refl _)]; simp
    have t : (b ++ [O.lst acc]).take b.length = b := List.take_left
    rw [List.map_cons]
    unfold lcGo
    rw [if_pos (show Kept none b from trivial), h1]
    dsimp only [yesT]
    rw [if_pos rfl, h2]
    dsimp only
    rw [if_pos e, t, lc_pure fun d hd => H d (List.mem_cons_of_mem _ hd)]
    simp
/-- .. with a test -/
theorem lc_filt {f : GM} {tt : TM} {te : EM} {lw : Ls} {c : D → Bool} {h : D → D} : ∀ {ds : List D} {b : List O} {acc : List D}, (∀ d ∈ ds, ∀ hp : List O, ∃ loc1, f (.d d) lw hp = some loc1 ∧ tt loc1 hp = .ok (c d) hp ∧ te loc1 hp = .ok (.d (h d)) hp) →
    lcGo none f tt te lw (ds.map Vl.d) b acc = .ok (acc ++ (ds.filter c).map h) b
  | [], b, acc, _ => by
    rw [List.map_nil]
    unfold lcGo
    rw [if_pos (show Kept none b from trivial)]
    simp
  | d :: ds, b, acc, H => by
    obtain ⟨loc1, h1, h2, h3⟩ := H d List.mem_cons_self (b ++ [.lst acc])
    have e : (b ++ [O.lst acc])[b.length]? = some (.lst acc) := by rw [List.getElem?_append_right (Nat.le_refl _)]; simp
    have t : (b ++ [O.lst acc]).take b.length = b := List.take_left
    rw [List.map_cons]
    unfold lcGo
    rw [if_pos (show Kept none b from trivial), h1]
    dsimp only
    rw [h2]
    dsimp only
    cases q : c d with
    | true =>
      rw [if_pos rfl, h3]
      dsimp only
      rw [if_pos e, t, lc_filt fun d hd => H d (List.mem_cons_of_mem _ hd), List.filter_cons, if_pos q]
      simp
    | false =>
      rw [if_neg Bool.false_ne_true, if_pos e, t, lc_filt fun d hd => H d (List.mem_cons_of_mem _ hd), List.filter_cons, if_neg (by rw [q]; decide)]
/-- pairs out of zip -/
theorem lc_w {f : GM} {te : EM} {lw : Ls} {α : Type} {j : α → Vl} {h : α → D} : ∀ {ds : List α} {b : List O} {acc : List D}, (∀ d ∈ ds, ∀ hp : List O, ∃ loc1, f (j d) lw hp = some loc1 ∧ te loc1 hp = .ok (.d (h d)) hp) →
    lcGo none f yesT te lw (ds.map j) b acc = .ok (acc ++ ds.map h) b
  | [], b, acc, _ => by
    rw [List.map_nil]
    unfold lcGo
    rw [if_pos (show Kept none b from trivial)]
    simp
  | d :: ds, b, acc, H => by
    obtain ⟨loc1, h1, h2⟩ := H d List.mem_cons_self (b ++ [.lst acc])
    have e : (b ++ [O.lst acc])[b.length]? = some (.lst acc) := by rw [List.getElem?_append_right (Nat.le_refl _)]; simp
    have t : (b ++ [O.lst acc]).take b.length = b := List.take_left
    rw [List.map_cons]
    unfold lcGo
    rw [if_pos (show Kept none b from trivial), h1]
    dsimp only [yesT]
    rw [if_pos rfl, h2]
    dsimp only
    rw [if_pos e, t, lc_w fun d hd => H d (List.mem_cons_of_mem _ hd)]
    simp
/-- a loop that always goes on -/
theorem for_inv {tg : GM} {body : SM} {keep : Option (Nat × O)} : ∀ {items : List Vl} {i : Nat} (P : Nat → Ls → List O → Prop) {loc : Ls} {hp : List O}, P i loc hp →
    (∀ k loc hp, P k loc hp → Kept keep hp) →
    (∀ k v loc hp, items[k]? = some v → P (i + k) loc hp → ∃ loc1, tg v loc hp = some loc1 ∧ ∃ loc2 hp2, (body loc1 hp = .ok .nx loc2 hp2 ∨ body loc1 hp = .ok .ct loc2 hp2) ∧ P (i + k + 1) loc2 hp2) →
    ∃ loc' hp', forGo keep tg body items loc hp = .ok .nx loc' hp' ∧ P (i + items.length) loc' hp'
  | [], i, P, loc, hp, h0, hk, _ => by
    refine ⟨loc, hp, ?_, h0⟩
    unfold forGo
    rw [if_pos (hk _ _ _ h0)]
  | v :: items, i, P, loc, hp, h0, hk, hs => by
    obtain ⟨loc1, e1, loc2, hp2, e2, h2⟩ := hs 0 v loc hp rfl h0
    obtain ⟨loc', hp', e3, h3⟩ := for_inv (items := items) (i := i + 1) P h2 hk (fun k v loc hp hv hP => by
      have e : i + 1 + k = i + (k + 1) := by omega
      rw [e] at hP
      obtain ⟨l1, a1, l2, a2, a3, a4⟩ := hs (k + 1) v loc hp (by simpa using hv) hP
      exact ⟨l1, a1, l2, a2, a3, by rw [show i + 1 + k + 1 = i + (k + 1) + 1 by omega]; exact a4⟩)
    refine ⟨loc', hp', ?_, by rw [List.length_cons, show i + (items.length + 1) = i + 1 + items.length by omega]; exact h3⟩
    unfold forGo
    rw [if_pos (hk _ _ _ h0), e1]
    dsimp only
    rcases e2 with e2 | e2
    · rw [e2]; exact e3
    · rw [e2]; exact e3

/-! ### slots -/
theorem varM_at {i : Nat} {loc : Ls} {v : Vl} (h : loc[i]? = some (some v)) (hp : List O) : varM i loc hp = .ok v hp := by unfold varM; rw [h]
theorem varM_eq {i : Nat} {loc : Ls} {v : Vl} (h : i < loc.length) (hp : List O) : varM i (loc.set i (some v)) hp = .ok v hp := varM_at (List.getElem?_set_self h) hp
theorem varM_ne {i j : Nat} {loc : Ls} {x : Option Vl} (h : j ≠ i) (hp : List O) : varM i (loc.set j x) hp = varM i loc hp := by unfold varM; rw [List.getElem?_set_ne h]
theorem augM_at {i : Nat} {f : D → D → Option D} {a : EM} {loc : Ls} {u : Vl} (h : loc[i]? = some (some u)) (hp : List O) : augM i f a loc hp = (a loc hp).toS loc fun v hp1 => (match viewD hp1 u, viewD hp1 v with
    | some x, some y => (match f x y with
      | some w => .ok .nx (loc.set i (some (.d w))) hp1
      | none => .bad)
    | _, _ => .bad) := by unfold augM; first | (rw [h]; rfl) | rw [h]
theorem set_at {i j : Nat} {loc : Ls} {x : Option Vl} {v : Option Vl} (h : j ≠ i) (e : loc[i]? = some v) : (loc.set j x)[i]? = some v := by rw [List.getElem?_set_ne h]; exact e
end Fz

set_option Elab.async false
set_option linter.all false
set_option maxRecDepth 100000
set_option maxHeartbeats 4000000
/-! FzN: slices, a tuple the other way round, three names at once, append -/
namespace Fz
open PySem PySem.Spec PyProof.Rows L2

/-! ### slices -/
def cutL {α : Type} (xs : List α) (lo hi : Option Int) : List α := (xs.drop (HT.sIx xs.length 0 lo)).take (HT.sIx xs.length xs.length hi - HT.sIx xs.length 0 lo)
theorem RpL.cut {K : PySem.W.Frag} {F : Hp} {vs : List V} {ds : List D} (r : RpL K F vs ds) (lo hi : Option Int) : RpL K F (cutV vs lo hi) (cutL ds lo hi) := by
  unfold cutV cutL
  rw [r.len]
  exact RpL.take _ (RpL.drop _ r)
theorem cutL_len {α : Type} (xs : List α) (lo hi : Option Int) : (cutL xs lo hi).length ≤ xs.length := by
  unfold cutL
  rw [List.length_take, List.length_drop]; omega
theorem cutL_whole {α : Type} {xs : List α} {lo hi : Option Int} (h : HT.sIx xs.length 0 lo = 0 ∧ HT.sIx xs.length xs.length hi = xs.length) : cutL xs lo hi = xs := by
  unfold cutL
  rw [h.1, h.2, List.drop_zero, Nat.sub_zero, List.take_length]
def rSlF (K : PySem.W.Frag) : V → Option Int → Option Int → Hp → VK → Prop := fun x lo hi H Q => ∃ a xs, x = .ref a ∧ SqT K H a xs ∧
  (HT.sIx xs.length 0 lo = 0 ∧ HT.sIx xs.length xs.length hi = xs.length → Q (.ref a) H) ∧ ∀ p ob, H p = none → ob.dict = none → Q (.ref p) (upd H p (.frz ob (.tup (cutV xs lo hi))))
theorem sl_tupF {X : Cx} : SlR X (rSlF X.K) := by
  intro pins s σ H x v vl vu lo hi sl Q I rx hs pl pu h
  obtain ⟨a, xs, e, hx, q1, q2⟩ := h
  subst e
  obtain rfl : v = Value.ref a := rx
  obtain ⟨its, r, ht, hz⟩ := I.tuple hx
  have hlen : its.toArray.size = xs.length := by rw [List.size_toArray, r.length]
  refine ⟨"tuple", _, slot_tuple_getitem.lookup, ht.typeIs, ?_⟩
  by_cases hw : HT.sIx xs.length 0 lo = 0 ∧ HT.sIx xs.length xs.length hi = xs.length
  · apply getItem_tuple_whole ht hs pl pu (by rw [hlen]; exact hw)
    exact ⟨.ref a, H, I, rfl, q1 hw⟩
  · apply HT.getItem_tuple_cut ht hs pl pu (by rw [hlen]; exact hw) ?_ (by rw [hlen]; exact hz)
    rw [hlen]
    have I2 := Inv.layT (h' := s.heap) (tk := s.toks) I (fun _ _ e => e) ((r.drop (HT.sIx xs.length 0 lo)).take (HT.sIx xs.length xs.length hi - HT.sIx xs.length 0 lo)) (Nat.le_trans (cutV_length xs lo hi) hz)
    exact ⟨.ref _, _, I2, rfl, q2 _ _ (I.hok.fresh (Nat.le_refl _)) rfl⟩
def cutD : D → Option Int → Option Int → Option D
  | .tuple ds, lo, hi => some (.tuple (cutL ds lo hi))
  | .list ds, lo, hi => some (.list (cutL ds lo hi))
  | _, _, _ => none
def rSl (K : PySem.W.Frag) : V → Option Int → Option Int → Hp → VK → Prop := fun x lo hi H Q => rSlF K x lo hi H Q ∨ rSlL K x lo hi H Q
theorem s_cut {K : PySem.W.Frag} (F H : Hp) (x : V) (d w : D) (lo hi : Option Int) (Q : VK) (ex : Same F H) (vx : Vw K F H x d) (hf : cutD d lo hi = some w) (q : ∀ x' F' H', Grow F F' H H' → Rp K F' x' w → Q x' H') : rSl K x lo hi H Q := by
  unfold cutD at hf
  split at hf
  · cases hf
    obtain ⟨a, xs, rfl, h1, z1, r1, k1⟩ := vw_tup ex vx
    refine .inl ⟨a, xs, rfl, h1, fun hw => ?_, fun p ob hp hd => ?_⟩
    · rw [r1.len] at hw
      rw [cutL_whole hw] at q
      exact q _ F H (Grow.refl ex) k1
    · exact q _ _ _ (Grow.one ex hp) (.tup (.new hd) (Nat.le_trans (cutV_length xs lo hi) z1) ((r1.cut lo hi).mono (Grow.one (o := .frz ob (.tup (cutV xs lo hi))) ex hp).f))
  · cases hf
    obtain ⟨a, xs, rfl, h1, z1, r1⟩ := vw_lst ex vx
    exact .inr ⟨a, xs, rfl, h1, fun p hp => q _ _ _ (Grow.one ex hp) (.lst (SqL.of upd_same) (Nat.le_trans (cutV_length xs lo hi) z1) ((r1.cut lo hi).mono (Grow.one (o := .lst (cutV xs lo hi)) ex hp).f))⟩
  · cases hf
abbrev OM := Ls → List O → Res (Option Int)
def noP : OM := fun _ hp => .ok none hp
def toP (m : EM) : OM := fun loc hp => (m loc hp).bind fun u hp1 => match u with
  | .d (.int i) => .ok (some i) hp1
  | _ => .bad
def sliceM (a : EM) (lo hi : OM) : EM := fun loc hp => (a loc hp).bind fun u hp1 => (lo loc hp1).bind fun l hp2 => (hi loc hp2).bind fun h hp3 => match viewD hp3 u with
  | some x => okD (cutD x l h) hp3
  | none => .bad
def tO (g : Gb) (W : WX) (m : OM) : TO := fun σ H Q => ∃ φ F hp loc, Own g φ F hp H ∧ Loc g φ F loc σ ∧ PostG g (fun _ _ (a b : Option Int) => a = b) φ F (fun c d H' => W c d σ H') Q (m loc hp)
def MO (X : Cx) (W : WX) (e : Option Expr) (m : OM) : Prop := PO X e (tO (gOf X) W m)
theorem PO.imp {X : Cx} {e : Option Expr} {t t' : TO} (h : PO X e t) (i : ∀ σ H Q, t' σ H Q → t σ H Q) : PO X e t' := ⟨fun pins s σ H Q I q => h.run pins s σ H Q I (i σ H Q q)⟩
section
variable {X : Cx} {W : WX} {a b c e o : Expr} {ma mb mc : EM} {lo hi : Option Expr} {ml mh : OM} {am : AM} {pos p2 : Pos}
theorem mo_none : MO X W none noP := by
  refine PO.imp po_none fun σ H Q ⟨φ, F, hp, loc, o, l, h⟩ => ?_
  exact PostG.here (g := gOf X) (R := fun _ _ a b => a = b) o rfl h
theorem mo_some (ha : ME X W e ma) : MO X W (some e) (toP ma) := by
  refine PO.imp (po_some ha) fun σ H Q ⟨φ, F, hp, loc, o, l, h⟩ => ?_
  refine ⟨φ, F, hp, loc, o, l, (PostG.bind (R := RvV (gOf X)) h).imp fun x H1 ⟨φ1, F1, hp1, u, p1, s1, o1, r1, _, h1⟩ => ?_⟩
  cases u with
  | d y =>
    cases y with
    | int i =>
      have ex := rp_int (show Rp X.K F1 x (.int i) from r1)
      exact ⟨i, ex, PostG.here (g := gOf X) (R := fun _ _ a b => a = b) o1 rfl h1⟩
    | _ => exact h1.elim
  | _ => exact h1.elim
theorem me_slice (ha : ME X W a ma) (hl : MO X W lo ml) (hh : MO X W hi mh) : ME X W (.Subscript a (.Slice lo hi none p2) pos) (sliceM ma ml mh) := by
  refine PE.imp (pe_slice (SlR.or sl_tupF sl_list) ha hl hh) fun σ H Q ⟨φ, F, hp, loc, o, l, h⟩ => ?_
  refine ⟨φ, F, hp, loc, o, l, (PostG.bind (R := RvV (gOf X)) h).imp fun x H1 ⟨φ1, F1, hp1, u, p1, s1, o1, r1, _, h1⟩ => ?_⟩
  refine ⟨φ1, F1, hp1, loc, o1, l.mono p1 s1, (PostG.bind (R := fun _ _ (a b : Option Int) => a = b) h1).imp fun y H2 ⟨φ2, F2, hp2, v, p2, s2, o2, r2, _, h2⟩ => ?_⟩
  refine ⟨φ2, F2, hp2, loc, o2, (l.mono p1 s1).mono p2 s2, (PostG.bind (R := fun _ _ (a b : Option Int) => a = b) h2).imp fun z H3 ⟨φ3, F3, hp3, w, p3, s3, o3, r3, _, h3⟩ => ?_⟩
  subst r2 r3
  have r1' := (r1.mono p2 s2).mono p3 s3
  cases q1 : viewD hp3 u with
  | none => rw [q1] at h3; exact h3.elim
  | some d =>
    rw [q1] at h3
    dsimp only at h3
    cases q3 : cutD d y z with
    | none => rw [q3] at h3; exact h3.elim
    | some w =>
      rw [q3] at h3
      exact s_cut F3 H3 x d w y z Q o3.ex (o3.view r1' q1) q3 fun x' F' H' gr rp => PostG.grown (g := gOf X) o3 gr (show RvV (gOf X) φ3 F' x' (.d w) from rp) h3
end

/-! ### a, b, c = x, y, z -/
def par3M (i j k : Nat) (a : AM) : SM := fun loc hp => (a loc hp).toS loc fun vs hp1 => match vs with
  | [u, v, w] => .ok .nx (((loc.set i (some u)).set j (some v)).set k (some w)) hp1
  | _ => .bad
theorem ms_par3 {X : Cx} {W : WX} {i j k : Nat} {x y z : Str} {a b c : Expr} {am : AM} {px py pz pt pos : Pos} {kt k2 pt2} (hc : X.calm = true) (hN : X.N.Nodup) (ha : MA X W [a, b, c] am) (hi : X.N[i]? = some x := by rfl) (hj : X.N[j]? = some y := by rfl) (hk : X.N[k]? = some z := by rfl) (hij : i ≠ j := by decide) (hik : i ≠ k := by decide) (hjk : j ≠ k := by decide)
    (hx : X.env.scope.names.lookup x = some .local := by rfl) (hy : X.env.scope.names.lookup y = some .local := by rfl) (hz : X.env.scope.names.lookup z = some .local := by rfl)
    (hw : swappedStores [.Tuple [.Name x px, .Name y py, .Name z pz] kt pt] (.Tuple [a, b, c] k2 pt2) X.env = pure (some [x, y, z]) := by rfl)
    (hs : swapsWithSole [.Tuple [.Name x px, .Name y py, .Name z pz] kt pt] (.Tuple [a, b, c] k2 pt2) pos.line X.env = pure false := by rfl) :
    MS X W (.Assign [.Tuple [.Name x px, .Name y py, .Name z pz] kt pt] (.Tuple [a, b, c] k2 pt2) pos) (par3M i j k am) := by
  refine PS.imp (ps_par3 hc hN hi hj hk hij hik hjk hx hy hz ha hw hs) fun E σ H ⟨φ, F, hp, loc, o, l, h⟩ => ?_
  refine ⟨φ, F, hp, loc, o, l, (PostS.bind (R := RvL (gOf X)) l h).imp fun xs H1 ⟨φ1, F1, hp1, us, p1, s1, o1, r1, _, h1⟩ => ?_⟩
  cases r1 with
  | nil => exact h1.elim
  | cons ra rb =>
    cases rb with
    | nil => exact h1.elim
    | cons rb rc =>
      cases rc with
      | nil => exact h1.elim
      | cons rc rd =>
        cases rd with
        | cons _ _ => exact h1.elim
        | nil => exact ⟨_, _, _, rfl, PostS.here (g := gOf X) o1 ((((l.mono p1 s1).set ra).set rb).set rc) h1⟩

/-! ### xs.append(e) -/
def appM (a b : EM) : EM := fun loc hp => (a loc hp).bind fun u hp1 => match viewD hp1 u with
  | some (.list _) => (b loc hp1).bind fun v hp2 => (match u, v with
    | .r n, .d z => (match hp2[n]? with
      | some (.lst ds) => if ds.length < 10000000 then .ok (.d .none) (hp2.set n (.lst (ds ++ [z]))) else .bad
      | _ => .bad)
    | _, _ => .bad)
  | _ => .bad
theorem me_app {X : Cx} {W : WX} {a e : Expr} {ma mb : EM} {apos cpos : Pos} (ha : ME X W a ma) (hb : ME X W e mb)
    (hbase : attributeBase a "append" X.env (eval a X.env) = eval a X.env := by rfl)
    (hfew : ((backTo cpos (starEach [e] X.env)).all (fun x => !x.1) && (backToKw cpos (keywordEach [] X.env)).all (fun x => x.1.isSome) && decide ([e].length + ([] : List Keyword).length + (if ([] : List Keyword).isEmpty then 0 else 1) < 30)) = true := by rfl)
    (hline : (apos.endLine == cpos.line) = true := by rfl) (hs : starEach [e] X.env = (false, eval e X.env) :: starEach [] X.env := by rfl) (hpl : (backTo cpos (starEach [] X.env)).any (·.1) = false := by rfl) :
    ME X W (.Call (.Attribute a "append" apos) [e] [] cpos) (appM ma mb) := by
  refine PE.imp (pe_bm PySem.F.plainAttrs_list PySem.F.slot_list_append PySem.F.type_list_append mt_append ha (pa_cons hb pa_nil hs) hbase hfew hline hs hpl) fun σ H Q ⟨φ, F, hp, loc, o, l, h⟩ => ?_
  refine ⟨φ, F, hp, loc, o, l, (PostG.bind (R := RvV (gOf X)) h).imp fun x H1 ⟨φ1, F1, hp1, u, p1, s1, o1, r1, _, h1⟩ => ?_⟩
  cases qv : viewD hp1 u with
  | none => rw [qv] at h1; exact h1.elim
  | some y =>
    rw [qv] at h1
    cases y with
    | list ds0 =>
      obtain ⟨a, xs, rfl, hx, _⟩ := vw_lst o1.ex (o1.view r1 qv)
      refine ⟨.inl ⟨rfl, _, hx⟩, φ1, F1, hp1, loc, o1, l.mono p1 s1, (PostG.bind (R := RvV (gOf X)) h1).imp fun y H2 ⟨φ2, F2, hp2, v, p2, s2, o2, r2, _, h2⟩ => ?_⟩
      have r1' := r1.mono p2 s2
      cases u with
      | r n =>
        cases v with
        | d z =>
          dsimp only at h2
          obtain ⟨a', han, ea⟩ := r1'
          cases ea
          cases qn : hp2[n]? with
          | none => rw [qn] at h2; exact h2.elim
          | some ob =>
            rw [qn] at h2
            have hob := o2.ob n a ob han qn
            cases ob with
            | lst ds =>
              dsimp only at h2
              obtain ⟨vs, e1, z1, rl⟩ := hob
              split at h2
              · rename_i hz
                have hl := rl.len
                refine ⟨a, vs, y, rfl, rfl, e1, Nat.lt_of_lt_of_le (by rw [hl]; exact hz) (by decide), ?_⟩
                have w := o2.write (x := .lst (ds ++ [z])) (u := .lst (vs ++ [y])) han qn (fun z => nomatch z) ⟨_, rfl, by rw [List.length_append, hl]; exact Nat.le_trans (show ds.length + [y].length ≤ 10000000 by simp; omega) (by decide), RpL.app rl (.cons r2 .nil)⟩
                exact PostG.here (g := gOf X) w (show RvV (gOf X) φ2 F2 .non (.d .none) from .non) h2
              · exact h2.elim
            | _ => exact h2.elim
        | _ => exact h2.elim
      | _ => exact h2.elim
    | _ => exact h1.elim
end Fz

set_option Elab.async false
set_option linter.all false
set_option maxRecDepth 100000
set_option maxHeartbeats 4000000
/-! FzO: t[::-1] -/
namespace Fz
open PySem PySem.Spec PyProof.Rows L2

section
variable {prog : Program} {w : World} {A : Around} {E : Value → Shared → Prop} {s : Shared}
theorem fm_congr {α β : Type} {f g : α → Option β} : ∀ {l : List α}, (∀ x ∈ l, f x = g x) → l.filterMap f = l.filterMap g
  | [], _ => rfl
  | x :: l, h => by
    rw [List.filterMap_cons, List.filterMap_cons, h x List.mem_cons_self, fm_congr fun y hy => h y (List.mem_cons_of_mem _ hy)]
theorem rev_pick (xs : List Value) : ((List.range xs.length).filterMap fun (k : Nat) => xs.toArray[(((xs.length : Int) - 1) + (k : Int) * (-1)).toNat]?) = xs.reverse := by
  have e : ∀ k ∈ List.range xs.length, xs.toArray[(((xs.length : Int) - 1) + (k : Int) * (-1)).toNat]? = xs.reverse[k]? := fun k hk => by
    rw [List.mem_range] at hk
    rw [List.getElem?_reverse hk, List.getElem?_toArray]
    congr 1
    omega
  rw [fm_congr e]
  have l : xs.length = xs.reverse.length := (List.length_reverse ..).symm
  rw [l]
  generalize xs.reverse = ys
  have h : ∀ n, n ≤ ys.length → (List.range n).filterMap (fun k => ys[k]?) = ys.take n := by
    intro n
    induction n with
    | zero => intro _; rfl
    | succ n ih =>
      intro hn
      rw [List.range_succ, List.filterMap_append, ih (by omega), List.take_add_one]
      congr 1
  rw [h ys.length (Nat.le_refl _), List.take_length]
theorem applied_rev {sl : Addr} {n : Nat} {t : Tok} {Q : Int × Int × Nat → Shared → Prop} (hs : s.heap.IsSliceOf sl .none .none (.int (-1) t)) (h : Q ((n : Int) - 1, -1, n) s) :
    wpAny (model prog w) A (Builtin.Slice.sliceApplied (.ref sl) (pure (n : Int))) Q E s := by
  obtain ⟨os, hos, hcs, hds⟩ := id hs
  unfold Builtin.Slice.sliceApplied Builtin.Slice.sliceFields
  apply wpAny_bind
  apply wpAny_bind (wpAny_field hos hds (x := .none) rfl _)
  apply wpAny_bind (wpAny_field hos hds (x := .none) rfl _)
  apply wpAny_bind (wpAny_field hos hds (x := .int (-1) t) rfl _)
  apply wpAny_pure
  apply wpAny_bind (HT.slicePart_ (.int (-1) t) _)
  show wpAny _ _ (if ((-1 : Int) == 0) = true then _ else _) _ _ s
  rw [if_neg (by decide)]
  apply wpAny_bind (HT.slicePart_ .none _)
  apply wpAny_bind (HT.slicePart_ .none _)
  apply wpAny_bind (wpAny_pure _)
  have e1 : Builtin.Slice.sliceAdjust none none (-1) (n : Int) = ((n : Int) - 1, -1) := rfl
  have e2 : Builtin.Slice.slicePlaces ((n : Int) - 1) (-1) (-1) = n := by
    unfold Builtin.Slice.slicePlaces
    rw [if_neg (by decide)]
    by_cases c : (n : Int) - 1 > -1
    · rw [if_pos c]
      have : ((n : Int) - 1 - -1 - 1) / (- -1) + 1 = n := by
        rw [show (- -1 : Int) = 1 from rfl, Int.ediv_one]; omega
      rw [this]; simp
    · rw [if_neg c]
      have : n = 0 := by omega
      subst this; rfl
  show wpAny _ _ (match Builtin.Slice.sliceAdjust none none (-1) (n : Int) with | (lo, hi) => pure (lo, (-1 : Int), Builtin.Slice.slicePlaces lo hi (-1))) _ _ s
  rw [e1]
  show wpAny _ _ (pure ((n : Int) - 1, (-1 : Int), Builtin.Slice.slicePlaces ((n : Int) - 1) (-1) (-1))) _ _ s
  rw [e2]
  exact wpAny_pure h
theorem tup_rev {t sl : Addr} {items : List Value} {k : Tok} {Q : Value → Shared → Prop} (ht : IsTup s.heap t items.toArray) (hs : s.heap.IsSliceOf sl .none .none (.int (-1) k)) (hsz : items.length ≤ sizeLine)
    (h : Q (.ref s.heap.objs.size) { s with heap := s.heap.push { cls := .type "tuple", data := .seq items.reverse.toArray } }) : wpAny (model prog w) A (getItem (.ref t) (.ref sl)) Q E s := by
  have fits : sizeOk (.seq items.reverse.toArray) := by
    show items.reverse.toArray.size ≤ sizeLine
    rw [List.size_toArray, List.length_reverse]; exact hsz
  obtain ⟨os, hos, hcs, hds⟩ := id hs
  have isS : s.TypeIs (.ref sl) "slice" := ⟨os, hos, hcs⟩
  unfold getItem
  try with_reducible refine wpAny_holding ?_
  try refine wpAny_bind (wpAny_pure ?_)
  apply wpAny_bind
  apply wpAny_sequenceKey ht.typeIs (by decide)
  apply wpAny_bind
  apply wpAny_callSpecial?_slot (name := Str.ofString "__getitem__") ht.typeIs slot_tuple_getitem
  apply wpAny_call_entry slot_tuple_getitem ht.typeIs entry_tuple_getitem _ (args_tuple_getitem _ _)
  show wpAny _ _ (Builtin.Tuple.tupleItemsOf (.ref t) >>= _) _ _ s
  apply wpAny_bind
  apply tupleItemsOf_ ht
  apply wpAny_bind
  apply wpAny_typeOf isS
  rw [if_pos (by decide)]
  apply wpAny_bind
  have hz : (items.toArray.size : Int) = (items.length : Int) := by rw [List.size_toArray]
  rw [hz]
  apply applied_rev hs
  have no : ¬ (((items.length : Int) - 1 == 0 && (-1 : Int) == 1 && items.length == items.toArray.size) = true) := by
    rw [Bool.and_eq_true, Bool.and_eq_true]
    rintro ⟨⟨_, q⟩, _⟩
    exact absurd q (by decide)
  show wpAny _ _ (if ((items.length : Int) - 1 == 0 && (-1 : Int) == 1 && items.length == items.toArray.size) = true then _ else _) _ _ s
  rw [if_neg no, rev_pick]
  first
    | exact wpAny_bind (m := Builtin.Tuple.tupleExact _) (wpAny_newObj_type (wpAny_pure ⟨_, rfl, wpAny_pure h⟩) fits)
    | exact wpAny_bind (wpAny_bind (m := Builtin.Tuple.tupleExact _) (wpAny_newObj_type (wpAny_pure (wpAny_pure ⟨_, rfl, wpAny_pure h⟩)) fits))
    | exact wpAny_bind (wpAny_bind (m := Builtin.Tuple.tupleExact _) (wpAny_newObj_type (wpAny_pure ⟨_, rfl, wpAny_pure h⟩) fits))
end
section
variable {X : Cx} {W : WX} {e : Expr} {te : TE} {ma : EM} {k : Nat} {p1 p2 p3 pos : Pos}
def tRevA (K : PySem.W.Frag) (te : TE) : TE := fun σ H Q => te σ H fun x H1 => ∃ a xs, x = .ref a ∧ ((SqT K H1 a xs ∧ ∀ p ob, H1 p = none → ob.dict = none → Q (.ref p) (upd H1 p (.frz ob (.tup xs.reverse)))) ∨ (SqL K H1 a xs ∧ ∀ p, H1 p = none → Q (.ref p) (upd H1 p (.lst xs.reverse))))
theorem pe_revA (he : PE X e te) : PE X (.Subscript e (.Slice none none (some (.UnaryOp .USub (.Constant (.int 1) k p1) p2)) p3) pos) (tRevA X.K te) := by
  constructor
  intro pins s σ H Q I h
  apply Subscript_
  refine thn (he.run pins s σ H _ I h) ?_
  rintro v s1 ⟨x, H1, I1, r1, a, xs, rfl, q1⟩
  obtain rfl : v = Value.ref a := r1
  have hst : PO X (some (.UnaryOp .USub (.Constant (.int 1) k p1) p2)) (tPart (tUn (rU fun i => .int (-i)) (tC (.int 1)))) := po_some (pe_un un_neg pe_int)
  apply wpAny_Slice
  refine thn (po_none.run pins s1 σ H1 (fun o H2 => o = none ∧ H2 = H1) I1 ⟨rfl, rfl⟩) ?_
  rintro vl s2 ⟨l, H2, I2, pl, rfl, rfl⟩
  refine thn (po_none.run pins s2 σ H2 (fun o H3 => o = none ∧ H3 = H2) I2 ⟨rfl, rfl⟩) ?_
  rintro vu s3 ⟨u, H3, I3, pu, rfl, rfl⟩
  refine thn (hst.run pins s3 σ H3 (fun o H4 => o = some (-1) ∧ H4 = H3) I3 ⟨1, rfl, -1, rfl, rfl, rfl⟩) ?_
  rintro vs s4 ⟨o, H4, I4, ps, rfl, rfl⟩
  have I5 : Inv X pins σ H4 { s4 with heap := s4.heap.push { cls := .type "slice", data := .fields #[vl, vu, vs] } } := I4.kept (t' := s4.toks) fun b ob q => Heap.get?_push_of_some _ q
  cases pl
  cases pu
  cases ps
  rename_i tk
  show wpAny (model X.prog X.w) X.A (subscriptTail e (.Slice none none (some (.UnaryOp .USub (.Constant (.int 1) k p1) p2)) p3) (.ref a) (.ref s4.heap.objs.size)) (EP X pins σ Q) X.xe { s4 with heap := s4.heap.push { cls := .type "slice", data := .fields #[.none, .none, .int (-1) tk] } }
  have hsl := Heap.IsSliceOf.new s4.heap .none .none (.int (-1) tk)
  rcases q1 with ⟨hx, q⟩ | ⟨hx, q⟩
  · obtain ⟨its, r, ht, hz⟩ := I5.tuple hx
    have hlen := r.length
    refine tail_any (ops := [.ref a, .ref s4.heap.objs.size]) ht.typeIs slot_tuple_getitem.lookup ?_ (by with_unfolding_all rfl)
    apply tup_rev ht hsl (by omega)
    have I6 := Inv.layT (h' := s4.heap.push { cls := .type "slice", data := .fields #[.none, .none, .int (-1) tk] }) (tk := s4.toks) I5 (fun _ _ e => e) r.reverse (by rw [List.length_reverse]; exact hz)
    exact ⟨.ref _, _, I6, rfl, q _ _ (I5.hok.fresh (Nat.le_refl _)) rfl⟩
  · obtain ⟨its, r, ht, hz⟩ := I5.list hx
    have hlen := r.length
    refine tail_any (ops := [.ref a, .ref s4.heap.objs.size]) ht.isList.typeIs PySem.slot_list_getitem.lookup ?_ (by with_unfolding_all rfl)
    apply wpAny_getItem_list_slice ht.isList hsl .none .none (.int (-1) tk) (by decide) ?_ (by rw [List.size_toArray]; omega)
    rw [PySem.W.krv_pick]
    have I6 := I5.lnew (t' := s4.toks) r.reverse (by rw [List.length_reverse]; omega)
    exact ⟨.ref _, _, I6, rfl, q _ I5.fresh⟩
def revD : D → Option D
  | .tuple ds => some (.tuple ds.reverse)
  | .list ds => some (.list ds.reverse)
  | _ => none
theorem RpL.rev {K : PySem.W.Frag} {F : Hp} : ∀ {v : List V} {d : List D}, RpL K F v d → RpL K F v.reverse d.reverse
  | _, _, .nil => .nil
  | _, _, .cons h r => by
    rw [List.reverse_cons, List.reverse_cons]
    exact RpL.app (RpL.rev r) (.cons h .nil)
theorem me_rev (ha : ME X W e ma) : ME X W (.Subscript e (.Slice none none (some (.UnaryOp .USub (.Constant (.int 1) k p1) p2)) p3) pos) (unM revD ma) := by
  refine PE.imp (pe_revA ha) fun σ H Q ⟨φ, F, hp, loc, o, l, h⟩ => ?_
  refine ⟨φ, F, hp, loc, o, l, (PostG.bind (R := RvV (gOf X)) h).imp fun x H1 ⟨φ1, F1, hp1, u, p1, s1, o1, r1, _, h1⟩ => ?_⟩
  cases qv : viewD hp1 u with
  | none => rw [qv] at h1; exact h1.elim
  | some d =>
    rw [qv] at h1
    have vw := o1.view r1 qv
    cases d with
    | tuple ds =>
      obtain ⟨a, xs, rfl, hx, z, r, _⟩ := vw_tup o1.ex vw
      exact ⟨a, xs, rfl, .inl ⟨hx, fun p ob hn hd => PostG.grown (g := gOf X) o1 (Grow.one o1.ex hn) (show RvV (gOf X) φ1 _ (.ref p) (.d (.tuple ds.reverse)) from .tup (.new hd) (by rw [List.length_reverse]; exact z) (r.rev.mono (Grow.one (o := .frz ob (.tup xs.reverse)) o1.ex hn).f)) h1⟩⟩
    | list ds =>
      obtain ⟨a, xs, rfl, hx, z, r⟩ := vw_lst o1.ex vw
      exact ⟨a, xs, rfl, .inr ⟨hx, fun p hn => PostG.grown (g := gOf X) o1 (Grow.one o1.ex hn) (show RvV (gOf X) φ1 _ (.ref p) (.d (.list ds.reverse)) from .lst (SqL.of upd_same) (by rw [List.length_reverse]; exact z) (r.rev.mono (Grow.one (o := .lst xs.reverse) o1.ex hn).f)) h1⟩⟩
    | _ => exact h1.elim
end
end Fz

set_option Elab.async false
set_option linter.all false
set_option maxRecDepth 100000
set_option maxHeartbeats 4000000
/-! FzP: try with several clauses 'except X as n' -/
namespace Fz
open PySem PySem.Spec PyProof.Rows L2

abbrev Hd := Value × Nat × (Addr → Value → Option Addr → TS)
/-- what the clauses wish of an error of the body -/
def wManyA (K : PySem.W.Frag) (Wo : WX) (D : Ends) : List Hd → WX
  | [] => Wo
  | (c, i, ts) :: l => fun cls d σ H => ∃ b, PySem.W.exmOne K cls c = some b ∧
      (b = true → ∀ a, H a = none → ts a cls d { nx := fun σ' H' => D.nx (σ'.set i none) H', rt := D.rt, bk := fun σ' H' => D.bk (σ'.set i none) H', ct := fun σ' H' => D.ct (σ'.set i none) H' } (σ.set i (some (.ref a))) H) ∧
      (b = false → wManyA K Wo D l cls d σ H)
inductive HdA (X : Cx) : List ExceptHandler → List Hd → Prop
  | nil : HdA X [] []
  | cons {x n : Str} {c : Value} {i : Nat} {ts : Addr → Value → Option Addr → TS} {b0 : Stmt} {suite : List Stmt} {np ps : Pos} {hds : List ExceptHandler} {l : List Hd} (hi : X.N[i]? = some n) (hln : X.env.kindOf n = some .local) (hc : Names X x c)
      (hsu : ∀ (a : Addr) (oe : Obj) (cls : Value) (d : Option Addr) (pn : List (Addr × Obj)), Zc cls d oe → (∃ vs, oe.data = .fields vs) → PSs (X.suite a ((a, oe) :: pn)) (b0 :: suite) (ts a cls d)) (r : HdA X hds l) :
      HdA X (.ExceptHandler (some (.Name x np)) (some n) (b0 :: suite) ps :: hds) ((c, i, ts) :: l)
section
variable {X : Cx} {body : List Stmt} {h0 : ExceptHandler} {hds : List ExceptHandler} {l : List Hd} {pos : Pos} {tb : WX → TS} {Wo : WX}
theorem ps_tryA (hs : X.stack = X.env :: X.outer) (hf : X.env.frame = some X.env.locals) (hN : X.N.Nodup) (tk : Takes X Wo)
    (hb : ∀ (W : WX) (pn : List (Addr × Obj)) (xe : Value → Shared → Prop), Takes (X.tr pn xe) W → PassesOwn (model X.prog X.w) X.A X.env xe → PSs (X.tr pn xe) body (tb W))
    (hh : HdA X (h0 :: hds) l) : PS X (.Try body (h0 :: hds) [] [] pos) (fun D σ H => tb (wManyA X.K Wo D l) D σ H) := by
  constructor
  intro pins s σ H D I h
  have ok := I.ok
  have hfr : X.A.frames = some (X.env :: X.outer) := by rw [ok.frames, hs]
  apply wpAny_Try_except
  refine wpAny_mono ((hb (wManyA X.K Wo D l) (X.pn ++ pins) (fun e s1 => wpAny (model X.prog X.w) X.A (noteFrame e X.env) (fun _ s2 => wpAny (model X.prog X.w) X.A (setFlight e none)
    (fun _ s3 => wpAny (model X.prog X.w) X.A (handleBy e X.env (h0 :: hds)) (SP X pins D) X.xe s3) X.xe s2) X.xe s1) (fun u s' xx => ?_) PassesOwn.looking).run [] s σ H D (I.toTry _) h) (fun f s1 hsp => ?_) (fun e s1 he => he)
  · obtain ⟨a, B, sI, pins', σ', H', cls, d, rfl, J', nb, up, sky, na, os, ag, w⟩ := xx
    have J := J'.ofTry ok
    rw [show X.stack = _ from hs] at sky
    show wpAny (model X.prog X.w) X.A (noteFrame (.ref a) X.env) _ _ _
    apply Sky.land Zc.steady hfr hf sky
    intro h3 fl3 up3
    have J3 : Inv X pins σ' H' { s' with heap := h3 } := J.landed nb fl3.1 (up.trans up3) os ag
    obtain ⟨oe3, vs3, he3, hz3, hd3⟩ := fl3.there
    have nfr : a ∉ frs (X.env :: X.outer) := fun hm => by
      obtain ⟨_, o', e', hnf⟩ := (fl3.2.2.1).mem hm
      rw [he3] at e'
      cases e'
      exact hnf _ hd3
    have nL : a ≠ X.env.locals := fun z => nfr (List.mem_filterMap.mpr ⟨X.env, by simp, by rw [hf, z]⟩)
    have nF : a ∉ X.fs := fun hm => by
      obtain ⟨e, he, q⟩ := List.mem_filterMap.mp hm
      exact nfr (List.mem_filterMap.mpr ⟨e, by simp [he], q⟩)
    have S3 := J3.suite he3 hd3 na nL nF
    have go : ∀ {hds' : List ExceptHandler} {l' : List Hd}, HdA X hds' l' → wManyA X.K Wo D l' cls d σ' H' →
        wpAny (model X.prog X.w) X.A (handleBy (.ref a) X.env hds') (SP X pins D) X.xe { s' with heap := h3 } := by
      intro hds' l' hk
      induction hk with
      | nil =>
        intro w
        apply wpAny_handleBy_nil
        obtain ⟨k1, k2, k3, oe, vs, T, oT, ts', he, hz, hd, h1, hr⟩ := id fl3
        unfold PySem.passOn
        apply wpAny_bind
        apply wpAny_field he hd h1
        rw [if_neg (show ¬ ((Value.ref T == Value.none) = true) from by simp)]
        have fin : wpAny (model X.prog X.w) X.A (setFlight (.ref a) X.env.frame) (fun _ s4 => wpAny (model X.prog X.w) X.A (throw (.ref a) : Sem Flow) (SP X pins D) X.xe s4) X.xe { s' with heap := h3 } := by
          rw [hf]
          apply HandSPX.setFlight_upZ fl3
          intro h4 hh4 up4
          apply wpAny_throw
          apply tk
          exact ⟨a, B, sI, pins, σ', H', cls, d, rfl, J, nb, (up.trans up3).trans up4, .inr (.inr (by rw [hs]; exact hh4)), na, os, ag, w⟩
        first
          | exact wpAny_bind (wpAny_pure (wpAny_bind fin))
          | exact wpAny_bind fin
      | @cons x n c i ts b0 suite np ps hds2 l2 hi hln hc hsu r ih =>
        intro w
        obtain ⟨b, hb1, hyes, hno⟩ := w
        refine wpAny_handleBy_cons (codeAny_handlers_test ?_) (by intro q; cases q)
        have LT : PySem.W.Looks (model X.prog X.w) h3 (typeOf (.ref a)) cls := fun A Q E s k q => by
          apply wpAny_typeOf_ref (k _ _ he3)
          rw [hz3.1]; exact q
        have LM := PySem.W.exm_one (M := model X.prog X.w) (J3.kIn) LT hb1
        have test : ∀ {Q : Value → Shared → Prop} {E : Value → Shared → Prop}, Q c { s' with heap := h3 } →
            wpAny (model X.prog X.w) (X.A.mark (some (.ref a))) (eval (.Name x np) X.env) Q E { s' with heap := h3 } := fun {Q E} q => by
          obtain ⟨hg, hdbg, hm | ⟨hm, hv, hnn⟩⟩ := hc
          · apply ld_glob (X := X.suite a ((a, oe3) :: (X.pn ++ pins))) S3 hg hm q hdbg
          · apply ld_blt (X := X.suite a ((a, oe3) :: (X.pn ++ pins))) S3 hg hm hv q hnn hdbg
        apply test
        apply LM.here
        cases b with
        | true =>
          apply codeAny_handlers_suite_as
          apply HandSPX.lands_againZ fl3
          intro h4 fl4 up4
          have J4 : Inv X pins σ' H' { s' with heap := h4 } := J.landed nb fl4.1 ((up.trans up3).trans up4) os ag
          obtain ⟨oe4, vs4, he4, hz4, hd4⟩ := fl4.there
          have S4 := J4.suite he4 hd4 na nL nF
          refine store_ok (X := X.suite a ((a, oe4) :: (X.pn ++ pins))) (v := .ref a) S4 hN hi (.inl hln) rfl ?_ (.inr hln)
          intro s5 S5
          refine wpAny_mono ((hsu a oe4 cls d (X.pn ++ pins) hz4 ⟨_, hd4⟩).run [] s5 _ H' _ S5 (hyes rfl a na)) ?_ (fun _ _ z => False.elim z)
          intro f s6 hsp
          have out : ∀ {σ6 : L2.St} {H6 : Hp} {Q : Shared → Prop}, Inv (X.suite a ((a, oe4) :: (X.pn ++ pins))) [] σ6 H6 s6 → (∀ s7, Inv X pins (σ6.set i none) H6 s7 → Q s7) →
              wpAny (model X.prog X.w) X.A (do bindName X.env n .none; unbindBehindTheSuite X.env n ps) (fun _ s7 => Q s7) X.xe s6 := fun {σ6 H6 Q} S6 hq => gone_ok (S6.unsuite ok) hN hi hln hq
          cases f with
          | next =>
            obtain ⟨σ6, H6, S6, q6⟩ := hsp
            apply out S6
            exact fun s7 J7 => ⟨_, _, J7, q6⟩
          | brk =>
            obtain ⟨σ6, H6, S6, q6⟩ := hsp
            apply out S6
            exact fun s7 J7 => ⟨_, _, J7, q6⟩
          | cont =>
            obtain ⟨σ6, H6, S6, q6⟩ := hsp
            apply out S6
            exact fun s7 J7 => ⟨_, _, J7, q6⟩
          | ret u =>
            obtain ⟨v6, σ6, H6, S6, r6, q6⟩ := hsp
            apply out S6
            exact fun s7 J7 => ⟨_, _, _, J7, r6, q6⟩
        | false =>
          show wpAny _ X.A (handleBy (.ref a) X.env hds2) _ _ _
          exact ih (hno rfl)
    exact go hh w
  · cases f with
    | next =>
      obtain ⟨σ', H', J', q⟩ := hsp
      exact wpAny_execs_nil ⟨σ', H', J'.ofTry ok, q⟩
    | brk =>
      obtain ⟨σ', H', J', q⟩ := hsp
      exact ⟨σ', H', J'.ofTry ok, q⟩
    | cont =>
      obtain ⟨σ', H', J', q⟩ := hsp
      exact ⟨σ', H', J'.ofTry ok, q⟩
    | ret u =>
      obtain ⟨v, σ', H', J', r, q⟩ := hsp
      exact ⟨v, σ', H', J'.ofTry ok, r, q⟩
end

/-! ### the mirror -/
structure Cl where
  mt : Str → Option Bool
  i : Nat
  su : D → SM
def catchM : List Cl → Exn → Ls → List O → RS
  | [], e, loc, hp => .exc e loc hp
  | c :: r, e, loc, hp => match c.mt e.cls with
    | some true => if c.i < loc.length then (match c.su e.val (loc.set c.i none) hp with
      | .ok f loc2 hp2 => .ok f (loc2.set c.i none) hp2
      | _ => .bad) else .bad
    | some false => catchM r e loc hp
    | none => .bad
def tryNM (cs : List Cl) (body : SM) : SM := fun loc hp => match body loc hp with
  | .exc e loc1 hp1 => catchM cs e loc1 hp1
  | r => r
/-- the clauses of the program beside those of the mirror -/
inductive ClA (X : Cx) : List ExceptHandler → List Cl → List Value → Prop
  | nil : ClA X [] [] []
  | cons {x n : Str} {c : Value} {i : Nat} {b0 : Stmt} {suite : List Stmt} {np ps : Pos} {su : D → SM} {mt : Str → Option Bool} {hds : List ExceptHandler} {l : List Cl} {cs : List Value} (hc : Names X x c) (hmt : Takes1 (gOf X) c mt) (hsu : SuS X i (b0 :: suite) su)
      (hi : X.N[i]? = some n) (hln : X.env.kindOf n = some .local) (r : ClA X hds l cs) :
      ClA X (.ExceptHandler (some (.Name x np)) (some n) (b0 :: suite) ps :: hds) (⟨mt, i, su⟩ :: l) (c :: cs)
theorem ClA.cons' {X : Cx} {x n : Str} {c : Value} {i : Nat} {b0 : Stmt} {suite : List Stmt} {np ps : Pos} {su : D → SM} {mt : Str → Option Bool} {hds : List ExceptHandler} {l : List Cl} {cs : List Value} (hc : Names X x c) (hmt : Takes1 (gOf X) c mt) (hsu : SuS X i (b0 :: suite) su)
    (r : ClA X hds l cs) (hi : X.N[i]? = some n := by rfl) (hln : X.env.kindOf n = some .local := by rfl) : ClA X (.ExceptHandler (some (.Name x np)) (some n) (b0 :: suite) ps :: hds) (⟨mt, i, su⟩ :: l) (c :: cs) := .cons hc hmt hsu hi hln r
/-- the suite as a statement's predicate -/
def tSu (X : Cx) (i : Nat) (m : D → SM) (a : Addr) (cls : Value) (d : Option Addr) : TS := fun E σ H => ∃ φ F hp loc val dd xv C D fI, cls = .ref C ∧ d = some dd ∧ Er.ErT X.prog X.K C D fI ∧ Own (gOf X) φ F hp H ∧ Loc (gOf X) φ F loc σ ∧ σ[i]? = some (some (.ref a)) ∧ F dd = some (.xd [(("value" : Str), xv)]) ∧ Rp X.K F xv val ∧
      PostS (gOf X) φ F (fun _ _ _ _ => False) E (m val loc hp)
def hdOf (X : Cx) : List Cl → List Value → List Hd
  | c :: l, v :: cs => (v, c.i, tSu X c.i c.su) :: hdOf X l cs
  | _, _ => []
theorem ClA.hd {X : Cx} : ∀ {hds : List ExceptHandler} {l : List Cl} {cs : List Value}, ClA X hds l cs → HdA X hds (hdOf X l cs)
  | _, _, _, .nil => .nil
  | _, _, _, .cons hc hmt hsu hi hln r => .cons hi hln hc (fun a oe cls d pn hz hf => hsu a oe cls d pn hz hf) (ClA.hd r)
theorem ClA.caught {X : Cx} {W : WX} {E : Ends} {φ : List Addr} {F : Hp} : ∀ {hds : List ExceptHandler} {l : List Cl} {cs : List Value}, ClA X hds l cs → ∀ {e : Exn} {loc1 : Ls} {hp1 : List O}, PostS (gOf X) φ F W E (catchM l e loc1 hp1) →
    PostS (gOf X) φ F (wManyA X.K W E (hdOf X l cs)) E (.exc e loc1 hp1)
  | _, _, _, .nil, e, loc1, hp1, h => h
  | _, _, _, .cons (mt := mt) (i := i) (su := su) hc hmt hsu hi hln r, e, loc1, hp1, h => by
    intro φ' F' H' σ' C dx xv p s o' l' hm hx rp
    unfold catchM at h
    dsimp only at h
    cases qm : mt e.cls with
    | none => rw [qm] at h; exact h.elim
    | some b =>
      rw [qm] at h
      obtain ⟨⟨C2, D2, fI2, T, hm2⟩, hex⟩ := hmt _ _ qm
      have hC : C2 = C := by
        have e1 : some (Value.ref C2) = some (Value.ref C) := hm2.symm.trans hm
        cases e1
        rfl
      subst hC
      refine ⟨b, hex _ hm, ?_, ?_⟩
      · intro hb1 a na
        subst hb1
        dsimp only at h
        obtain ⟨o2, s2⟩ := o'.know hx
        have l2 : Loc (gOf X) φ' (upd F' dx (.xd [(("value" : Str), xv)])) (loc1.set i none) (σ'.set i (some (.ref a))) := (l'.mono (List.prefix_refl _) s2).del
        by_cases hli : i < loc1.length
        rotate_left
        · rw [if_neg hli] at h; exact h.elim
        rw [if_pos hli] at h
        have hlen : i < σ'.length := by rw [← l'.len]; exact hli
        refine ⟨φ', _, hp1, _, e.val, dx, xv, C2, D2, fI2, rfl, rfl, T, o2, l2, List.getElem?_set_self hlen, upd_same, rp.mono s2, ?_⟩
        show PostS (gOf X) φ' _ _ { nx := fun σ' H' => E.nx (σ'.set i none) H', rt := E.rt, bk := fun σ' H' => E.bk (σ'.set i none) H', ct := fun σ' H' => E.ct (σ'.set i none) H' } (su e.val (loc1.set i none) hp1)
        cases qs : su e.val (loc1.set i none) hp1 with
        | bad => rw [qs] at h; exact h.elim
        | exc _ _ _ => rw [qs] at h; exact h.elim
        | ok f loc2 hp2 =>
          rw [qs] at h
          intro φ3 F3 H3 σ3 p3 s3 o3 l3
          have z := h φ3 F3 H3 (σ3.set i none) (p.trans p3) ((s.trans s2).trans s3) o3 l3.del
          cases f with
          | nx => exact z
          | bk => exact z
          | ct => exact z
          | rt v => exact z
      · intro hb1
        subst hb1
        exact ClA.caught r h φ' F' H' σ' C2 dx xv p s o' l' hm hx rp
theorem ms_tryN {X : Cx} {W : WX} {body : List Stmt} {h0 : ExceptHandler} {hds : List ExceptHandler} {cls : List Cl} {cs : List Value} {pos : Pos} {m : SM} (hs : X.stack = X.env :: X.outer) (hf : X.env.frame = some X.env.locals) (hN : X.N.Nodup) (tk : Takes X W)
    (hb : ∀ (W : WX) (pn : List (Addr × Obj)) (xe : Value → Shared → Prop), Takes (X.tr pn xe) W → PassesOwn (model X.prog X.w) X.A X.env xe → MSs (X.tr pn xe) W body m) (hc : ClA X (h0 :: hds) cls cs) :
    MS X W (.Try body (h0 :: hds) [] [] pos) (tryNM cls m) := by
  refine PS.imp (ps_tryA (tb := fun W => tS (gOf X) W m) hs hf hN tk (fun W pn xe h1 h2 => hb W pn xe h1 h2) hc.hd) fun E σ H ⟨φ, F, hp, loc, o, l, h⟩ => ⟨φ, F, hp, loc, o, l, ?_⟩
  unfold tryNM at h
  cases q : m loc hp with
  | bad => rw [q] at h; exact h
  | ok f loc1 hp1 => rw [q] at h; exact h
  | exc e loc1 hp1 =>
    rw [q] at h
    exact hc.caught h
/-- found = (k, repr(e.value)) -/
def susTag (j : Nat) (k : Int) : D → SM := fun val loc hp => if repOk val then .ok .nx (loc.set j (some (.d (.tuple [.int k, .str val.shown])))) hp else .bad
theorem sus_tag {X : Cx} {i j : Nat} {x n : Str} {k : Int} {jk : Nat} {px pn pv pc pf ps pk pt : Pos} {x1} (hg : Gd X.A) (hN : X.N.Nodup) (hm : X.mg "repr" = none) (hi : X.N[i]? = some n := by rfl) (hj : X.N[j]? = some x := by rfl) (hx : L2.Loc X.env.scope x := by first | exact Or.inl rfl | exact Or.inr rfl)
    (hv : Vis X.env.scope n := by first | exact Or.inl rfl | exact Or.inr (Or.inl rfl) | exact Or.inr (Or.inr rfl)) (hnd : (n == ("__debug__" : Str)) = false := by decide) (hnc : (n == ("__classdict__" : Str)) = false := by decide)
    (hgr : Gl X "repr" := by rfl) (hb : attributeBase (.Name n pn) "value" X.env (eval (.Name n pn) X.env) = eval (.Name n pn) X.env := by rfl)
    (hs : swapsWith (.Tuple [.Constant (.int k) jk pk, .Call (.Name "repr" pf) [.Attribute (.Name n pn) "value" pv] [] pc] x1 pt) (some (.Name x px)) ps.line X.env = pure false := by rfl)
    (he0 : starEach [.Constant (.int k) jk pk, Expr.Call (.Name "repr" pf) [.Attribute (.Name n pn) "value" pv] [] pc] X.env = (false, eval (.Constant (.int k) jk pk) X.env) :: starEach [Expr.Call (.Name "repr" pf) [.Attribute (.Name n pn) "value" pv] [] pc] X.env := by rfl)
    (he1 : starEach [Expr.Call (.Name "repr" pf) [.Attribute (.Name n pn) "value" pv] [] pc] X.env = (false, eval (Expr.Call (.Name "repr" pf) [.Attribute (.Name n pn) "value" pv] [] pc) X.env) :: starEach [] X.env := by rfl)
    (he : starEach [Expr.Attribute (.Name n pn) "value" pv] X.env = (false, eval (.Attribute (.Name n pn) "value" pv) X.env) :: starEach [] X.env := by rfl) (hpl : (backTo pc (starEach [] X.env)).any (·.1) = false := by rfl)
    (hf : X.fn x = true ∨ X.env.scope.names.lookup x = some .local := by first | exact .inl rfl | exact .inr rfl) :
    SuS X i [.Assign [.Name x px] (.Tuple [.Constant (.int k) jk pk, .Call (.Name "repr" pf) [.Attribute (.Name n pn) "value" pv] [] pc] x1 pt) ps] (susTag j k) := by
  intro a oe cls d pn' hz hfi
  have r1 := pe_val (X := X) (a := a) (pn := pn') (pos := pv) hz hfi (pe_var (X := X.suite a ((a, oe) :: pn')) (pos := pn) hi hv hnd hnc) hb
  have r2 := pe_callB (X := X.suite a ((a, oe) :: pn')) (p := pf) (pos := pc) (call_rep (X := X.suite a ((a, oe) :: pn')) (hg.mk' _)) hgr hm (by rfl) (pa_cons r1 pa_nil he) (by decide) (by decide) he hpl
  have r3 := pe_tupF (X := X.suite a ((a, oe) :: pn')) (pos := pt) (x1 := x1) (pa_cons (pe_int (X := X.suite a ((a, oe) :: pn')) (i := k) (j := jk) (pos := pk)) (pa_cons r2 pa_nil he1) he0)
  have r4 := pss_one (ps_set (X := X.suite a ((a, oe) :: pn')) (pos' := px) (pos := ps) hN hj hx r3 hs hf)
  refine PSs.imp r4 fun E σ H ⟨φ, F, hp, loc, val, dd, xv, C, D, fI, hcls, hd, T, o, l, hσ, hF, hrp, h⟩ => ?_
  unfold susTag at h
  split at h
  · rename_i hr
    refine ⟨_, hσ, rfl, C, D, fI, dd, xv, hcls, T, hd, o.ex _ _ hF, xv, val, rfl, vw_dp o.ex (.kn hrp) hr.1, hr, ?_⟩
    refine ⟨show [V.int k, V.str val.shown].length ≤ sizeLine from by show 2 ≤ sizeLine; decide, fun p ob hn hd => ?_⟩
    have gr := Grow.one (o := .frz ob (.tup [V.int k, V.str val.shown])) o.ex hn
    exact PostS.here (g := gOf X) (o.grow gr) ((l.mono (List.prefix_refl _) gr.f).set (show RvV (gOf X) φ _ (.ref p) (.d (.tuple [.int k, .str val.shown])) from .tup (.new hd) (by show 2 ≤ sizeLine; decide) (.cons (.int _) (.cons (.str _) .nil)))) (PostS.weak (List.prefix_refl _) gr.f h)
  · exact h.elim
end Fz

set_option Elab.async false
set_option linter.all false
set_option maxHeartbeats 4000000
/-! Pk01: renamings of natural names, plainly -/
namespace Ren
abbrev NP := List (Nat × Nat)
def cnt (S : List Nat) (m : Nat) : Nat := ((List.range m).filter fun k => decide (k ∉ S)).length
theorem cnt_succ (S : List Nat) (m : Nat) : cnt S (m + 1) = cnt S m + if m ∈ S then 0 else 1 := by
  unfold cnt
  rw [List.range_succ, List.filter_append, List.length_append]
  by_cases h : m ∈ S <;> simp [h]
theorem cnt_zero (S : List Nat) : cnt S 0 = 0 := rfl
theorem cnt_mono (S : List Nat) {m n : Nat} (h : m ≤ n) : cnt S m ≤ cnt S n := by
  induction n with
  | zero => have : m = 0 := by omega
            subst this; exact Nat.le_refl _
  | succ n ih =>
    by_cases c : m = n + 1
    · subst c; exact Nat.le_refl _
    · rw [cnt_succ]; have := ih (by omega); omega
theorem cnt_lt (S : List Nat) {m n : Nat} (hm : m ∉ S) (h : m < n) : cnt S m < cnt S n := by
  have h1 := cnt_succ S m
  rw [if_neg hm] at h1
  have h2 := cnt_mono S (show m + 1 ≤ n from h)
  omega
theorem cnt_inj (S : List Nat) {m n : Nat} (hm : m ∉ S) (hn : n ∉ S) (h : cnt S m = cnt S n) : m = n := by
  rcases Nat.lt_trichotomy m n with c | c | c
  · have := cnt_lt S hm c; omega
  · exact c
  · have := cnt_lt S hn c; omega
theorem lt_of_cnt (S : List Nat) {m n : Nat} (h : cnt S m < cnt S n) : m < n := by
  rcases Nat.lt_or_ge m n with c | c
  · exact c
  · have := cnt_mono S c; omega
theorem cnt_congr {S T : List Nat} (h : ∀ k, k ∈ S ↔ k ∈ T) (m : Nat) : cnt S m = cnt T m := by
  unfold cnt
  congr 1
  apply List.filter_congr
  intro k _
  exact decide_eq_decide.mpr (not_congr (h k))
theorem filter_succ {S : List Nat} (nd : S.Nodup) (m : Nat) : (S.filter fun s => decide (s < m + 1)).length = (S.filter fun s => decide (s < m)).length + if m ∈ S then 1 else 0 := by
  induction S with
  | nil => rfl
  | cons x S ih =>
    obtain ⟨h1, h2⟩ := List.nodup_cons.mp nd
    have ih := ih h2
    rw [List.filter_cons, List.filter_cons]
    by_cases c : x = m
    · subst c
      rw [if_pos (by simp), if_neg (by simp), List.length_cons, ih, if_neg h1, if_pos List.mem_cons_self]
    · have e : (m ∈ x :: S) ↔ m ∈ S := by
        rw [List.mem_cons]
        exact ⟨fun z => z.resolve_left (fun z => c z.symm), .inr⟩
      by_cases d : x < m
      · rw [if_pos (by simp; omega), if_pos (by simpa using d), List.length_cons, List.length_cons, ih]
        simp only [e]
        omega
      · rw [if_neg (by simp; omega), if_neg (by simpa using d), ih]
        simp only [e]
theorem cnt_eq {S : List Nat} (nd : S.Nodup) (m : Nat) : cnt S m + (S.filter fun s => decide (s < m)).length = m := by
  induction m with
  | zero =>
    have : (S.filter fun s => decide (s < 0)) = [] := List.filter_eq_nil_iff.mpr fun a _ => by simp
    rw [this, cnt_zero]; rfl
  | succ m ih =>
    rw [cnt_succ, filter_succ nd]
    by_cases c : m ∈ S
    · rw [if_pos c, if_pos c]; omega
    · rw [if_neg c, if_neg c]; omega

def bump (f0 : Nat) (T : List Nat) : Nat := T.foldl (fun f t => if t ≤ f then f + 1 else f) f0
theorem bump_none : ∀ {T : List Nat} {f : Nat}, (∀ t ∈ T, f < t) → bump f T = f
  | [], _, _ => rfl
  | t :: T, f, h => by
    have h1 := h t List.mem_cons_self
    show bump (if t ≤ f then f + 1 else f) T = f
    rw [if_neg (by omega)]
    exact bump_none fun s hs => h s (List.mem_cons_of_mem _ hs)
theorem bump_ge : ∀ {T : List Nat} {f : Nat}, f ≤ bump f T
  | [], _ => Nat.le_refl _
  | t :: T, f => by
    show f ≤ bump (if t ≤ f then f + 1 else f) T
    have := bump_ge (T := T) (f := if t ≤ f then f + 1 else f)
    split at this <;> rename_i c
    · rw [if_pos c]; omega
    · rw [if_neg c]; exact this
theorem bump_spec : ∀ {T : List Nat} {f : Nat}, T.Pairwise (· < ·) → bump f T ∉ T ∧ bump f T = f + (T.filter fun t => decide (t < bump f T)).length
  | [], f, _ => ⟨by simp, rfl⟩
  | t :: T, f, h => by
    obtain ⟨h1, h2⟩ := List.pairwise_cons.mp h
    have e : bump f (t :: T) = bump (if t ≤ f then f + 1 else f) T := rfl
    by_cases c : t ≤ f
    · rw [if_pos c] at e
      obtain ⟨a, b⟩ := bump_spec (f := f + 1) h2
      have g := bump_ge (T := T) (f := f + 1)
      rw [e]
      refine ⟨?_, ?_⟩
      · rw [List.mem_cons]
        rintro (z | z)
        · omega
        · exact a z
      · rw [List.filter_cons, if_pos (by simp; omega), List.length_cons]
        omega
    · rw [if_neg c] at e
      have n := bump_none (T := T) (f := f) fun s hs => by have := h1 s hs; omega
      rw [e, n]
      refine ⟨?_, ?_⟩
      · rw [List.mem_cons]
        rintro (z | z)
        · omega
        · have := h1 f z; omega
      · have : ((t :: T).filter fun s => decide (s < f)) = [] := List.filter_eq_nil_iff.mpr fun s hs => by
          rcases List.mem_cons.mp hs with z | z
          · subst z; simp; omega
          · have := h1 s z; simp; omega
        rw [this]; rfl

structure Valid (R : NP) : Prop where
  fs : (R.map (·.1)).Pairwise (· < ·)
  ss : (R.map (·.2)).Nodup
theorem pw_nodup {l : List Nat} (h : l.Pairwise (· < ·)) : l.Nodup := h.imp fun h => Nat.ne_of_lt h
def srtN (l : List Nat) : List Nat := Fz.sortB (fun a b => decide (a ≤ b)) l
theorem srtN_perm (l : List Nat) : (srtN l).Perm l := Fz.sortB_perm _ l
theorem srtN_pw (l : List Nat) : (srtN l).Pairwise (· ≤ ·) := Fz.sortB_pw (le := fun a b => decide (a ≤ b)) (R := fun a b : Nat => a ≤ b) (fun _ _ _ => Nat.le_trans) (fun a b h => of_decide_eq_true h) (fun a b h => by
  have : ¬ a ≤ b := fun z => h (decide_eq_true z)
  show b ≤ a
  omega) l
theorem srtN_lt {l : List Nat} (h : l.Nodup) : (srtN l).Pairwise (· < ·) := by
  have nd := (srtN_perm l).nodup_iff.mpr h
  exact (List.pairwise_and_iff.mpr ⟨srtN_pw l, nd⟩).imp fun ⟨a, b⟩ => Nat.lt_of_le_of_ne a b
def img (R : NP) (n : Nat) : Nat := match R.find? (fun p => decide (p.1 = n)) with
  | some p => p.2
  | none => bump (n - ((R.map (·.1)).filter fun s => decide (s < n)).length) (srtN (R.map (·.2)))
def Rel (R : NP) (n m : Nat) : Prop := (n, m) ∈ R ∨ (n ∉ R.map (·.1) ∧ m ∉ R.map (·.2) ∧ cnt (R.map (·.1)) n = cnt (R.map (·.2)) m)
theorem mem_fs {R : NP} {n m : Nat} (h : (n, m) ∈ R) : n ∈ R.map (·.1) := List.mem_map.mpr ⟨_, h, rfl⟩
theorem mem_ss {R : NP} {n m : Nat} (h : (n, m) ∈ R) : m ∈ R.map (·.2) := List.mem_map.mpr ⟨_, h, rfl⟩
theorem fst_inj : ∀ {R : NP} {n m m' : Nat}, (R.map (·.1)).Nodup → (n, m) ∈ R → (n, m') ∈ R → m = m'
  | p :: R, n, m, m', nd, h, h' => by
    rw [List.map_cons, List.nodup_cons] at nd
    rcases List.mem_cons.mp h with e | h
    · rcases List.mem_cons.mp h' with e' | h'
      · rw [← e] at e'; exact (Prod.mk.inj e').2.symm
      · rw [← e] at nd; exact absurd (mem_fs h') nd.1
    · rcases List.mem_cons.mp h' with e' | h'
      · rw [← e'] at nd; exact absurd (mem_fs h) nd.1
      · exact fst_inj nd.2 h h'
theorem snd_inj : ∀ {R : NP} {n n' m : Nat}, (R.map (·.2)).Nodup → (n, m) ∈ R → (n', m) ∈ R → n = n'
  | p :: R, n, n', m, nd, h, h' => by
    rw [List.map_cons, List.nodup_cons] at nd
    rcases List.mem_cons.mp h with e | h
    · rcases List.mem_cons.mp h' with e' | h'
      · rw [← e] at e'; exact (Prod.mk.inj e').1.symm
      · rw [← e] at nd; exact absurd (mem_ss h') nd.1
    · rcases List.mem_cons.mp h' with e' | h'
      · rw [← e'] at nd; exact absurd (mem_ss h) nd.1
      · exact snd_inj nd.2 h h'
theorem img_rel {R : NP} (V : Valid R) (n : Nat) : Rel R n (img R n) := by
  unfold img
  cases q : R.find? (fun p => decide (p.1 = n)) with
  | some p =>
    have h1 := List.find?_some q
    have h2 := List.mem_of_find?_eq_some q
    have e : p.1 = n := of_decide_eq_true h1
    refine .inl ?_
    rw [← e]
    exact h2
  | none =>
    have no : n ∉ R.map (·.1) := fun h => by
      obtain ⟨p, hp, e⟩ := List.mem_map.mp h
      have := List.find?_eq_none.mp q p hp
      exact this (by simpa using e)
    refine .inr ⟨no, ?_⟩
    dsimp only
    have c1 := cnt_eq (pw_nodup V.fs) n
    have hf : n - ((R.map (·.1)).filter fun s => decide (s < n)).length = cnt (R.map (·.1)) n := by omega
    rw [hf]
    obtain ⟨a, b⟩ := bump_spec (T := srtN (R.map (·.2))) (f := cnt (R.map (·.1)) n) (srtN_lt V.ss)
    refine ⟨fun h => a ((srtN_perm _).mem_iff.mpr h), ?_⟩
    have c2 := cnt_eq V.ss (bump (cnt (R.map (·.1)) n) (srtN (R.map (·.2))))
    have e : ((R.map (·.2)).filter fun s => decide (s < bump (cnt (R.map (·.1)) n) (srtN (R.map (·.2))))).length = ((srtN (R.map (·.2))).filter fun s => decide (s < bump (cnt (R.map (·.1)) n) (srtN (R.map (·.2))))).length :=
      ((srtN_perm (R.map (·.2))).filter _).length_eq.symm
    omega
theorem rel_fun {R : NP} (V : Valid R) {n m m' : Nat} (h : Rel R n m) (h' : Rel R n m') : m = m' := by
  rcases h with h | ⟨h1, h2, h3⟩
  · rcases h' with h' | ⟨g1, g2, g3⟩
    · exact fst_inj (pw_nodup V.fs) h h'
    · exact absurd (mem_fs h) g1
  · rcases h' with h' | ⟨g1, g2, g3⟩
    · exact absurd (mem_fs h') h1
    · exact cnt_inj _ h2 g2 (h3.symm.trans g3)
theorem rel_iff {R : NP} (V : Valid R) {n m : Nat} : Rel R n m ↔ img R n = m := ⟨fun h => rel_fun V (img_rel V n) h, fun h => h ▸ img_rel V n⟩
def turn (R : NP) : NP := Fz.sortB (fun p q : Nat × Nat => decide (p.1 < q.1 ∨ (p.1 = q.1 ∧ p.2 ≤ q.2))) (R.map fun p => (p.2, p.1))
theorem turn_perm (R : NP) : (turn R).Perm (R.map fun p => (p.2, p.1)) := Fz.sortB_perm _ _
theorem turn_mem {R : NP} {a b : Nat} : (a, b) ∈ turn R ↔ (b, a) ∈ R := by
  rw [(turn_perm R).mem_iff, List.mem_map]
  constructor
  · rintro ⟨⟨x, y⟩, h, e⟩
    cases e
    exact h
  · intro h
    exact ⟨_, h, rfl⟩
theorem turn_fs (R : NP) : ((turn R).map (·.1)).Perm (R.map (·.2)) := by
  have := (turn_perm R).map (·.1)
  rw [List.map_map] at this
  exact this
theorem turn_ss (R : NP) : ((turn R).map (·.2)).Perm (R.map (·.1)) := by
  have := (turn_perm R).map (·.2)
  rw [List.map_map] at this
  exact this
theorem turn_valid {R : NP} (V : Valid R) : Valid (turn R) := by
  refine ⟨?_, (turn_ss R).nodup_iff.mpr (pw_nodup V.fs)⟩
  have nd : ((turn R).map (·.1)).Nodup := (turn_fs R).nodup_iff.mpr V.ss
  have pw : (turn R).Pairwise fun p q => p.1 < q.1 ∨ (p.1 = q.1 ∧ p.2 ≤ q.2) := Fz.sortB_pw (le := fun p q : Nat × Nat => decide (p.1 < q.1 ∨ (p.1 = q.1 ∧ p.2 ≤ q.2))) (R := fun p q => p.1 < q.1 ∨ (p.1 = q.1 ∧ p.2 ≤ q.2))
    (fun a b c h k => by omega) (fun a b h => of_decide_eq_true h) (fun a b h => by
      have c : ¬ (a.1 < b.1 ∨ (a.1 = b.1 ∧ a.2 ≤ b.2)) := fun z => h (decide_eq_true z)
      show b.1 < a.1 ∨ (b.1 = a.1 ∧ b.2 ≤ a.2)
      omega) _
  rw [List.pairwise_map]
  have nd' := List.pairwise_map.mp nd
  exact (List.pairwise_and_iff.mpr ⟨pw, nd'⟩).imp fun {p q} ⟨a, b⟩ => by
    have b' : p.1 ≠ q.1 := b
    omega
theorem turn_rel {R : NP} {n m : Nat} : Rel (turn R) m n ↔ Rel R n m := by
  unfold Rel
  rw [turn_mem, cnt_congr (fun k => (turn_fs R).mem_iff) m, cnt_congr (fun k => (turn_ss R).mem_iff) n, (turn_fs R).mem_iff, (turn_ss R).mem_iff]
  constructor
  · rintro (h | ⟨a, b, c⟩)
    · exact .inl h
    · exact .inr ⟨b, a, c.symm⟩
  · rintro (h | ⟨a, b, c⟩)
    · exact .inl h
    · exact .inr ⟨b, a, c.symm⟩
theorem turn_img {R : NP} (V : Valid R) (n : Nat) : img (turn R) (img R n) = n := (rel_iff (turn_valid V)).mp (turn_rel.mpr (img_rel V n))
theorem img_turn {R : NP} (V : Valid R) (m : Nat) : img R (img (turn R) m) = m := (rel_iff V).mp (turn_rel.mp (img_rel (turn_valid V) m))
theorem img_inj {R : NP} (V : Valid R) {n n' : Nat} (h : img R n = img R n') : n = n' := by rw [← turn_img V n, h, turn_img V]
/-- beyond the pairs the order is kept -/
theorem img_mono {R : NP} (V : Valid R) {k n : Nat} (hk : k ∉ R.map (·.1)) (hn : n ∉ R.map (·.1)) (h : k < n) : img R k < img R n := by
  have f : ∀ {x}, x ∉ R.map (·.1) → cnt (R.map (·.1)) x = cnt (R.map (·.2)) (img R x) := fun {x} hx => by
    rcases img_rel V x with z | ⟨_, _, z⟩
    · exact absurd (mem_fs z) hx
    · exact z
  refine lt_of_cnt (R.map (·.2)) ?_
  rw [← f hk, ← f hn]
  exact cnt_lt _ hk h

/-! ### one renaming behind another -/
def dedN (l : List Nat) : List Nat := l.foldl (fun acc x => if x ∈ acc then acc else acc ++ [x]) []
theorem dedN_go : ∀ (l acc : List Nat), acc.Nodup → (l.foldl (fun acc x => if x ∈ acc then acc else acc ++ [x]) acc).Nodup ∧ ∀ j, j ∈ l.foldl (fun acc x => if x ∈ acc then acc else acc ++ [x]) acc ↔ j ∈ acc ∨ j ∈ l
  | [], acc, h => ⟨h, fun j => by simp⟩
  | x :: l, acc, h => by
    rw [List.foldl_cons]
    by_cases c : x ∈ acc
    · rw [if_pos c]
      obtain ⟨h1, h2⟩ := dedN_go l acc h
      refine ⟨h1, fun j => ?_⟩
      rw [h2 j, List.mem_cons]
      constructor
      · rintro (z | z)
        · exact .inl z
        · exact .inr (.inr z)
      · rintro (z | z | z)
        · exact .inl z
        · exact .inl (z ▸ c)
        · exact .inr z
    · rw [if_neg c]
      obtain ⟨h1, h2⟩ := dedN_go l (acc ++ [x]) (List.nodup_append.mpr ⟨h, by simp, fun a ha b hb => by
        have e : b = x := by simpa using hb
        intro z
        exact c (by rw [← e, ← z]; exact ha)⟩)
      refine ⟨h1, fun j => ?_⟩
      rw [h2 j, List.mem_append, List.mem_singleton, List.mem_cons, or_assoc]
theorem dedN_nodup (l : List Nat) : (dedN l).Nodup := (dedN_go l [] .nil).1
theorem mem_dedN {l : List Nat} {j : Nat} : j ∈ dedN l ↔ j ∈ l := by
  have h := (dedN_go l [] .nil).2 j
  simpa [dedN] using h
def keys (R1 R2 : NP) : List Nat := srtN (dedN (R1.map (·.1) ++ R2.map fun p => img (turn R1) p.1))
def join (R1 R2 : NP) : NP := (keys R1 R2).map fun n => (n, img R2 (img R1 n))
section
variable {R1 R2 : NP} (V1 : Valid R1) (V2 : Valid R2)
include V1
theorem mem_keys {n : Nat} : n ∈ keys R1 R2 ↔ n ∈ R1.map (·.1) ∨ img R1 n ∈ R2.map (·.1) := by
  unfold keys
  rw [(srtN_perm _).mem_iff, mem_dedN, List.mem_append]
  refine or_congr Iff.rfl ?_
  rw [List.mem_map, List.mem_map]
  constructor
  · rintro ⟨p, hp, e⟩
    exact ⟨p, hp, by rw [← e, img_turn V1]⟩
  · rintro ⟨p, hp, e⟩
    exact ⟨p, hp, by rw [e, turn_img V1]⟩
theorem join_fs : (join R1 R2).map (·.1) = keys R1 R2 := by
  unfold join
  rw [List.map_map]
  exact List.map_id _
include V2
theorem psi_inj {n n' : Nat} (h : img R2 (img R1 n) = img R2 (img R1 n')) : n = n' := img_inj V1 (img_inj V2 h)
theorem join_valid : Valid (join R1 R2) := by
  have lt : (keys R1 R2).Pairwise (· < ·) := srtN_lt (dedN_nodup _)
  refine ⟨by rw [join_fs V1]; exact lt, ?_⟩
  unfold join
  rw [List.map_map]
  exact List.Pairwise.map _ (fun a b (h : a ≠ b) => fun z => h (psi_inj V1 V2 z)) (pw_nodup lt)
theorem psi_mono {k n : Nat} (hk : k ∉ keys R1 R2) (hn : n ∉ keys R1 R2) (h : k < n) : img R2 (img R1 k) < img R2 (img R1 n) := by
  rw [mem_keys V1] at hk hn
  have hk1 := fun z => hk (.inl z)
  have hk2 := fun z => hk (.inr z)
  have hn1 := fun z => hn (.inl z)
  have hn2 := fun z => hn (.inr z)
  exact img_mono V2 hk2 hn2 (img_mono V1 hk1 hn1 h)
/-- THE LAW: a joined renaming leads where the one and then the other lead -/
theorem join_img (n : Nat) : img (join R1 R2) n = img R2 (img R1 n) := by
  refine (rel_iff (join_valid V1 V2)).mp ?_
  by_cases h : n ∈ keys R1 R2
  · exact .inl (List.mem_map.mpr ⟨n, h, rfl⟩)
  have inS : ∀ m, m ∈ (join R1 R2).map (·.2) ↔ ∃ k, k ∈ keys R1 R2 ∧ img R2 (img R1 k) = m := fun m => by
    unfold join
    rw [List.map_map, List.mem_map]
    rfl
  have back : ∀ m, img R2 (img R1 (img (turn R1) (img (turn R2) m))) = m := fun m => by rw [img_turn V1, img_turn V2]
  refine .inr ⟨by rw [join_fs V1]; exact h, ?_, ?_⟩
  · rw [inS]
    rintro ⟨k, hk, e⟩
    have := psi_inj V1 V2 e
    subst this
    exact h hk
  · rw [join_fs V1]
    unfold cnt
    have p : (((List.range n).filter fun k => decide (k ∉ keys R1 R2)).map fun k => img R2 (img R1 k)).Perm ((List.range (img R2 (img R1 n))).filter fun k => decide (k ∉ (join R1 R2).map (·.2))) := by
      refine (List.perm_ext_iff_of_nodup ?_ ?_).mpr fun x => ?_
      · exact List.Pairwise.map _ (fun a b (h : a ≠ b) => fun z => h (psi_inj V1 V2 z)) (List.Pairwise.filter _ List.nodup_range)
      · exact List.Pairwise.filter _ List.nodup_range
      · rw [List.mem_map, List.mem_filter, List.mem_range]
        constructor
        · rintro ⟨k, hk, rfl⟩
          rw [List.mem_filter, List.mem_range] at hk
          have hk2 : k ∉ keys R1 R2 := of_decide_eq_true hk.2
          refine ⟨psi_mono V1 V2 hk2 h hk.1, decide_eq_true ?_⟩
          rw [inS]
          rintro ⟨j, hj, e⟩
          have := psi_inj V1 V2 e
          subst this
          exact hk2 hj
        · rintro ⟨h1, h2⟩
          have h2' := of_decide_eq_true h2
          rw [inS] at h2'
          have hk : img (turn R1) (img (turn R2) x) ∉ keys R1 R2 := fun z => h2' ⟨_, z, back x⟩
          refine ⟨img (turn R1) (img (turn R2) x), ?_, back x⟩
          rw [List.mem_filter, List.mem_range]
          refine ⟨?_, decide_eq_true hk⟩
          rcases Nat.lt_trichotomy (img (turn R1) (img (turn R2) x)) n with c | c | c
          · exact c
          · rw [← c, back] at h1; omega
          · have := psi_mono V1 V2 h hk c
            rw [back] at this
            omega
    have := p.length_eq
    rw [List.length_map] at this
    exact this
end
end Ren

set_option Elab.async false
set_option linter.all false
set_option maxRecDepth 100000
set_option maxHeartbeats 8000000
namespace Fs
open PySem PySem.Spec PyProof.Rows L2 Fz
noncomputable def m__law_urn : SM :=
    (seqM (asgM 2 (iteE (tstM (opM ltD (varM 1) (bindE (varM 0) lenF))) (blt intD (consM (opM ixA (varM 0) (varM 1)) nilM)) (opM addD (opM mulD (cM (.int 53)) (varM 1)) (cM (.int 19)))))
    (seqM (asgM 3 (opM addD (cM (.int 17)) (opM mulD (cM (.int 3)) (bindE (varM 0) lenF))))
    (seqM (forM (seqA (varM 0)) (gN 4) (asgM 3 (opM modD (blt intD (consM (opM addD (opM mulD (varM 3) (cM (.int 8191))) (opM modD (blt intD (consM (varM 4) nilM)) (opM addD (opM powD (cM (.int 10)) (cM (.int 21))) (cM (.int 117))))) nilM)) (opM addD (opM powD (cM (.int 10)) (cM (.int 26))) (cM (.int 67))))))
    (seqM (asgM 5 (opM modD (blt intD (consM (opM addD (opM addD (opM addD (opM mulD (blt absD (consM (varM 2) nilM)) (cM (.int 9973))) (opM mulD (varM 3) (cM (.int 59)))) (opM mulD (cM (.int 5)) (blt intD (consM (opM ltD (varM 2) (cM (.int 0))) nilM)))) (opM mulD (cM (.int 101)) (varM 1))) nilM)) (opM addD (opM powD (cM (.int 10)) (cM (.int 28))) (cM (.int 331)))))
    (retM (lstO (consM (blt max2D (consM (cM (.int 0)) (consM (opM subD (blt absD (consM (varM 2) nilM)) (opM powD (cM (.int 10)) (cM (.int 18)))) nilM))) (consM (varM 5) (consM (cM (.int 0)) nilM)))))))))
noncomputable def f__law_urn : FM := runDef finO 6 2 m__law_urn
noncomputable def m_are_unlike : SM :=
    (retM (opM eqA (bindE (bindE (varM 0) setF) lenF) (bindE (varM 0) lenF)))
noncomputable def f_are_unlike : FM := runDef finD 1 1 m_are_unlike
noncomputable def m_is_tuple : SM :=
    (retM (andE (isiM "tuple" (varM 0)) (chainM leD leD (varM 1) (bindE (varM 0) lenF) (varM 2))))
noncomputable def f_is_tuple : FM := runDef finD 3 3 m_is_tuple
noncomputable def m_is_integer : SM :=
    (retM (andE (isiM "int" (varM 0)) (notE (isiM "bool" (varM 0)))))
noncomputable def f_is_integer : FM := runDef finD 1 1 m_is_integer
noncomputable def m_is_between : SM :=
    (retM (andE (callM f_is_integer (consM (varM 0) nilM)) (chainM leD leD (varM 1) (varM 0) (varM 2))))
noncomputable def f_is_between : FM := runDef finD 3 3 m_is_between
noncomputable def m_is_name : SM :=
    (retM (callM f_is_between (consM (varM 0) (consM (cM (.int 0)) (consM (varM 0) nilM)))))
noncomputable def f_is_name : FM := runDef finD 1 1 m_is_name
noncomputable def m_is_pair : SM :=
    (retM (andE (callM f_is_tuple (consM (varM 0) (consM (cM (.int 2)) (consM (cM (.int 2)) nilM)))) (andE (callM f_is_name (consM (opM ixA (varM 0) (cM (.int 0))) nilM)) (callM f_is_name (consM (opM ixA (varM 0) (cM (.int 1))) nilM)))))
noncomputable def f_is_pair : FM := runDef finD 1 1 m_is_pair
noncomputable def m_is_a_renaming : SM :=
    (seqM (ifM (orT (notT (tstM (isiM "tuple" (varM 0)))) (notT (tstM (blt allD (consM (lcM [3] (seqA (varM 0)) (gN 3) yesT (callM f_is_pair (consM (varM 3) nilM))) nilM))))) (retM (cM (.bool false))) skipM)
    (seqM (parM 1 2 (consM (lcM [3] (seqA (varM 0)) (gN 3) yesT (opM ixA (varM 3) (cM (.int 0)))) (consM (lcM [3] (seqA (varM 0)) (gN 3) yesT (opM ixA (varM 3) (cM (.int 1)))) nilM)))
    (retM (andE (opM eqA (varM 1) (bindE (varM 1) (newD sortF))) (andE (callM f_are_unlike (consM (varM 1) nilM)) (callM f_are_unlike (consM (varM 2) nilM)))))))
noncomputable def f_is_a_renaming : FM := runDef finD 4 1 m_is_a_renaming
noncomputable def m_anew (rec : FM) : SM :=
    (seqM (ifM (tstM (isiM "list" (varM 0))) (retM (lcM [1] (seqA (varM 0)) (gN 1) yesT (callM rec (consM (varM 1) nilM)))) skipM)
    (seqM (ifM (tstM (isiM "tuple" (varM 0))) (retM (blt tupleD (consM (lcM [1] (seqA (varM 0)) (gN 1) yesT (callM rec (consM (varM 1) nilM))) nilM))) skipM)
    (retM (varM 0))))
noncomputable def g_anew : Nat → FM
  | 0 => fun _ _ => .bad
  | n + 1 => runDef finD 2 1 (m_anew (g_anew n))
noncomputable def f_anew : FM := g_anew 3
noncomputable def m_need_renaming : SM :=
    (ifM (notT (tstM (callM f_is_a_renaming (consM (varM 0) nilM)))) (raiseM "InvalidRenaming" (callM f_anew (consM (varM 0) nilM))) skipM)
noncomputable def f_need_renaming : FM := runDef finD 1 1 m_need_renaming
noncomputable def m_turned : SM :=
    (retM (blt tupleD (consM (bindE (lcM [1, 2] (seqA (varM 0)) (gT [(gN 1), (gN 2)]) yesT (tupM (consM (varM 2) (consM (varM 1) nilM)))) (newD sortF)) nilM)))
noncomputable def f_turned : FM := runDef finD 3 1 m_turned
noncomputable def m_image : SM :=
    (seqM (asgM 2 (frzM (bindE (varM 0) (newDic dicF))))
    (seqM (ifM (orT (tstM (opM eqA (varM 1) (cM (.int (-1))))) (tstM (opM inD (varM 1) (varM 2)))) (retM (get2M (varM 2) (varM 1) (cM (.int (-1))))) skipM)
    (seqM (asgM 3 (opM subD (varM 1) (bindE (lcM [5] (seqA (varM 2)) (gN 5) (tstM (opM ltD (varM 5) (varM 1))) (varM 5)) lenF)))
    (seqM (forM (seqA (bindE (varM 2) (newD sortVF))) (gN 4) (ifM (tstM (opM leD (varM 4) (varM 3))) (augM 3 plusD (cM (.int 1))) skipM))
    (retM (varM 3))))))
noncomputable def f_image : FM := runDef finD 6 2 m_image
noncomputable def m_joined : SM :=
    (seqM (exprM (callM f_need_renaming (consM (varM 0) nilM)))
    (seqM (exprM (callM f_need_renaming (consM (varM 1) nilM)))
    (seqM (asgM 2 (callM f_turned (consM (varM 0) nilM)))
    (seqM (asgM 3 (bindE (opM addD (lcM [5, 6] (seqA (varM 0)) (gT [(gN 5), (gN 6)]) yesT (varM 5)) (lcM [5, 6] (seqA (varM 1)) (gT [(gN 5), (gN 6)]) yesT (callM f_image (consM (varM 2) (consM (varM 5) nilM))))) setF))
    (retM (blt tupleD (consM (lcM [4] (seqA (bindE (varM 3) (newD sortF))) (gN 4) yesT (tupM (consM (varM 4) (consM (callM f_image (consM (varM 1) (consM (callM f_image (consM (varM 0) (consM (varM 4) nilM))) nilM))) nilM)))) nilM)))))))
noncomputable def f_joined : FM := runDef finD 7 2 m_joined
noncomputable def m__law_out : SM :=
    (seqM (ifM (tstM (opM gtD (opM ixA (varM 0) (cM (.int 0))) (cM (.int 0)))) (seqM (asgM 4 (opM modD (blt intD (consM (opM ixA (varM 0) (cM (.int 0))) nilM)) (varM 1)))
    (seqM (putM (opM fdivD (opM ixA (varM 0) (cM (.int 0))) (varM 1)) (varM 0) (cM (.int 0)))
    (retM (varM 4)))) skipM)
    (seqM (putM (opM addD (opM ixA (varM 0) (cM (.int 2))) (cM (.int 1))) (varM 0) (cM (.int 2)))
    (seqM (asgM 2 (opM ixA (varM 0) (cM (.int 2))))
    (seqM (asgM 3 (opM modD (blt intD (consM (opM addD (opM addD (opM mulD (opM mulD (opM mulD (opM addD (opM ixA (varM 0) (cM (.int 1))) (cM (.int 47))) (opM addD (varM 2) (cM (.int 11)))) (cM (.int 1000003))) (cM (.int 7919))) (opM mulD (opM mulD (varM 2) (varM 2)) (cM (.int 365435296162)))) (varM 2)) nilM)) (opM addD (opM powD (cM (.int 10)) (cM (.int 29))) (cM (.int 319)))))
    (seqM (asgM 3 (opM modD (blt intD (consM (opM addD (opM addD (opM mulD (varM 3) (varM 3)) (opM mulD (opM ixA (varM 0) (cM (.int 1))) (cM (.int 13)))) (opM mulD (cM (.int 5)) (varM 2))) nilM)) (opM addD (opM powD (cM (.int 10)) (cM (.int 31))) (cM (.int 33)))))
    (seqM (asgM 3 (opM modD (blt intD (consM (opM addD (opM mulD (opM mulD (varM 3) (varM 3)) (cM (.int 7))) (opM mulD (varM 3) (cM (.int 3)))) nilM)) (opM addD (opM powD (cM (.int 10)) (cM (.int 33))) (cM (.int 603)))))
    (retM (opM modD (blt intD (consM (opM fdivD (varM 3) (cM (.int 40009))) nilM)) (varM 1)))))))))
noncomputable def f__law_out : FM := runDef finD 5 2 m__law_out
noncomputable def m_images : SM :=
    (retM (blt tupleD (consM (lcM [2] (seqA (varM 1)) (gN 2) yesT (callM f_image (consM (varM 0) (consM (varM 2) nilM)))) nilM)))
noncomputable def f_images : FM := runDef finD 3 2 m_images
noncomputable def m_are_values : SM :=
    (retM (andE (isiM "tuple" (varM 0)) (blt allD (consM (lcM [1] (seqA (varM 0)) (gN 1) yesT (callM f_is_between (consM (varM 1) (consM (cM (.int (-1))) (consM (varM 1) nilM))))) nilM))))
noncomputable def f_are_values : FM := runDef finD 2 1 m_are_values
noncomputable def m_renamed : SM :=
    (seqM (exprM (callM f_need_renaming (consM (varM 0) nilM)))
    (seqM (ifM (notT (tstM (callM f_are_values (consM (varM 1) nilM)))) (raiseM "InvalidNames" (callM f_anew (consM (varM 1) nilM))) skipM)
    (retM (callM f_images (consM (varM 0) (consM (varM 1) nilM))))))
noncomputable def f_renamed : FM := runDef finD 2 2 m_renamed
noncomputable def m_is_renaming : SM :=
    (retM (callM f_is_a_renaming (consM (varM 0) nilM)))
noncomputable def f_is_renaming : FM := runDef finD 1 1 m_is_renaming
noncomputable def m_contrary : SM :=
    (seqM (exprM (callM f_need_renaming (consM (varM 0) nilM)))
    (retM (callM f_turned (consM (varM 0) nilM))))
noncomputable def f_contrary : FM := runDef finD 1 1 m_contrary
end Fs

set_option Elab.async false
set_option linter.all false
set_option maxRecDepth 100000
set_option maxHeartbeats 8000000
namespace Fs
open PySem PySem.Spec PyProof.Rows L2 Fz

def isInt : D → Bool
  | .int _ => true
  | _ => false
theorem is_integer_eq (v : D) (hp : List O) : f_is_integer [.d v] hp = .ok (.d (.bool (isInt v))) hp := by
  cases v <;> simp [f_is_integer, m_is_integer, runDef, retM, andE, notE, isiM, unM, varM, tyN, isB, isInt, List.replicate]
theorem between_int (i a b : Int) (hp : List O) : f_is_between [.d (.int i), .d (.int a), .d (.int b)] hp = .ok (.d (.bool (decide (a ≤ i) && decide (i ≤ b)))) hp := by
  by_cases h : a ≤ i
  · simp [f_is_between, m_is_between, runDef, retM, andE, callM, consM, nilM, varM, is_integer_eq, isInt, chainM, leD, intOp0, h, List.replicate]
  · simp [f_is_between, m_is_between, runDef, retM, andE, callM, consM, nilM, varM, is_integer_eq, isInt, chainM, leD, intOp0, h, List.replicate]
theorem between_no (v a b : D) (hp : List O) (h : isInt v = false) : f_is_between [.d v, .d a, .d b] hp = .ok (.d (.bool false)) hp := by
  simp [f_is_between, m_is_between, runDef, retM, andE, callM, consM, nilM, varM, is_integer_eq, h, List.replicate]
def isNm : D → Bool
  | .int i => decide (0 ≤ i)
  | _ => false
theorem name_int (i : Int) (hp : List O) : f_is_name [.d (.int i)] hp = .ok (.d (.bool (decide (0 ≤ i)))) hp := by
  simp [f_is_name, m_is_name, runDef, retM, callM, consM, nilM, varM, cM, between_int, List.replicate]
theorem name_no (v : D) (hp : List O) (h : isInt v = false) : f_is_name [.d v] hp = .ok (.d (.bool false)) hp := by
  simp [f_is_name, m_is_name, runDef, retM, callM, consM, nilM, varM, cM, between_no _ _ _ hp h, List.replicate]
theorem is_name_eq (v : D) (hp : List O) : f_is_name [.d v] hp = .ok (.d (.bool (isNm v))) hp := by
  cases v with
  | int i => exact name_int i hp
  | _ => exact name_no _ hp rfl
theorem is_tuple_yes (ds : List D) (a b : Int) (hp : List O) : f_is_tuple [.d (.tuple ds), .d (.int a), .d (.int b)] hp = .ok (.d (.bool (decide (a ≤ ds.length) && decide ((ds.length : Int) ≤ b)))) hp := by
  by_cases h : a ≤ ds.length
  · simp [f_is_tuple, m_is_tuple, runDef, retM, andE, isiM, unM, tyN, isB, varM, chainM, leD, intOp0, bindE, lenF, lenD, h, List.replicate]
  · simp [f_is_tuple, m_is_tuple, runDef, retM, andE, isiM, unM, tyN, isB, varM, chainM, leD, intOp0, bindE, lenF, lenD, h, List.replicate]
def isTup : D → Bool
  | .tuple _ => true
  | _ => false
theorem is_tuple_no (v a b : D) (hp : List O) (h : isTup v = false) : f_is_tuple [.d v, .d a, .d b] hp = .ok (.d (.bool false)) hp := by
  cases v <;> first | (cases h; done) | simp [f_is_tuple, m_is_tuple, runDef, retM, andE, isiM, unM, tyN, isB, varM, List.replicate]
theorem is_pair_yes (x y : D) (hp : List O) : f_is_pair [.d (.tuple [x, y])] hp = .ok (.d (.bool (isNm x && isNm y))) hp := by
  cases hx : isNm x <;> simp [f_is_pair, m_is_pair, runDef, retM, andE, callM, consM, nilM, varM, cM, is_tuple_yes, is_name_eq, opM, ixA, ixD, atI, ixN, hx, List.replicate]
theorem is_pair_no (v : D) (hp : List O) (h : isTup v = false) : f_is_pair [.d v] hp = .ok (.d (.bool false)) hp := by
  simp [f_is_pair, m_is_pair, runDef, retM, andE, callM, consM, nilM, varM, cM, is_tuple_no, h, List.replicate]
theorem eqA_int (a b : Int) : eqA (.int a) (.int b) = some (.bool (decide (a = b))) := by
  show eqD (.int a) (.int b) = _
  unfold eqD
  rw [if_pos ⟨rfl, rfl⟩]
  rfl
theorem are_unlike_eq (ns : List Int) (hp : List O) (h : ns.length ≤ 4000) : f_are_unlike [.d (.list (ns.map PyData.int))] hp = .ok (.d (.bool (decide ((dedI ns).length = ns.length)))) hp := by
  simp [f_are_unlike, m_are_unlike, runDef, retM, opM, bindE, setF, lenF, lenD, varM, h, eqA_int, List.replicate]
  omega

/-! ### renamings -/
abbrev pD : Int × Int → D := Fz.pairD
def fsI (ps : List (Int × Int)) : List Int := ps.map (·.1)
def ssI (ps : List (Int × Int)) : List Int := ps.map (·.2)
theorem fsI_len (ps : List (Int × Int)) : (fsI ps).length = ps.length := List.length_map _
theorem ssI_len (ps : List (Int × Int)) : (ssI ps).length = ps.length := List.length_map _
def okP (p : Int × Int) : Bool := decide (0 ≤ p.1) && decide (0 ≤ p.2)
theorem lcP (ds : List D) (h : D → Bool) (hh : ∀ d ∈ ds, ∀ hp, f_is_pair [.d d] hp = .ok (.d (.bool (h d))) hp) (loc : Ls) (hp : List O) (h0 : loc[0]? = some (some (.d (.tuple ds)))) (hl : loc.length = 4) :
    lcM [3] (seqA (varM 0)) (gN 3) yesT (callM f_is_pair (consM (varM 3) nilM)) loc hp = .ok (.d (.list (ds.map fun d => .bool (h d)))) hp := by
  have e := lc_pure (f := gN 3) (te := callM f_is_pair (consM (varM 3) nilM)) (lw := wipeL loc [3]) (h := fun d => .bool (h d)) (ds := ds) (b := hp) (acc := []) fun d hd hp => ⟨_, rfl, by
    simp [callM, consM, nilM, varM, wipeL, hl, hh d hd]⟩
  simp [lcM, seqA, varM, h0, e]
theorem lcN (ds : List D) (k : Int) (h : D → D) (hh : ∀ d ∈ ds, ixA d (.int k) = some (h d)) (loc : Ls) (hp : List O) (h0 : loc[0]? = some (some (.d (.tuple ds)))) (hl : loc.length = 4) :
    lcM [3] (seqA (varM 0)) (gN 3) yesT (opM ixA (varM 3) (cM (.int k))) loc hp = .ok (.d (.list (ds.map h))) hp := by
  have e := lc_pure (f := gN 3) (te := opM ixA (varM 3) (cM (.int k))) (lw := wipeL loc [3]) (h := h) (ds := ds) (b := hp) (acc := []) fun d hd hp => ⟨_, rfl, by
    simp [opM, varM, cM, wipeL, hl, hh d hd]⟩
  simp [lcM, seqA, varM, h0, e]
theorem asBools_fn {α : Type} (h : α → Bool) : ∀ ds : List α, asBools (ds.map fun d => PyData.bool (h d)) = some (ds.map h)
  | [] => rfl
  | d :: ds => by
    show (asBools (ds.map fun d => PyData.bool (h d))).map (h d :: ·) = _
    rw [asBools_fn h ds]; rfl
theorem renaming_no (v : D) (hp : List O) (h : isTup v = false) : f_is_a_renaming [.d v] hp = .ok (.d (.bool false)) hp := by
  cases v <;> first | (cases h; done) | simp [f_is_a_renaming, m_is_a_renaming, runDef, seqM, ifM, orT, notT, tstM, isiM, unM, tyN, isB, varM, retM, cM, List.replicate]
theorem renaming_bad (ds : List D) (h : D → Bool) (hp : List O) (hh : ∀ d ∈ ds, ∀ hp, f_is_pair [.d d] hp = .ok (.d (.bool (h d))) hp) (hb : ds.all h = false) : f_is_a_renaming [.d (.tuple ds)] hp = .ok (.d (.bool false)) hp := by
  have ea : (ds.map h).all id = false := by rw [List.all_map]; exact hb
  simp [f_is_a_renaming, m_is_a_renaming, runDef, seqM, ifM, orT, notT, tstM, isiM, unM, tyN, isB, ↓lcP ds h hh, blt, consM, nilM, allD, asBools_fn, ea, varM, retM, cM, List.replicate]

theorem eqv_ints : ∀ xs ys : List Int, PyData.eqvAll (xs.map PyData.int) (ys.map PyData.int) = decide (xs = ys)
  | [], [] => rfl
  | [], _ :: _ => rfl
  | _ :: _, [] => rfl
  | x :: xs, y :: ys => by
    show (PyData.eqv (.int x) (.int y) && PyData.eqvAll (xs.map PyData.int) (ys.map PyData.int)) = _
    rw [eqv_ints xs ys, show PyData.eqv (.int x) (.int y) = decide (x = y) from rfl]
    by_cases h : x = y <;> simp [h]
theorem lay_ints : ∀ xs : List Int, PyData.canLayAll0 (xs.map PyData.int) = true
  | [] => rfl
  | x :: xs => by show (PyData.canLay0 (.int x) && PyData.canLayAll0 (xs.map PyData.int)) = true; rw [lay_ints xs]; rfl
theorem depth_ints : ∀ xs : List Int, PyData.depthAll (xs.map PyData.int) = 0
  | [] => rfl
  | x :: xs => by show max (PyData.depth (.int x)) (PyData.depthAll (xs.map PyData.int)) = 0; rw [depth_ints xs]; rfl
theorem shaped_li (xs : List Int) : SeqAt.shaped (.list (xs.map PyData.int)) = true := by
  show (PyData.canLayAll0 (xs.map PyData.int) && decide (PyData.depthAll (xs.map PyData.int) + 1 ≤ 64)) = true
  rw [lay_ints, depth_ints]; rfl
theorem shaped_ti (xs : List Int) : SeqAt.shaped (.tuple (xs.map PyData.int)) = true := by
  show (PyData.canLayAll0 (xs.map PyData.int) && decide (PyData.depthAll (xs.map PyData.int) + 1 ≤ 64)) = true
  rw [lay_ints, depth_ints]; rfl
theorem eqA_li (xs ys : List Int) : eqA (.list (xs.map PyData.int)) (.list (ys.map PyData.int)) = some (.bool (decide (xs = ys))) := by
  show eqD _ _ = _
  unfold eqD
  rw [if_pos ⟨shaped_li xs, shaped_li ys⟩, show PyData.eqv (.list (xs.map PyData.int)) (.list (ys.map PyData.int)) = PyData.eqvAll (xs.map PyData.int) (ys.map PyData.int) from rfl, eqv_ints]
theorem neA_ti (xs ys : List Int) : neA (.tuple (xs.map PyData.int)) (.tuple (ys.map PyData.int)) = some (.bool (!decide (xs = ys))) := by
  show neD _ _ = _
  unfold neD
  rw [if_pos ⟨shaped_ti xs, shaped_ti ys⟩, show PyData.eqv (.tuple (xs.map PyData.int)) (.tuple (ys.map PyData.int)) = PyData.eqvAll (xs.map PyData.int) (ys.map PyData.int) from rfl, eqv_ints]
def prD : D → Bool
  | .tuple [.int a, .int b] => decide (0 ≤ a) && decide (0 ≤ b)
  | _ => false
theorem pair_int (p : Int × Int) (hp : List O) : f_is_pair [.d (pD p)] hp = .ok (.d (.bool (okP p))) hp := is_pair_yes _ _ hp
theorem lcPp (ps : List (Int × Int)) (loc : Ls) (hp : List O) (h0 : loc[0]? = some (some (.d (.tuple (ps.map pD))))) (hl : loc.length = 4) :
    lcM [3] (seqA (varM 0)) (gN 3) yesT (callM f_is_pair (consM (varM 3) nilM)) loc hp = .ok (.d (.list (ps.map fun p => .bool (okP p)))) hp := by
  rw [lcP (ps.map pD) prD (fun d hd hp => by
    obtain ⟨p, _, rfl⟩ := List.mem_map.mp hd
    exact pair_int p hp) loc hp h0 hl, List.map_map]
  rfl
theorem lcN0 (ps : List (Int × Int)) (loc : Ls) (hp : List O) (h0 : loc[0]? = some (some (.d (.tuple (ps.map pD))))) (hl : loc.length = 4) :
    lcM [3] (seqA (varM 0)) (gN 3) yesT (opM ixA (varM 3) (cM (.int 0))) loc hp = .ok (.d (.list ((fsI ps).map PyData.int))) hp := by
  rw [lcN (ps.map pD) 0 (fun d => match d with | .tuple [x, _] => x | _ => .none) (fun d hd => by
    obtain ⟨p, _, rfl⟩ := List.mem_map.mp hd
    rfl) loc hp h0 hl, List.map_map]
  unfold fsI
  rw [List.map_map]
  rfl
theorem lcN1 (ps : List (Int × Int)) (loc : Ls) (hp : List O) (h0 : loc[0]? = some (some (.d (.tuple (ps.map pD))))) (hl : loc.length = 4) :
    lcM [3] (seqA (varM 0)) (gN 3) yesT (opM ixA (varM 3) (cM (.int 1))) loc hp = .ok (.d (.list ((ssI ps).map PyData.int))) hp := by
  rw [lcN (ps.map pD) 1 (fun d => match d with | .tuple [_, x] => x | _ => .none) (fun d hd => by
    obtain ⟨p, _, rfl⟩ := List.mem_map.mp hd
    rfl) loc hp h0 hl, List.map_map]
  unfold ssI
  rw [List.map_map]
  rfl
def chk (ps : List (Int × Int)) : Bool := ps.all okP && (decide (fsI ps = sortI (fsI ps)) && (decide ((dedI (fsI ps)).length = (fsI ps).length) && decide ((dedI (ssI ps)).length = (ssI ps).length)))
theorem renaming_eq (ps : List (Int × Int)) (hp : List O) (hl : ps.length ≤ 4000) : f_is_a_renaming [.d (.tuple (ps.map pD))] hp = .ok (.d (.bool (chk ps))) hp := by
  have u1 := fun hp => are_unlike_eq (fsI ps) hp (by rw [fsI_len]; exact hl)
  have u2 := fun hp => are_unlike_eq (ssI ps) hp (by rw [ssI_len]; exact hl)
  have ea : (ps.map okP).all id = ps.all okP := List.all_map
  cases c : ps.all okP with
  | false => simp [f_is_a_renaming, m_is_a_renaming, runDef, seqM, ifM, orT, notT, tstM, isiM, unM, tyN, isB, ↓lcPp ps, blt, consM, nilM, allD, asBools_fn, ea, c, chk, varM, retM, cM, List.replicate]
  | true =>
    have base : f_is_a_renaming [.d (.tuple (ps.map pD))] hp = (match (if fsI ps = sortI (fsI ps) then (match decide ((dedI (fsI ps)).length = (fsI ps).length) with | true => decide ((dedI (ssI ps)).length = (ssI ps).length) | false => false) else false) with | b => Res.ok (.d (.bool b)) hp) := by
      by_cases c1 : fsI ps = sortI (fsI ps)
      · cases c2 : decide ((dedI (fsI ps)).length = (fsI ps).length) with
        | true => simp [f_is_a_renaming, m_is_a_renaming, runDef, seqM, ifM, orT, notT, tstM, isiM, unM, tyN, isB, ↓lcPp ps, ↓lcN0 ps, ↓lcN1 ps, blt, consM, nilM, allD, asBools_fn, ea, c, varM, retM, cM, parM, skipM, opM, andE, bindE, newD, sortF, eqA_li, callM, u1, u2, List.replicate, c2, ← c1]
        | false => simp [f_is_a_renaming, m_is_a_renaming, runDef, seqM, ifM, orT, notT, tstM, isiM, unM, tyN, isB, ↓lcPp ps, ↓lcN0 ps, ↓lcN1 ps, blt, consM, nilM, allD, asBools_fn, ea, c, varM, retM, cM, parM, skipM, opM, andE, bindE, newD, sortF, eqA_li, callM, u1, u2, List.replicate, c2, ← c1]
      · simp [f_is_a_renaming, m_is_a_renaming, runDef, seqM, ifM, orT, notT, tstM, isiM, unM, tyN, isB, ↓lcPp ps, ↓lcN0 ps, ↓lcN1 ps, blt, consM, nilM, allD, asBools_fn, ea, c, varM, retM, cM, parM, skipM, opM, andE, bindE, newD, sortF, eqA_li, callM, List.replicate, c1]
    rw [base]
    unfold chk
    rw [c]
    by_cases c1 : fsI ps = sortI (fsI ps)
    · rw [if_pos c1, decide_eq_true c1]
      cases decide ((dedI (fsI ps)).length = (fsI ps).length) <;> rfl
    · rw [if_neg c1, decide_eq_false c1]
      rfl
end Fs

set_option Elab.async false
set_option linter.all false
set_option maxRecDepth 100000
set_option maxHeartbeats 8000000
namespace Fs
open PySem PySem.Spec PyProof.Rows L2 Fz

/-! ### dict(renaming) -/
def kvI (p : Int × Int) : D × D := (.int p.1, .int p.2)
theorem pairsD_eq : ∀ ps : List (Int × Int), pairsD (ps.map pD) = some (ps.map kvI)
  | [] => rfl
  | p :: ps => by
    show ((toKey (.int p.1)).bind fun _ => (pairsD (ps.map pD)).map ((PyData.int p.1, PyData.int p.2) :: ·)) = _
    rw [pairsD_eq ps]; rfl
theorem put_new {ds : List (D × D)} {k v : D} (h : (ds.any fun p => keq p.1 k) = false) : putD ds k v = ds ++ [(k, v)] := by
  unfold putD
  rw [h, if_neg Bool.false_ne_true]
theorem any_kv (ps : List (Int × Int)) (n : Int) : ((ps.map kvI).any fun p => keq p.1 (.int n)) = decide (n ∈ fsI ps) := by
  induction ps with
  | nil => rfl
  | cons p ps ih =>
    rw [List.map_cons, List.any_cons, ih]
    show (decide (p.1 = n) || decide (n ∈ fsI ps)) = decide (n ∈ p.1 :: fsI ps)
    by_cases h : p.1 = n
    · simp [h]
    · have : ¬ n = p.1 := fun z => h z.symm
      simp [h, this]
theorem mergeD_eq (ps : List (Int × Int)) (h : (fsI ps).Nodup) : mergeD (ps.map kvI) = ps.map kvI := by
  have go : ∀ (qs ps : List (Int × Int)), (fsI (ps ++ qs)).Nodup → (qs.map kvI).foldl (fun acc p => putD acc p.1 p.2) (ps.map kvI) = (ps ++ qs).map kvI := by
    intro qs
    induction qs with
    | nil => intro ps _; simp
    | cons q qs ih =>
      intro ps h
      rw [List.map_cons, List.foldl_cons]
      have e : putD (ps.map kvI) (kvI q).1 (kvI q).2 = (ps ++ [q]).map kvI := by
        rw [put_new ?_]
        · rw [List.map_append]; rfl
        · rw [show (kvI q).1 = PyData.int q.1 from rfl, any_kv]
          refine decide_eq_false fun z => ?_
          unfold fsI at h z
          rw [List.map_append, List.map_cons] at h
          exact (List.nodup_append.mp h).2.2 _ z q.1 List.mem_cons_self rfl
      rw [e, ih (ps ++ [q]) (by rw [List.append_assoc]; exact h), List.append_assoc]
      rfl
  exact go ps [] h
theorem val_kv (ps : List (Int × Int)) (n : Int) : valD (ps.map kvI) (.int n) = (ps.find? fun p => decide (p.1 = n)).map fun p => PyData.int p.2 := by
  induction ps with
  | nil => rfl
  | cons p ps ih =>
    unfold valD at ih ⊢
    rw [List.map_cons, List.find?_cons, List.find?_cons]
    show Option.map _ (match decide (p.1 = n) with | true => some (kvI p) | false => (ps.map kvI).find? fun p => keq p.1 (.int n)) = _
    by_cases h : p.1 = n
    · rw [decide_eq_true h]; rfl
    · rw [decide_eq_false h]; exact ih
theorem vals_kv (ps : List (Int × Int)) : asInts ((ps.map kvI).map (·.2)) = some (ssI ps) := by
  rw [List.map_map]
  have : ps.map ((·.2) ∘ kvI) = (ssI ps).map PyData.int := by unfold ssI; rw [List.map_map]; rfl
  rw [this, asInts_map]
theorem keys_kv (ps : List (Int × Int)) : (ps.map kvI).map (·.1) = (fsI ps).map PyData.int := by
  rw [List.map_map]; unfold fsI; rw [List.map_map]; rfl

/-! ### image -/
def bumpZ (f : Int) (T : List Int) : Int := T.foldl (fun f t => if t ≤ f then f + 1 else f) f
def imgZ (ps : List (Int × Int)) (n : Int) : Int := match ps.find? (fun p => decide (p.1 = n)) with
  | some p => p.2
  | none => if n = -1 then -1 else bumpZ (n - (((fsI ps).filter fun s => decide (s < n)).length : Nat)) (sortI (ssI ps))
abbrev body4 : SM := ifM (tstM (opM leD (varM 4) (varM 3))) (augM 3 plusD (cM (.int 1))) skipM
theorem loop_img (T : List Int) (f : Int) (loc : Ls) (hp : List O) (h3 : loc[3]? = some (some (.d (.int f)))) (hl : loc.length = 6) :
    ∃ loc', forGo none (gN 4) body4 ((T.map PyData.int).map Vl.d) loc hp = .ok .nx loc' hp ∧ loc'[3]? = some (some (.d (.int (bumpZ f T)))) := by
  obtain ⟨loc', hp', e, h1, h2, h3⟩ := for_inv (tg := gN 4) (body := body4) (keep := none) (items := (T.map PyData.int).map Vl.d) (i := 0) (fun i loc hp' => hp' = hp ∧ loc.length = 6 ∧ loc[3]? = some (some (.d (.int (bumpZ f (T.take i)))))) (loc := loc) (hp := hp)
    ⟨rfl, hl, by simpa [bumpZ] using h3⟩ (fun _ _ _ _ => trivial) (by
    rintro k v loc hp' hv ⟨rfl, l6, hf⟩
    rw [List.map_map, List.getElem?_map] at hv
    cases q : T[k]? with
    | none => rw [q] at hv; cases hv
    | some t =>
      rw [q] at hv
      have hv' : some (Vl.d (PyData.int t)) = some v := hv
      cases hv'
      rw [Nat.zero_add] at hf
      have hf' : loc[3]? = some (some (Vl.d (.int (bumpZ f (T.take k))))) := hf
      have et : T.take (k + 1) = T.take k ++ [t] := by rw [List.take_add_one, q]; rfl
      have eb : bumpZ f (T.take (k + 1)) = if t ≤ bumpZ f (T.take k) then bumpZ f (T.take k) + 1 else bumpZ f (T.take k) := by
        unfold bumpZ
        rw [et, List.foldl_append]; rfl
      refine ⟨_, rfl, ?_⟩
      by_cases c : t ≤ bumpZ f (T.take k)
      · refine ⟨(loc.set 4 (some (.d (.int t)))).set 3 (some (.d (.int (bumpZ f (T.take k) + 1)))), hp', .inl ?_, rfl, by simp [l6], ?_⟩
        · have v3 := fun hp => varM_at (set_at (j := 4) (x := some (Vl.d (.int t))) (by decide) hf') hp
          have a3 := fun a hp => augM_at (f := plusD) (a := a) (set_at (j := 4) (x := some (Vl.d (.int t))) (by decide) hf') hp
          simp only [body4, gN, ifM, tstM, opM, v3, varM_eq (show 4 < loc.length by omega), bind_ok, view_d, leD, intOp0, decide_eq_true c, okD_some, toS_ok, if_pos, ↓a3, plusD, cM]
        · rw [Nat.zero_add, eb, if_pos c]; simp [l6]
      · refine ⟨loc.set 4 (some (.d (.int t))), hp', .inl ?_, rfl, by simp [l6], ?_⟩
        · have v3 := fun hp => varM_at (set_at (j := 4) (x := some (Vl.d (.int t))) (by decide) hf') hp
          simp only [body4, gN, ifM, tstM, opM, v3, varM_eq (show 4 < loc.length by omega), bind_ok, view_d, leD, intOp0, decide_eq_false c, okD_some, toS_ok, if_neg Bool.false_ne_true, skipM]
        · rw [Nat.zero_add, eb, if_neg c]; simp [hf'])
  have e2 : T.take (0 + ((T.map PyData.int).map Vl.d).length) = T := by rw [List.length_map, List.length_map, Nat.zero_add, List.take_length]
  rw [e2] at h3
  exact ⟨loc', by rw [e, h1], h3⟩
def ltB (n : Int) : D → Bool
  | .int s => decide (s < n)
  | _ => false
theorem lcI (kvs : List (D × D)) (ns : List Int) (n : Int) (hk : kvs.map (·.1) = ns.map PyData.int) (hz : kvs.length ≤ 10000000) (loc : Ls) (hp : List O) (h1 : loc[1]? = some (some (.d (.int n)))) (h2 : loc[2]? = some (some (.d (.dict kvs)))) (hl : loc.length = 6) :
    lcM [5] (seqA (varM 2)) (gN 5) (tstM (opM ltD (varM 5) (varM 1))) (varM 5) loc hp = .ok (.d (.list ((ns.filter fun s => decide (s < n)).map PyData.int))) hp := by
  have w1 : (wipeL loc [5])[1]? = some (some (.d (.int n))) := by
    show (loc.set 5 none)[1]? = _
    rw [List.getElem?_set_ne (by decide)]; exact h1
  have wl : (wipeL loc [5]).length = 6 := by show (loc.set 5 none).length = 6; rw [List.length_set]; exact hl
  have e := lc_filt (f := gN 5) (tt := tstM (opM ltD (varM 5) (varM 1))) (te := varM 5) (lw := wipeL loc [5]) (c := ltB n) (h := fun d => d) (ds := ns.map PyData.int) (b := hp) (acc := []) fun d hd hp => by
    obtain ⟨s, _, rfl⟩ := List.mem_map.mp hd
    have v5 : ∀ hp, varM 5 ((wipeL loc [5]).set 5 (some (Vl.d (.int s)))) hp = .ok (.d (.int s)) hp := fun hp => varM_eq (by omega) hp
    have v1 : ∀ hp, varM 1 ((wipeL loc [5]).set 5 (some (Vl.d (.int s)))) hp = .ok (.d (.int n)) hp := fun hp => varM_at (set_at (by decide) w1) hp
    exact ⟨_, rfl, by simp only [tstM, opM, v5, v1, bind_ok, view_d, ltD, intOp0, okD_some, ltB], v5 hp⟩
  have ef : ((ns.map PyData.int).filter (ltB n)) = (ns.filter fun s => decide (s < n)).map PyData.int := by rw [List.filter_map]; rfl
  have v2 := fun hp => varM_at h2 hp
  rw [ef] at e
  simp only [lcM, seqA, v2, bind_ok, if_pos hz, hk, e, List.nil_append, List.map_id']
theorem eqA_m1 (n : Int) : eqA (.int n) (.int (-1)) = some (.bool (decide (n = -1))) := eqA_int n (-1)
theorem dictF_eq (ps : List (Int × Int)) (hp : List O) (nd : (fsI ps).Nodup) (hz : ps.length ≤ 10000000) (loc : Ls) (h0 : loc[0]? = some (some (.d (.tuple (ps.map pD))))) :
    frzM (bindE (varM 0) (newDic dicF)) loc hp = .ok (.d (.dict (ps.map kvI))) (hp ++ [.gone]) := by
  have v0 := fun hp => varM_at h0 hp
  have hz' : (ps.map pD).length ≤ 10000000 := by rw [List.length_map]; exact hz
  have e1 : dicF (.d (.tuple (ps.map pD))) hp = some (ps.map kvI) := by
    unfold dicF
    simp only [view_d, if_pos hz', pairsD_eq, Option.map_some, mergeD_eq ps nd]
  have e2 : (hp ++ [O.dic (ps.map kvI)])[hp.length]? = some (.dic (ps.map kvI)) := by rw [List.getElem?_append_right (Nat.le_refl _)]; simp
  have e3 : (hp ++ [O.dic (ps.map kvI)]).set hp.length .gone = hp ++ [.gone] := by rw [List.set_append_right _ _ (Nat.le_refl _)]; simp
  simp only [frzM, bindE, v0, bind_ok, newDic, e1, e2, e3]
theorem find_none {ps : List (Int × Int)} {n : Int} : (ps.find? fun p => decide (p.1 = n)) = none ↔ n ∉ fsI ps := by
  unfold fsI
  rw [List.find?_eq_none, List.mem_map]
  constructor
  · rintro h ⟨p, hp, e⟩
    exact h p hp (by simpa using e)
  · intro h p hp z
    exact h ⟨p, hp, by simpa using z⟩
theorem image_eq (ps : List (Int × Int)) (n : Int) (hp : List O) (nd : (fsI ps).Nodup) (hz : ps.length < 64) : f_image [.d (.tuple (ps.map pD)), .d (.int n)] hp = .ok (.d (.int (imgZ ps n))) hp := by
  have hz1 : (ps.map kvI).length ≤ 10000000 := by rw [List.length_map]; omega
  have dE := fun loc hp h0 => dictF_eq ps hp nd (by omega) loc h0
  have hv : (valD (ps.map kvI) (.int n)) = (ps.find? fun p => decide (p.1 = n)).map fun p => PyData.int p.2 := val_kv ps n
  have tk : (hp ++ [O.gone]).take hp.length = hp := List.take_left
  have l1 := dE [some (.d (.tuple (ps.map pD))), some (.d (.int n)), none, none, none, none] hp rfl
  unfold imgZ
  cases q : ps.find? (fun p => decide (p.1 = n)) with
  | some p =>
    rw [q] at hv
    by_cases c : n = -1
    · subst c
      simp [f_image, m_image, runDef, seqM, asgM, ↓l1, ifM, orT, tstM, opM, varM, cM, eqA_m1, retM, get2M, toKey, List.replicate, tk, hv]
    · simp [f_image, m_image, runDef, seqM, asgM, ↓l1, ifM, orT, tstM, opM, varM, cM, eqA_m1, c, retM, get2M, toKey, List.replicate, tk, inD, hv]
  | none =>
    rw [q] at hv
    by_cases c : n = -1
    · subst c
      simp [f_image, m_image, runDef, seqM, asgM, ↓l1, ifM, orT, tstM, opM, varM, cM, eqA_m1, retM, get2M, toKey, List.replicate, tk, hv]
    · have l2 := lcI (ps.map kvI) (fsI ps) n (keys_kv ps) hz1 [some (.d (.tuple (ps.map pD))), some (.d (.int n)), some (.d (.dict (ps.map kvI))), none, none, none] (hp ++ [.gone]) rfl rfl rfl
      have hs : newD sortVF (.d (.dict (ps.map kvI))) (hp ++ [.gone]) = .ok (.d (.list ((sortI (ssI ps)).map PyData.int))) (hp ++ [.gone]) := by
        unfold newD sortVF
        simp only [view_d, vals_kv, Option.bind, if_pos (show (ssI ps).length < 64 by rw [ssI_len]; exact hz)]
      obtain ⟨loc', e4, h4⟩ := loop_img (sortI (ssI ps)) (n - (((fsI ps).filter fun s => decide (s < n)).length : Nat)) [some (.d (.tuple (ps.map pD))), some (.d (.int n)), some (.d (.dict (ps.map kvI))), some (.d (.int (n - (((fsI ps).filter fun s => decide (s < n)).length : Nat)))), none, none] (hp ++ [.gone]) rfl rfl
      have v4 := varM_at h4
      have fM : Fz.forM (seqA (bindE (varM 2) (newD sortVF))) (gN 4) body4 [some (.d (.tuple (ps.map pD))), some (.d (.int n)), some (.d (.dict (ps.map kvI))), some (.d (.int (n - (((fsI ps).filter fun s => decide (s < n)).length : Nat)))), none, none] (hp ++ [.gone]) = .ok .nx loc' (hp ++ [.gone]) := by
        unfold Fz.forM seqA bindE
        have v2 : varM 2 [some (.d (.tuple (ps.map pD))), some (.d (.int n)), some (.d (.dict (ps.map kvI))), some (.d (.int (n - (((fsI ps).filter fun s => decide (s < n)).length : Nat)))), none, none] (hp ++ [.gone]) = .ok (.d (.dict (ps.map kvI))) (hp ++ [.gone]) := rfl
        simp only [v2, bind_ok, hs, toS_ok, e4]
      simp [f_image, m_image, runDef, seqM, asgM, ↓l1, ↓l2, ↓fM, ifM, orT, tstM, opM, varM, cM, eqA_m1, c, retM, skipM, toKey, List.replicate, tk, inD, hv, bindE, lenF, lenD, subD, intOp0, h4]

end Fs

set_option Elab.async false
set_option linter.all false
set_option maxRecDepth 100000
set_option maxHeartbeats 8000000
namespace Fs
open PySem PySem.Spec PyProof.Rows L2 Fz Ren

/-! ### renamings of natural names as data -/
def toZ (R : NP) : List (Int × Int) := R.map fun p : Nat × Nat => ((p.1 : Int), (p.2 : Int))
def zs (l : List Nat) : List Int := l.map fun n : Nat => (n : Int)
abbrev rD (R : NP) : D := .tuple ((toZ R).map pD)
abbrev nD (l : List Nat) : D := .tuple ((zs l).map PyData.int)
theorem fs_toZ (R : NP) : fsI (toZ R) = zs (R.map (·.1)) := by unfold fsI toZ zs; rw [List.map_map, List.map_map]; rfl
theorem ss_toZ (R : NP) : ssI (toZ R) = zs (R.map (·.2)) := by unfold ssI toZ zs; rw [List.map_map, List.map_map]; rfl
theorem zs_nodup {l : List Nat} : (zs l).Nodup ↔ l.Nodup := by
  unfold zs
  constructor
  · intro h
    exact (List.pairwise_map.mp h).imp fun h z => h (by rw [z])
  · intro h
    exact List.pairwise_map.mpr (h.imp fun h z => h (Int.ofNat_inj.mp z))
theorem insB_map {α β : Type} {le : β → β → Bool} {le' : α → α → Bool} {f : α → β} (h : ∀ a b, le (f a) (f b) = le' a b) (x : α) : ∀ l : List α, insB le (f x) (l.map f) = (insB le' x l).map f
  | [] => rfl
  | y :: r => by
    rw [List.map_cons]
    unfold insB
    rw [h]
    split
    · rfl
    · rw [insB_map h x r]; rfl
theorem sortB_map {α β : Type} {le : β → β → Bool} {le' : α → α → Bool} {f : α → β} (h : ∀ a b, le (f a) (f b) = le' a b) : ∀ l : List α, sortB le (l.map f) = (sortB le' l).map f
  | [] => rfl
  | x :: r => by
    show insB le (f x) (sortB le (r.map f)) = (insB le' x (sortB le' r)).map f
    rw [sortB_map h r, insB_map h]
theorem sortI_zs (l : List Nat) : sortI (zs l) = zs (srtN l) := sortB_map (fun a b => decide_eq_decide.mpr Int.ofNat_le) l
theorem dedI_zs (l : List Nat) : dedI (zs l) = zs (dedN l) := by
  have go : ∀ (l acc : List Nat), (zs l).foldl (fun acc x => if x ∈ acc then acc else acc ++ [x]) (zs acc) = zs (l.foldl (fun acc x => if x ∈ acc then acc else acc ++ [x]) acc) := by
    intro l
    induction l with
    | nil => intro acc; rfl
    | cons x l ih =>
      intro acc
      show (zs l).foldl _ (if (x : Int) ∈ zs acc then zs acc else zs acc ++ [(x : Int)]) = zs (l.foldl _ (if x ∈ acc then acc else acc ++ [x]))
      have e : ((x : Int) ∈ zs acc) ↔ x ∈ acc := by
        unfold zs
        rw [List.mem_map]
        constructor
        · rintro ⟨y, hy, e⟩
          rw [← Int.ofNat_inj.mp e]; exact hy
        · intro h
          exact ⟨x, h, rfl⟩
      by_cases c : x ∈ acc
      · rw [if_pos (e.mpr c), if_pos c, ih]
      · rw [if_neg (fun z => c (e.mp z)), if_neg c, ← ih]
        congr 1
        unfold zs
        rw [List.map_append]; rfl
  exact go l []
theorem bumpZ_zs (T : List Nat) : ∀ f : Nat, bumpZ f (zs T) = (bump f T : Nat) := by
  induction T with
  | nil => intro f; rfl
  | cons t T ih =>
    intro f
    show bumpZ (if (t : Int) ≤ (f : Int) then (f : Int) + 1 else f) (zs T) = ((bump (if t ≤ f then f + 1 else f) T : Nat) : Int)
    by_cases c : t ≤ f
    · rw [if_pos (Int.ofNat_le.mpr c), if_pos c]; exact ih (f + 1)
    · rw [if_neg (fun z => c (Int.ofNat_le.mp z)), if_neg c]; exact ih f
theorem find_toZ (R : NP) (n : Nat) : (toZ R).find? (fun p => decide (p.1 = (n : Int))) = (R.find? fun p => decide (p.1 = n)).map fun p : Nat × Nat => ((p.1 : Int), (p.2 : Int)) := by
  induction R with
  | nil => rfl
  | cons p R ih =>
    show List.find? _ (((p.1 : Int), (p.2 : Int)) :: toZ R) = _
    rw [List.find?_cons, List.find?_cons]
    by_cases c : p.1 = n
    · rw [decide_eq_true c, decide_eq_true (Int.ofNat_inj.mpr c : (p.1 : Int) = (n : Int))]; rfl
    · rw [decide_eq_false c, decide_eq_false (fun z : (p.1 : Int) = (n : Int) => c (Int.ofNat_inj.mp z))]; exact ih
theorem filt_zs (l : List Nat) (n : Nat) : ((zs l).filter fun s => decide (s < (n : Int))).length = (l.filter fun s => decide (s < n)).length := by
  unfold zs
  rw [List.filter_map, List.length_map]
  exact congrArg List.length (List.filter_congr fun x _ => decide_eq_decide.mpr Int.ofNat_lt)
theorem imgZ_eq (R : NP) (V : Valid R) (n : Nat) : imgZ (toZ R) n = (img R n : Nat) := by
  unfold imgZ img
  rw [find_toZ]
  cases q : R.find? fun p => decide (p.1 = n) with
  | some p => rfl
  | none =>
    show (if (n : Int) = -1 then (-1 : Int) else _) = _
    rw [if_neg (by omega), fs_toZ, ss_toZ, filt_zs, sortI_zs]
    have h := cnt_eq (pw_nodup V.fs) n
    have e : (n : Int) - (((R.map (·.1)).filter fun s => decide (s < n)).length : Nat) = ((n - ((R.map (·.1)).filter fun s => decide (s < n)).length : Nat) : Int) := by omega
    rw [e, bumpZ_zs]
theorem toZ_len (R : NP) : (toZ R).length = R.length := List.length_map _
theorem image_R (R : NP) (V : Valid R) (hz : R.length < 64) (n : Nat) (hp : List O) : f_image [.d (rD R), .d (.int n)] hp = .ok (.d (.int (img R n : Nat))) hp := by
  rw [image_eq (toZ R) n hp (by rw [fs_toZ]; exact zs_nodup.mpr (pw_nodup V.fs)) (by rw [toZ_len]; exact hz), imgZ_eq R V]
theorem chk_R (R : NP) (V : Valid R) : chk (toZ R) = true := by
  unfold chk
  have h1 : (toZ R).all okP = true := by
    unfold toZ
    rw [List.all_map, List.all_eq_true]
    intro p _
    show (decide ((0 : Int) ≤ (p.1 : Int)) && decide ((0 : Int) ≤ (p.2 : Int))) = true
    rw [decide_eq_true (Int.natCast_nonneg _), decide_eq_true (Int.natCast_nonneg _)]; rfl
  have h2 : fsI (toZ R) = sortI (fsI (toZ R)) := by
    rw [fs_toZ]
    exact sortI_uniq (.refl _) (List.pairwise_map.mpr (V.fs.imp fun h => Int.ofNat_le.mpr (Nat.le_of_lt h)))
  have n1 : (fsI (toZ R)).Nodup := by rw [fs_toZ]; exact zs_nodup.mpr (pw_nodup V.fs)
  have n2 : (ssI (toZ R)).Nodup := by rw [ss_toZ]; exact zs_nodup.mpr V.ss
  rw [h1, decide_eq_true h2, dedI_of_nodup n1, dedI_of_nodup n2, decide_eq_true rfl, decide_eq_true rfl]
  rfl
theorem need_R (R : NP) (V : Valid R) (hz : R.length ≤ 4000) (hp : List O) : f_need_renaming [.d (rD R)] hp = .ok (.d .none) hp := by
  have e := fun hp => renaming_eq (toZ R) hp (by rw [toZ_len]; exact hz)
  rw [chk_R R V] at e
  simp [f_need_renaming, m_need_renaming, runDef, ifM, notT, tstM, callM, consM, nilM, varM, e, skipM, List.replicate]
theorem is_R (R : NP) (V : Valid R) (hz : R.length ≤ 4000) (hp : List O) : f_is_renaming [.d (rD R)] hp = .ok (.d (.bool true)) hp := by
  have e := fun hp => renaming_eq (toZ R) hp (by rw [toZ_len]; exact hz)
  rw [chk_R R V] at e
  simp [f_is_renaming, m_is_renaming, runDef, retM, callM, consM, nilM, varM, e, List.replicate]

/-! ### turned -/
def sw (p : Int × Int) : Int × Int := (p.2, p.1)
theorem lcS (ps : List (Int × Int)) (loc : Ls) (hp : List O) (h0 : loc[0]? = some (some (.d (.tuple (ps.map pD))))) (hl : loc.length = 3) :
    lcM [1, 2] (seqA (varM 0)) (gT [gN 1, gN 2]) yesT (tupM (consM (varM 2) (consM (varM 1) nilM))) loc hp = .ok (.d (.list ((ps.map sw).map pD))) hp := by
  have wl : (wipeL loc [1, 2]).length = 3 := by show ((loc.set 2 none).set 1 none).length = 3; rw [List.length_set, List.length_set]; exact hl
  have e := lc_pure (f := gT [gN 1, gN 2]) (te := tupM (consM (varM 2) (consM (varM 1) nilM))) (lw := wipeL loc [1, 2]) (h := fun d => match d with | .tuple [x, y] => .tuple [y, x] | _ => .none) (ds := ps.map pD) (b := hp) (acc := []) fun d hd hp => by
    obtain ⟨p, _, rfl⟩ := List.mem_map.mp hd
    have v2 : ∀ hp, varM 2 (((wipeL loc [1, 2]).set 1 (some (Vl.d (.int p.1)))).set 2 (some (Vl.d (.int p.2)))) hp = .ok (.d (.int p.2)) hp := fun hp => varM_eq (by rw [List.length_set]; omega) hp
    have v1 : ∀ hp, varM 1 (((wipeL loc [1, 2]).set 1 (some (Vl.d (.int p.1)))).set 2 (some (Vl.d (.int p.2)))) hp = .ok (.d (.int p.1)) hp := fun hp => by rw [varM_ne (by decide)]; exact varM_eq (by omega) hp
    exact ⟨_, rfl, by simp only [tupM, consM, nilM, v1, v2, bind_ok, allData_cons, allData_nil, Option.map_some]; rfl⟩
  have v0 := fun hp => varM_at h0 hp
  have em : (ps.map pD).map (fun d => match d with | .tuple [x, y] => PyData.tuple [y, x] | _ => .none) = (ps.map sw).map pD := by rw [List.map_map, List.map_map]; rfl
  rw [em] at e
  simp only [lcM, seqA, v0, bind_ok, e, List.nil_append]
theorem sortF_pairs (ps : List (Int × Int)) (hp : List O) : newD sortF (.d (.list (ps.map pD))) hp = .ok (.d (.list ((sortP ps).map pD))) hp := by
  unfold newD sortF
  cases ps with
  | nil => rfl
  | cons p ps =>
    have e1 : asInts ((p :: ps).map pD) = none := rfl
    simp only [view_d, e1, asPairs_map, Option.map_some]
theorem turned_eq (ps : List (Int × Int)) (hp : List O) : f_turned [.d (.tuple (ps.map pD))] hp = .ok (.d (.tuple ((sortP (ps.map sw)).map pD))) hp := by
  have l1 := lcS ps [some (.d (.tuple (ps.map pD))), none, none] hp rfl rfl
  have s1 := sortF_pairs (ps.map sw) hp
  have rr : ∀ v : D, (match RS.ok (.rt (.d v)) [some (Vl.d (.tuple (ps.map pD))), none, none] hp with
    | .ok (.rt v) _ hp1 => finD hp.length v hp1
    | .ok .nx _ hp1 => .ok (.d .none) (hp1.take hp.length)
    | .ok _ _ _ => .bad
    | .exc e _ hp1 => .exc e (hp1.take hp.length)
    | .bad => .bad) = Res.ok (.d v) hp := fun v => by simp
  simp only [f_turned, m_turned, runDef, List.length_cons, List.length_nil, if_pos, List.map_cons, List.map_nil, List.replicate, List.cons_append, List.nil_append, retM, blt, consM, bindE, ↓l1, bind_ok, s1, nilM, viewsD_cons, viewsD_nil, Option.map_some, tupleD, okD_some, toS_ok, Nat.zero_add]
  simp
theorem turn_toZ (R : NP) : sortP ((toZ R).map sw) = toZ (turn R) := by
  have e : (toZ R).map sw = (R.map fun p => (p.2, p.1)).map fun p : Nat × Nat => ((p.1 : Int), (p.2 : Int)) := by
    unfold toZ
    rw [List.map_map, List.map_map]; rfl
  rw [e]
  refine sortB_map (f := fun p : Nat × Nat => ((p.1 : Int), (p.2 : Int))) (fun a b => ?_) _
  rw [Bool.eq_iff_iff, leP_iff, decide_eq_true_iff]
  omega
theorem turned_R (R : NP) (hp : List O) : f_turned [.d (rD R)] hp = .ok (.d (rD (turn R))) hp := by rw [turned_eq, turn_toZ]
end Fs

set_option Elab.async false
set_option linter.all false
set_option maxRecDepth 100000
set_option maxHeartbeats 8000000
namespace Fs
open PySem PySem.Spec PyProof.Rows L2 Fz Ren

/-- a comprehension over data by a pure element -/
theorem lcM_eq {j : Nat} {im : IM} {te : EM} {loc : Ls} {hp hp1 : List O} {ds : List D} {h : D → D} (him : im loc hp = .ok (none, ds.map Vl.d) hp1) (H : ∀ d ∈ ds, ∀ hp, te ((wipeL loc [j]).set j (some (.d d))) hp = .ok (.d (h d)) hp) :
    lcM [j] im (gN j) yesT te loc hp = .ok (.d (.list (ds.map h))) hp1 := by
  have e := lc_pure (f := gN j) (te := te) (lw := wipeL loc [j]) (h := h) (ds := ds) (b := hp1) (acc := []) fun d hd hp => ⟨_, rfl, H d hd hp⟩
  simp only [lcM, him, bind_ok, e, List.nil_append]
theorem lcImg (R : NP) (V : Valid R) (hz : R.length < 64) (l : List Nat) (hp : List O) :
    lcM [2] (seqA (varM 1)) (gN 2) yesT (callM f_image (consM (varM 0) (consM (varM 2) nilM))) [some (.d (rD R)), some (.d (nD l)), none] hp = .ok (.d (.list ((zs (l.map (img R))).map PyData.int))) hp := by
  rw [lcM_eq (ds := (zs l).map PyData.int) (h := fun d => match d with | .int i => .int (img R i.toNat : Nat) | _ => .none) rfl ?_]
  · unfold zs
    rw [List.map_map, List.map_map, List.map_map, List.map_map]
    rfl
  · intro d hd hp
    obtain ⟨i, hi, rfl⟩ := List.mem_map.mp hd
    obtain ⟨k, _, rfl⟩ := List.mem_map.mp hi
    exact image_R R V hz k hp
theorem images_R (R : NP) (V : Valid R) (hz : R.length < 64) (l : List Nat) (hp : List O) : f_images [.d (rD R), .d (nD l)] hp = .ok (.d (nD (l.map (img R)))) hp := by
  have e := lcImg R V hz l hp
  simp [f_images, m_images, runDef, retM, blt, consM, nilM, ↓e, tupleD, List.replicate]
def natB : D → Bool
  | .int i => decide ((-1 : Int) ≤ i)
  | _ => false
theorem lcVal (l : List Nat) (hp : List O) :
    lcM [1] (seqA (varM 0)) (gN 1) yesT (callM f_is_between (consM (varM 1) (consM (cM (.int (-1))) (consM (varM 1) nilM)))) [some (.d (nD l)), none] hp = .ok (.d (.list (((zs l).map PyData.int).map fun d => .bool (natB d)))) hp := by
  refine lcM_eq rfl ?_
  intro d hd hp
  obtain ⟨i, hi, rfl⟩ := List.mem_map.mp hd
  have e := between_int i (-1) i hp
  have hh : natB (.int i) = (decide ((-1 : Int) ≤ i) && decide (i ≤ i)) := by simp [natB]
  rw [hh]
  exact e
theorem values_nat (l : List Nat) (hp : List O) : f_are_values [.d (nD l)] hp = .ok (.d (.bool true)) hp := by
  have e := lcVal l hp
  have a : ((((zs l).map PyData.int).map natB).all id) = true := by
    rw [List.all_map, List.all_map, List.all_eq_true]
    intro i hi
    obtain ⟨k, _, rfl⟩ := List.mem_map.mp hi
    show decide ((-1 : Int) ≤ (k : Int)) = true
    exact decide_eq_true (by omega)
  have b : blt allD (consM (lcM [1] (seqA (varM 0)) (gN 1) yesT (callM f_is_between (consM (varM 1) (consM (cM (.int (-1))) (consM (varM 1) nilM))))) nilM) [some (.d (nD l)), none] hp = .ok (.d (.bool true)) hp := by
    simp only [blt, consM, nilM, ↓e, bind_ok, viewsD_cons, viewsD_nil, Option.map_some, allD, asBools_fn, a, okD_some]
  simp [f_are_values, m_are_values, runDef, retM, andE, isiM, unM, ↓b, varM, tyN, isB, List.replicate]
theorem renamed_R (R : NP) (V : Valid R) (hz : R.length < 64) (l : List Nat) (hp : List O) : f_renamed [.d (rD R), .d (nD l)] hp = .ok (.d (nD (l.map (img R)))) hp := by
  have e1 := fun hp => need_R R V (by omega) hp
  have e2 := fun hp => values_nat l hp
  have e3 := fun hp => images_R R V hz l hp
  simp [f_renamed, m_renamed, runDef, seqM, exprM, ifM, notT, tstM, retM, callM, consM, nilM, varM, e1, e2, e3, skipM, List.replicate]
theorem contrary_R (R : NP) (V : Valid R) (hz : R.length < 64) (hp : List O) : f_contrary [.d (rD R)] hp = .ok (.d (rD (turn R))) hp := by
  have e1 := fun hp => need_R R V (by omega) hp
  have e2 := fun hp => turned_R R hp
  simp [f_contrary, m_contrary, runDef, seqM, exprM, retM, callM, consM, nilM, varM, e1, e2, List.replicate]

/-! ### joined -/
theorem lcF (R : NP) (i : Nat) (loc : Ls) (hp : List O) (hi : loc[i]? = some (some (.d (rD R)))) (hl : loc.length = 7) :
    lcM [5, 6] (seqA (varM i)) (gT [gN 5, gN 6]) yesT (varM 5) loc hp = .ok (.d (.list ((zs (R.map (·.1))).map PyData.int))) hp := by
  have wl : (wipeL loc [5, 6]).length = 7 := by show ((loc.set 6 none).set 5 none).length = 7; rw [List.length_set, List.length_set]; exact hl
  have e := lc_pure (f := gT [gN 5, gN 6]) (te := varM 5) (lw := wipeL loc [5, 6]) (h := fun d => match d with | .tuple [x, _] => x | _ => .none) (ds := (toZ R).map pD) (b := hp) (acc := []) fun d hd hp => by
    obtain ⟨p, _, rfl⟩ := List.mem_map.mp hd
    exact ⟨_, rfl, by rw [varM_ne (by decide)]; exact varM_eq (by omega) hp⟩
  have v0 := fun hp => varM_at hi hp
  have em : ((toZ R).map pD).map (fun d => match d with | .tuple [x, _] => x | _ => .none) = (zs (R.map (·.1))).map PyData.int := by
    rw [← fs_toZ, List.map_map]; unfold fsI; rw [List.map_map]; rfl
  rw [em] at e
  simp only [lcM, seqA, v0, bind_ok, e, List.nil_append]
theorem lcB (T R : NP) (V : Valid T) (hz : T.length < 64) (loc : Ls) (hp : List O) (h1 : loc[1]? = some (some (.d (rD R)))) (h2 : loc[2]? = some (some (.d (rD T)))) (hl : loc.length = 7) :
    lcM [5, 6] (seqA (varM 1)) (gT [gN 5, gN 6]) yesT (callM f_image (consM (varM 2) (consM (varM 5) nilM))) loc hp = .ok (.d (.list ((zs (R.map fun p => img T p.1)).map PyData.int))) hp := by
  have wl : (wipeL loc [5, 6]).length = 7 := by show ((loc.set 6 none).set 5 none).length = 7; rw [List.length_set, List.length_set]; exact hl
  have w2 : (wipeL loc [5, 6])[2]? = some (some (.d (rD T))) := by
    show ((loc.set 6 none).set 5 none)[2]? = _
    rw [List.getElem?_set_ne (by decide), List.getElem?_set_ne (by decide)]; exact h2
  have e := lc_pure (f := gT [gN 5, gN 6]) (te := callM f_image (consM (varM 2) (consM (varM 5) nilM))) (lw := wipeL loc [5, 6]) (h := fun d => match d with | .tuple [.int x, _] => .int (img T x.toNat : Nat) | _ => .none) (ds := (toZ R).map pD) (b := hp) (acc := []) fun d hd hp => by
    obtain ⟨p, hp', rfl⟩ := List.mem_map.mp hd
    obtain ⟨q, _, rfl⟩ := List.mem_map.mp hp'
    refine ⟨((wipeL loc [5, 6]).set 5 (some (Vl.d (.int (q.1 : Int))))).set 6 (some (Vl.d (.int (q.2 : Int)))), rfl, ?_⟩
    have v5 : ∀ hp, varM 5 (((wipeL loc [5, 6]).set 5 (some (Vl.d (.int (q.1 : Int))))).set 6 (some (Vl.d (.int (q.2 : Int))))) hp = .ok (.d (.int (q.1 : Int))) hp := fun hp => by rw [varM_ne (by decide)]; exact varM_eq (by omega) hp
    have v2 : ∀ hp, varM 2 (((wipeL loc [5, 6]).set 5 (some (Vl.d (.int (q.1 : Int))))).set 6 (some (Vl.d (.int (q.2 : Int))))) hp = .ok (.d (rD T)) hp := fun hp => varM_at (set_at (by decide) (set_at (by decide) w2)) hp
    simp only [callM, consM, nilM, v5, v2, bind_ok]
    exact image_R T V hz q.1 hp
  have v0 := fun hp => varM_at h1 hp
  have em : ((toZ R).map pD).map (fun d => match d with | .tuple [.int x, _] => PyData.int (img T x.toNat : Nat) | _ => .none) = (zs (R.map fun p => img T p.1)).map PyData.int := by
    unfold zs toZ
    rw [List.map_map, List.map_map, List.map_map, List.map_map]; rfl
  rw [em] at e
  simp only [lcM, seqA, v0, bind_ok, e, List.nil_append]
theorem dedN_len (l : List Nat) : (dedN l).length ≤ l.length := by
  have go : ∀ (l acc : List Nat), (l.foldl (fun acc x => if x ∈ acc then acc else acc ++ [x]) acc).length ≤ acc.length + l.length := by
    intro l
    induction l with
    | nil => intro acc; simp
    | cons x l ih =>
      intro acc
      rw [List.foldl_cons]
      refine Nat.le_trans (ih _) ?_
      split
      · rw [List.length_cons]; omega
      · rw [List.length_append, List.length_cons, List.length_cons, List.length_nil]; omega
  have := go l []
  simpa [dedN] using this
theorem keys_len (R1 R2 : NP) : (keys R1 R2).length ≤ R1.length + R2.length := by
  unfold keys
  rw [(srtN_perm _).length_eq]
  refine Nat.le_trans (dedN_len _) ?_
  rw [List.length_append, List.length_map, List.length_map]
  exact Nat.le_refl _
theorem join_len (R1 R2 : NP) : (join R1 R2).length ≤ R1.length + R2.length := by
  unfold join
  rw [List.length_map]; exact keys_len R1 R2
theorem turn_len (R : NP) : (turn R).length = R.length := by rw [(turn_perm R).length_eq, List.length_map]
theorem joined_R (R1 R2 : NP) (V1 : Valid R1) (V2 : Valid R2) (hz : R1.length + R2.length < 64) (hp : List O) : f_joined [.d (rD R1), .d (rD R2)] hp = .ok (.d (rD (join R1 R2))) hp := by
  have e1 := fun hp => need_R R1 V1 (by omega) hp
  have e2 := fun hp => need_R R2 V2 (by omega) hp
  have e3 := fun hp => turned_R R1 hp
  have l1 := lcF R1 0 [some (.d (rD R1)), some (.d (rD R2)), some (.d (rD (turn R1))), none, none, none, none] hp rfl rfl
  have l2 := lcB (turn R1) R2 (turn_valid V1) (by rw [turn_len]; omega) [some (.d (rD R1)), some (.d (rD R2)), some (.d (rD (turn R1))), none, none, none, none] hp rfl rfl rfl
  have ea : (zs (R1.map (·.1))).map PyData.int ++ (zs (R2.map fun p => img (turn R1) p.1)).map PyData.int = (zs (R1.map (·.1) ++ R2.map fun p => img (turn R1) p.1)).map PyData.int := by
    unfold zs
    rw [← List.map_append, ← List.map_append]
  have ez : (zs (R1.map (·.1) ++ R2.map fun p => img (turn R1) p.1)).length = R1.length + R2.length := by
    unfold zs
    rw [List.length_map, List.length_append, List.length_map, List.length_map]
  have l3 : bindE (opM addD (lcM [5, 6] (seqA (varM 0)) (gT [(gN 5), (gN 6)]) yesT (varM 5)) (lcM [5, 6] (seqA (varM 1)) (gT [(gN 5), (gN 6)]) yesT (callM f_image (consM (varM 2) (consM (varM 5) nilM))))) setF [some (.d (rD R1)), some (.d (rD R2)), some (.d (rD (turn R1))), none, none, none, none] hp
      = .ok (.s ((zs (dedN (R1.map (·.1) ++ R2.map fun p => img (turn R1) p.1))).map PyData.int)) hp := by
    have a1 : ((zs (R1.map (·.1))).map PyData.int).length + ((zs (R2.map fun p => img (turn R1) p.1)).map PyData.int).length ≤ 10000000 := by
      unfold zs
      simp only [List.length_map]
      omega
    simp only [bindE, opM, ↓l1, ↓l2, bind_ok, view_d, addD, if_pos a1, okD_some, ea, setF, asInts_map, ez, if_pos (show R1.length + R2.length ≤ 4000 by omega), dedI_zs]
  have e4 : newD sortF (.s ((zs (dedN (R1.map (·.1) ++ R2.map fun p => img (turn R1) p.1))).map PyData.int)) hp = .ok (.d (.list ((zs (keys R1 R2)).map PyData.int))) hp := by
    have hl : (zs (dedN (R1.map (·.1) ++ R2.map fun p => img (turn R1) p.1))).length < 64 := by
      unfold zs
      rw [List.length_map]
      have := dedN_len (R1.map (·.1) ++ R2.map fun p => img (turn R1) p.1)
      rw [List.length_append, List.length_map, List.length_map] at this
      omega
    simp only [newD, sortF, asInts_map, Option.bind, if_pos hl, sortI_zs]
    rfl
  have l4 : lcM [4] (seqA (bindE (varM 3) (newD sortF))) (gN 4) yesT (tupM (consM (varM 4) (consM (callM f_image (consM (varM 1) (consM (callM f_image (consM (varM 0) (consM (varM 4) nilM))) nilM))) nilM))) [some (.d (rD R1)), some (.d (rD R2)), some (.d (rD (turn R1))), some (.s ((zs (dedN (R1.map (·.1) ++ R2.map fun p => img (turn R1) p.1))).map PyData.int)), none, none, none] hp
      = .ok (.d (.list ((toZ (join R1 R2)).map pD))) hp := by
    rw [lcM_eq (hp1 := hp) (ds := (zs (keys R1 R2)).map PyData.int) (h := fun d => match d with | .int i => .tuple [.int i, .int (img R2 (img R1 i.toNat) : Nat)] | _ => .none) ?_ ?_]
    · unfold join toZ zs
      rw [List.map_map, List.map_map, List.map_map, List.map_map]; rfl
    · have v3 : varM 3 [some (.d (rD R1)), some (.d (rD R2)), some (.d (rD (turn R1))), some (.s ((zs (dedN (R1.map (·.1) ++ R2.map fun p => img (turn R1) p.1))).map PyData.int)), none, none, none] hp = .ok (.s ((zs (dedN (R1.map (·.1) ++ R2.map fun p => img (turn R1) p.1))).map PyData.int)) hp := rfl
      simp only [seqA, bindE, v3, bind_ok, e4]
    · intro d hd hp
      obtain ⟨i, hi, rfl⟩ := List.mem_map.mp hd
      obtain ⟨k, _, rfl⟩ := List.mem_map.mp hi
      have i1 := fun hp => image_R R1 V1 (by omega) k hp
      have i2 := fun hp => image_R R2 V2 (by omega) (img R1 k) hp
      simp [tupM, consM, nilM, callM, varM, wipeL, i1, i2]
  simp [f_joined, m_joined, runDef, seqM, exprM, asgM, retM, callM, blt, consM, nilM, varM, e1, e2, e3, ↓l3, ↓l4, tupleD, List.replicate]
theorem joinedK (a b : EM) (R1 R2 : NP) (V1 : Valid R1) (V2 : Valid R2) (hz : R1.length + R2.length < 64) (loc : Ls) (hp : List O) (ha : a loc hp = .ok (.d (rD R2)) hp) (hb : b loc hp = .ok (.d (rD R1)) hp) :
    callKM f_joined [1, 0] 2 nilM (consM a (consM b nilM)) loc hp = .ok (.d (rD (join R1 R2))) hp := by
  have e := joined_R R1 R2 V1 V2 hz hp
  simp [callKM, consM, nilM, ha, hb, pick, e]
end Fs

set_option Elab.async false
set_option linter.all false
set_option maxRecDepth 100000
set_option maxHeartbeats 8000000
namespace Fs
open PySem PySem.Spec PyProof.Rows L2 Fz Ren

/-! ### what is refused -/
theorem anew_none (n : Nat) (hp : List O) : g_anew (n + 1) [.d .none] hp = .ok (.d .none) hp := by
  simp [g_anew, m_anew, runDef, seqM, ifM, tstM, isiM, unM, tyN, isB, varM, skipM, retM, List.replicate]
theorem anew_int (n : Nat) (i : Int) (hp : List O) : g_anew (n + 1) [.d (.int i)] hp = .ok (.d (.int i)) hp := by
  simp [g_anew, m_anew, runDef, seqM, ifM, tstM, isiM, unM, tyN, isB, varM, skipM, retM, List.replicate]
theorem anew_lc (n : Nat) (ds : List D) (w : D) (hw : w = .tuple ds ∨ w = .list ds) (H : ∀ d ∈ ds, ∀ hp, g_anew n [.d d] hp = .ok (.d d) hp) (hp : List O) :
    lcM [1] (seqA (varM 0)) (gN 1) yesT (callM (g_anew n) (consM (varM 1) nilM)) [some (.d w), none] hp = .ok (.d (.list ds)) hp := by
  have e := lcM_eq (j := 1) (im := seqA (varM 0)) (te := callM (g_anew n) (consM (varM 1) nilM)) (loc := [some (.d w), none]) (hp := hp) (hp1 := hp) (ds := ds) (h := fun d => d) (by rcases hw with rfl | rfl <;> rfl) fun d hd hp => by
    simp [callM, consM, nilM, varM, wipeL, H d hd]
  rw [e, List.map_id']
theorem anew_tup (n : Nat) (ds : List D) (H : ∀ d ∈ ds, ∀ hp, g_anew n [.d d] hp = .ok (.d d) hp) (hp : List O) : g_anew (n + 1) [.d (.tuple ds)] hp = .ok (.d (.tuple ds)) hp := by
  have e := anew_lc n ds _ (.inl rfl) H hp
  simp [g_anew, m_anew, runDef, seqM, ifM, tstM, isiM, unM, tyN, isB, varM, skipM, retM, blt, consM, nilM, ↓e, tupleD, List.replicate]
theorem anew_lst (n : Nat) (ds : List D) (H : ∀ d ∈ ds, ∀ hp, g_anew n [.d d] hp = .ok (.d d) hp) (hp : List O) : g_anew (n + 1) [.d (.list ds)] hp = .ok (.d (.list ds)) hp := by
  have e := anew_lc n ds _ (.inr rfl) H hp
  simp [g_anew, m_anew, runDef, seqM, ifM, tstM, isiM, unM, tyN, isB, varM, skipM, retM, ↓e, List.replicate]
theorem anew_pair (n : Nat) (p : Int × Int) (hp : List O) : g_anew (n + 2) [.d (pD p)] hp = .ok (.d (pD p)) hp :=
  anew_tup (n + 1) _ (fun d hd hp => by
    rcases List.mem_cons.mp hd with rfl | hd
    · exact anew_int n _ hp
    · rcases List.mem_cons.mp hd with rfl | hd
      · exact anew_int n _ hp
      · cases hd) hp
theorem anew_pairs (ps : List (Int × Int)) (hp : List O) : f_anew [.d (.tuple (ps.map pD))] hp = .ok (.d (.tuple (ps.map pD))) hp :=
  anew_tup 2 _ (fun d hd hp => by
    obtain ⟨p, _, rfl⟩ := List.mem_map.mp hd
    exact anew_pair 0 p hp) hp
theorem anew_lpairs (ps : List (Int × Int)) (hp : List O) : f_anew [.d (.list (ps.map pD))] hp = .ok (.d (.list (ps.map pD))) hp :=
  anew_lst 2 _ (fun d hd hp => by
    obtain ⟨p, _, rfl⟩ := List.mem_map.mp hd
    exact anew_pair 0 p hp) hp
/-- a value that the law refuses -/
structure Bad (d : D) : Prop where
  no : ∀ hp, f_is_a_renaming [.d d] hp = .ok (.d (.bool false)) hp
  an : ∀ hp, f_anew [.d d] hp = .ok (.d d) hp
  rp : repOk d
theorem need_bad {d : D} (b : Bad d) (hp : List O) : f_need_renaming [.d d] hp = .exc ⟨"InvalidRenaming", d⟩ hp := by
  have e1 := b.no
  have e2 := b.an
  simp [f_need_renaming, m_need_renaming, runDef, ifM, notT, tstM, callM, consM, nilM, varM, e1, e2, raiseM, List.replicate]
theorem joined_bad1 {d : D} (b : Bad d) (u : D) (hp : List O) : f_joined [.d d, .d u] hp = .exc ⟨"InvalidRenaming", d⟩ hp := by
  have e1 := need_bad b
  simp [f_joined, m_joined, runDef, seqM, exprM, callM, consM, nilM, varM, e1, List.replicate]
theorem joined_bad2 {d : D} (b : Bad d) (R : NP) (V : Valid R) (hz : R.length < 64) (hp : List O) : f_joined [.d (rD R), .d d] hp = .exc ⟨"InvalidRenaming", d⟩ hp := by
  have e1 := need_bad b
  have e2 := fun hp => need_R R V (by omega) hp
  simp [f_joined, m_joined, runDef, seqM, exprM, callM, consM, nilM, varM, e1, e2, List.replicate]
theorem rep_pair : ∀ a : Fin 9, ∀ b : Fin 9, (PyData.tuple [.int (a.val : Nat), .int (b.val : Nat)]).canLay0 = true ∧ (PyData.tuple [.int (a.val : Nat), .int (b.val : Nat)]).showable = true ∧ (PyData.tuple [.int (a.val : Nat), .int (b.val : Nat)]).hasDict = false ∧ (PyData.tuple [.int (a.val : Nat), .int (b.val : Nat)]).depth ≤ 1 := by decide +kernel
theorem rep_pair2 : ∀ a : Fin 9, ∀ b : Fin 9, (PyData.tuple [.int (a.val : Nat), .int (b.val : Nat)]).shown.length ≤ 10 := by decide +kernel
theorem rep_lit : repOk .none ∧ repOk (.int 7) ∧ repOk (.tuple ([(0, 1), (1, 1)].map pD)) ∧ repOk (.tuple ([(1, 0), (0, 2)].map pD)) ∧ repOk (.tuple ([(0, -1)].map pD)) := by decide +kernel
def Small (R : NP) : Prop := R.length ≤ 5 ∧ ∀ p ∈ R, p.1 < 9 ∧ p.2 < 9
theorem small_all : ∀ R : NP, (∀ p ∈ R, p.1 < 9 ∧ p.2 < 9) → PyData.canLayAll0 ((toZ R).map pD) = true ∧ PyData.showableAll ((toZ R).map pD) = true ∧ PyData.hasDictAll ((toZ R).map pD) = false ∧ PyData.depthAll ((toZ R).map pD) ≤ 1 ∧ piled (PyData.shownAll ((toZ R).map pD)) ≤ 12 * R.length
  | [], _ => ⟨rfl, rfl, rfl, by decide, by decide⟩
  | p :: R, h => by
    obtain ⟨h1, h2, h3, h4, h5⟩ := small_all R fun q hq => h q (List.mem_cons_of_mem _ hq)
    obtain ⟨a1, a2⟩ := h p List.mem_cons_self
    obtain ⟨b1, b2, b3, b4⟩ := rep_pair ⟨p.1, a1⟩ ⟨p.2, a2⟩
    have b5 := rep_pair2 ⟨p.1, a1⟩ ⟨p.2, a2⟩
    have e : (toZ (p :: R)).map pD = PyData.tuple [.int ((p.1 : Nat) : Int), .int ((p.2 : Nat) : Int)] :: (toZ R).map pD := rfl
    rw [e]
    refine ⟨?_, ?_, ?_, ?_, ?_⟩
    · show (PyData.canLay0 _ && PyData.canLayAll0 _) = true
      rw [h1, b1]; rfl
    · show (PyData.showable _ && PyData.showableAll _) = true
      rw [h2, b2]; rfl
    · show (PyData.hasDict _ || PyData.hasDictAll _) = false
      rw [h3, b3]; rfl
    · show max (PyData.depth _) (PyData.depthAll _) ≤ 1
      have b4' : (PyData.tuple [.int ((p.1 : Nat) : Int), .int ((p.2 : Nat) : Int)]).depth ≤ 1 := b4
      omega
    · rw [PyData.shownAll_cons, piled_cons, List.length_cons]
      have b5' : (PyData.tuple [.int ((p.1 : Nat) : Int), .int ((p.2 : Nat) : Int)]).shown.length ≤ 10 := b5
      omega
theorem rep_small (R : NP) (h : Small R) : repOk (.list ((toZ R).map pD)) := by
  obtain ⟨h1, h2, h3, h4, h5⟩ := small_all R h.2
  have h0 := h.1
  refine ⟨h1, h2, h3, ?_, ?_⟩
  · show PyData.depthAll _ + 1 ≤ 100
    omega
  · rw [PyData.shown_list, strLen_append, strLen_append]
    have e1 : ((("[" : String) : Str)).length = 1 := rfl
    have e2 : ((("]" : String) : Str)).length = 1 := rfl
    cases c : PyData.shownAll ((toZ R).map pD) with
    | nil => decide
    | cons t ts =>
      have e3 := join_length_add (t :: ts) (by simp)
      rw [← c] at e3 ⊢
      omega
theorem bad_none : Bad .none := ⟨fun hp => renaming_no _ hp rfl, anew_none 2, rep_lit.1⟩
theorem bad_7 : Bad (.int 7) := ⟨fun hp => renaming_no _ hp rfl, anew_int 2 7, rep_lit.2.1⟩
theorem bad_list (R : NP) (h : Small R) : Bad (.list ((toZ R).map pD)) := ⟨fun hp => renaming_no _ hp rfl, anew_lpairs (toZ R), rep_small R h⟩
theorem bad_ps (ps : List (Int × Int)) (hz : ps.length ≤ 10) (hc : chk ps = false) (hr : repOk (.tuple (ps.map pD))) : Bad (.tuple (ps.map pD)) := ⟨fun hp => by rw [renaming_eq ps hp (by omega), hc], anew_pairs ps, hr⟩
theorem bad_a : Bad (.tuple ([(0, 1), (1, 1)].map pD)) := bad_ps _ (by decide) (by decide +kernel) rep_lit.2.2.1
theorem bad_b : Bad (.tuple ([(1, 0), (0, 2)].map pD)) := bad_ps _ (by decide) (by decide +kernel) rep_lit.2.2.2.1
theorem bad_c : Bad (.tuple ([(0, -1)].map pD)) := bad_ps _ (by decide) (by decide +kernel) rep_lit.2.2.2.2
end Fs

set_option Elab.async false
set_option linter.all false
set_option maxRecDepth 100000
set_option maxHeartbeats 8000000
namespace Fs
open PySem PySem.Spec PyProof.Rows L2 Fz Ren

/-! ### the urn -/
def UrnO (N : Nat) (o : O) : Prop := ∃ a b c : Int, o = .lst [.int a, .int b, .int c] ∧ 0 ≤ b ∧ b < 10 ^ 29 ∧ 0 ≤ c ∧ c ≤ N
def BB (i : Int) (A : Nat) : Prop := i.natAbs < 2 ^ A
theorem BB.mul {i j : Int} {A B : Nat} (hi : BB i A) (hj : BB j B) : BB (i * j) (A + B) := by
  unfold BB at *
  rw [Int.natAbs_mul, Nat.pow_add]
  exact Nat.mul_lt_mul'' hi hj
theorem BB.of {i : Int} {A : Nat} (h0 : 0 ≤ i) (h : i < 2 ^ A) : BB i A := by
  unfold BB
  have e : ((2 ^ A : Nat) : Int) = (2 : Int) ^ A := by rw [Int.natCast_pow]; rfl
  omega
theorem cmul {i j : Int} {A B : Nat} (hi : BB i A) (hj : BB j B) (hA : A + B < 100000000) : CMulX i j := by
  have h : ∀ {x : Nat} {K : Nat}, x < 2 ^ K → x.log2 ≤ K := fun {x K} h => by
    by_cases z : x = 0
    · subst z; simp
    · exact Nat.le_of_lt ((Nat.log2_lt z).mpr h)
  have := h hi
  have := h hj
  show i.natAbs.log2 + j.natAbs.log2 < 100000000
  omega
theorem mul_ok {i j : Int} {A B : Nat} (hi : BB i A) (hj : BB j B) (hA : A + B < 100000000 := by decide) : mulD (.int i) (.int j) = some (.int (i * j)) := if_pos (cmul hi hj hA)
theorem mod_ok {i j : Int} (h : 0 < j) : modD (.int i) (.int j) = some (.int (i % j)) := if_pos h
theorem div_ok {i j : Int} (h : 0 < j) (h2 : j.natAbs.log2 < 9000) : fdivD (.int i) (.int j) = some (.int (i / j)) := if_pos (show CDivX i j from ⟨h, h2⟩)
theorem add_ok (i j : Int) : addD (.int i) (.int j) = some (.int (i + j)) := rfl
theorem sub_ok (i j : Int) : subD (.int i) (.int j) = some (.int (i - j)) := rfl
theorem pow_ok {i : Int} (n : Nat) (h : i.natAbs < 2 ^ 64) (hn : n ≤ 1000000) : powD (.int i) (.int n) = some (.int (i ^ n)) := by
  have e : powD (.int i) (.int n) = if CPw i n then some (.int (i ^ (n : Int).toNat)) else none := rfl
  rw [e, if_pos ⟨by omega, by omega, h⟩]
  rfl
theorem urn_at {loc : Ls} {hp : List O} {n : Nat} {xs : List D} {k : Int} {d : D} (h0 : loc[0]? = some (some (.r n))) (hn : hp[n]? = some (.lst xs)) (hk : atI xs k = some d) : opM ixA (varM 0) (cM (.int k)) loc hp = .ok (.d d) hp := by
  have v0 := fun hp => varM_at h0 hp
  have e : viewD hp (.r n) = some (.list xs) := by simp only [viewD, hn]
  have e2 : ixA (.list xs) (.int k) = some d := hk
  simp only [opM, v0, bind_ok, cM, e, view_d, e2, okD_some]
theorem put_at {mv : EM} {loc : Ls} {hp : List O} {n : Nat} {xs : List D} {k : Int} {z : D} {j : Nat} (h0 : loc[0]? = some (some (.r n))) (hn : hp[n]? = some (.lst xs)) (hj : ixN xs.length k = some j) (hv : mv loc hp = .ok (.d z) hp) : putM mv (varM 0) (cM (.int k)) loc hp = .ok .nx loc (hp.set n (.lst (xs.set j z))) := by
  have v0 := fun hp => varM_at h0 hp
  simp only [putM, hv, toS_ok, v0, cM, Fz.putF, hn, hj, Option.map_some]
theorem take_set (hp : List O) (n : Nat) (o : O) : (hp.set n o).take hp.length = hp.set n o := List.take_of_length_le (by rw [List.length_set]; exact Nat.le_refl _)
theorem p29 : powD (.int 10) (.int 29) = some (.int (10 ^ 29)) := pow_ok 29 (by decide) (by decide)
theorem p31 : powD (.int 10) (.int 31) = some (.int (10 ^ 31)) := pow_ok 31 (by decide) (by decide)
theorem p33 : powD (.int 10) (.int 33) = some (.int (10 ^ 33)) := pow_ok 33 (by decide) (by decide)
theorem opM_at {f : D → D → Option D} {a b : EM} {loc : Ls} {hp : List O} {x y z : D} (ha : a loc hp = .ok (.d x) hp) (hb : b loc hp = .ok (.d y) hp) (hz : f x y = some z) : opM f a b loc hp = .ok (.d z) hp := by
  simp only [opM, ha, hb, bind_ok, view_d, hz, okD_some]
theorem int_at {a : EM} {loc : Ls} {hp : List O} {i : Int} (ha : a loc hp = .ok (.d (.int i)) hp) : blt intD (consM a nilM) loc hp = .ok (.d (.int i)) hp := by
  simp only [blt, consM, nilM, ha, bind_ok, viewsD_cons, viewsD_nil, Option.map_some, Fz.intD, okD_some]
theorem bmod (i j : Int) (h : 0 < j) (A : Nat) (hA : j ≤ 2 ^ A) : BB (i % j) A := BB.of (Int.emod_nonneg _ (by omega)) (Int.lt_of_lt_of_le (Int.emod_lt_of_pos _ h) hA)
theorem out_eq (m : Int) (hm : 0 < m) (hm2 : m.natAbs.log2 < 9000) (N : Nat) (hN : N ≤ 100000) (n : Nat) (hp : List O) (o : O) (ho : hp[n]? = some o) (u : UrnO N o) :
    ∃ (r : Nat) (o' : O), (r : Int) < m ∧ UrnO (N + 1) o' ∧ f__law_out [.r n, .d (.int m)] hp = .ok (.d (.int r)) (hp.set n o') := by
  obtain ⟨a, b, c, rfl, hb0, hb, hc0, hc⟩ := u
  have hn : n < hp.length := (List.getElem?_eq_some_iff.mp ho).1
  have u0 : ∀ x2 x3 x4, opM ixA (varM 0) (cM (.int 0)) [some (.r n), some (.d (.int m)), x2, x3, x4] hp = .ok (.d (.int a)) hp := fun x2 x3 x4 => urn_at rfl ho rfl
  by_cases h : 0 < a
  · have eg : gtD (.int a) (.int 0) = some (.bool true) := by
      show some (PyData.bool (decide (0 < a))) = _
      rw [decide_eq_true h]
    have t0 := fun x2 x3 x4 => opM_at (f := gtD) (u0 x2 x3 x4) (show cM (.int 0) [some (.r n), some (.d (.int m)), x2, x3, x4] hp = .ok (.d (.int 0)) hp from rfl) eg
    have f0 := fun x2 x3 x4 => opM_at (f := modD) (int_at (u0 x2 x3 x4)) (show varM 1 [some (.r n), some (.d (.int m)), x2, x3, x4] hp = .ok (.d (.int m)) hp from rfl) (mod_ok hm)
    have d0 := fun x2 x3 x4 => put_at (h0 := rfl) (hn := ho) (hj := show ixN 3 0 = some 0 from rfl) (opM_at (f := fdivD) (u0 x2 x3 x4) (show varM 1 [some (.r n), some (.d (.int m)), x2, x3, x4] hp = .ok (.d (.int m)) hp from rfl) (div_ok hm hm2))
    refine ⟨(a % m).toNat, .lst [.int (a / m), .int b, .int c], ?_, ⟨_, _, _, rfl, hb0, hb, hc0, by omega⟩, ?_⟩
    · have := Int.emod_nonneg a (show m ≠ 0 by omega)
      have := Int.emod_lt_of_pos a hm
      omega
    · have e : (((a % m).toNat : Nat) : Int) = a % m := Int.toNat_of_nonneg (Int.emod_nonneg a (by omega))
      rw [e]
      have l0 : ∀ x, List.set [some (Vl.r n), some (Vl.d (.int m)), none, none, none] 4 x = [some (.r n), some (.d (.int m)), none, none, x] := fun x => rfl
      simp only [f__law_out, m__law_out, runDef, List.length_cons, List.length_nil, if_pos, List.map_cons, List.map_nil, List.replicate, List.cons_append, List.nil_append, seqM, ifM, tstM, ↓t0, bind_ok, toS_ok, asgM, ↓f0, l0, ↓d0, retM, List.set_cons_zero]
      simp [varM, take_set]
  · have eg : gtD (.int a) (.int 0) = some (.bool false) := by
      show some (PyData.bool (decide (0 < a))) = _
      rw [decide_eq_false h]
    have t0 := fun x2 x3 x4 => opM_at (f := gtD) (u0 x2 x3 x4) (show cM (.int 0) [some (.r n), some (.d (.int m)), x2, x3, x4] hp = .ok (.d (.int 0)) hp from rfl) eg
    have u2 : ∀ x2 x3 x4, opM ixA (varM 0) (cM (.int 2)) [some (.r n), some (.d (.int m)), x2, x3, x4] hp = .ok (.d (.int c)) hp := fun x2 x3 x4 => urn_at rfl ho rfl
    have d0 := fun x2 x3 x4 => put_at (h0 := rfl) (hn := ho) (hj := show ixN 3 2 = some 2 from rfl) (opM_at (f := addD) (u2 x2 x3 x4) (show cM (.int 1) [some (.r n), some (.d (.int m)), x2, x3, x4] hp = .ok (.d (.int 1)) hp from rfl) (add_ok c 1))
    generalize ht : c + 1 = t at d0
    have l2 : List.set [PyData.int a, PyData.int b, PyData.int c] 2 (.int t) = [.int a, .int b, .int t] := rfl
    rw [l2] at d0
    have ho1 : (hp.set n (.lst [.int a, .int b, .int t]))[n]? = some (.lst [.int a, .int b, .int t]) := List.getElem?_set_self hn
    generalize hh : hp.set n (.lst [.int a, .int b, .int t]) = hp1 at d0 ho1
    have b47 : BB (b + 47) 97 := BB.of (by omega) (by
      have : (10 : Int) ^ 29 + 47 < 2 ^ 97 := by decide
      omega)
    have bb : BB b 97 := BB.of hb0 (by
      have : (10 : Int) ^ 29 + 47 < 2 ^ 97 := by decide
      omega)
    have bt11 : BB (t + 11) 20 := BB.of (by omega) (by
      have : (2 : Int) ^ 20 = 1048576 := by decide
      omega)
    have bt : BB t 20 := BB.of (by omega) (by
      have : (2 : Int) ^ 20 = 1048576 := by decide
      omega)
    have w1 : ∀ x2 x3 x4, opM ixA (varM 0) (cM (.int 1)) [some (.r n), some (.d (.int m)), x2, x3, x4] hp1 = .ok (.d (.int b)) hp1 := fun x2 x3 x4 => urn_at rfl ho1 rfl
    have w2 : ∀ x2 x3 x4, opM ixA (varM 0) (cM (.int 2)) [some (.r n), some (.d (.int m)), x2, x3, x4] hp1 = .ok (.d (.int t)) hp1 := fun x2 x3 x4 => urn_at rfl ho1 rfl
    have v2 : ∀ x3 x4, varM 2 [some (.r n), some (.d (.int m)), some (.d (.int t)), x3, x4] hp1 = .ok (.d (.int t)) hp1 := fun _ _ => rfl
    have v3 : ∀ x3 x4, varM 3 [some (.r n), some (.d (.int m)), some (.d (.int t)), some (.d (.int x3)), x4] hp1 = .ok (.d (.int x3)) hp1 := fun _ _ => rfl
    have lit : ∀ (d : D) (loc : Ls), cM d loc hp1 = .ok (.d d) hp1 := fun _ _ => rfl
    have q1 := fun x3 x4 => opM_at (f := modD) (int_at (opM_at (f := addD) (opM_at (f := addD) (opM_at (f := mulD) (opM_at (f := mulD) (opM_at (f := mulD) (opM_at (f := addD) (w1 (some (.d (.int t))) x3 x4) (lit (.int 47) _) (add_ok _ _)) (opM_at (f := addD) (v2 x3 x4) (lit (.int 11) _) (add_ok _ _)) (mul_ok b47 bt11)) (lit (.int 1000003) _) (mul_ok (b47.mul bt11) (show BB 1000003 20 by unfold BB; decide))) (lit (.int 7919) _) (mul_ok ((b47.mul bt11).mul (show BB 1000003 20 by unfold BB; decide)) (show BB 7919 20 by unfold BB; decide)))
      (opM_at (f := mulD) (opM_at (f := mulD) (v2 x3 x4) (v2 x3 x4) (mul_ok bt bt)) (lit (.int 365435296162) _) (mul_ok (bt.mul bt) (show BB 365435296162 40 by unfold BB; decide))) (add_ok _ _)) (v2 x3 x4) (add_ok _ _)))
      (opM_at (f := addD) (opM_at (f := powD) (lit (.int 10) _) (lit (.int 29) _) p29) (lit (.int 319) _) (add_ok _ _)) (mod_ok (by decide))
    have bm1 := bmod ((b + 47) * (t + 11) * 1000003 * 7919 + t * t * 365435296162 + t) (10 ^ 29 + 319) (by decide) 97 (by decide)
    generalize (((b + 47) * (t + 11) * 1000003 * 7919 + t * t * 365435296162 + t) % (10 ^ 29 + 319) : Int) = m1 at q1 bm1
    have q2 := fun x4 => opM_at (f := modD) (int_at (opM_at (f := addD) (opM_at (f := addD) (opM_at (f := mulD) (v3 m1 x4) (v3 m1 x4) (mul_ok bm1 bm1)) (opM_at (f := mulD) (w1 (some (.d (.int t))) (some (.d (.int m1))) x4) (lit (.int 13) _) (mul_ok bb (show BB 13 20 by unfold BB; decide))) (add_ok _ _)) (opM_at (f := mulD) (lit (.int 5) _) (v2 (some (.d (.int m1))) x4) (mul_ok (show BB 5 20 by unfold BB; decide) bt)) (add_ok _ _)))
      (opM_at (f := addD) (opM_at (f := powD) (lit (.int 10) _) (lit (.int 31) _) p31) (lit (.int 33) _) (add_ok _ _)) (mod_ok (by decide))
    have bm2 := bmod (m1 * m1 + b * 13 + 5 * t) (10 ^ 31 + 33) (by decide) 104 (by decide)
    generalize ((m1 * m1 + b * 13 + 5 * t) % (10 ^ 31 + 33) : Int) = m2 at q2 bm2
    have q3 := fun x4 => opM_at (f := modD) (int_at (opM_at (f := addD) (opM_at (f := mulD) (opM_at (f := mulD) (v3 m2 x4) (v3 m2 x4) (mul_ok bm2 bm2)) (lit (.int 7) _) (mul_ok (bm2.mul bm2) (show BB 7 20 by unfold BB; decide))) (opM_at (f := mulD) (v3 m2 x4) (lit (.int 3) _) (mul_ok bm2 (show BB 3 20 by unfold BB; decide))) (add_ok _ _)))
      (opM_at (f := addD) (opM_at (f := powD) (lit (.int 10) _) (lit (.int 33) _) p33) (lit (.int 603) _) (add_ok _ _)) (mod_ok (by decide))
    generalize ((m2 * m2 * 7 + m2 * 3) % (10 ^ 33 + 603) : Int) = m3 at q3
    have q4 := fun x4 => opM_at (f := modD) (int_at (opM_at (f := fdivD) (v3 m3 x4) (lit (.int 40009) _) (div_ok (by decide) (by decide)))) (show varM 1 [some (.r n), some (.d (.int m)), some (.d (.int t)), some (.d (.int m3)), x4] hp1 = .ok (.d (.int m)) hp1 from rfl) (mod_ok hm)
    refine ⟨(m3 / 40009 % m).toNat, .lst [.int a, .int b, .int t], ?_, ⟨_, _, _, rfl, hb0, hb, by omega, by omega⟩, ?_⟩
    · have := Int.emod_nonneg (m3 / 40009) (show m ≠ 0 by omega)
      have := Int.emod_lt_of_pos (m3 / 40009) hm
      omega
    · have e : (((m3 / 40009 % m).toNat : Nat) : Int) = m3 / 40009 % m := Int.toNat_of_nonneg (Int.emod_nonneg _ (by omega))
      rw [e, hh]
      have tk : hp1.take hp.length = hp1 := by rw [← hh]; exact take_set _ _ _
      have s2 : ∀ x, List.set [some (Vl.r n), some (Vl.d (.int m)), none, none, none] 2 x = [some (.r n), some (.d (.int m)), x, none, none] := fun x => rfl
      have s3 : ∀ x y z, List.set [some (Vl.r n), some (Vl.d (.int m)), x, y, none] 3 z = [some (.r n), some (.d (.int m)), x, z, none] := fun _ _ _ => rfl
      simp only [f__law_out, m__law_out, runDef, List.length_cons, List.length_nil, if_pos, List.map_cons, List.map_nil, List.replicate, List.cons_append, List.nil_append, seqM, ifM, tstM, ↓t0, bind_ok, toS_ok, if_neg Bool.false_ne_true, skipM, asgM, ↓d0, ↓w2, s2, ↓q1, s3, ↓q2, ↓q3, ↓q4, retM, finD_d, tk]
end Fs

set_option Elab.async false
set_option linter.all false
set_option maxRecDepth 100000
set_option maxHeartbeats 8000000
namespace Fs
open PySem PySem.Spec PyProof.Rows L2 Fz Ren

theorem p21 : powD (.int 10) (.int 21) = some (.int (10 ^ 21)) := pow_ok 21 (by decide) (by decide)
theorem p26 : powD (.int 10) (.int 26) = some (.int (10 ^ 26)) := pow_ok 26 (by decide) (by decide)
theorem p28 : powD (.int 10) (.int 28) = some (.int (10 ^ 28)) := pow_ok 28 (by decide) (by decide)
theorem p18 : powD (.int 10) (.int 18) = some (.int (10 ^ 18)) := pow_ok 18 (by decide) (by decide)
theorem abs_at {a : EM} {loc : Ls} {hp : List O} {i : Int} (ha : a loc hp = .ok (.d (.int i)) hp) : blt absD (consM a nilM) loc hp = .ok (.d (.int (if i < 0 then -i else i))) hp := by
  simp only [blt, consM, nilM, ha, bind_ok, viewsD_cons, viewsD_nil, Option.map_some, Fz.absD, okD_some]
theorem intb_at {a : EM} {loc : Ls} {hp : List O} {b : Bool} (ha : a loc hp = .ok (.d (.bool b)) hp) : blt intD (consM a nilM) loc hp = .ok (.d (.int (if b then 1 else 0))) hp := by
  simp only [blt, consM, nilM, ha, bind_ok, viewsD_cons, viewsD_nil, Option.map_some, Fz.intD, okD_some]
theorem max_at {a b : EM} {loc : Ls} {hp : List O} {i j : Int} (ha : a loc hp = .ok (.d (.int i)) hp) (hb : b loc hp = .ok (.d (.int j)) hp) : blt max2D (consM a (consM b nilM)) loc hp = .ok (.d (.int (if j > i then j else i))) hp := by
  simp only [blt, consM, nilM, ha, hb, bind_ok, viewsD_cons, viewsD_nil, Option.map_some, Fz.max2D, okD_some]
theorem len_at {a : EM} {loc : Ls} {hp : List O} {ds : List D} (ha : a loc hp = .ok (.d (.list ds)) hp) : bindE a lenF loc hp = .ok (.d (.int ds.length)) hp := by
  simp only [bindE, ha, bind_ok, lenF, view_d, lenD, okD_some]
abbrev uwhole : SM := asgM 3 (opM modD (blt intD (consM (opM addD (opM mulD (varM 3) (cM (.int 8191))) (opM modD (blt intD (consM (varM 4) nilM)) (opM addD (opM powD (cM (.int 10)) (cM (.int 21))) (cM (.int 117))))) nilM)) (opM addD (opM powD (cM (.int 10)) (cM (.int 26))) (cM (.int 67))))
theorem whole_eq (s : D) (k c : Int) (ns : List Int) (w : Int) (hw : BB w 90) (hp : List O) :
    ∃ w' x, forGo none (gN 4) uwhole ((ns.map PyData.int).map Vl.d) [some (.d s), some (.d (.int k)), some (.d (.int c)), some (.d (.int w)), none, none] hp = .ok .nx [some (.d s), some (.d (.int k)), some (.d (.int c)), some (.d (.int w')), x, none] hp ∧ BB w' 90 := by
  obtain ⟨loc', hp', e, rfl, w', x, rfl, h⟩ := for_inv (tg := gN 4) (body := uwhole) (keep := none) (items := (ns.map PyData.int).map Vl.d) (i := 0) (fun _ loc hp' => hp' = hp ∧ ∃ w x, loc = [some (.d s), some (.d (.int k)), some (.d (.int c)), some (.d (.int w)), x, none] ∧ BB w 90) (loc := [some (.d s), some (.d (.int k)), some (.d (.int c)), some (.d (.int w)), none, none]) (hp := hp)
    ⟨rfl, w, none, rfl, hw⟩ (fun _ _ _ _ => trivial) (by
    rintro i v loc hp' hv ⟨rfl, w, x, rfl, hw⟩
    rw [List.map_map, List.getElem?_map] at hv
    cases q : ns[i]? with
    | none => rw [q] at hv; cases hv
    | some t =>
      rw [q] at hv
      have hv' : some (Vl.d (PyData.int t)) = some v := hv
      cases hv'
      refine ⟨[some (.d s), some (.d (.int k)), some (.d (.int c)), some (.d (.int w)), some (.d (.int t)), none], rfl, ?_⟩
      have v3 : varM 3 [some (.d s), some (.d (.int k)), some (.d (.int c)), some (.d (.int w)), some (.d (.int t)), none] hp' = .ok (.d (.int w)) hp' := rfl
      have v4 : varM 4 [some (.d s), some (.d (.int k)), some (.d (.int c)), some (.d (.int w)), some (.d (.int t)), none] hp' = .ok (.d (.int t)) hp' := rfl
      have lit : ∀ (d : D) (loc : Ls), cM d loc hp' = .ok (.d d) hp' := fun _ _ => rfl
      have q1 := opM_at (f := modD) (int_at (opM_at (f := addD) (opM_at (f := mulD) v3 (lit (.int 8191) _) (mul_ok hw (show BB 8191 20 by unfold BB; decide))) (opM_at (f := modD) (int_at v4) (opM_at (f := addD) (opM_at (f := powD) (lit (.int 10) _) (lit (.int 21) _) p21) (lit (.int 117) _) (add_ok _ _)) (mod_ok (by decide))) (add_ok _ _)))
        (opM_at (f := addD) (opM_at (f := powD) (lit (.int 10) _) (lit (.int 26) _) p26) (lit (.int 67) _) (add_ok _ _)) (mod_ok (by decide))
      have bm := bmod (w * 8191 + t % (10 ^ 21 + 117)) (10 ^ 26 + 67) (by decide) 90 (by decide)
      generalize ((w * 8191 + t % (10 ^ 21 + 117)) % (10 ^ 26 + 67) : Int) = w2 at q1 bm
      refine ⟨[some (.d s), some (.d (.int k)), some (.d (.int c)), some (.d (.int w2)), some (.d (.int t)), none], hp', .inl ?_, rfl, w2, some (.d (.int t)), rfl, bm⟩
      simp only [uwhole, asgM, ↓q1, toS_ok]
      rfl)
  exact ⟨w', x, e, h⟩
theorem bits_bb {z : Int} (h : Builtin.Int.intBits z ≤ 1048576) : BB z 1048576 := by
  unfold Builtin.Int.intBits at h
  unfold BB
  by_cases c : z.natAbs = 0
  · rw [c]; exact Nat.two_pow_pos _
  · split at h
    · rename_i hz
      exfalso
      first | (apply c; simpa using hz) | (apply c; omega)
    · exact (Nat.log2_lt c).mp (by omega)
theorem urn_eq (ns : List Int) (h1 : ns.length ≤ 63) (h2 : ∀ z ∈ ns, Builtin.Int.intBits z ≤ 1048576) (k : Nat) (hk : k ≤ 100) (hp : List O) :
    ∃ o, UrnO 0 o ∧ f__law_urn [.d (.list (ns.map PyData.int)), .d (.int k)] hp = .ok (.r hp.length) (hp ++ [o]) := by
  have lit : ∀ (d : D) (loc : Ls), cM d loc hp = .ok (.d d) hp := fun _ _ => rfl
  have v0 : ∀ x1 x2 x3 x4 x5, varM 0 [some (.d (.list (ns.map PyData.int))), x1, x2, x3, x4, x5] hp = .ok (.d (.list (ns.map PyData.int))) hp := fun _ _ _ _ _ => rfl
  have v1 : ∀ x0 x2 x3 x4 x5, varM 1 [x0, some (.d (.int k)), x2, x3, x4, x5] hp = .ok (.d (.int k)) hp := fun _ _ _ _ _ => rfl
  have v2 : ∀ x0 x1 x3 x4 x5 c, varM 2 [x0, x1, some (.d (.int c)), x3, x4, x5] hp = .ok (.d (.int c)) hp := fun _ _ _ _ _ _ => rfl
  have v3 : ∀ x0 x1 x2 x4 x5 c, varM 3 [x0, x1, x2, some (.d (.int c)), x4, x5] hp = .ok (.d (.int c)) hp := fun _ _ _ _ _ _ => rfl
  have v5 : ∀ x0 x1 x2 x3 x4 c, varM 5 [x0, x1, x2, x3, x4, some (.d (.int c))] hp = .ok (.d (.int c)) hp := fun _ _ _ _ _ _ => rfl
  have bk : BB (k : Int) 20 := BB.of (by omega) (by
      have : (2 : Int) ^ 20 = 1048576 := by decide
      omega)
  have cell : ∃ c : Int, BB c 1048576 ∧ ∀ x2 x3 x4 x5, iteE (tstM (opM ltD (varM 1) (bindE (varM 0) lenF))) (blt intD (consM (opM ixA (varM 0) (varM 1)) nilM)) (opM addD (opM mulD (cM (.int 53)) (varM 1)) (cM (.int 19))) [some (.d (.list (ns.map PyData.int))), some (.d (.int k)), x2, x3, x4, x5] hp = .ok (.d (.int c)) hp := by
    have lt : ∀ x2 x3 x4 x5, opM ltD (varM 1) (bindE (varM 0) lenF) [some (.d (.list (ns.map PyData.int))), some (.d (.int k)), x2, x3, x4, x5] hp = .ok (.d (.bool (decide (k < ns.length)))) hp := fun x2 x3 x4 x5 => by
      refine opM_at (v1 _ _ _ _ _) (len_at (v0 _ _ _ _ _)) ?_
      show some (PyData.bool (decide ((k : Int) < ((ns.map PyData.int).length : Nat)))) = _
      rw [List.length_map]
      congr 2
      exact decide_eq_decide.mpr Int.ofNat_lt
    by_cases c : k < ns.length
    · refine ⟨ns[k], bits_bb (h2 _ (List.getElem_mem c)), fun x2 x3 x4 x5 => ?_⟩
      have a : ixA (.list (ns.map PyData.int)) (.int k) = some (.int ns[k]) := by
        show atI (ns.map PyData.int) k = _
        unfold atI ixN
        simp [c]
      have i1 := int_at (opM_at (f := ixA) (v0 (some (.d (.int k))) x2 x3 x4 x5) (v1 (some (.d (.list (ns.map PyData.int)))) x2 x3 x4 x5) a)
      have l1 := lt x2 x3 x4 x5
      rw [decide_eq_true c] at l1
      simp only [iteE, tstM, ↓l1, bind_ok, if_pos, ↓i1]
    · refine ⟨53 * k + 19, BB.of (by omega) (by
        have : (53 : Int) * k + 19 < 2 ^ 20 := by
          have : (2 : Int) ^ 20 = 1048576 := by decide
          omega
        exact Int.lt_of_lt_of_le this (by exact_mod_cast Nat.pow_le_pow_right (n := 2) (by decide) (by decide : 20 ≤ 1048576))), fun x2 x3 x4 x5 => ?_⟩
      have i1 := opM_at (f := addD) (opM_at (f := mulD) (lit (.int 53) _) (v1 (some (.d (.list (ns.map PyData.int)))) x2 x3 x4 x5) (mul_ok (show BB 53 20 by unfold BB; decide) bk)) (lit (.int 19) _) (add_ok _ _)
      have l1 := lt x2 x3 x4 x5
      rw [decide_eq_false c] at l1
      simp only [iteE, tstM, ↓l1, bind_ok, if_neg Bool.false_ne_true, ↓i1]
  obtain ⟨c, bc, ec⟩ := cell
  have ew : ∀ x2 x3 x4 x5, opM addD (cM (.int 17)) (opM mulD (cM (.int 3)) (bindE (varM 0) lenF)) [some (.d (.list (ns.map PyData.int))), some (.d (.int k)), x2, x3, x4, x5] hp = .ok (.d (.int (17 + 3 * (ns.length : Nat)))) hp := fun x2 x3 x4 x5 => by
    have l := len_at (v0 (some (.d (.int k))) x2 x3 x4 x5)
    rw [List.length_map] at l
    exact opM_at (lit _ _) (opM_at (lit _ _) l (mul_ok (show BB 3 20 by unfold BB; decide) (show BB (ns.length : Int) 20 from BB.of (by omega) (by
      have : (2 : Int) ^ 20 = 1048576 := by decide
      omega)))) (add_ok _ _)
  obtain ⟨w, x, el, bw⟩ := whole_eq (.list (ns.map PyData.int)) k c ns (17 + 3 * (ns.length : Nat)) (BB.of (by omega) (by
      have : (2 : Int) ^ 90 = 1237940039285380274899124224 := by decide
      omega)) hp
  have babs : BB (if c < 0 then -c else c) 1048576 := by
    unfold BB at *
    split
    · rw [Int.natAbs_neg]; exact bc
    · exact bc
  have lt0 : ∀ x0 x1 x3 x4 x5, opM ltD (varM 2) (cM (.int 0)) [x0, x1, some (.d (.int c)), x3, x4, x5] hp = .ok (.d (.bool (decide (c < 0)))) hp := fun x0 x1 x3 x4 x5 => opM_at (v2 _ _ _ _ _ _) (lit _ _) rfl
  have b01 : BB (if decide (c < 0) = true then 1 else 0) 20 := by
    unfold BB
    split <;> decide
  have q := opM_at (f := modD) (int_at (opM_at (f := addD) (opM_at (f := addD) (opM_at (f := addD) (opM_at (f := mulD) (abs_at (v2 (some (.d (.list (ns.map PyData.int)))) (some (.d (.int k))) (some (.d (.int w))) x none c)) (lit (.int 9973) _) (mul_ok babs (show BB 9973 20 by unfold BB; decide))) (opM_at (f := mulD) (v3 _ _ _ _ _ _) (lit (.int 59) _) (mul_ok bw (show BB 59 20 by unfold BB; decide))) (add_ok _ _)) (opM_at (f := mulD) (lit (.int 5) _) (intb_at (lt0 _ _ _ _ _)) (mul_ok (show BB 5 20 by unfold BB; decide) b01)) (add_ok _ _)) (opM_at (f := mulD) (lit (.int 101) _) (v1 _ _ _ _ _) (mul_ok (show BB 101 20 by unfold BB; decide) bk)) (add_ok _ _)))
    (opM_at (f := addD) (opM_at (f := powD) (lit (.int 10) _) (lit (.int 28) _) p28) (lit (.int 331) _) (add_ok _ _)) (mod_ok (by decide))
  have q0 := Int.emod_nonneg ((if c < 0 then -c else c) * 9973 + w * 59 + 5 * (if decide (c < 0) = true then 1 else 0) + 101 * (k : Int)) (show (10 ^ 28 + 331 : Int) ≠ 0 by decide)
  have q1 := Int.emod_lt_of_pos ((if c < 0 then -c else c) * 9973 + w * 59 + 5 * (if decide (c < 0) = true then 1 else 0) + 101 * (k : Int)) (show (0 : Int) < 10 ^ 28 + 331 by decide)
  generalize (((if c < 0 then -c else c) * 9973 + w * 59 + 5 * (if decide (c < 0) = true then 1 else 0) + 101 * (k : Int)) % (10 ^ 28 + 331) : Int) = g at q q0 q1
  have m1 : ∀ x0 x1 x3 x4 x5, _ := fun x0 x1 x3 x4 x5 => max_at (lit (.int 0) _) (opM_at (f := subD) (abs_at (v2 x0 x1 x3 x4 x5 c)) (opM_at (f := powD) (lit (.int 10) _) (lit (.int 18) _) p18) (sub_ok _ _))
  refine ⟨.lst [.int (if (if c < 0 then -c else c) - 10 ^ 18 > 0 then (if c < 0 then -c else c) - 10 ^ 18 else 0), .int g, .int 0], ⟨_, _, _, rfl, q0, by
    have : (10 : Int) ^ 28 + 331 < 10 ^ 29 := by decide
    omega, by decide, by decide⟩, ?_⟩
  have s2 : ∀ y, List.set [some (Vl.d (.list (ns.map PyData.int))), some (Vl.d (.int k)), none, none, none, none] 2 y = [some (Vl.d (.list (ns.map PyData.int))), some (Vl.d (.int k)), y, none, none, none] := fun _ => rfl
  have s3 : ∀ y z, List.set [some (Vl.d (.list (ns.map PyData.int))), some (Vl.d (.int k)), y, none, none, none] 3 z = [some (Vl.d (.list (ns.map PyData.int))), some (Vl.d (.int k)), y, z, none, none] := fun _ _ => rfl
  have s5 : ∀ y z w x, List.set [some (Vl.d (.list (ns.map PyData.int))), some (Vl.d (.int k)), y, z, w, none] 5 x = [some (Vl.d (.list (ns.map PyData.int))), some (Vl.d (.int k)), y, z, w, x] := fun _ _ _ _ => rfl
  have fM : Fz.forM (seqA (varM 0)) (gN 4) uwhole [some (Vl.d (.list (ns.map PyData.int))), some (Vl.d (.int k)), some (.d (.int c)), some (.d (.int (17 + 3 * (ns.length : Nat)))), none, none] hp = .ok .nx [some (Vl.d (.list (ns.map PyData.int))), some (Vl.d (.int k)), some (.d (.int c)), some (.d (.int w)), x, none] hp := by
    unfold Fz.forM seqA
    simp only [v0, bind_ok, toS_ok, el]
  have l0 : lstO (consM (blt max2D (consM (cM (.int 0)) (consM (opM subD (blt absD (consM (varM 2) nilM)) (opM powD (cM (.int 10)) (cM (.int 18)))) nilM))) (consM (varM 5) (consM (cM (.int 0)) nilM))) [some (Vl.d (.list (ns.map PyData.int))), some (Vl.d (.int k)), some (.d (.int c)), some (.d (.int w)), x, some (.d (.int g))] hp
      = .ok (.r hp.length) (hp ++ [.lst [.int (if (if c < 0 then -c else c) - 10 ^ 18 > 0 then (if c < 0 then -c else c) - 10 ^ 18 else 0), .int g, .int 0]]) := by
    simp only [lstO, consM, nilM, ↓m1, v5, cM, bind_ok, allData_cons, allData_nil, Option.map_some]
    rfl
  have fin : finO hp.length (.r hp.length) (hp ++ [.lst [.int (if (if c < 0 then -c else c) - 10 ^ 18 > 0 then (if c < 0 then -c else c) - 10 ^ 18 else 0), .int g, .int 0]]) = .ok (.r hp.length) (hp ++ [.lst [.int (if (if c < 0 then -c else c) - 10 ^ 18 > 0 then (if c < 0 then -c else c) - 10 ^ 18 else 0), .int g, .int 0]]) := by
    unfold finO
    have g1 : (hp ++ [O.lst [.int (if (if c < 0 then -c else c) - 10 ^ 18 > 0 then (if c < 0 then -c else c) - 10 ^ 18 else 0), .int g, .int 0]])[hp.length]? = some (O.lst [.int (if (if c < 0 then -c else c) - 10 ^ 18 > 0 then (if c < 0 then -c else c) - 10 ^ 18 else 0), .int g, .int 0]) := by rw [List.getElem?_append_right (Nat.le_refl _)]; simp
    simp only [if_neg (Nat.lt_irrefl _), g1, List.take_left, if_pos]
  simp only [f__law_urn, m__law_urn, runDef, List.length_cons, List.length_nil, if_pos, List.map_cons, List.map_nil, List.replicate, List.cons_append, List.nil_append, seqM, asgM, ↓ec, toS_ok, s2, ↓ew, s3, ↓fM, ↓q, s5, retM, ↓l0, fin]
end Fs

set_option Elab.async false
set_option linter.all false
set_option maxRecDepth 100000
set_option maxHeartbeats 4000000
/-! FsT: small data: what repr, ==, anew do with it -/
namespace Fs
open PySem PySem.Spec PyProof.Rows L2 Fz

/-- small data: no more than w items beside each other, n deep, small numbers and texts -/
def tame (w : Nat) : Nat → D → Bool
  | _, .none => true
  | _, .bool _ => true
  | _, .int i => decide (i.natAbs < 10 ^ 30)
  | _, .str x => decide ((reprText x).length ≤ 40) && (PyData.str x).canLay0
  | 0, .list ds => ds.isEmpty
  | 0, .tuple ds => ds.isEmpty
  | n + 1, .list ds => decide (ds.length ≤ w) && ds.all (tame w n)
  | n + 1, .tuple ds => decide (ds.length ≤ w) && ds.all (tame w n)
  | _, .dict _ => false
/-- how long its text may be -/
def tB (w : Nat) : Nat → Nat
  | 0 => 50
  | n + 1 => w * (tB w n + 2) + 50
theorem tB_50 (w n : Nat) : 50 ≤ tB w n := by
  cases n with
  | zero => exact Nat.le_refl _
  | succ n => unfold tB; omega
theorem int_text {i : Int} (h : i.natAbs < 10 ^ 30) : (PyData.int i).shown.length ≤ 40 := by
  rw [PyData.shown_int]
  by_cases c : 0 ≤ i
  · have := toString_length_le c (show 0 < 30 by decide) (by
      have : (10 : Int) ^ 30 = ((10 ^ 30 : Nat) : Int) := by decide
      omega)
    exact Nat.le_trans this (by decide)
  · obtain ⟨k, rfl⟩ : ∃ k : Nat, i = -((k + 1 : Nat) : Int) := ⟨i.natAbs - 1, by omega⟩
    have e : toString (-((k + 1 : Nat) : Int)) = "-" ++ toString ((k + 1 : Nat) : Int) := rfl
    have l := toString_length_le (v := ((k + 1 : Nat) : Int)) (by omega) (show 0 < 30 by decide) (by
      have : (10 : Int) ^ 30 = ((10 ^ 30 : Nat) : Int) := by decide
      rw [Int.natAbs_neg, Int.natAbs_natCast] at h
      omega)
    show (Str.ofString (toString (-((k + 1 : Nat) : Int)))).length ≤ 40
    rw [e, PyProof.Rows.ofString_length]
    rw [PyProof.Rows.ofString_length] at l
    simp only [String.toList_append, List.length_append]
    have : ("-" : String).toList.length = 1 := rfl
    omega
theorem log_small {n : Nat} (h : n < 10 ^ 30) : n.log2 < 1920 := by
  by_cases c : n = 0
  · subst c; decide
  · refine (Nat.log2_lt c).mpr (Nat.lt_trans h ?_)
    exact Nat.lt_of_lt_of_le (show 10 ^ 30 < 2 ^ 100 by decide) (Nat.pow_le_pow_right (by decide) (by decide))
structure TmOk (w n : Nat) (d : D) : Prop where
  lay : d.canLay0 = true
  sho : d.showable = true
  nod : d.hasDict = false
  dep : d.depth ≤ n + 1
  len : d.shown.length ≤ tB w n
structure TmsOk (w n : Nat) (ds : List D) : Prop where
  lay : PyData.canLayAll0 ds = true
  sho : PyData.showableAll ds = true
  nod : PyData.hasDictAll ds = false
  dep : PyData.depthAll ds ≤ n + 1
  len : piled (PyData.shownAll ds) ≤ ds.length * (tB w n + 2)
theorem tms_of {w n : Nat} (ih : ∀ d, tame w n d = true → TmOk w n d) : ∀ ds : List D, ds.all (tame w n) = true → TmsOk w n ds
  | [], _ => ⟨rfl, rfl, rfl, Nat.zero_le _, Nat.zero_le _⟩
  | d :: ds, h => by
    rw [List.all_cons, Bool.and_eq_true] at h
    have a := ih d h.1
    have b := tms_of ih ds h.2
    refine ⟨?_, ?_, ?_, ?_, ?_⟩
    · show (PyData.canLay0 d && PyData.canLayAll0 ds) = true
      rw [a.lay, b.lay]; rfl
    · show (PyData.showable d && PyData.showableAll ds) = true
      rw [a.sho, b.sho]; rfl
    · show (PyData.hasDict d || PyData.hasDictAll ds) = false
      rw [a.nod, b.nod]; rfl
    · show max (PyData.depth d) (PyData.depthAll ds) ≤ n + 1
      have := a.dep
      have := b.dep
      omega
    · rw [PyData.shownAll_cons, piled_cons, List.length_cons, Nat.succ_mul]
      have := a.len
      have := b.len
      omega
theorem join_short {w n : Nat} {ds : List D} (hl : ds.length ≤ w) (b : TmsOk w n ds) : (Str.join ", " (PyData.shownAll ds)).length ≤ w * (tB w n + 2) := by
  cases c : PyData.shownAll ds with
  | nil => exact Nat.zero_le _
  | cons t ts =>
    have e3 := join_length_add (t :: ts) (by simp)
    have := b.len
    rw [c] at this
    have m : ds.length * (tB w n + 2) ≤ w * (tB w n + 2) := Nat.mul_le_mul_right _ hl
    omega
theorem tame_ok (w : Nat) : ∀ (n : Nat) (d : D), tame w n d = true → TmOk w n d := by
  have flat : ∀ n d, (d = .none ∨ (∃ b, d = .bool b) ∨ (∃ i, d = .int i) ∨ ∃ x, d = .str x) → tame w n d = true → TmOk w n d := by
    intro n d hd h
    have b50 := tB_50 w n
    rcases hd with rfl | ⟨b, rfl⟩ | ⟨i, rfl⟩ | ⟨x, rfl⟩
    · exact ⟨rfl, rfl, rfl, Nat.zero_le _, Nat.le_trans (by decide) b50⟩
    · exact ⟨rfl, rfl, rfl, Nat.zero_le _, Nat.le_trans (show _ ≤ 50 by cases b <;> decide) b50⟩
    · have h' : i.natAbs < 10 ^ 30 := by cases n <;> exact of_decide_eq_true h
      exact ⟨rfl, decide_eq_true (log_small h'), rfl, Nat.zero_le _, Nat.le_trans (int_text h') (by omega)⟩
    · have hh : (decide ((reprText x).length ≤ 40) && (PyData.str x).canLay0) = true := by cases n <;> exact h
      rw [Bool.and_eq_true] at hh
      have h' : (reprText x).length ≤ 40 := of_decide_eq_true hh.1
      exact ⟨hh.2, rfl, rfl, Nat.zero_le _, by rw [PyData.shown_str]; omega⟩
  have deep : ∀ n ds, ds.length ≤ w → TmsOk w n ds → TmOk w (n + 1) (.list ds) ∧ TmOk w (n + 1) (.tuple ds) := by
    intro n ds hl b
    have j := join_short hl b
    have e1 : ((("[" : String) : Str)).length = 1 := rfl
    have e2 : ((("]" : String) : Str)).length = 1 := rfl
    have e3 : ((("(" : String) : Str)).length = 1 := rfl
    have e4 : (((if ds.length == 1 then ",)" else ")" : String) : Str)).length ≤ 2 := by split <;> decide
    have dd := b.dep
    have u : tB w (n + 1) = w * (tB w n + 2) + 50 := rfl
    refine ⟨⟨b.lay, b.sho, b.nod, ?_, ?_⟩, ⟨b.lay, b.sho, b.nod, ?_, ?_⟩⟩
    · show PyData.depthAll ds + 1 ≤ n + 1 + 1
      omega
    · rw [PyData.shown_list, strLen_append, strLen_append]; omega
    · show PyData.depthAll ds + 1 ≤ n + 1 + 1
      omega
    · rw [PyData.shown_tuple, strLen_append, strLen_append]; omega
  intro n
  induction n with
  | zero =>
    intro d h
    cases d with
    | none => exact flat 0 _ (.inl rfl) h
    | bool b => exact flat 0 _ (.inr (.inl ⟨b, rfl⟩)) h
    | int i => exact flat 0 _ (.inr (.inr (.inl ⟨i, rfl⟩))) h
    | str x => exact flat 0 _ (.inr (.inr (.inr ⟨x, rfl⟩))) h
    | dict _ => cases h
    | list ds =>
      cases ds with
      | nil => exact ⟨rfl, rfl, rfl, by decide, by show _ ≤ 50; decide⟩
      | cons _ _ => cases h
    | tuple ds =>
      cases ds with
      | nil => exact ⟨rfl, rfl, rfl, by decide, by show _ ≤ 50; decide⟩
      | cons _ _ => cases h
  | succ n ih =>
    intro d h
    cases d with
    | none => exact flat _ _ (.inl rfl) h
    | bool b => exact flat _ _ (.inr (.inl ⟨b, rfl⟩)) h
    | int i => exact flat _ _ (.inr (.inr (.inl ⟨i, rfl⟩))) h
    | str x => exact flat _ _ (.inr (.inr (.inr ⟨x, rfl⟩))) h
    | dict _ => cases h
    | list ds =>
      have h' : (decide (ds.length ≤ w) && ds.all (tame w n)) = true := h
      rw [Bool.and_eq_true] at h'
      exact (deep n ds (of_decide_eq_true h'.1) (tms_of ih ds h'.2)).1
    | tuple ds =>
      have h' : (decide (ds.length ≤ w) && ds.all (tame w n)) = true := h
      rw [Bool.and_eq_true] at h'
      exact (deep n ds (of_decide_eq_true h'.1) (tms_of ih ds h'.2)).2
theorem tame_tup {w n : Nat} {ds : List D} : tame w (n + 1) (.tuple ds) = true ↔ ds.length ≤ w ∧ ∀ d ∈ ds, tame w n d = true := by
  show (decide (ds.length ≤ w) && ds.all (tame w n)) = true ↔ _
  rw [Bool.and_eq_true, decide_eq_true_iff, List.all_eq_true]
theorem tame_lst {w n : Nat} {ds : List D} : tame w (n + 1) (.list ds) = true ↔ ds.length ≤ w ∧ ∀ d ∈ ds, tame w n d = true := by
  show (decide (ds.length ≤ w) && ds.all (tame w n)) = true ↔ _
  rw [Bool.and_eq_true, decide_eq_true_iff, List.all_eq_true]
theorem tame_up {w : Nat} : ∀ {n : Nat} {d : D}, tame w n d = true → tame w (n + 1) d = true := by
  intro n
  induction n with
  | zero =>
    intro d h
    cases d with
    | list ds =>
      cases ds with
      | nil => exact tame_lst.mpr ⟨Nat.zero_le _, fun _ h => nomatch h⟩
      | cons _ _ => cases h
    | tuple ds =>
      cases ds with
      | nil => exact tame_tup.mpr ⟨Nat.zero_le _, fun _ h => nomatch h⟩
      | cons _ _ => cases h
    | dict _ => cases h
    | none => rfl
    | bool _ => rfl
    | int _ => exact h
    | str _ => exact h
  | succ n ih =>
    intro d h
    cases d with
    | list ds =>
      have h := tame_lst.mp h
      exact tame_lst.mpr ⟨h.1, fun d hd => ih (h.2 d hd)⟩
    | tuple ds =>
      have h := tame_tup.mp h
      exact tame_tup.mpr ⟨h.1, fun d hd => ih (h.2 d hd)⟩
    | dict _ => cases h
    | none => rfl
    | bool _ => rfl
    | int _ => exact h
    | str _ => exact h
theorem tame_rep {w n : Nat} {d : D} (h : tame w n d = true) (hn : n ≤ 90) (hB : tB w n ≤ 10000000) : repOk d := by
  have t := tame_ok w n d h
  exact ⟨t.lay, t.sho, t.nod, by have := t.dep; omega, Nat.le_trans t.len hB⟩
theorem tame_shaped {w n : Nat} {d : D} (h : tame w n d = true) (hn : n ≤ 60) : SeqAt.shaped d = true := by
  have t := tame_ok w n d h
  show (d.canLay0 && decide (d.depth ≤ 64)) = true
  rw [t.lay, decide_eq_true (by have := t.dep; omega)]; rfl
theorem neD_same {d : D} (h : SeqAt.shaped d = true) : neD d d = some (.bool false) := by
  have l : d.canLay0 = true := (Bool.and_eq_true_iff.mp h).1
  unfold neD
  rw [if_pos ⟨h, h⟩, SeqAt.eqv_refl d l]; rfl
theorem neA_same {d : D} (h : SeqAt.shaped d = true) : neA d d = some (.bool false) := by
  cases d with
  | str x => show some (PyData.bool (!decide (x = x))) = _; rw [decide_eq_true rfl]; rfl
  | _ => exact neD_same h
/-- a copy of what is small is the same -/
theorem anew_tame (w : Nat) : ∀ (n : Nat) (d : D), tame w n d = true → ∀ hp, g_anew (n + 1) [.d d] hp = .ok (.d d) hp := by
  have scal : ∀ n d, isTup d = false → (∀ ds, d ≠ .list ds) → ∀ hp, g_anew (n + 1) [.d d] hp = .ok (.d d) hp := by
    intro n d h1 h2 hp
    cases d <;> first | (cases h1; done) | exact absurd rfl (h2 _) | simp [g_anew, m_anew, runDef, seqM, ifM, tstM, isiM, unM, tyN, isB, varM, skipM, retM, List.replicate]
  intro n
  induction n with
  | zero =>
    intro d h hp
    cases d with
    | list ds =>
      cases ds with
      | nil => exact anew_lst 0 [] (fun _ h => nomatch h) hp
      | cons _ _ => cases h
    | tuple ds =>
      cases ds with
      | nil => exact anew_tup 0 [] (fun _ h => nomatch h) hp
      | cons _ _ => cases h
    | dict _ => cases h
    | none => exact scal 0 _ rfl (fun _ z => PyData.noConfusion z) hp
    | bool _ => exact scal 0 _ rfl (fun _ z => PyData.noConfusion z) hp
    | int _ => exact scal 0 _ rfl (fun _ z => PyData.noConfusion z) hp
    | str _ => exact scal 0 _ rfl (fun _ z => PyData.noConfusion z) hp
  | succ n ih =>
    intro d h hp
    cases d with
    | list ds =>
      have h := tame_lst.mp h
      exact anew_lst (n + 1) ds (fun d hd hp => ih d (h.2 d hd) hp) hp
    | tuple ds =>
      have h := tame_tup.mp h
      exact anew_tup (n + 1) ds (fun d hd hp => ih d (h.2 d hd) hp) hp
    | dict _ => cases h
    | none => exact scal _ _ rfl (fun _ z => PyData.noConfusion z) hp
    | bool _ => exact scal _ _ rfl (fun _ z => PyData.noConfusion z) hp
    | int _ => exact scal _ _ rfl (fun _ z => PyData.noConfusion z) hp
    | str _ => exact scal _ _ rfl (fun _ z => PyData.noConfusion z) hp
end Fs

set_option Elab.async false
set_option linter.all false
set_option maxRecDepth 100000
set_option maxHeartbeats 4000000
/-! FsU: is_a_renaming of any data; renamed with nothings -/
namespace Fs
open PySem PySem.Spec PyProof.Rows L2 Fz Ren

def pairB : D → Bool
  | .tuple [x, y] => isNm x && isNm y
  | _ => false
theorem is_pair_len (ds : List D) (hp : List O) (h : ds.length ≠ 2) : f_is_pair [.d (.tuple ds)] hp = .ok (.d (.bool false)) hp := by
  have e := fun hp => is_tuple_yes ds 2 2 hp
  have f : (decide ((2 : Int) ≤ ds.length) && decide ((ds.length : Int) ≤ 2)) = false := by
    by_cases c : (2 : Int) ≤ ds.length
    · rw [decide_eq_true c, decide_eq_false (by omega)]; rfl
    · rw [decide_eq_false c]; rfl
  rw [f] at e
  simp [f_is_pair, m_is_pair, runDef, retM, andE, callM, consM, nilM, varM, cM, e, List.replicate]
theorem is_pair_all (v : D) (hp : List O) : f_is_pair [.d v] hp = .ok (.d (.bool (pairB v))) hp := by
  cases v with
  | tuple ds =>
    match ds with
    | [x, y] => exact is_pair_yes x y hp
    | [] => exact is_pair_len [] hp (by decide)
    | [x] => exact is_pair_len [x] hp (by simp)
    | x :: y :: z :: r => exact is_pair_len _ hp (by simp)
  | _ => exact is_pair_no _ hp rfl
def toP : D → Int × Int
  | .tuple [.int a, .int b] => (a, b)
  | _ => (0, 0)
theorem isNm_int {x : D} (h : isNm x = true) : ∃ i, x = .int i ∧ 0 ≤ i := by
  cases x with
  | int i => exact ⟨i, rfl, of_decide_eq_true h⟩
  | _ => cases h
theorem pairB_eq {v : D} (h : pairB v = true) : v = pD (toP v) ∧ okP (toP v) = true := by
  unfold pairB at h
  split at h
  · rename_i x y
    rw [Bool.and_eq_true] at h
    obtain ⟨a, rfl, ha⟩ := isNm_int h.1
    obtain ⟨b, rfl, hb⟩ := isNm_int h.2
    refine ⟨rfl, ?_⟩
    show (decide (0 ≤ a) && decide (0 ≤ b)) = true
    rw [decide_eq_true ha, decide_eq_true hb]; rfl
  · cases h
theorem pairs_eq : ∀ {ds : List D}, ds.all pairB = true → ds = (ds.map toP).map pD
  | [], _ => rfl
  | d :: ds, h => by
    rw [List.all_cons, Bool.and_eq_true] at h
    rw [List.map_cons, List.map_cons, ← pairs_eq h.2, ← (pairB_eq h.1).1]
def isRen : D → Bool
  | .tuple ds => ds.all pairB && chk (ds.map toP)
  | _ => false
theorem ren_all (d : D) (hp : List O) (hz : ∀ ds, d = .tuple ds → ds.length ≤ 4000) : f_is_a_renaming [.d d] hp = .ok (.d (.bool (isRen d))) hp := by
  cases d with
  | tuple ds =>
    show _ = Res.ok (Vl.d (.bool (ds.all pairB && chk (ds.map toP)))) hp
    cases c : ds.all pairB with
    | false => exact renaming_bad ds pairB hp (fun d _ hp => is_pair_all d hp) c
    | true =>
      have e := renaming_eq (ds.map toP) hp (by rw [List.length_map]; exact hz ds rfl)
      rw [← pairs_eq c] at e
      rw [e]; rfl
  | _ => exact renaming_no _ hp rfl
theorem isren_all (d : D) (hp : List O) (hz : ∀ ds, d = .tuple ds → ds.length ≤ 4000) : f_is_renaming [.d d] hp = .ok (.d (.bool (isRen d))) hp := by
  have e := fun hp => ren_all d hp hz
  simp [f_is_renaming, m_is_renaming, runDef, retM, callM, consM, nilM, varM, e, List.replicate]
theorem toP_pD (p : Int × Int) : toP (pD p) = p := rfl
theorem isRen_rD (R : NP) (V : Valid R) : isRen (rD R) = true := by
  have e := chk_R R V
  have h : ((toZ R).map pD).map toP = toZ R := by
    rw [List.map_map]
    exact List.map_id _
  have a : ((toZ R).map pD).all pairB = true := by
    rw [List.all_map, List.all_eq_true]
    intro p hp
    unfold toZ at hp
    obtain ⟨q, _, rfl⟩ := List.mem_map.mp hp
    show (decide ((0 : Int) ≤ (q.1 : Int)) && decide ((0 : Int) ≤ (q.2 : Int))) = true
    rw [decide_eq_true (Int.natCast_nonneg _), decide_eq_true (Int.natCast_nonneg _)]; rfl
  show (((toZ R).map pD).all pairB && chk (((toZ R).map pD).map toP)) = true
  rw [a, h, e]; rfl

/-! ### renamed, with nothings -/
def imgI (R : NP) (z : Int) : Int := if z = -1 then -1 else (img R z.toNat : Nat)
theorem imgI_nat (R : NP) (n : Nat) : imgI R n = (img R n : Nat) := by
  unfold imgI
  rw [if_neg (by omega)]; rfl
theorem imgZ_m1 (R : NP) : imgZ (toZ R) (-1) = -1 := by
  unfold imgZ
  have : (toZ R).find? (fun p => decide (p.1 = (-1 : Int))) = none := by
    rw [List.find?_eq_none]
    intro p hp
    unfold toZ at hp
    obtain ⟨q, _, rfl⟩ := List.mem_map.mp hp
    have : ¬ ((q.1 : Int) = -1) := by omega
    simpa using this
  rw [this]; rfl
theorem image_I (R : NP) (V : Valid R) (hz : R.length < 64) (z : Int) (h : -1 ≤ z) (hp : List O) : f_image [.d (rD R), .d (.int z)] hp = .ok (.d (.int (imgI R z))) hp := by
  by_cases c : z = -1
  · subst c
    rw [image_eq (toZ R) (-1) hp (by rw [fs_toZ]; exact zs_nodup.mpr (pw_nodup V.fs)) (by rw [toZ_len]; exact hz), imgZ_m1]; rfl
  · obtain ⟨n, rfl⟩ : ∃ n : Nat, z = n := ⟨z.toNat, by omega⟩
    rw [imgI_nat]
    exact image_R R V hz n hp
theorem images_I (R : NP) (V : Valid R) (hz : R.length < 64) (l : List Int) (hl : ∀ z ∈ l, -1 ≤ z) (hp : List O) : f_images [.d (rD R), .d (.tuple (l.map PyData.int))] hp = .ok (.d (.tuple ((l.map (imgI R)).map PyData.int))) hp := by
  have e : lcM [2] (seqA (varM 1)) (gN 2) yesT (callM f_image (consM (varM 0) (consM (varM 2) nilM))) [some (.d (rD R)), some (.d (.tuple (l.map PyData.int))), none] hp = .ok (.d (.list ((l.map (imgI R)).map PyData.int))) hp := by
    rw [lcM_eq (ds := l.map PyData.int) (h := fun d => match d with | .int i => .int (imgI R i) | _ => .none) rfl ?_]
    · rw [List.map_map, List.map_map]; rfl
    · intro d hd hp
      obtain ⟨i, hi, rfl⟩ := List.mem_map.mp hd
      exact image_I R V hz i (hl i hi) hp
  simp [f_images, m_images, runDef, retM, blt, consM, nilM, ↓e, tupleD, List.replicate]
def valB : D → Bool
  | .tuple ds => ds.all natB
  | _ => false
theorem natB_eq (d : D) (hp : List O) : f_is_between [.d d, .d (.int (-1)), .d d] hp = .ok (.d (.bool (natB d))) hp := by
  cases d with
  | int i =>
    have e := between_int i (-1) i hp
    have hh : natB (.int i) = (decide ((-1 : Int) ≤ i) && decide (i ≤ i)) := by simp [natB]
    rw [hh]; exact e
  | _ => exact between_no _ _ _ hp rfl
theorem values_all (d : D) (hp : List O) : f_are_values [.d d] hp = .ok (.d (.bool (valB d))) hp := by
  cases d with
  | tuple ds =>
    have e : lcM [1] (seqA (varM 0)) (gN 1) yesT (callM f_is_between (consM (varM 1) (consM (cM (.int (-1))) (consM (varM 1) nilM)))) [some (.d (.tuple ds)), none] hp = .ok (.d (.list (ds.map fun d => .bool (natB d)))) hp :=
      lcM_eq rfl fun d _ hp => natB_eq d hp
    have a : (ds.map natB).all id = ds.all natB := List.all_map
    have b : blt allD (consM (lcM [1] (seqA (varM 0)) (gN 1) yesT (callM f_is_between (consM (varM 1) (consM (cM (.int (-1))) (consM (varM 1) nilM))))) nilM) [some (.d (.tuple ds)), none] hp = .ok (.d (.bool (ds.all natB))) hp := by
      simp only [blt, consM, nilM, ↓e, bind_ok, viewsD_cons, viewsD_nil, Option.map_some, allD, asBools_fn, a, okD_some]
    simp [f_are_values, m_are_values, runDef, retM, andE, isiM, unM, ↓b, varM, tyN, isB, valB, List.replicate]
  | _ => simp [f_are_values, m_are_values, runDef, retM, andE, isiM, unM, varM, tyN, isB, valB, List.replicate]
theorem renamed_I (R : NP) (V : Valid R) (hz : R.length < 64) (l : List Int) (hl : ∀ z ∈ l, -1 ≤ z) (hp : List O) : f_renamed [.d (rD R), .d (.tuple (l.map PyData.int))] hp = .ok (.d (.tuple ((l.map (imgI R)).map PyData.int))) hp := by
  have e1 := fun hp => need_R R V (by omega) hp
  have vb : valB (.tuple (l.map PyData.int)) = true := by
    show (l.map PyData.int).all natB = true
    rw [List.all_map, List.all_eq_true]
    intro z hz
    exact decide_eq_true (hl z hz)
  have e2 := fun hp => values_all (.tuple (l.map PyData.int)) hp
  rw [vb] at e2
  have e3 := fun hp => images_I R V hz l hl hp
  simp [f_renamed, m_renamed, runDef, seqM, exprM, ifM, notT, tstM, retM, callM, consM, nilM, varM, e1, e2, e3, skipM, List.replicate]
/-- what renamed refuses -/
theorem need_no {d : D} (h : isRen d = false) (hz : ∀ ds, d = .tuple ds → ds.length ≤ 4000) {w : Nat} (ht : tame w 2 d = true) (hp : List O) : f_need_renaming [.d d] hp = .exc ⟨"InvalidRenaming", d⟩ hp := by
  have e1 := fun hp => ren_all d hp hz
  rw [h] at e1
  have e2 : ∀ hp, f_anew [.d d] hp = .ok (.d d) hp := anew_tame w 2 d ht
  simp [f_need_renaming, m_need_renaming, runDef, ifM, notT, tstM, callM, consM, nilM, varM, e1, e2, raiseM, List.replicate]
theorem renamed_no1 {d : D} (h : isRen d = false) (hz : ∀ ds, d = .tuple ds → ds.length ≤ 4000) {w : Nat} (ht : tame w 2 d = true) (u : D) (hp : List O) : f_renamed [.d d, .d u] hp = .exc ⟨"InvalidRenaming", d⟩ hp := by
  have e1 := fun hp => need_no h hz ht hp
  simp [f_renamed, m_renamed, runDef, seqM, exprM, callM, consM, nilM, varM, e1, List.replicate]
theorem renamed_no2 (R : NP) (V : Valid R) (hz : R.length < 64) {u : D} (h : valB u = false) {w : Nat} (ht : tame w 2 u = true) (hp : List O) : f_renamed [.d (rD R), .d u] hp = .exc ⟨"InvalidNames", u⟩ hp := by
  have e1 := fun hp => need_R R V (by omega) hp
  have e2 := fun hp => values_all u hp
  rw [h] at e2
  have e3 : ∀ hp, f_anew [.d u] hp = .ok (.d u) hp := anew_tame w 2 u ht
  simp [f_renamed, m_renamed, runDef, seqM, exprM, ifM, notT, tstM, raiseM, callM, consM, nilM, varM, e1, e2, e3, List.replicate]
end Fs

set_option Elab.async false
set_option linter.all false
set_option maxRecDepth 100000
set_option maxHeartbeats 8000000
/-! FsV: dicts of marks, evaluation by pieces -/
namespace Fs
open PySem PySem.Spec PyProof.Rows L2 Fz Ren

/-! ### a renaming out of the urn -/
def kvT (ks : List Nat) : List (D × D) := ks.map fun k : Nat => (PyData.int (k : Int), PyData.bool true)
def addN (ks : List Nat) (k : Nat) : List Nat := if k ∈ ks then ks else ks ++ [k]
theorem any_kvT (ks : List Nat) (k : Nat) : ((kvT ks).any fun p => keq p.1 (.int (k : Int))) = decide (k ∈ ks) := by
  induction ks with
  | nil => rfl
  | cons x ks ih =>
    show (decide ((x : Int) = (k : Int)) || (kvT ks).any fun p => keq p.1 (.int (k : Int))) = _
    rw [ih]
    by_cases h : x = k
    · subst h; simp
    · have h1 : ¬ (x : Int) = (k : Int) := fun z => h (Int.ofNat_inj.mp z)
      have h2 : ¬ k = x := fun z => h z.symm
      simp [h1, h2]
theorem put_kvT (ks : List Nat) (k : Nat) : putD (kvT ks) (.int (k : Int)) (.bool true) = kvT (addN ks k) := by
  unfold putD addN
  rw [any_kvT]
  by_cases h : k ∈ ks
  · rw [decide_eq_true h, if_pos rfl, if_pos h]
    unfold kvT
    rw [List.map_map]
    apply List.map_congr_left
    intro x _
    dsimp only [Function.comp]
    split <;> rfl
  · rw [decide_eq_false h, if_neg Bool.false_ne_true, if_neg h]
    unfold kvT
    rw [List.map_append]; rfl
theorem addN_nodup {ks : List Nat} {k : Nat} (h : ks.Nodup) : (addN ks k).Nodup := by
  unfold addN
  by_cases c : k ∈ ks
  · rw [if_pos c]; exact h
  · rw [if_neg c]
    exact List.nodup_append.mpr ⟨h, by simp, fun a ha b hb => by
      have e : b = k := by simpa using hb
      intro z
      exact c (by rw [← e, ← z]; exact ha)⟩
theorem addN_len (ks : List Nat) (k : Nat) : (addN ks k).length ≤ ks.length + 1 := by
  unfold addN
  split
  · omega
  · rw [List.length_append]; exact Nat.le_refl _
theorem addN_lt {B : Nat} {ks : List Nat} {k : Nat} (h : ∀ x ∈ ks, x < B) (hk : k < B) : ∀ x ∈ addN ks k, x < B := by
  unfold addN
  split
  · exact h
  · intro x hx
    rcases List.mem_append.mp hx with hx | hx
    · exact h x hx
    · rw [List.mem_singleton] at hx
      omega
structure KsOk (B i : Nat) (ks : List Nat) : Prop where
  nd : ks.Nodup
  lt : ∀ x ∈ ks, x < B
  len : ks.length ≤ i
theorem KsOk.add {B i k : Nat} {ks : List Nat} (h : KsOk B i ks) (hk : k < B) : KsOk B (i + 1) (addN ks k) := ⟨addN_nodup h.nd, addN_lt h.lt hk, by have := addN_len ks k; have := h.len; omega⟩
def HH (b : List O) (n : Nat) (o : O) (k1 k2 : List Nat) : List O := b.set n o ++ [.dic (kvT k1), .dic (kvT k2)]
section
variable {b : List O} {n : Nat} (hn : n < b.length) (o : O) (k1 k2 : List Nat)
include hn
theorem HH_n : (HH b n o k1 k2)[n]? = some o := by
  unfold HH
  rw [List.getElem?_append_left (by rw [List.length_set]; exact hn)]
  exact List.getElem?_set_self hn
theorem HH_sn (o' : O) : (HH b n o k1 k2).set n o' = HH b n o' k1 k2 := by
  unfold HH
  rw [List.set_append_left _ _ (by rw [List.length_set]; exact hn), List.set_set]
omit hn
theorem HH_1 : (HH b n o k1 k2)[b.length]? = some (.dic (kvT k1)) := by
  unfold HH
  rw [List.getElem?_append_right (by rw [List.length_set]; exact Nat.le_refl _), List.length_set, Nat.sub_self]; rfl
theorem HH_2 : (HH b n o k1 k2)[b.length + 1]? = some (.dic (kvT k2)) := by
  unfold HH
  rw [List.getElem?_append_right (by rw [List.length_set]; omega), List.length_set, Nat.add_sub_cancel_left]; rfl
theorem HH_s1 (k : List Nat) : (HH b n o k1 k2).set b.length (.dic (kvT k)) = HH b n o k k2 := by
  unfold HH
  rw [List.set_append_right _ _ (by rw [List.length_set]; exact Nat.le_refl _), List.length_set, Nat.sub_self]; rfl
theorem HH_s2 (k : List Nat) : (HH b n o k1 k2).set (b.length + 1) (.dic (kvT k)) = HH b n o k1 k := by
  unfold HH
  rw [List.set_append_right _ _ (by rw [List.length_set]; omega), List.length_set, Nat.add_sub_cancel_left]; rfl
theorem HH_t : (HH b n o k1 k2).take b.length = b.set n o := by
  unfold HH
  exact List.take_left' (List.length_set ..)
end
theorem kvT_len (ks : List Nat) : (kvT ks).length = ks.length := List.length_map _
theorem zip_fst : ∀ a c : List Nat, ((a.zip c).map (·.1)).Sublist a
  | [], _ => by simp
  | x :: a, [] => by simp
  | x :: a, y :: c => (zip_fst a c).cons_cons x
theorem zip_snd : ∀ a c : List Nat, ((a.zip c).map (·.2)).Sublist c
  | [], _ => by simp
  | x :: a, [] => by simp
  | x :: a, y :: c => (zip_snd a c).cons_cons y
theorem zip_toZ : ∀ a c : List Nat, (((zs a).map PyData.int).zip ((zs c).map PyData.int)).map (fun p => PyData.tuple [p.1, p.2]) = (toZ (a.zip c)).map pD
  | [], _ => by simp [zs, toZ]
  | x :: a, [] => by simp [zs, toZ]
  | x :: a, y :: c => by
    show PyData.tuple [.int x, .int y] :: (((zs a).map PyData.int).zip ((zs c).map PyData.int)).map (fun p => PyData.tuple [p.1, p.2]) = _
    rw [zip_toZ a c]; rfl
theorem lc_step {f : GM} {te : EM} {lw loc1 : Ls} {v : Vl} {vs : List Vl} {b b' : List O} {acc : List D} {d : D} (hf : f v lw (b ++ [.lst acc]) = some loc1) (ht : te loc1 (b ++ [.lst acc]) = .ok (.d d) (b' ++ [.lst acc])) (hl : b'.length = b.length) :
    lcGo none f yesT te lw (v :: vs) b acc = lcGo none f yesT te lw vs b' (acc ++ [d]) := by
  have e : (b' ++ [O.lst acc])[b.length]? = some (.lst acc) := by rw [← hl, List.getElem?_append_right (Nat.le_refl _)]; simp
  have t : (b' ++ [O.lst acc]).take b.length = b' := by rw [← hl]; exact List.take_left
  conv => lhs; unfold lcGo
  rw [if_pos (show Kept none b from trivial), hf]
  dsimp only [yesT]
  rw [if_pos rfl, ht]
  dsimp only
  rw [if_pos e, t]
theorem lc_end {f : GM} {te : EM} {lw : Ls} {b : List O} {acc : List D} : lcGo none f yesT te lw [] b acc = .ok acc b := by
  unfold lcGo
  rw [if_pos (show Kept none b from trivial)]
theorem call1 {f : FM} {a : EM} {loc : Ls} {hp : List O} {v w : Vl} (ha : a loc hp = .ok v hp) (hf : f [v] hp = .ok w hp) : callM f (consM a nilM) loc hp = .ok w hp := by
  simp only [callM, consM, nilM, ha, bind_ok, hf]
theorem call2 {f : FM} {a b : EM} {loc : Ls} {hp : List O} {u v w : Vl} (ha : a loc hp = .ok u hp) (hb : b loc hp = .ok v hp) (hf : f [u, v] hp = .ok w hp) : callM f (consM a (consM b nilM)) loc hp = .ok w hp := by
  simp only [callM, consM, nilM, ha, hb, bind_ok, hf]
theorem ne_at {a b : EM} {loc : Ls} {hp : List O} {l l' : List Nat} (ha : a loc hp = .ok (.d (nD l)) hp) (hb : b loc hp = .ok (.d (nD l')) hp) (e : l = l') : tstM (opM neA a b) loc hp = .ok false hp := by
  subst e
  have := opM_at (f := neA) ha hb (neA_ti (zs l) (zs l))
  rw [decide_eq_true rfl] at this
  simp only [tstM, this, bind_ok, Bool.not_true]
theorem nes_at {a b : EM} {loc : Ls} {hp : List O} {x : Str} (ha : a loc hp = .ok (.d (.str x)) hp) (hb : b loc hp = .ok (.d (.str x)) hp) : tstM (opM neA a b) loc hp = .ok false hp := by
  have e : neA (.str x) (.str x) = some (.bool (!decide (x = x))) := rfl
  have := opM_at (f := neA) ha hb e
  rw [decide_eq_true rfl] at this
  simp only [tstM, this, bind_ok, Bool.not_true]
theorem or_ff {a b : TM} {loc : Ls} {hp : List O} (ha : a loc hp = .ok false hp) (hb : b loc hp = .ok false hp) : orT a b loc hp = .ok false hp := by
  simp only [orT, ha, bind_ok, if_neg Bool.false_ne_true, hb]
theorem if_ff {c : TM} {m : SM} {loc : Ls} {hp : List O} (hc : c loc hp = .ok false hp) : ifM c m skipM loc hp = .ok .nx loc hp := by
  simp only [ifM, hc, toS_ok, if_neg Bool.false_ne_true, skipM]
theorem seq_nx {m m' : SM} {loc loc1 : Ls} {hp hp1 : List O} (h : m loc hp = .ok .nx loc1 hp1) : seqM m m' loc hp = m' loc1 hp1 := by
  simp only [seqM, h]
theorem consM_two {a b : EM} {loc : Ls} {hp : List O} {u v : Vl} (ha : a loc hp = .ok u hp) (hb : b loc hp = .ok v hp) : consM a (consM b nilM) loc hp = .ok [u, v] hp := by
  simp only [consM, nilM, ha, hb, bind_ok]
theorem repr_at {a : EM} {loc : Ls} {hp : List O} {d : D} (ha : a loc hp = .ok (.d d) hp) (h : repOk d) : blt reprD (consM a nilM) loc hp = .ok (.d (.str d.shown)) hp := by
  simp only [blt, consM, nilM, ha, bind_ok, viewsD_cons, viewsD_nil, Option.map_some, Fz.reprD, if_pos h, okD_some]
theorem rng_get {r i : Nat} {v : Vl} (h : (rngI 0 (r : Int))[i]? = some v) : i < r ∧ v = .d (.int (i : Int)) := by
  have hl : (rngI 0 (r : Int)).length = r := by unfold rngI; rw [List.length_map, List.length_range]; omega
  have hi := (List.getElem?_eq_some_iff.mp h).1
  rw [hl] at hi
  refine ⟨hi, ?_⟩
  unfold rngI at h
  rw [List.getElem?_map, List.getElem?_range (by omega)] at h
  cases h
  show Vl.d (.int (0 + (i : Int))) = _
  rw [Int.zero_add]
end Fs

set_option Elab.async false
set_option linter.all false
set_option maxRecDepth 100000
set_option maxHeartbeats 8000000
namespace K00
open PySem PySem.Spec PyProof.Rows L2 Fz Fs
def top (i : Nat) : Stmt := PySem.Challenge.pw_freshshapes_k00_names_led_by_renamings.main.body.getD i (.Pass ⟨0, 0, 0, 0⟩)
def mt_InvalidNames : Str → Option Bool := fun x => if x = "InvalidNames" then some true else if x = "InvalidRenaming" then some false else none
def mt_InvalidRenaming : Str → Option Bool := fun x => if x = "InvalidNames" then some false else if x = "InvalidRenaming" then some true else none
theorem ok__law_urn {g : Gb} {fa : Addr} {fd : FuncData} (nb : NoB g.mg)     (Fu : Fun g.K "_law_urn" "_law_urn" (top 24) fa fd) (hm : g.mg "_law_urn" = some (.ref fa)) : FOk g 1 "_law_urn" (defArgs (top 24)) ["script", "k"] f__law_urn :=
  fok_ofB (N := ["script", "k", "cell", "whole", "part", "begin"]) nb (finO_ok g) Fu ⟨rfl, rfl, rfl, by decide +kernel, rfl, by decide +kernel, by decide +kernel⟩ hm (Fu.binds fun _ _ _ _ _ _ us hl => match us, hl with | [_, _], _ => rfl) fun cdv A outer s H E B tk po hr =>
    (mss_cons (ms_set (i := 2) B.nd (me_ite (t_lt (me_var (i := 1)) (w_len B (me_var (i := 0)))) (w_int B (w_ix B (me_var (i := 0)) (me_var (i := 1)))) (w_add (w_mul me_int (me_var (i := 1))) me_int)))
    (mss_cons (ms_set (i := 3) B.nd (w_add me_int (w_mul me_int (w_len B (me_var (i := 0))))))
    (mss_cons (ms_for po B.calm (mi_any (me_var (i := 0))) (mg_name (i := 4) B.nd) (mss_one (ms_set (i := 3) B.nd (w_mod (w_int B (w_add (w_mul (me_var (i := 3)) me_int) (w_mod (w_int B (me_var (i := 4))) (w_add (w_pow me_int me_int) me_int)))) (w_add (w_pow me_int me_int) me_int)))))
    (mss_cons (ms_set (i := 5) B.nd (w_mod (w_int B (w_add (w_add (w_add (w_mul (w_abs B (me_var (i := 2))) me_int) (w_mul (me_var (i := 3)) me_int)) (w_mul me_int (w_int B (w_lt (me_var (i := 2)) me_int)))) (w_mul me_int (me_var (i := 1))))) (w_add (w_pow me_int me_int) me_int)))
    (mss_one (ms_ret (me_lstO (ma_cons (w_max2 B me_int (w_sub (w_abs B (me_var (i := 2))) (w_pow me_int me_int))) (ma_cons (me_var (i := 5)) (ma_cons me_int ma_nil))))))))))
theorem ok__law_out {g : Gb} {fa : Addr} {fd : FuncData} (nb : NoB g.mg)     (Fu : Fun g.K "_law_out" "_law_out" (top 25) fa fd) (hm : g.mg "_law_out" = some (.ref fa)) : FOk g 1 "_law_out" (defArgs (top 25)) ["urn", "many"] f__law_out :=
  fok_ofB (N := ["urn", "many", "turn", "mixed", "found"]) nb (finD_ok g) Fu ⟨rfl, rfl, rfl, by decide +kernel, rfl, by decide +kernel, by decide +kernel⟩ hm (Fu.binds fun _ _ _ _ _ _ us hl => match us, hl with | [_, _], _ => rfl) fun cdv A outer s H E B tk po hr =>
    (mss_cons (ms_if (t_gt (w_ix B (me_var (i := 0)) me_int) me_int) (mss_cons (ms_set (i := 4) B.nd (w_mod (w_int B (w_ix B (me_var (i := 0)) me_int)) (me_var (i := 1))))
    (mss_cons (ms_put B.gd (w_div (w_ix B (me_var (i := 0)) me_int) (me_var (i := 1))) (me_var (i := 0)) me_int)
    (mss_one (ms_ret (me_var (i := 4)))))) mss_nil)
    (mss_cons (ms_put B.gd (w_add (w_ix B (me_var (i := 0)) me_int) me_int) (me_var (i := 0)) me_int)
    (mss_cons (ms_set (i := 2) B.nd (w_ix B (me_var (i := 0)) me_int))
    (mss_cons (ms_set (i := 3) B.nd (w_mod (w_int B (w_add (w_add (w_mul (w_mul (w_mul (w_add (w_ix B (me_var (i := 0)) me_int) me_int) (w_add (me_var (i := 2)) me_int)) me_int) me_int) (w_mul (w_mul (me_var (i := 2)) (me_var (i := 2))) me_int)) (me_var (i := 2)))) (w_add (w_pow me_int me_int) me_int)))
    (mss_cons (ms_set (i := 3) B.nd (w_mod (w_int B (w_add (w_add (w_mul (me_var (i := 3)) (me_var (i := 3))) (w_mul (w_ix B (me_var (i := 0)) me_int) me_int)) (w_mul me_int (me_var (i := 2))))) (w_add (w_pow me_int me_int) me_int)))
    (mss_cons (ms_set (i := 3) B.nd (w_mod (w_int B (w_add (w_mul (w_mul (me_var (i := 3)) (me_var (i := 3))) me_int) (w_mul (me_var (i := 3)) me_int))) (w_add (w_pow me_int me_int) me_int)))
    (mss_one (ms_ret (w_mod (w_int B (w_div (me_var (i := 3)) me_int)) (me_var (i := 1)))))))))))
noncomputable def m__law_renaming : SM :=
    (seqM (parM 2 3 (consM dnewM (consM dnewM nilM)))
    (seqM (forM (rng1 (consM (callM f__law_out (consM (varM 0) (consM (cM (.int 5)) nilM))) nilM)) (gN 1) (seqM (putM (cM (.bool true)) (varM 2) (callM f__law_out (consM (varM 0) (consM (cM (.int 7)) nilM))))
    (putM (cM (.bool true)) (varM 3) (opM ixA (lstM (consM (callM f__law_out (consM (varM 0) (consM (cM (.int 7)) nilM))) (consM (opM addD (opM powD (cM (.int 10)) (cM (.int 20))) (callM f__law_out (consM (varM 0) (consM (cM (.int 3)) nilM)))) nilM))) (blt intD (consM (opM eqA (callM f__law_out (consM (varM 0) (consM (cM (.int 9)) nilM))) (cM (.int 0))) nilM))))))
    (seqM (parM 4 5 (consM (bindE (varM 2) (newD sortF)) (consM (bindE (varM 3) (newD lisF)) nilM)))
    (retM (blt tupleD (consM (lcM [6, 7] (zipI (consM (varM 4) (consM (varM 5) nilM))) (gT [(gN 6), (gN 7)]) yesT (tupM (consM (varM 6) (consM (varM 7) nilM)))) nilM))))))
noncomputable def f__law_renaming : FM := runDef finD 8 1 m__law_renaming
theorem ok__law_renaming {g : Gb} {fa : Addr} {fd : FuncData} (nb : NoB g.mg) (o__law_out : FOk g 1 "_law_out" (defArgs (top 25)) ["urn", "many"] f__law_out)    (Fu : Fun g.K "_law_renaming" "_law_renaming" (top 28) fa fd) (hm : g.mg "_law_renaming" = some (.ref fa)) : FOk g 2 "_law_renaming" (defArgs (top 28)) ["urn"] f__law_renaming :=
  fok_ofB (N := ["urn", "turn", "firsts", "seconds", "ones", "others", "one", "other"]) nb (finD_ok g) Fu ⟨rfl, rfl, rfl, by decide +kernel, rfl, by decide +kernel, by decide +kernel⟩ hm (Fu.binds fun _ _ _ _ _ _ us hl => match us, hl with | [_], _ => rfl) fun cdv A outer s H E B tk po hr =>
    (mss_cons (ms_par (i := 2) (j := 3) B.calm B.nd (ma_cons me_dnew (ma_cons me_dnew ma_nil)))
    (mss_cons (ms_for po B.calm (mi_rng1 (B.nb _ (by decide)) (ma_cons (me_call (o__law_out.le (by decide)) hr tk (ma_cons (me_var (i := 0)) (ma_cons me_int ma_nil))) ma_nil)) (mg_name (i := 1) B.nd) (mss_cons (ms_put B.gd me_bl (me_var (i := 2)) (me_call (o__law_out.le (by decide)) hr tk (ma_cons (me_var (i := 0)) (ma_cons me_int ma_nil))))
    (mss_one (ms_put B.gd me_bl (me_var (i := 3)) (w_ix B (me_lst (ma_cons (me_call (o__law_out.le (by decide)) hr tk (ma_cons (me_var (i := 0)) (ma_cons me_int ma_nil))) (ma_cons (w_add (w_pow me_int me_int) (me_call (o__law_out.le (by decide)) hr tk (ma_cons (me_var (i := 0)) (ma_cons me_int ma_nil)))) ma_nil))) (w_int B (w_eq B (me_call (o__law_out.le (by decide)) hr tk (ma_cons (me_var (i := 0)) (ma_cons me_int ma_nil))) me_int)))))))
    (mss_cons (ms_par (i := 4) (j := 5) B.calm B.nd (ma_cons (w_sorted B (me_var (i := 2))) (ma_cons (w_list B (me_var (i := 3))) ma_nil)))
    (mss_one (ms_ret (w_tuple B (me_lc (own := [("one", 6), ("other", 7)]) B.calm B.nd (mi_zip (B.nb _ (by decide)) (ma_cons (me_var (i := 4)) (ma_cons (me_var (i := 5)) ma_nil))) (blk5 (N := ["urn", "turn", "firsts", "seconds", "ones", "others", "one", "other"]) (sc := defScope (top 28)) rfl (by decide +kernel) (by decide +kernel) (by decide +kernel) (by decide +kernel)) (fun _ _ _ _ _ => (mg_tup (Cb.blk B).calm (mgs_cons (mg_name (i := 6) (Cb.blk B).nd) (mgs_cons (mg_name (i := 7) (Cb.blk B).nd) mgs_nil)))) (fun _ _ _ _ _ => mts_nil) (fun _ _ _ _ _ => (me_tup (ma_cons (me_var (i := 6)) (ma_cons (me_var (i := 7)) ma_nil)))))))))))
noncomputable def m__law_led : SM :=
    (seqM (par3M 4 5 6 (consM (frzM (bindE (varM 0) (newDic dicF))) (consM (lstO nilM) (consM (cM (.int 0)) nilM))))
    (seqM (asgM 2 (frzM (bindE (lcM [7, 8] (seqA (varM 0)) (gT [(gN 7), (gN 8)]) yesT (tupM (consM (varM 8) (consM (cM (.bool true)) nilM)))) (newDic dicF))))
    (seqM (forM (rng1 (consM (varM 1) nilM)) (gN 3) (ifM (tstM (opM inD (varM 3) (varM 4))) (exprM (appM (varM 5) (opM ixA (varM 4) (varM 3)))) (seqM (whileM 40 (tstM (opM inD (varM 6) (varM 2))) (asgM 6 (opM addD (varM 6) (cM (.int 1)))))
    (seqM (exprM (appM (varM 5) (varM 6)))
    (asgM 6 (opM addD (varM 6) (cM (.int 1))))))))
    (retM (varM 5)))))
noncomputable def f__law_led : FM := runDef finD 9 2 m__law_led
theorem ok__law_led {g : Gb} {fa : Addr} {fd : FuncData} (nb : NoB g.mg)     (Fu : Fun g.K "_law_led" "_law_led" (top 30) fa fd) (hm : g.mg "_law_led" = some (.ref fa)) : FOk g 1 "_law_led" (defArgs (top 30)) ["renaming", "many"] f__law_led :=
  fok_ofB (N := ["renaming", "many", "taken", "name", "pairs", "found", "free", "one", "other"]) nb (finD_ok g) Fu ⟨rfl, rfl, rfl, by decide +kernel, rfl, by decide +kernel, by decide +kernel⟩ hm (Fu.binds fun _ _ _ _ _ _ us hl => match us, hl with | [_, _], _ => rfl) fun cdv A outer s H E B tk po hr =>
    (mss_cons (ms_par3 (i := 4) (j := 5) (k := 6) B.calm B.nd (ma_cons (w_dict B (me_var (i := 0))) (ma_cons (me_lstO ma_nil) (ma_cons me_int ma_nil))))
    (mss_cons (ms_set (i := 2) B.nd (w_dict B (me_lc (own := [("one", 7), ("other", 8)]) B.calm B.nd (mi_any (me_var (i := 0))) (blk5 (N := ["renaming", "many", "taken", "name", "pairs", "found", "free", "one", "other"]) (sc := defScope (top 30)) rfl (by decide +kernel) (by decide +kernel) (by decide +kernel) (by decide +kernel)) (fun _ _ _ _ _ => (mg_tup (Cb.blk B).calm (mgs_cons (mg_name (i := 7) (Cb.blk B).nd) (mgs_cons (mg_name (i := 8) (Cb.blk B).nd) mgs_nil)))) (fun _ _ _ _ _ => mts_nil) (fun _ _ _ _ _ => (me_tup (ma_cons (me_var (i := 8)) (ma_cons me_bl ma_nil)))))))
    (mss_cons (ms_for po B.calm (mi_rng1 (B.nb _ (by decide)) (ma_cons (me_var (i := 1)) ma_nil)) (mg_name (i := 3) B.nd) (mss_one (ms_if (t_in B (me_var (i := 3)) (me_var (i := 4))) (mss_one (ms_expr (me_app (me_var (i := 5)) (w_ix B (me_var (i := 4)) (me_var (i := 3)))))) (mss_cons (ms_while 40 po (t_in B (me_var (i := 6)) (me_var (i := 2))) (mss_one (ms_set (i := 6) B.nd (w_add (me_var (i := 6)) me_int))))
    (mss_cons (ms_expr (me_app (me_var (i := 5)) (me_var (i := 6))))
    (mss_one (ms_set (i := 6) B.nd (w_add (me_var (i := 6)) me_int))))))))
    (mss_one (ms_ret (me_var (i := 5)))))))
noncomputable def m__law_odd : SM :=
    (seqM (ifM (tstM (isiM "bool" (varM 1))) (retM (opM ixA (lstM (consM (notE (varM 1)) (consM (cM (.int 0)) (consM (cM (.int 1)) nilM)))) (callM f__law_out (consM (varM 0) (consM (cM (.int 3)) nilM))))) skipM)
    (seqM (ifM (tstM (isiM "int" (varM 1))) (retM (opM ixA (lstM (consM (opM addD (varM 1) (cM (.int 1))) (consM (opM subD (varM 1) (cM (.int 1))) (consM (opM addD (varM 1) (cM (.int 2))) (consM (cM .none) (consM (cM (.bool false)) (consM (cM (.bool true)) (consM (tupM nilM) nilM)))))))) (callM f__law_out (consM (varM 0) (consM (cM (.int 7)) nilM))))) skipM)
    (seqM (ifM (tstM (isiM "str" (varM 1))) (retM (opM ixA (lstM (consM (cM (.str "on")) (consM (cM (.str "stop")) (consM (cM (.str "x")) (consM (cM (.str "k")) (consM (opM addD (varM 1) (cM (.str "q"))) (consM (opM addD (varM 1) (cM (.str "longnamed"))) (consM (cM (.str "")) (consM (cM (.int 3)) nilM))))))))) (callM f__law_out (consM (varM 0) (consM (cM (.int 8)) nilM))))) skipM)
    (retM (opM ixA (lstM (consM (tupM (consM (cM (.int 0)) nilM)) (consM (cM .none) (consM (cM (.int 0)) (consM (cM (.str "on")) (consM (tupM (consM (tupM nilM) nilM)) (consM (lstM nilM) (consM (tupM (consM (tupM (consM (cM (.int 0)) (consM (cM (.int 1)) nilM))) nilM)) nilM)))))))) (callM f__law_out (consM (varM 0) (consM (cM (.int 7)) nilM))))))))
noncomputable def f__law_odd : FM := runDef finD 2 2 m__law_odd
theorem ok__law_odd {g : Gb} {fa : Addr} {fd : FuncData} (nb : NoB g.mg) (o__law_out : FOk g 1 "_law_out" (defArgs (top 25)) ["urn", "many"] f__law_out)    (Fu : Fun g.K "_law_odd" "_law_odd" (top 27) fa fd) (hm : g.mg "_law_odd" = some (.ref fa)) : FOk g 2 "_law_odd" (defArgs (top 27)) ["urn", "value"] f__law_odd :=
  fok_ofB (N := ["urn", "value"]) nb (finD_ok g) Fu ⟨rfl, rfl, rfl, by decide +kernel, rfl, by decide +kernel, by decide +kernel⟩ hm (Fu.binds fun _ _ _ _ _ _ us hl => match us, hl with | [_, _], _ => rfl) fun cdv A outer s H E B tk po hr =>
    (mss_cons (ms_if (mt_val (me_isi (B.nb _ (by decide)) (B.nb _ (by decide)) PyProof.Rows.boot_bool (by decide) (me_var (i := 1)))) (mss_one (ms_ret (w_ix B (me_lst (ma_cons (me_not (me_var (i := 1))) (ma_cons me_int (ma_cons me_int ma_nil)))) (me_call (o__law_out.le (by decide)) hr tk (ma_cons (me_var (i := 0)) (ma_cons me_int ma_nil)))))) mss_nil)
    (mss_cons (ms_if (mt_val (me_isi (B.nb _ (by decide)) (B.nb _ (by decide)) PyProof.Rows.boot_int (by decide) (me_var (i := 1)))) (mss_one (ms_ret (w_ix B (me_lst (ma_cons (w_add (me_var (i := 1)) me_int) (ma_cons (w_sub (me_var (i := 1)) me_int) (ma_cons (w_add (me_var (i := 1)) me_int) (ma_cons me_non (ma_cons me_bl (ma_cons me_bl (ma_cons (me_tup ma_nil) ma_nil)))))))) (me_call (o__law_out.le (by decide)) hr tk (ma_cons (me_var (i := 0)) (ma_cons me_int ma_nil)))))) mss_nil)
    (mss_cons (ms_if (mt_val (me_isi (B.nb _ (by decide)) (B.nb _ (by decide)) PyProof.Rows.boot_str (by decide) (me_var (i := 1)))) (mss_one (ms_ret (w_ix B (me_lst (ma_cons me_str (ma_cons me_str (ma_cons me_str (ma_cons me_str (ma_cons (w_add (me_var (i := 1)) me_str) (ma_cons (w_add (me_var (i := 1)) me_str) (ma_cons me_str (ma_cons me_int ma_nil))))))))) (me_call (o__law_out.le (by decide)) hr tk (ma_cons (me_var (i := 0)) (ma_cons me_int ma_nil)))))) mss_nil)
    (mss_one (ms_ret (w_ix B (me_lst (ma_cons (me_tup (ma_cons me_int ma_nil)) (ma_cons me_non (ma_cons me_int (ma_cons me_str (ma_cons (me_tup (ma_cons (me_tup ma_nil) ma_nil)) (ma_cons (me_lst ma_nil) (ma_cons (me_tup (ma_cons (me_tup (ma_cons me_int (ma_cons me_int ma_nil))) ma_nil)) ma_nil)))))))) (me_call (o__law_out.le (by decide)) hr tk (ma_cons (me_var (i := 0)) (ma_cons me_int ma_nil)))))))))
noncomputable def m__law_bent (rec : FM) : SM :=
    (seqM (ifM (orT (notT (tstM (isiM "tuple" (varM 1)))) (tstM (opM eqA (varM 1) (tupM nilM)))) (retM (callM f__law_odd (consM (varM 0) (consM (varM 1) nilM)))) skipM)
    (seqM (parM 2 3 (consM (callM f__law_out (consM (varM 0) (consM (bindE (varM 1) lenF) nilM))) (consM (callM f__law_out (consM (varM 0) (consM (cM (.int 7)) nilM))) nilM)))
    (seqM (ifM (tstM (opM eqA (varM 3) (cM (.int 0)))) (retM (opM addD (sliceM (varM 1) noP (toP (varM 2))) (sliceM (varM 1) (toP (opM addD (varM 2) (cM (.int 1)))) noP))) skipM)
    (seqM (ifM (tstM (opM eqA (varM 3) (cM (.int 1)))) (retM (opM addD (opM addD (sliceM (varM 1) noP (toP (varM 2))) (sliceM (varM 1) (toP (varM 2)) (toP (opM addD (varM 2) (cM (.int 1)))))) (sliceM (varM 1) (toP (varM 2)) noP))) skipM)
    (seqM (ifM (tstM (opM eqA (varM 3) (cM (.int 2)))) (retM (bindE (varM 1) (newD lisF))) skipM)
    (retM (opM addD (opM addD (sliceM (varM 1) noP (toP (varM 2))) (tupM (consM (callM rec (consM (varM 0) (consM (opM ixA (varM 1) (varM 2)) nilM))) nilM))) (sliceM (varM 1) (toP (opM addD (varM 2) (cM (.int 1)))) noP))))))))
noncomputable def g__law_bent : Nat → FM
  | 0 => fun _ _ => .bad
  | n + 1 => runDef finD 4 2 (m__law_bent (g__law_bent n))
noncomputable def f__law_bent : FM := g__law_bent 3
theorem okn__law_bent {g : Gb} {fa : Addr} {fd : FuncData} (nb : NoB g.mg) (o__law_odd : FOk g 2 "_law_odd" (defArgs (top 27)) ["urn", "value"] f__law_odd) (o__law_out : FOk g 1 "_law_out" (defArgs (top 25)) ["urn", "many"] f__law_out)    (Fu : Fun g.K "_law_bent" "_law_bent" (top 26) fa fd) (hm : g.mg "_law_bent" = some (.ref fa)) : ∀ n, FOk g (2 + n) "_law_bent" (defArgs (top 26)) ["urn", "value"] (g__law_bent n)
  | 0 => fok_bad Fu hm (Fu.binds fun _ _ _ _ _ _ us hl => match us, hl with | [_, _], _ => rfl)
  | n + 1 =>
    have o__law_bent := okn__law_bent nb o__law_odd o__law_out Fu hm n
    fok_ofB (N := ["urn", "value", "at", "way"]) nb (finD_ok g) Fu ⟨rfl, rfl, rfl, by decide +kernel, rfl, by decide +kernel, by decide +kernel⟩ hm (Fu.binds fun _ _ _ _ _ _ us hl => match us, hl with | [_, _], _ => rfl) fun cdv A outer s H E B tk po hr =>
    (mss_cons (ms_if (mt_bo (mw_or (mt_not (mt_val (me_isi (B.nb _ (by decide)) (B.nb _ (by decide)) PyProof.Rows.boot_tuple (by decide) (me_var (i := 1))))) (mw_or1 (t_eq B (me_var (i := 1)) (me_tup ma_nil))))) (mss_one (ms_ret (me_call (o__law_odd.le (Nat.le_trans (show 2 ≤ 2 by decide) (Nat.le_add_right _ _))) hr tk (ma_cons (me_var (i := 0)) (ma_cons (me_var (i := 1)) ma_nil))))) mss_nil)
    (mss_cons (ms_par (i := 2) (j := 3) B.calm B.nd (ma_cons (me_call (o__law_out.le (Nat.le_trans (show 1 ≤ 2 by decide) (Nat.le_add_right _ _))) hr tk (ma_cons (me_var (i := 0)) (ma_cons (w_len B (me_var (i := 1))) ma_nil))) (ma_cons (me_call (o__law_out.le (Nat.le_trans (show 1 ≤ 2 by decide) (Nat.le_add_right _ _))) hr tk (ma_cons (me_var (i := 0)) (ma_cons me_int ma_nil))) ma_nil)))
    (mss_cons (ms_if (t_eq B (me_var (i := 3)) me_int) (mss_one (ms_ret (w_add (me_slice (me_var (i := 1)) mo_none (mo_some (me_var (i := 2)))) (me_slice (me_var (i := 1)) (mo_some (w_add (me_var (i := 2)) me_int)) mo_none)))) mss_nil)
    (mss_cons (ms_if (t_eq B (me_var (i := 3)) me_int) (mss_one (ms_ret (w_add (w_add (me_slice (me_var (i := 1)) mo_none (mo_some (me_var (i := 2)))) (me_slice (me_var (i := 1)) (mo_some (me_var (i := 2))) (mo_some (w_add (me_var (i := 2)) me_int)))) (me_slice (me_var (i := 1)) (mo_some (me_var (i := 2))) mo_none)))) mss_nil)
    (mss_cons (ms_if (t_eq B (me_var (i := 3)) me_int) (mss_one (ms_ret (w_list B (me_var (i := 1))))) mss_nil)
    (mss_one (ms_ret (w_add (w_add (me_slice (me_var (i := 1)) mo_none (mo_some (me_var (i := 2)))) (me_tup (ma_cons (me_call o__law_bent hr tk (ma_cons (me_var (i := 0)) (ma_cons (w_ix B (me_var (i := 1)) (me_var (i := 2))) ma_nil))) ma_nil))) (me_slice (me_var (i := 1)) (mo_some (w_add (me_var (i := 2)) me_int)) mo_none)))))))))
theorem ok__law_bent {g : Gb} {fa : Addr} {fd : FuncData} (nb : NoB g.mg) (o__law_odd : FOk g 2 "_law_odd" (defArgs (top 27)) ["urn", "value"] f__law_odd) (o__law_out : FOk g 1 "_law_out" (defArgs (top 25)) ["urn", "many"] f__law_out)    (Fu : Fun g.K "_law_bent" "_law_bent" (top 26) fa fd) (hm : g.mg "_law_bent" = some (.ref fa)) : FOk g 5 "_law_bent" (defArgs (top 26)) ["urn", "value"] f__law_bent := okn__law_bent nb o__law_odd o__law_out Fu hm 3
theorem ok_are_unlike {g : Gb} {fa : Addr} {fd : FuncData} (nb : NoB g.mg)     (Fu : Fun g.K "are_unlike" "are_unlike" (top 12) fa fd) (hm : g.mg "are_unlike" = some (.ref fa)) : FOk g 1 "are_unlike" (defArgs (top 12)) ["values"] f_are_unlike :=
  fok_ofB (N := ["values"]) nb (finD_ok g) Fu ⟨rfl, rfl, rfl, by decide +kernel, rfl, by decide +kernel, by decide +kernel⟩ hm (Fu.binds fun _ _ _ _ _ _ us hl => match us, hl with | [_], _ => rfl) fun cdv A outer s H E B tk po hr =>
    (mss_one (ms_ret (w_eq B (w_len B (w_set B (me_var (i := 0)))) (w_len B (me_var (i := 0))))))
theorem ok_is_tuple {g : Gb} {fa : Addr} {fd : FuncData} (nb : NoB g.mg)     (Fu : Fun g.K "is_tuple" "is_tuple" (top 7) fa fd) (hm : g.mg "is_tuple" = some (.ref fa)) : FOk g 1 "is_tuple" (defArgs (top 7)) ["value", "low", "high"] f_is_tuple :=
  fok_ofB (N := ["value", "low", "high"]) nb (finD_ok g) Fu ⟨rfl, rfl, rfl, by decide +kernel, rfl, by decide +kernel, by decide +kernel⟩ hm (Fu.binds fun _ _ _ _ _ _ us hl => match us, hl with | [_, _, _], _ => rfl) fun cdv A outer s H E B tk po hr =>
    (mss_one (ms_ret (me_and (me_isi (B.nb _ (by decide)) (B.nb _ (by decide)) PyProof.Rows.boot_tuple (by decide) (me_var (i := 0))) (me_one (me_chain op_le op_le s_le s_le (me_var (i := 1)) (w_len B (me_var (i := 0))) (me_var (i := 2)))))))
theorem ok_is_integer {g : Gb} {fa : Addr} {fd : FuncData} (nb : NoB g.mg)     (Fu : Fun g.K "is_integer" "is_integer" (top 5) fa fd) (hm : g.mg "is_integer" = some (.ref fa)) : FOk g 1 "is_integer" (defArgs (top 5)) ["value"] f_is_integer :=
  fok_ofB (N := ["value"]) nb (finD_ok g) Fu ⟨rfl, rfl, rfl, by decide +kernel, rfl, by decide +kernel, by decide +kernel⟩ hm (Fu.binds fun _ _ _ _ _ _ us hl => match us, hl with | [_], _ => rfl) fun cdv A outer s H E B tk po hr =>
    (mss_one (ms_ret (me_and (me_isi (B.nb _ (by decide)) (B.nb _ (by decide)) PyProof.Rows.boot_int (by decide) (me_var (i := 0))) (me_one (me_not (me_isi (B.nb _ (by decide)) (B.nb _ (by decide)) PyProof.Rows.boot_bool (by decide) (me_var (i := 0))))))))
theorem ok_is_between {g : Gb} {fa : Addr} {fd : FuncData} (nb : NoB g.mg) (o_is_integer : FOk g 1 "is_integer" (defArgs (top 5)) ["value"] f_is_integer)    (Fu : Fun g.K "is_between" "is_between" (top 6) fa fd) (hm : g.mg "is_between" = some (.ref fa)) : FOk g 2 "is_between" (defArgs (top 6)) ["value", "low", "high"] f_is_between :=
  fok_ofB (N := ["value", "low", "high"]) nb (finD_ok g) Fu ⟨rfl, rfl, rfl, by decide +kernel, rfl, by decide +kernel, by decide +kernel⟩ hm (Fu.binds fun _ _ _ _ _ _ us hl => match us, hl with | [_, _, _], _ => rfl) fun cdv A outer s H E B tk po hr =>
    (mss_one (ms_ret (me_and (me_call (o_is_integer.le (by decide)) hr tk (ma_cons (me_var (i := 0)) ma_nil)) (me_one (me_chain op_le op_le s_le s_le (me_var (i := 1)) (me_var (i := 0)) (me_var (i := 2)))))))
theorem ok_is_name {g : Gb} {fa : Addr} {fd : FuncData} (nb : NoB g.mg) (o_is_between : FOk g 2 "is_between" (defArgs (top 6)) ["value", "low", "high"] f_is_between)    (Fu : Fun g.K "is_name" "is_name" (top 11) fa fd) (hm : g.mg "is_name" = some (.ref fa)) : FOk g 3 "is_name" (defArgs (top 11)) ["value"] f_is_name :=
  fok_ofB (N := ["value"]) nb (finD_ok g) Fu ⟨rfl, rfl, rfl, by decide +kernel, rfl, by decide +kernel, by decide +kernel⟩ hm (Fu.binds fun _ _ _ _ _ _ us hl => match us, hl with | [_], _ => rfl) fun cdv A outer s H E B tk po hr =>
    (mss_one (ms_ret (me_call (o_is_between.le (by decide)) hr tk (ma_cons (me_var (i := 0)) (ma_cons me_int (ma_cons (me_var (i := 0)) ma_nil))))))
theorem ok_is_pair {g : Gb} {fa : Addr} {fd : FuncData} (nb : NoB g.mg) (o_is_tuple : FOk g 1 "is_tuple" (defArgs (top 7)) ["value", "low", "high"] f_is_tuple) (o_is_name : FOk g 3 "is_name" (defArgs (top 11)) ["value"] f_is_name)    (Fu : Fun g.K "is_pair" "is_pair" (top 13) fa fd) (hm : g.mg "is_pair" = some (.ref fa)) : FOk g 4 "is_pair" (defArgs (top 13)) ["value"] f_is_pair :=
  fok_ofB (N := ["value"]) nb (finD_ok g) Fu ⟨rfl, rfl, rfl, by decide +kernel, rfl, by decide +kernel, by decide +kernel⟩ hm (Fu.binds fun _ _ _ _ _ _ us hl => match us, hl with | [_], _ => rfl) fun cdv A outer s H E B tk po hr =>
    (mss_one (ms_ret (me_and (me_call (o_is_tuple.le (by decide)) hr tk (ma_cons (me_var (i := 0)) (ma_cons me_int (ma_cons me_int ma_nil)))) (me_and (me_call (o_is_name.le (by decide)) hr tk (ma_cons (w_ix B (me_var (i := 0)) me_int) ma_nil)) (me_one (me_call (o_is_name.le (by decide)) hr tk (ma_cons (w_ix B (me_var (i := 0)) me_int) ma_nil)))))))
theorem ok_is_a_renaming {g : Gb} {fa : Addr} {fd : FuncData} (nb : NoB g.mg) (o_are_unlike : FOk g 1 "are_unlike" (defArgs (top 12)) ["values"] f_are_unlike) (o_is_pair : FOk g 4 "is_pair" (defArgs (top 13)) ["value"] f_is_pair)    (Fu : Fun g.K "is_a_renaming" "is_a_renaming" (top 14) fa fd) (hm : g.mg "is_a_renaming" = some (.ref fa)) : FOk g 5 "is_a_renaming" (defArgs (top 14)) ["value"] f_is_a_renaming :=
  fok_ofB (N := ["value", "firsts", "seconds", "own"]) nb (finD_ok g) Fu ⟨rfl, rfl, rfl, by decide +kernel, rfl, by decide +kernel, by decide +kernel⟩ hm (Fu.binds fun _ _ _ _ _ _ us hl => match us, hl with | [_], _ => rfl) fun cdv A outer s H E B tk po hr =>
    (mss_cons (ms_if (mt_bo (mw_or (mt_not (mt_val (me_isi (B.nb _ (by decide)) (B.nb _ (by decide)) PyProof.Rows.boot_tuple (by decide) (me_var (i := 0))))) (mw_or1 (mt_not (mt_val (w_all B (me_lc (own := [("own", 3)]) B.calm B.nd (mi_any (me_var (i := 0))) (blk5 (N := ["value", "firsts", "seconds", "own"]) (sc := defScope (top 14)) rfl (by decide +kernel) (by decide +kernel) (by decide +kernel) (by decide +kernel)) (fun _ _ _ _ _ => (mg_name (i := 3) (Cb.blk B).nd)) (fun _ _ _ _ _ => mts_nil) (fun _ _ _ _ _ => (me_call (o_is_pair.le (by decide)) hr takes0 (ma_cons (me_var (i := 3)) ma_nil)))))))))) (mss_one (ms_ret me_bl)) mss_nil)
    (mss_cons (ms_par (i := 1) (j := 2) B.calm B.nd (ma_cons (me_lc (own := [("own", 3)]) B.calm B.nd (mi_any (me_var (i := 0))) (blk5 (N := ["value", "firsts", "seconds", "own"]) (sc := defScope (top 14)) rfl (by decide +kernel) (by decide +kernel) (by decide +kernel) (by decide +kernel)) (fun _ _ _ _ _ => (mg_name (i := 3) (Cb.blk B).nd)) (fun _ _ _ _ _ => mts_nil) (fun _ _ _ _ _ => (w_ix (Cb.blk B) (me_var (i := 3)) me_int))) (ma_cons (me_lc (own := [("own", 3)]) B.calm B.nd (mi_any (me_var (i := 0))) (blk5 (N := ["value", "firsts", "seconds", "own"]) (sc := defScope (top 14)) rfl (by decide +kernel) (by decide +kernel) (by decide +kernel) (by decide +kernel)) (fun _ _ _ _ _ => (mg_name (i := 3) (Cb.blk B).nd)) (fun _ _ _ _ _ => mts_nil) (fun _ _ _ _ _ => (w_ix (Cb.blk B) (me_var (i := 3)) me_int))) ma_nil)))
    (mss_one (ms_ret (me_and (w_eq B (me_var (i := 1)) (w_sorted B (me_var (i := 1)))) (me_and (me_call (o_are_unlike.le (by decide)) hr tk (ma_cons (me_var (i := 1)) ma_nil)) (me_one (me_call (o_are_unlike.le (by decide)) hr tk (ma_cons (me_var (i := 2)) ma_nil)))))))))
theorem okn_anew {g : Gb} {fa : Addr} {fd : FuncData} (nb : NoB g.mg)     (Fu : Fun g.K "anew" "anew" (top 8) fa fd) (hm : g.mg "anew" = some (.ref fa)) : ∀ n, FOk g (0 + n) "anew" (defArgs (top 8)) ["value"] (g_anew n)
  | 0 => fok_bad Fu hm (Fu.binds fun _ _ _ _ _ _ us hl => match us, hl with | [_], _ => rfl)
  | n + 1 =>
    have o_anew := okn_anew nb  Fu hm n
    fok_ofB (N := ["value", "part"]) nb (finD_ok g) Fu ⟨rfl, rfl, rfl, by decide +kernel, rfl, by decide +kernel, by decide +kernel⟩ hm (Fu.binds fun _ _ _ _ _ _ us hl => match us, hl with | [_], _ => rfl) fun cdv A outer s H E B tk po hr =>
    (mss_cons (ms_if (mt_val (me_isi (B.nb _ (by decide)) (B.nb _ (by decide)) PyProof.Rows.boot_list (by decide) (me_var (i := 0)))) (mss_one (ms_ret (me_lc (own := [("part", 1)]) B.calm B.nd (mi_any (me_var (i := 0))) (blk5 (N := ["value", "part"]) (sc := defScope (top 8)) rfl (by decide +kernel) (by decide +kernel) (by decide +kernel) (by decide +kernel)) (fun _ _ _ _ _ => (mg_name (i := 1) (Cb.blk B).nd)) (fun _ _ _ _ _ => mts_nil) (fun _ _ _ _ _ => (me_call o_anew hr takes0 (ma_cons (me_var (i := 1)) ma_nil)))))) mss_nil)
    (mss_cons (ms_if (mt_val (me_isi (B.nb _ (by decide)) (B.nb _ (by decide)) PyProof.Rows.boot_tuple (by decide) (me_var (i := 0)))) (mss_one (ms_ret (w_tuple B (me_lc (own := [("part", 1)]) B.calm B.nd (mi_any (me_var (i := 0))) (blk5 (N := ["value", "part"]) (sc := defScope (top 8)) rfl (by decide +kernel) (by decide +kernel) (by decide +kernel) (by decide +kernel)) (fun _ _ _ _ _ => (mg_name (i := 1) (Cb.blk B).nd)) (fun _ _ _ _ _ => mts_nil) (fun _ _ _ _ _ => (me_call o_anew hr takes0 (ma_cons (me_var (i := 1)) ma_nil))))))) mss_nil)
    (mss_one (ms_ret (me_var (i := 0))))))
theorem ok_anew {g : Gb} {fa : Addr} {fd : FuncData} (nb : NoB g.mg)     (Fu : Fun g.K "anew" "anew" (top 8) fa fd) (hm : g.mg "anew" = some (.ref fa)) : FOk g 3 "anew" (defArgs (top 8)) ["value"] f_anew := okn_anew nb  Fu hm 3
theorem ok_need_renaming {g : Gb} {fa : Addr} {fd : FuncData} (nb : NoB g.mg) (o_is_a_renaming : FOk g 5 "is_a_renaming" (defArgs (top 14)) ["value"] f_is_a_renaming) (o_anew : FOk g 3 "anew" (defArgs (top 8)) ["value"] f_anew)  (e_InvalidRenaming : ErX g "InvalidRenaming")  (Fu : Fun g.K "need_renaming" "need_renaming" (top 19) fa fd) (hm : g.mg "need_renaming" = some (.ref fa)) : FOk g 6 "need_renaming" (defArgs (top 19)) ["renaming"] f_need_renaming :=
  fok_ofB (N := ["renaming"]) nb (finD_ok g) Fu ⟨rfl, rfl, rfl, by decide +kernel, rfl, by decide +kernel, by decide +kernel⟩ hm (Fu.binds fun _ _ _ _ _ _ us hl => match us, hl with | [_], _ => rfl) fun cdv A outer s H E B tk po hr =>
    (mss_one (ms_if (mt_not (mt_val (me_call (o_is_a_renaming.le (by decide)) hr tk (ma_cons (me_var (i := 0)) ma_nil)))) (mss_one (ms_raise B.calm tk e_InvalidRenaming hr (me_call (o_anew.le (by decide)) hr tk (ma_cons (me_var (i := 0)) ma_nil)))) mss_nil))
theorem ok_image {g : Gb} {fa : Addr} {fd : FuncData} (nb : NoB g.mg)  (c_NOTHING : ∃ t, g.mg "NOTHING" = some (.int (-1) t))   (Fu : Fun g.K "image" "image" (top 15) fa fd) (hm : g.mg "image" = some (.ref fa)) : FOk g 1 "image" (defArgs (top 15)) ["renaming", "name"] f_image :=
  fok_ofB (N := ["renaming", "name", "pairs", "found", "taken", "own"]) nb (finD_ok g) Fu ⟨rfl, rfl, rfl, by decide +kernel, rfl, by decide +kernel, by decide +kernel⟩ hm (Fu.binds fun _ _ _ _ _ _ us hl => match us, hl with | [_, _], _ => rfl) fun cdv A outer s H E B tk po hr =>
    (mss_cons (ms_set (i := 2) B.nd (w_dict B (me_var (i := 0))))
    (mss_cons (ms_if (mt_bo (mw_or (t_eq B (me_var (i := 1)) (w_gint c_NOTHING)) (mw_or1 (t_in B (me_var (i := 1)) (me_var (i := 2)))))) (mss_one (ms_ret (me_get2 B.gd (me_var (i := 2)) (me_var (i := 1)) (w_gint c_NOTHING) ⟨rfl, rfl, rfl, rfl⟩))) mss_nil)
    (mss_cons (ms_set (i := 3) B.nd (w_sub (me_var (i := 1)) (w_len B (me_lc (own := [("own", 5)]) B.calm B.nd (mi_any (me_var (i := 2))) (blk5 (N := ["renaming", "name", "pairs", "found", "taken", "own"]) (sc := defScope (top 15)) rfl (by decide +kernel) (by decide +kernel) (by decide +kernel) (by decide +kernel)) (fun _ _ _ _ _ => (mg_name (i := 5) (Cb.blk B).nd)) (fun _ _ _ _ _ => (mts_one (t_lt (me_var (i := 5)) (me_var (i := 1))))) (fun _ _ _ _ _ => (me_var (i := 5)))))))
    (mss_cons (ms_for po B.calm (mi_any (me_sortVals B.calm (B.nb _ (by decide)) (me_var (i := 2)))) (mg_name (i := 4) B.nd) (mss_one (ms_if (t_le (me_var (i := 4)) (me_var (i := 3))) (mss_one (ms_aug (i := 3) B.nd me_int ip_add p_add)) mss_nil)))
    (mss_one (ms_ret (me_var (i := 3))))))))
theorem ok_images {g : Gb} {fa : Addr} {fd : FuncData} (nb : NoB g.mg) (o_image : FOk g 1 "image" (defArgs (top 15)) ["renaming", "name"] f_image)    (Fu : Fun g.K "images" "images" (top 17) fa fd) (hm : g.mg "images" = some (.ref fa)) : FOk g 2 "images" (defArgs (top 17)) ["renaming", "values"] f_images :=
  fok_ofB (N := ["renaming", "values", "own"]) nb (finD_ok g) Fu ⟨rfl, rfl, rfl, by decide +kernel, rfl, by decide +kernel, by decide +kernel⟩ hm (Fu.binds fun _ _ _ _ _ _ us hl => match us, hl with | [_, _], _ => rfl) fun cdv A outer s H E B tk po hr =>
    (mss_one (ms_ret (w_tuple B (me_lc (own := [("own", 2)]) B.calm B.nd (mi_any (me_var (i := 1))) (blk5 (N := ["renaming", "values", "own"]) (sc := defScope (top 17)) rfl (by decide +kernel) (by decide +kernel) (by decide +kernel) (by decide +kernel)) (fun _ _ _ _ _ => (mg_name (i := 2) (Cb.blk B).nd)) (fun _ _ _ _ _ => mts_nil) (fun _ _ _ _ _ => (me_call (o_image.le (by decide)) hr takes0 (ma_cons (me_var (i := 0)) (ma_cons (me_var (i := 2)) ma_nil))))))))
theorem ok_are_values {g : Gb} {fa : Addr} {fd : FuncData} (nb : NoB g.mg) (o_is_between : FOk g 2 "is_between" (defArgs (top 6)) ["value", "low", "high"] f_is_between) (c_NOTHING : ∃ t, g.mg "NOTHING" = some (.int (-1) t))   (Fu : Fun g.K "are_values" "are_values" (top 18) fa fd) (hm : g.mg "are_values" = some (.ref fa)) : FOk g 3 "are_values" (defArgs (top 18)) ["value"] f_are_values :=
  fok_ofB (N := ["value", "own"]) nb (finD_ok g) Fu ⟨rfl, rfl, rfl, by decide +kernel, rfl, by decide +kernel, by decide +kernel⟩ hm (Fu.binds fun _ _ _ _ _ _ us hl => match us, hl with | [_], _ => rfl) fun cdv A outer s H E B tk po hr =>
    (mss_one (ms_ret (me_and (me_isi (B.nb _ (by decide)) (B.nb _ (by decide)) PyProof.Rows.boot_tuple (by decide) (me_var (i := 0))) (me_one (w_all B (me_lc (own := [("own", 1)]) B.calm B.nd (mi_any (me_var (i := 0))) (blk5 (N := ["value", "own"]) (sc := defScope (top 18)) rfl (by decide +kernel) (by decide +kernel) (by decide +kernel) (by decide +kernel)) (fun _ _ _ _ _ => (mg_name (i := 1) (Cb.blk B).nd)) (fun _ _ _ _ _ => mts_nil) (fun _ _ _ _ _ => (me_call (o_is_between.le (by decide)) hr takes0 (ma_cons (me_var (i := 1)) (ma_cons (w_gint c_NOTHING) (ma_cons (me_var (i := 1)) ma_nil)))))))))))
theorem ok_renamed {g : Gb} {fa : Addr} {fd : FuncData} (nb : NoB g.mg) (o_need_renaming : FOk g 6 "need_renaming" (defArgs (top 19)) ["renaming"] f_need_renaming) (o_images : FOk g 2 "images" (defArgs (top 17)) ["renaming", "values"] f_images) (o_are_values : FOk g 3 "are_values" (defArgs (top 18)) ["value"] f_are_values) (o_anew : FOk g 3 "anew" (defArgs (top 8)) ["value"] f_anew)  (e_InvalidNames : ErX g "InvalidNames")  (Fu : Fun g.K "renamed" "renamed" (top 21) fa fd) (hm : g.mg "renamed" = some (.ref fa)) : FOk g 7 "renamed" (defArgs (top 21)) ["renaming", "values"] f_renamed :=
  fok_ofB (N := ["renaming", "values"]) nb (finD_ok g) Fu ⟨rfl, rfl, rfl, by decide +kernel, rfl, by decide +kernel, by decide +kernel⟩ hm (Fu.binds fun _ _ _ _ _ _ us hl => match us, hl with | [_, _], _ => rfl) fun cdv A outer s H E B tk po hr =>
    (mss_cons (ms_expr (me_call (o_need_renaming.le (by decide)) hr tk (ma_cons (me_var (i := 0)) ma_nil)))
    (mss_cons (ms_if (mt_not (mt_val (me_call (o_are_values.le (by decide)) hr tk (ma_cons (me_var (i := 1)) ma_nil)))) (mss_one (ms_raise B.calm tk e_InvalidNames hr (me_call (o_anew.le (by decide)) hr tk (ma_cons (me_var (i := 1)) ma_nil)))) mss_nil)
    (mss_one (ms_ret (me_call (o_images.le (by decide)) hr tk (ma_cons (me_var (i := 0)) (ma_cons (me_var (i := 1)) ma_nil)))))))
theorem kw_renamed_0_values_renaming : KwB (defArgs (top 21)) ["renaming", "values"] ["values", "renaming"] [1, 0] := fun _ _ _ _ _ _ _ _ _ _ us ws h1 h2 => match ws, h1 with
  | [w0, w1], _ => match us, (by simpa [pick] using h2 : us.length = 0) with
    | [], _ => rfl
noncomputable def m__law_refused : SM :=
    (seqM (asgM 2 (cM .none))
    (seqM (tryNM [⟨mt_InvalidRenaming, 3, (susTag 2 0)⟩, ⟨mt_InvalidNames, 3, (susTag 2 1)⟩] (exprM (callKM f_renamed [1, 0] 2 nilM (consM (varM 1) (consM (varM 0) nilM)))))
    (retM (varM 2))))
noncomputable def f__law_refused : FM := runDef finD 4 2 m__law_refused
theorem ok__law_refused {g : Gb} {fa : Addr} {fd : FuncData} (nb : NoB g.mg) (o_renamed : FOk g 7 "renamed" (defArgs (top 21)) ["renaming", "values"] f_renamed)   {cl_InvalidNames : Value} (n_InvalidNames : g.mg "InvalidNames" = some cl_InvalidNames) (tk_InvalidNames : Takes1 g cl_InvalidNames mt_InvalidNames) {cl_InvalidRenaming : Value} (n_InvalidRenaming : g.mg "InvalidRenaming" = some cl_InvalidRenaming) (tk_InvalidRenaming : Takes1 g cl_InvalidRenaming mt_InvalidRenaming) (Fu : Fun g.K "_law_refused" "_law_refused" (top 31) fa fd) (hm : g.mg "_law_refused" = some (.ref fa)) : FOk g 8 "_law_refused" (defArgs (top 31)) ["renaming", "values"] f__law_refused :=
  fok_ofB (N := ["renaming", "values", "found", "e"]) nb (finD_ok g) Fu ⟨rfl, rfl, rfl, by decide +kernel, rfl, by decide +kernel, by decide +kernel⟩ hm (Fu.binds fun _ _ _ _ _ _ us hl => match us, hl with | [_, _], _ => rfl) fun cdv A outer s H E B tk po hr =>
    (mss_cons (ms_set (i := 2) B.nd me_non)
    (mss_cons (ms_tryN rfl rfl B.nd tk (fun W pn xe tk' po' => (mss_one (ms_expr (me_callK0 (o_renamed.le (by decide)) hr tk' kw_renamed_0_values_renaming (mk_cons (me_var (i := 1)) (mk_cons (me_var (i := 0)) mk_nil)))))) (.cons' ⟨rfl, by decide, .inl n_InvalidRenaming⟩ tk_InvalidRenaming (sus_tag (j := 2) B.gd B.nd (B.nb _ (by decide))) (.cons' ⟨rfl, by decide, .inl n_InvalidNames⟩ tk_InvalidNames (sus_tag (j := 2) B.gd B.nd (B.nb _ (by decide))) .nil)))
    (mss_one (ms_ret (me_var (i := 2))))))
noncomputable def m__law_is_one : SM :=
    (seqM (ifM (notT (tstM (isiM "tuple" (varM 0)))) (retM (cM (.bool false))) skipM)
    (seqM (forM (seqA (varM 0)) (gN 1) (seqM (ifM (orT (notT (tstM (isiM "tuple" (varM 1)))) (tstM (opM neA (bindE (varM 1) lenF) (cM (.int 2))))) (retM (cM (.bool false))) skipM)
    (forM (seqA (varM 1)) (gN 2) (ifM (orT (notT (tstM (isiM "int" (varM 2)))) (orT (tstM (isiM "bool" (varM 2))) (tstM (opM ltD (varM 2) (cM (.int 0)))))) (retM (cM (.bool false))) skipM))))
    (seqM (parM 3 4 (consM (lcM [1] (seqA (varM 0)) (gN 1) yesT (opM ixA (varM 1) (cM (.int 0)))) (consM (lcM [1] (seqA (varM 0)) (gN 1) yesT (opM ixA (varM 1) (cM (.int 1)))) nilM)))
    (retM (andE (opM eqA (varM 3) (bindE (bindE (varM 3) setF) (newD sortF))) (opM eqA (bindE (bindE (varM 4) setF) lenF) (bindE (varM 4) lenF)))))))
noncomputable def f__law_is_one : FM := runDef finD 5 1 m__law_is_one
theorem ok__law_is_one {g : Gb} {fa : Addr} {fd : FuncData} (nb : NoB g.mg)     (Fu : Fun g.K "_law_is_one" "_law_is_one" (top 29) fa fd) (hm : g.mg "_law_is_one" = some (.ref fa)) : FOk g 1 "_law_is_one" (defArgs (top 29)) ["value"] f__law_is_one :=
  fok_ofB (N := ["value", "own", "name", "firsts", "seconds"]) nb (finD_ok g) Fu ⟨rfl, rfl, rfl, by decide +kernel, rfl, by decide +kernel, by decide +kernel⟩ hm (Fu.binds fun _ _ _ _ _ _ us hl => match us, hl with | [_], _ => rfl) fun cdv A outer s H E B tk po hr =>
    (mss_cons (ms_if (mt_not (mt_val (me_isi (B.nb _ (by decide)) (B.nb _ (by decide)) PyProof.Rows.boot_tuple (by decide) (me_var (i := 0))))) (mss_one (ms_ret me_bl)) mss_nil)
    (mss_cons (ms_for po B.calm (mi_any (me_var (i := 0))) (mg_name (i := 1) B.nd) (mss_cons (ms_if (mt_bo (mw_or (mt_not (mt_val (me_isi (B.nb _ (by decide)) (B.nb _ (by decide)) PyProof.Rows.boot_tuple (by decide) (me_var (i := 1))))) (mw_or1 (t_ne B (w_len B (me_var (i := 1))) me_int)))) (mss_one (ms_ret me_bl)) mss_nil)
    (mss_one (ms_for po B.calm (mi_any (me_var (i := 1))) (mg_name (i := 2) B.nd) (mss_one (ms_if (mt_bo (mw_or (mt_not (mt_val (me_isi (B.nb _ (by decide)) (B.nb _ (by decide)) PyProof.Rows.boot_int (by decide) (me_var (i := 2))))) (mw_or (mt_val (me_isi (B.nb _ (by decide)) (B.nb _ (by decide)) PyProof.Rows.boot_bool (by decide) (me_var (i := 2)))) (mw_or1 (t_lt (me_var (i := 2)) me_int))))) (mss_one (ms_ret me_bl)) mss_nil))))))
    (mss_cons (ms_par (i := 3) (j := 4) B.calm B.nd (ma_cons (me_lc (own := [("own", 1)]) B.calm B.nd (mi_any (me_var (i := 0))) (blk5 (N := ["value", "own", "name", "firsts", "seconds"]) (sc := defScope (top 29)) rfl (by decide +kernel) (by decide +kernel) (by decide +kernel) (by decide +kernel)) (fun _ _ _ _ _ => (mg_name (i := 1) (Cb.blk B).nd)) (fun _ _ _ _ _ => mts_nil) (fun _ _ _ _ _ => (w_ix (Cb.blk B) (me_var (i := 1)) me_int))) (ma_cons (me_lc (own := [("own", 1)]) B.calm B.nd (mi_any (me_var (i := 0))) (blk5 (N := ["value", "own", "name", "firsts", "seconds"]) (sc := defScope (top 29)) rfl (by decide +kernel) (by decide +kernel) (by decide +kernel) (by decide +kernel)) (fun _ _ _ _ _ => (mg_name (i := 1) (Cb.blk B).nd)) (fun _ _ _ _ _ => mts_nil) (fun _ _ _ _ _ => (w_ix (Cb.blk B) (me_var (i := 1)) me_int))) ma_nil)))
    (mss_one (ms_ret (me_and (w_eq B (me_var (i := 3)) (w_sorted B (w_set B (me_var (i := 3))))) (me_one (w_eq B (w_len B (w_set B (me_var (i := 4)))) (w_len B (me_var (i := 4)))))))))))
theorem ok_turned {g : Gb} {fa : Addr} {fd : FuncData} (nb : NoB g.mg)     (Fu : Fun g.K "turned" "turned" (top 16) fa fd) (hm : g.mg "turned" = some (.ref fa)) : FOk g 1 "turned" (defArgs (top 16)) ["renaming"] f_turned :=
  fok_ofB (N := ["renaming", "first", "second"]) nb (finD_ok g) Fu ⟨rfl, rfl, rfl, by decide +kernel, rfl, by decide +kernel, by decide +kernel⟩ hm (Fu.binds fun _ _ _ _ _ _ us hl => match us, hl with | [_], _ => rfl) fun cdv A outer s H E B tk po hr =>
    (mss_one (ms_ret (w_tuple B (w_sorted B (me_lc (own := [("first", 1), ("second", 2)]) B.calm B.nd (mi_any (me_var (i := 0))) (blk5 (N := ["renaming", "first", "second"]) (sc := defScope (top 16)) rfl (by decide +kernel) (by decide +kernel) (by decide +kernel) (by decide +kernel)) (fun _ _ _ _ _ => (mg_tup (Cb.blk B).calm (mgs_cons (mg_name (i := 1) (Cb.blk B).nd) (mgs_cons (mg_name (i := 2) (Cb.blk B).nd) mgs_nil)))) (fun _ _ _ _ _ => mts_nil) (fun _ _ _ _ _ => (me_tup (ma_cons (me_var (i := 2)) (ma_cons (me_var (i := 1)) ma_nil)))))))))
theorem ok_contrary {g : Gb} {fa : Addr} {fd : FuncData} (nb : NoB g.mg) (o_need_renaming : FOk g 6 "need_renaming" (defArgs (top 19)) ["renaming"] f_need_renaming) (o_turned : FOk g 1 "turned" (defArgs (top 16)) ["renaming"] f_turned)    (Fu : Fun g.K "contrary" "contrary" (top 22) fa fd) (hm : g.mg "contrary" = some (.ref fa)) : FOk g 7 "contrary" (defArgs (top 22)) ["renaming"] f_contrary :=
  fok_ofB (N := ["renaming"]) nb (finD_ok g) Fu ⟨rfl, rfl, rfl, by decide +kernel, rfl, by decide +kernel, by decide +kernel⟩ hm (Fu.binds fun _ _ _ _ _ _ us hl => match us, hl with | [_], _ => rfl) fun cdv A outer s H E B tk po hr =>
    (mss_cons (ms_expr (me_call (o_need_renaming.le (by decide)) hr tk (ma_cons (me_var (i := 0)) ma_nil)))
    (mss_one (ms_ret (me_call (o_turned.le (by decide)) hr tk (ma_cons (me_var (i := 0)) ma_nil)))))
theorem ok_is_renaming {g : Gb} {fa : Addr} {fd : FuncData} (nb : NoB g.mg) (o_is_a_renaming : FOk g 5 "is_a_renaming" (defArgs (top 14)) ["value"] f_is_a_renaming)    (Fu : Fun g.K "is_renaming" "is_renaming" (top 20) fa fd) (hm : g.mg "is_renaming" = some (.ref fa)) : FOk g 6 "is_renaming" (defArgs (top 20)) ["value"] f_is_renaming :=
  fok_ofB (N := ["value"]) nb (finD_ok g) Fu ⟨rfl, rfl, rfl, by decide +kernel, rfl, by decide +kernel, by decide +kernel⟩ hm (Fu.binds fun _ _ _ _ _ _ us hl => match us, hl with | [_], _ => rfl) fun cdv A outer s H E B tk po hr =>
    (mss_one (ms_ret (me_call (o_is_a_renaming.le (by decide)) hr tk (ma_cons (me_var (i := 0)) ma_nil))))
theorem kw_contrary_0_renaming : KwB (defArgs (top 22)) ["renaming"] ["renaming"] [0] := fun _ _ _ _ _ _ _ _ _ _ us ws h1 h2 => match ws, h1 with
  | [w0], _ => match us, (by simpa [pick] using h2 : us.length = 0) with
    | [], _ => rfl
theorem kw_is_renaming_0_value : KwB (defArgs (top 20)) ["value"] ["value"] [0] := fun _ _ _ _ _ _ _ _ _ _ us ws h1 h2 => match ws, h1 with
  | [w0], _ => match us, (by simpa [pick] using h2 : us.length = 0) with
    | [], _ => rfl
noncomputable def m_law : SM :=
    (seqM (forM (rng1 (consM (blt max2D (consM (cM (.int 1)) (consM (blt min2D (consM (cM (.int 4)) (consM (bindE (varM 0) lenF) nilM))) nilM))) nilM)) (gN 1) (seqM (asgM 2 (callM f__law_urn (consM (varM 0) (consM (varM 1) nilM))))
    (forM (rng1 (consM (cM (.int 5)) nilM)) (gN 3) (seqM (asgM 4 (callM f__law_renaming (consM (varM 2) nilM)))
    (seqM (asgM 5 (callM f__law_led (consM (varM 4) (consM (cM (.int 12)) nilM))))
    (seqM (asgM 6 (blt tupleD (consM (lcM [13] (rng1 (consM (callM f__law_out (consM (varM 2) (consM (cM (.int 8)) nilM))) nilM)) (gN 13) yesT (opM subD (callM f__law_out (consM (varM 2) (consM (cM (.int 13)) nilM))) (cM (.int 1)))) nilM)))
    (seqM (asgM 7 (blt tupleD (consM (lcM [14] (seqA (varM 6)) (gN 14) yesT (iteE (tstM (opM eqA (varM 14) (unM negD (cM (.int 1))))) (unM negD (cM (.int 1))) (opM ixA (varM 5) (varM 14)))) nilM)))
    (seqM (ifM (tstM (opM neA (blt reprD (consM (lstM (consM (callM f_renamed (consM (varM 4) (consM (varM 6) nilM))) (consM (callKM f_renamed [1, 0] 2 nilM (consM (varM 6) (consM (varM 4) nilM))) nilM))) nilM)) (blt reprD (consM (lstM (consM (varM 7) (consM (varM 7) nilM))) nilM)))) (retM (cM (.bool false))) skipM)
    (seqM (asgM 8 (blt tupleD (consM (bindE (lcM [15, 16] (seqA (varM 4)) (gT [(gN 15), (gN 16)]) yesT (tupM (consM (varM 16) (consM (varM 15) nilM)))) (newD sortF)) nilM)))
    (seqM (ifM (tstM (opM neA (blt reprD (consM (lstM (consM (callM f_contrary (consM (varM 4) nilM)) (consM (callKM f_contrary [0] 1 nilM (consM (varM 4) nilM)) nilM))) nilM)) (blt reprD (consM (lstM (consM (varM 8) (consM (varM 8) nilM))) nilM)))) (retM (cM (.bool false))) skipM)
    (seqM (ifM (orT (tstM (opM neA (callM f_renamed (consM (varM 8) (consM (callM f_renamed (consM (varM 4) (consM (varM 6) nilM))) nilM))) (varM 6))) (tstM (opM neA (bindE (bindE (varM 5) setF) lenF) (bindE (varM 5) lenF)))) (retM (cM (.bool false))) skipM)
    (seqM (forM (seqA (lstM (consM (varM 4) (consM (callM f__law_bent (consM (varM 2) (consM (varM 4) nilM))) (consM (callM f__law_bent (consM (varM 2) (consM (varM 4) nilM))) (consM (opM addD (varM 4) (tupM (consM (tupM (consM (cM (.int 3)) (consM (cM (.int 3)) nilM))) nilM))) (consM (unM revD (varM 4)) nilM))))))) (gN 9) (seqM (parM 11 12 (consM (callM f__law_is_one (consM (varM 9) nilM)) (consM (blt reprD (consM (varM 9) nilM)) nilM)))
    (seqM (ifM (orT (tstM (opM neA (lstM (consM (callM f_is_renaming (consM (varM 9) nilM)) (consM (callKM f_is_renaming [0] 1 nilM (consM (varM 9) nilM)) nilM))) (lstM (consM (varM 11) (consM (varM 11) nilM))))) (tstM (opM neA (blt reprD (consM (varM 9) nilM)) (varM 12)))) (retM (cM (.bool false))) skipM)
    (ifM (andT (notT (tstM (varM 11))) (tstM (opM neA (callM f__law_refused (consM (varM 9) (consM (cM .none) nilM))) (tupM (consM (cM (.int 0)) (consM (varM 12) nilM)))))) (retM (cM (.bool false))) skipM))))
    (seqM (asgM 10 (opM ixA (lstM (consM (cM .none) (consM (bindE (varM 6) (newD lisF)) (consM (opM addD (varM 6) (tupM (consM (unM negD (cM (.int 2))) nilM))) (consM (opM addD (varM 6) (tupM (consM (cM (.bool true)) nilM))) (consM (cM (.int 0)) nilM)))))) (callM f__law_out (consM (varM 2) (consM (cM (.int 5)) nilM)))))
    (ifM (tstM (opM neA (callM f__law_refused (consM (varM 4) (consM (varM 10) nilM))) (tupM (consM (cM (.int 1)) (consM (blt reprD (consM (varM 10) nilM)) nilM))))) (retM (cM (.bool false))) skipM))))))))))))))
    (retM (cM (.bool true))))
noncomputable def f_law : FM := runDef finD 17 1 m_law
theorem at_law {g : Gb} {fa : Addr} {fd : FuncData} (nb : NoB g.mg) (o__law_urn : FOk g 1 "_law_urn" (defArgs (top 24)) ["script", "k"] f__law_urn) (o__law_renaming : FOk g 2 "_law_renaming" (defArgs (top 28)) ["urn"] f__law_renaming) (o__law_led : FOk g 1 "_law_led" (defArgs (top 30)) ["renaming", "many"] f__law_led) (o__law_bent : FOk g 5 "_law_bent" (defArgs (top 26)) ["urn", "value"] f__law_bent) (o__law_out : FOk g 1 "_law_out" (defArgs (top 25)) ["urn", "many"] f__law_out) (o__law_refused : FOk g 8 "_law_refused" (defArgs (top 31)) ["renaming", "values"] f__law_refused) (o_renamed : FOk g 7 "renamed" (defArgs (top 21)) ["renaming", "values"] f_renamed) (o__law_is_one : FOk g 1 "_law_is_one" (defArgs (top 29)) ["value"] f__law_is_one) (o_contrary : FOk g 7 "contrary" (defArgs (top 22)) ["renaming"] f_contrary) (o_is_renaming : FOk g 6 "is_renaming" (defArgs (top 20)) ["value"] f_is_renaming)    (Fu : Fun g.K "law" "law" (top 32) fa fd) (hm : g.mg "law" = some (.ref fa)) : FnG g 9 fa fd ["script"] (spM g 1 f_law) :=
  fng_ofB (N := ["script", "k", "urn", "turn", "renaming", "due", "names", "told", "back", "thing", "bad", "so", "text", "own", "name", "one", "other"]) nb (finD_ok g) Fu ⟨rfl, rfl, rfl, by decide +kernel, rfl, by decide +kernel, by decide +kernel⟩ hm (Fu.binds fun _ _ _ _ _ _ us hl => match us, hl with | [_], _ => rfl) fun cdv A outer s H E B tk po hr =>
    (mss_cons (ms_for po B.calm (mi_rng1 (B.nb _ (by decide)) (ma_cons (w_max2 B me_int (w_min2 B me_int (w_len B (me_var (i := 0))))) ma_nil)) (mg_name (i := 1) B.nd) (mss_cons (ms_set (i := 2) B.nd (me_call (o__law_urn.le (by decide)) hr tk (ma_cons (me_var (i := 0)) (ma_cons (me_var (i := 1)) ma_nil))))
    (mss_one (ms_for po B.calm (mi_rng1 (B.nb _ (by decide)) (ma_cons me_int ma_nil)) (mg_name (i := 3) B.nd) (mss_cons (ms_set (i := 4) B.nd (me_call (o__law_renaming.le (by decide)) hr tk (ma_cons (me_var (i := 2)) ma_nil)))
    (mss_cons (ms_set (i := 5) B.nd (me_call (o__law_led.le (by decide)) hr tk (ma_cons (me_var (i := 4)) (ma_cons me_int ma_nil))))
    (mss_cons (ms_set (i := 6) B.nd (w_tuple B (me_lc (own := [("own", 13)]) B.calm B.nd (mi_rng1 (B.nb _ (by decide)) (ma_cons (me_call (o__law_out.le (by decide)) hr tk (ma_cons (me_var (i := 2)) (ma_cons me_int ma_nil))) ma_nil)) (blk5 (N := ["script", "k", "urn", "turn", "renaming", "due", "names", "told", "back", "thing", "bad", "so", "text", "own", "name", "one", "other"]) (sc := defScope (top 32)) rfl (by decide +kernel) (by decide +kernel) (by decide +kernel) (by decide +kernel)) (fun _ _ _ _ _ => (mg_name (i := 13) (Cb.blk B).nd)) (fun _ _ _ _ _ => mts_nil) (fun _ _ _ _ _ => (w_sub (me_call (o__law_out.le (by decide)) hr takes0 (ma_cons (me_var (i := 2)) (ma_cons me_int ma_nil))) me_int)))))
    (mss_cons (ms_set (i := 7) B.nd (w_tuple B (me_lc (own := [("name", 14)]) B.calm B.nd (mi_any (me_var (i := 6))) (blk5 (N := ["script", "k", "urn", "turn", "renaming", "due", "names", "told", "back", "thing", "bad", "so", "text", "own", "name", "one", "other"]) (sc := defScope (top 32)) rfl (by decide +kernel) (by decide +kernel) (by decide +kernel) (by decide +kernel)) (fun _ _ _ _ _ => (mg_name (i := 14) (Cb.blk B).nd)) (fun _ _ _ _ _ => mts_nil) (fun _ _ _ _ _ => (me_ite (t_eq (Cb.blk B) (me_var (i := 14)) (w_neg me_int)) (w_neg me_int) (w_ix (Cb.blk B) (me_var (i := 5)) (me_var (i := 14))))))))
    (mss_cons (ms_if (t_ne B (w_repr B (me_lst (ma_cons (me_call (o_renamed.le (by decide)) hr tk (ma_cons (me_var (i := 4)) (ma_cons (me_var (i := 6)) ma_nil))) (ma_cons (me_callK0 (o_renamed.le (by decide)) hr tk kw_renamed_0_values_renaming (mk_cons (me_var (i := 6)) (mk_cons (me_var (i := 4)) mk_nil))) ma_nil)))) (w_repr B (me_lst (ma_cons (me_var (i := 7)) (ma_cons (me_var (i := 7)) ma_nil))))) (mss_one (ms_ret me_bl)) mss_nil)
    (mss_cons (ms_set (i := 8) B.nd (w_tuple B (w_sorted B (me_lc (own := [("one", 15), ("other", 16)]) B.calm B.nd (mi_any (me_var (i := 4))) (blk5 (N := ["script", "k", "urn", "turn", "renaming", "due", "names", "told", "back", "thing", "bad", "so", "text", "own", "name", "one", "other"]) (sc := defScope (top 32)) rfl (by decide +kernel) (by decide +kernel) (by decide +kernel) (by decide +kernel)) (fun _ _ _ _ _ => (mg_tup (Cb.blk B).calm (mgs_cons (mg_name (i := 15) (Cb.blk B).nd) (mgs_cons (mg_name (i := 16) (Cb.blk B).nd) mgs_nil)))) (fun _ _ _ _ _ => mts_nil) (fun _ _ _ _ _ => (me_tup (ma_cons (me_var (i := 16)) (ma_cons (me_var (i := 15)) ma_nil))))))))
    (mss_cons (ms_if (t_ne B (w_repr B (me_lst (ma_cons (me_call (o_contrary.le (by decide)) hr tk (ma_cons (me_var (i := 4)) ma_nil)) (ma_cons (me_callK0 (o_contrary.le (by decide)) hr tk kw_contrary_0_renaming (mk_cons (me_var (i := 4)) mk_nil)) ma_nil)))) (w_repr B (me_lst (ma_cons (me_var (i := 8)) (ma_cons (me_var (i := 8)) ma_nil))))) (mss_one (ms_ret me_bl)) mss_nil)
    (mss_cons (ms_if (mt_bo (mw_or (t_ne B (me_call (o_renamed.le (by decide)) hr tk (ma_cons (me_var (i := 8)) (ma_cons (me_call (o_renamed.le (by decide)) hr tk (ma_cons (me_var (i := 4)) (ma_cons (me_var (i := 6)) ma_nil))) ma_nil))) (me_var (i := 6))) (mw_or1 (t_ne B (w_len B (w_set B (me_var (i := 5)))) (w_len B (me_var (i := 5))))))) (mss_one (ms_ret me_bl)) mss_nil)
    (mss_cons (ms_for po B.calm (mi_any (me_lst (ma_cons (me_var (i := 4)) (ma_cons (me_call (o__law_bent.le (by decide)) hr tk (ma_cons (me_var (i := 2)) (ma_cons (me_var (i := 4)) ma_nil))) (ma_cons (me_call (o__law_bent.le (by decide)) hr tk (ma_cons (me_var (i := 2)) (ma_cons (me_var (i := 4)) ma_nil))) (ma_cons (w_add (me_var (i := 4)) (me_tup (ma_cons (me_tup (ma_cons me_int (ma_cons me_int ma_nil))) ma_nil))) (ma_cons (me_rev (me_var (i := 4))) ma_nil))))))) (mg_name (i := 9) B.nd) (mss_cons (ms_par (i := 11) (j := 12) B.calm B.nd (ma_cons (me_call (o__law_is_one.le (by decide)) hr tk (ma_cons (me_var (i := 9)) ma_nil)) (ma_cons (w_repr B (me_var (i := 9))) ma_nil)))
    (mss_cons (ms_if (mt_bo (mw_or (t_ne B (me_lst (ma_cons (me_call (o_is_renaming.le (by decide)) hr tk (ma_cons (me_var (i := 9)) ma_nil)) (ma_cons (me_callK0 (o_is_renaming.le (by decide)) hr tk kw_is_renaming_0_value (mk_cons (me_var (i := 9)) mk_nil)) ma_nil))) (me_lst (ma_cons (me_var (i := 11)) (ma_cons (me_var (i := 11)) ma_nil)))) (mw_or1 (t_ne B (w_repr B (me_var (i := 9))) (me_var (i := 12)))))) (mss_one (ms_ret me_bl)) mss_nil)
    (mss_one (ms_if (mt_bo (mw_and (mt_not (mt_val (me_var (i := 11)))) (mw_and1 (t_ne B (me_call (o__law_refused.le (by decide)) hr tk (ma_cons (me_var (i := 9)) (ma_cons me_non ma_nil))) (me_tup (ma_cons me_int (ma_cons (me_var (i := 12)) ma_nil))))))) (mss_one (ms_ret me_bl)) mss_nil)))))
    (mss_cons (ms_set (i := 10) B.nd (w_ix B (me_lst (ma_cons me_non (ma_cons (w_list B (me_var (i := 6))) (ma_cons (w_add (me_var (i := 6)) (me_tup (ma_cons (w_neg me_int) ma_nil))) (ma_cons (w_add (me_var (i := 6)) (me_tup (ma_cons me_bl ma_nil))) (ma_cons me_int ma_nil)))))) (me_call (o__law_out.le (by decide)) hr tk (ma_cons (me_var (i := 2)) (ma_cons me_int ma_nil)))))
    (mss_one (ms_if (t_ne B (me_call (o__law_refused.le (by decide)) hr tk (ma_cons (me_var (i := 4)) (ma_cons (me_var (i := 10)) ma_nil))) (me_tup (ma_cons me_int (ma_cons (w_repr B (me_var (i := 10))) ma_nil)))) (mss_one (ms_ret me_bl)) mss_nil))))))))))))))))
    (mss_one (ms_ret me_bl)))
end K00


set_option Elab.async false
set_option linter.all false
set_option maxRecDepth 100000
set_option maxHeartbeats 8000000
namespace K00
open PySem PySem.Spec PyProof.Rows L2 Fz Ren Fs

theorem p20 : powD (.int 10) (.int 20) = some (.int (10 ^ 20)) := pow_ok 20 (by decide) (by decide)
noncomputable abbrev key2 : EM := opM ixA (lstM (consM (callM f__law_out (consM (varM 0) (consM (cM (.int 7)) nilM))) (consM (opM addD (opM powD (cM (.int 10)) (cM (.int 20))) (callM f__law_out (consM (varM 0) (consM (cM (.int 3)) nilM)))) nilM))) (blt intD (consM (opM eqA (callM f__law_out (consM (varM 0) (consM (cM (.int 9)) nilM))) (cM (.int 0))) nilM))
noncomputable abbrev rbody : SM := seqM (putM (cM (.bool true)) (varM 2) (callM f__law_out (consM (varM 0) (consM (cM (.int 7)) nilM)))) (putM (cM (.bool true)) (varM 3) key2)
def big : Nat := 10 ^ 20 + 7
theorem key2_eq (loc : Ls) (n : Nat) (h0 : loc[0]? = some (some (.r n))) (hp : List O) (N : Nat) (hN : N ≤ 90000) (o : O) (ho : hp[n]? = some o) (u : UrnO N o) :
    ∃ (k : Nat) (o' : O), k < big ∧ UrnO (N + 3) o' ∧ key2 loc hp = .ok (.d (.int (k : Int))) (hp.set n o') := by
  have hn := (List.getElem?_eq_some_iff.mp ho).1
  obtain ⟨a, o1, ha, u1, e1⟩ := out_eq 7 (by decide) (by decide) N (by omega) n hp o ho u
  obtain ⟨b, o2, hb, u2, e2⟩ := out_eq 3 (by decide) (by decide) (N + 1) (by omega) n _ o1 (List.getElem?_set_self hn) u1
  rw [List.set_set] at e2
  obtain ⟨c, o3, hc, u3, e3⟩ := out_eq 9 (by decide) (by decide) (N + 1 + 1) (by omega) n _ o2 (List.getElem?_set_self hn) u2
  rw [List.set_set] at e3
  have v0 := fun hp => varM_at h0 hp
  have c1 : callM f__law_out (consM (varM 0) (consM (cM (.int 7)) nilM)) loc hp = .ok (.d (.int (a : Int))) (hp.set n o1) := by
    simp only [callM, consM, nilM, v0, cM, bind_ok, e1]
  have c2 : callM f__law_out (consM (varM 0) (consM (cM (.int 3)) nilM)) loc (hp.set n o1) = .ok (.d (.int (b : Int))) (hp.set n o2) := by
    simp only [callM, consM, nilM, v0, cM, bind_ok, e2]
  have c3 : callM f__law_out (consM (varM 0) (consM (cM (.int 9)) nilM)) loc (hp.set n o2) = .ok (.d (.int (c : Int))) (hp.set n o3) := by
    simp only [callM, consM, nilM, v0, cM, bind_ok, e3]
  have l1 : lstM (consM (callM f__law_out (consM (varM 0) (consM (cM (.int 7)) nilM))) (consM (opM addD (opM powD (cM (.int 10)) (cM (.int 20))) (callM f__law_out (consM (varM 0) (consM (cM (.int 3)) nilM)))) nilM)) loc hp = .ok (.d (.list [.int (a : Int), .int (10 ^ 20 + (b : Int))])) (hp.set n o2) := by
    have q := opM_at (f := powD) (loc := loc) (hp := hp.set n o1) (show cM (.int 10) loc (hp.set n o1) = .ok (.d (.int 10)) (hp.set n o1) from rfl) (show cM (.int 20) loc (hp.set n o1) = .ok (.d (.int 20)) (hp.set n o1) from rfl) p20
    have q2 : opM addD (opM powD (cM (.int 10)) (cM (.int 20))) (callM f__law_out (consM (varM 0) (consM (cM (.int 3)) nilM))) loc (hp.set n o1) = .ok (.d (.int (10 ^ 20 + (b : Int)))) (hp.set n o2) := by
      show ((opM powD (cM (.int 10)) (cM (.int 20))) loc (hp.set n o1)).bind _ = _
      rw [q, bind_ok, c2, bind_ok]
      simp only [view_d, add_ok, okD_some]
    show ((consM _ _) loc hp).bind _ = _
    have q3 : (consM (callM f__law_out (consM (varM 0) (consM (cM (.int 7)) nilM))) (consM (opM addD (opM powD (cM (.int 10)) (cM (.int 20))) (callM f__law_out (consM (varM 0) (consM (cM (.int 3)) nilM)))) nilM)) loc hp = .ok [.d (.int (a : Int)), .d (.int (10 ^ 20 + (b : Int)))] (hp.set n o2) := by
      show (callM _ _ loc hp).bind _ = _
      rw [c1, bind_ok]
      show ((opM addD _ _ loc (hp.set n o1)).bind _).bind _ = _
      rw [q2]; rfl
    rw [q3]; rfl
  have l2 : blt intD (consM (opM eqA (callM f__law_out (consM (varM 0) (consM (cM (.int 9)) nilM))) (cM (.int 0))) nilM) loc (hp.set n o2) = .ok (.d (.int (if decide ((c : Int) = 0) = true then 1 else 0))) (hp.set n o3) := by
    have q : opM eqA (callM f__law_out (consM (varM 0) (consM (cM (.int 9)) nilM))) (cM (.int 0)) loc (hp.set n o2) = .ok (.d (.bool (decide ((c : Int) = 0)))) (hp.set n o3) := by
      show (callM _ _ loc _).bind _ = _
      rw [c3, bind_ok]
      show (Res.ok _ _).bind _ = _
      rw [bind_ok]
      simp only [view_d, eqA_int, okD_some]
    show ((consM _ nilM) loc _).bind _ = _
    have q3 : (consM (opM eqA (callM f__law_out (consM (varM 0) (consM (cM (.int 9)) nilM))) (cM (.int 0))) nilM) loc (hp.set n o2) = .ok [.d (.bool (decide ((c : Int) = 0)))] (hp.set n o3) := by
      show ((opM eqA _ _) loc _).bind _ = _
      rw [q]; rfl
    rw [q3]; rfl
  have l3 : key2 loc hp = (match ixA (.list [.int (a : Int), .int (10 ^ 20 + (b : Int))]) (.int (if decide ((c : Int) = 0) = true then 1 else 0)) with | o => okD o (hp.set n o3)) := by
    show ((lstM _) loc hp).bind _ = _
    rw [l1, bind_ok, l2, bind_ok]; rfl
  by_cases z : (c : Int) = 0
  · rw [decide_eq_true z, if_pos rfl] at l3
    refine ⟨10 ^ 20 + b, o3, by unfold big; omega, u3, ?_⟩
    rw [l3]
    have : ((10 ^ 20 + b : Nat) : Int) = 10 ^ 20 + (b : Int) := by omega
    rw [this]; rfl
  · rw [decide_eq_false z, if_neg Bool.false_ne_true] at l3
    refine ⟨a, o3, by unfold big; omega, u3, ?_⟩
    rw [l3]; rfl
def Sml (R : NP) : Prop := R.length ≤ 4 ∧ ∀ p ∈ R, p.1 < big ∧ p.2 < big
theorem loop_ren (b : List O) (n : Nat) (hn : n < b.length) (N : Nat) (hN : N ≤ 80000) (o : O) (ho : UrnO N o) (r : Nat) (hr : r < 5) :
    ∃ o' k1 k2 x, forGo none (gN 1) rbody (rngI 0 r) [some (.r n), none, some (.r b.length), some (.r (b.length + 1)), none, none, none, none] (HH b n o [] []) = .ok .nx [some (.r n), x, some (.r b.length), some (.r (b.length + 1)), none, none, none, none] (HH b n o' k1 k2) ∧ UrnO (N + 16) o' ∧ KsOk big 4 k1 ∧ KsOk big 4 k2 := by
  have hl : (rngI 0 (r : Int)).length = r := by unfold rngI; rw [List.length_map, List.length_range]; omega
  obtain ⟨loc', hp', e, o', k1, k2, x, rfl, rfl, h1, h2, h3⟩ := for_inv (tg := gN 1) (body := rbody) (keep := none) (items := rngI 0 r) (i := 0) (fun i loc hp' => ∃ o' k1 k2 x, loc = [some (.r n), x, some (.r b.length), some (.r (b.length + 1)), none, none, none, none] ∧ hp' = HH b n o' k1 k2 ∧ (i ≤ 4 → UrnO (N + 4 * i) o') ∧ KsOk big i k1 ∧ KsOk big i k2) (loc := [some (.r n), none, some (.r b.length), some (.r (b.length + 1)), none, none, none, none]) (hp := HH b n o [] [])
    ⟨o, [], [], none, rfl, rfl, fun _ => ho, ⟨.nil, fun _ h => (nomatch h), Nat.le_refl _⟩, ⟨.nil, fun _ h => (nomatch h), Nat.le_refl _⟩⟩ (fun _ _ _ _ => trivial) (by
    rintro i v loc hp' hv ⟨o1, k1, k2, x, rfl, rfl, hu, hk1, hk2⟩
    rw [Nat.zero_add] at hu hk1 hk2
    have hi : i < r := by
      have := (List.getElem?_eq_some_iff.mp hv).1
      omega
    obtain ⟨a, o2, ha, u2, e2⟩ := out_eq 7 (by decide) (by decide) (N + 4 * i) (by omega) n _ o1 (HH_n hn o1 k1 k2) (hu (by omega))
    rw [HH_sn hn] at e2
    obtain ⟨c, o3, hc, u3, e3⟩ := key2_eq [some (.r n), some v, some (.r b.length), some (.r (b.length + 1)), none, none, none, none] n rfl _ (N + 4 * i + 1) (by omega) o2 (HH_n hn o2 (addN k1 a) k2) u2
    rw [HH_sn hn] at e3
    refine ⟨[some (.r n), some v, some (.r b.length), some (.r (b.length + 1)), none, none, none, none], rfl, [some (.r n), some v, some (.r b.length), some (.r (b.length + 1)), none, none, none, none], HH b n o3 (addN k1 a) (addN k2 c), .inl ?_, o3, addN k1 a, addN k2 c, some v, rfl, rfl, fun _ => ?_, ?_, ?_⟩
    · have l1 : (kvT k1).length < 10000000 := by rw [kvT_len]; have := hk1.len; omega
      have l2 : (kvT k2).length < 10000000 := by rw [kvT_len]; have := hk2.len; omega
      have p1 : Fz.putF (HH b n o2 k1 k2) (.r b.length) (.d (.int (a : Int))) (.d (.bool true)) = some (HH b n o2 (addN k1 a) k2) := by
        simp only [Fz.putF, HH_1, if_pos l1, put_kvT, HH_s1]; rfl
      have p2 : Fz.putF (HH b n o3 (addN k1 a) k2) (.r (b.length + 1)) (.d (.int (c : Int))) (.d (.bool true)) = some (HH b n o3 (addN k1 a) (addN k2 c)) := by
        simp only [Fz.putF, HH_2, if_pos l2, put_kvT, HH_s2]; rfl
      have v0 : ∀ hp, varM 0 [some (.r n), some v, some (.r b.length), some (.r (b.length + 1)), none, none, none, none] hp = .ok (.r n) hp := fun _ => rfl
      have v2 : ∀ hp, varM 2 [some (.r n), some v, some (.r b.length), some (.r (b.length + 1)), none, none, none, none] hp = .ok (.r b.length) hp := fun _ => rfl
      have v3 : ∀ hp, varM 3 [some (.r n), some v, some (.r b.length), some (.r (b.length + 1)), none, none, none, none] hp = .ok (.r (b.length + 1)) hp := fun _ => rfl
      have s1 : putM (cM (.bool true)) (varM 2) (callM f__law_out (consM (varM 0) (consM (cM (.int 7)) nilM))) [some (.r n), some v, some (.r b.length), some (.r (b.length + 1)), none, none, none, none] (HH b n o1 k1 k2) = .ok .nx [some (.r n), some v, some (.r b.length), some (.r (b.length + 1)), none, none, none, none] (HH b n o2 (addN k1 a) k2) := by
        simp only [putM, cM, toS_ok, v2, callM, consM, nilM, v0, bind_ok, e2, p1]
      have s2 : putM (cM (.bool true)) (varM 3) key2 [some (.r n), some v, some (.r b.length), some (.r (b.length + 1)), none, none, none, none] (HH b n o2 (addN k1 a) k2) = .ok .nx [some (.r n), some v, some (.r b.length), some (.r (b.length + 1)), none, none, none, none] (HH b n o3 (addN k1 a) (addN k2 c)) := by
        unfold putM
        simp only [cM, toS_ok, v3]
        rw [e3]
        simp only [toS_ok, p2]
      unfold rbody
      rw [seq_nx s1, s2]
    · rw [Nat.zero_add, show N + 4 * (i + 1) = N + 4 * i + 1 + 3 by omega]; exact u3
    · rw [Nat.zero_add]; exact hk1.add (by unfold big; omega)
    · rw [Nat.zero_add]; exact hk2.add hc)
  rw [Nat.zero_add, hl] at h1 h2 h3
  refine ⟨o', k1, k2, x, e, ?_, ⟨h2.nd, h2.lt, by have := h2.len; omega⟩, ⟨h3.nd, h3.lt, by have := h3.len; omega⟩⟩
  obtain ⟨p, q, s, e1, e2, e3, e4, e5⟩ := h1 (by omega)
  exact ⟨p, q, s, e1, e2, e3, e4, by omega⟩
theorem zip_ok {k1 k2 : List Nat} (h1 : KsOk big 4 k1) (h2 : KsOk big 4 k2) : Valid ((srtN k1).zip k2) ∧ Sml ((srtN k1).zip k2) := by
  refine ⟨⟨(srtN_lt h1.nd).sublist (zip_fst _ _), h2.nd.sublist (zip_snd _ _)⟩, ?_, ?_⟩
  · rw [List.length_zip]; have := h2.len; omega
  · rintro ⟨x, y⟩ h
    have := List.of_mem_zip h
    exact ⟨h1.lt x ((srtN_perm _).mem_iff.mp this.1), h2.lt y this.2⟩
theorem ren_eq (n : Nat) (b : List O) (N : Nat) (hN : N ≤ 70000) (o : O) (ho : b[n]? = some o) (u : UrnO N o) :
    ∃ (R : NP) (o' : O), Valid R ∧ Sml R ∧ UrnO (N + 17) o' ∧ f__law_renaming [.r n] b = .ok (.d (rD R)) (b.set n o') := by
  have hn : n < b.length := (List.getElem?_eq_some_iff.mp ho).1
  have b0 : b ++ [.dic [], .dic []] = HH b n o [] [] := by
    unfold HH
    have : b.set n o = b := by
      apply List.ext_getElem?
      intro i
      by_cases c : n = i
      · subst c; rw [List.getElem?_set_self hn, ho]
      · rw [List.getElem?_set_ne c]
    rw [this]; rfl
  obtain ⟨r, o1, hr, u1, e1⟩ := out_eq 5 (by decide) (by decide) N (by omega) n _ o (HH_n hn o [] []) u
  rw [HH_sn hn] at e1
  obtain ⟨o2, k1, k2, x, e2, u2, h1, h2⟩ := loop_ren b n hn (N + 1) (by omega) o1 u1 r (by omega)
  refine ⟨(srtN k1).zip k2, o2, (zip_ok h1 h2).1, (zip_ok h1 h2).2, by
    have : N + 1 + 16 = N + 17 := by omega
    rw [← this]; exact u2, ?_⟩
  have r1 : Fz.forM (rng1 (consM (callM f__law_out (consM (varM 0) (consM (cM (.int 5)) nilM))) nilM)) (gN 1) rbody [some (Vl.r n), none, some (.r b.length), some (.r (b.length + 1)), none, none, none, none] (HH b n o [] []) = .ok .nx [some (.r n), x, some (.r b.length), some (.r (b.length + 1)), none, none, none, none] (HH b n o2 k1 k2) := by
    have v0 : varM 0 [some (Vl.r n), none, some (.r b.length), some (.r (b.length + 1)), none, none, none, none] (HH b n o [] []) = .ok (.r n) (HH b n o [] []) := rfl
    unfold Fz.forM rng1
    simp only [callM, consM, nilM, v0, bind_ok, cM, e1, if_pos (show ((r : Int) ≤ 1000000 ∧ -1000000 ≤ (r : Int)) from ⟨by omega, by omega⟩), toS_ok, e2]
  have vw1 : viewD (HH b n o2 k1 k2) (.r b.length) = some (.dict (kvT k1)) := by simp only [viewD, HH_1]
  have vw2 : viewD (HH b n o2 k1 k2) (.r (b.length + 1)) = some (.dict (kvT k2)) := by simp only [viewD, HH_2]
  have ks : ∀ k : List Nat, (kvT k).map (·.1) = (zs k).map PyData.int := fun k => by
    unfold kvT zs
    rw [List.map_map, List.map_map]; rfl
  have zl : (zs k1).length < 64 := by
    have := h1.len
    unfold zs
    rw [List.length_map]; omega
  have s1 : newD sortF (.r b.length) (HH b n o2 k1 k2) = .ok (.d (.list ((zs (srtN k1)).map PyData.int))) (HH b n o2 k1 k2) := by
    simp only [newD, sortF, vw1, ks, asInts_map, Option.bind, if_pos zl, sortI_zs]
  have s2 : newD lisF (.r (b.length + 1)) (HH b n o2 k1 k2) = .ok (.d (.list ((zs k2).map PyData.int))) (HH b n o2 k1 k2) := by
    have : (kvT k2).length ≤ 10000000 := by rw [kvT_len]; have := h2.len; omega
    simp only [newD, lisF, vw2, if_pos this, ks]
  have pr : parM 4 5 (consM (bindE (varM 2) (newD sortF)) (consM (bindE (varM 3) (newD lisF)) nilM)) [some (.r n), x, some (.r b.length), some (.r (b.length + 1)), none, none, none, none] (HH b n o2 k1 k2) = .ok .nx [some (.r n), x, some (.r b.length), some (.r (b.length + 1)), some (.d (.list ((zs (srtN k1)).map PyData.int))), some (.d (.list ((zs k2).map PyData.int))), none, none] (HH b n o2 k1 k2) := by
    have v2 : varM 2 [some (Vl.r n), x, some (.r b.length), some (.r (b.length + 1)), none, none, none, none] (HH b n o2 k1 k2) = .ok (.r b.length) (HH b n o2 k1 k2) := rfl
    have v3 : varM 3 [some (Vl.r n), x, some (.r b.length), some (.r (b.length + 1)), none, none, none, none] (HH b n o2 k1 k2) = .ok (.r (b.length + 1)) (HH b n o2 k1 k2) := rfl
    simp only [parM, consM, nilM, bindE, v2, v3, bind_ok, s1, s2, toS_ok]
    rfl
  have lc : lcM [6, 7] (zipI (consM (varM 4) (consM (varM 5) nilM))) (gT [(gN 6), (gN 7)]) yesT (tupM (consM (varM 6) (consM (varM 7) nilM))) [some (.r n), x, some (.r b.length), some (.r (b.length + 1)), some (.d (.list ((zs (srtN k1)).map PyData.int))), some (.d (.list ((zs k2).map PyData.int))), none, none] (HH b n o2 k1 k2)
      = .ok (.d (.list ((toZ ((srtN k1).zip k2)).map pD))) (HH b n o2 k1 k2) := by
    have v4 : varM 4 [some (Vl.r n), x, some (.r b.length), some (.r (b.length + 1)), some (.d (.list ((zs (srtN k1)).map PyData.int))), some (.d (.list ((zs k2).map PyData.int))), none, none] (HH b n o2 k1 k2) = .ok (.d (.list ((zs (srtN k1)).map PyData.int))) (HH b n o2 k1 k2) := rfl
    have v5 : varM 5 [some (Vl.r n), x, some (.r b.length), some (.r (b.length + 1)), some (.d (.list ((zs (srtN k1)).map PyData.int))), some (.d (.list ((zs k2).map PyData.int))), none, none] (HH b n o2 k1 k2) = .ok (.d (.list ((zs k2).map PyData.int))) (HH b n o2 k1 k2) := rfl
    have e := lc_w (f := gT [gN 6, gN 7]) (te := tupM (consM (varM 6) (consM (varM 7) nilM))) (lw := wipeL [some (Vl.r n), x, some (.r b.length), some (.r (b.length + 1)), some (.d (.list ((zs (srtN k1)).map PyData.int))), some (.d (.list ((zs k2).map PyData.int))), none, none] [6, 7]) (j := fun p : D × D => Vl.w [p.1, p.2]) (h := fun p => .tuple [p.1, p.2]) (ds := ((zs (srtN k1)).map PyData.int).zip ((zs k2).map PyData.int)) (b := HH b n o2 k1 k2) (acc := []) fun d hd hp => ⟨_, rfl, rfl⟩
    rw [zip_toZ] at e
    simp only [lcM, zipI, consM, nilM, v4, v5, bind_ok, e, List.nil_append]
  have t2 : (consM dnewM (consM dnewM nilM)) [some (Vl.r n), none, none, none, none, none, none, none] b = .ok [.r b.length, .r (b.length + 1)] (HH b n o [] []) := by
    rw [← b0]
    simp only [consM, dnewM, nilM, bind_ok, List.length_append, List.length_cons, List.length_nil, List.append_assoc, List.cons_append, List.nil_append, Nat.zero_add]
  have s23 : ∀ p q, List.set (List.set [some (Vl.r n), none, none, none, none, none, none, none] 2 p) 3 q = [some (Vl.r n), none, p, q, none, none, none, none] := fun _ _ => rfl
  have p0 : parM 2 3 (consM dnewM (consM dnewM nilM)) [some (Vl.r n), none, none, none, none, none, none, none] b = .ok .nx [some (Vl.r n), none, some (.r b.length), some (.r (b.length + 1)), none, none, none, none] (HH b n o [] []) := by
    simp only [parM, ↓t2, toS_ok, s23]
  have mm : m__law_renaming [some (Vl.r n), none, none, none, none, none, none, none] b = .ok (.rt (.d (rD ((srtN k1).zip k2)))) [some (.r n), x, some (.r b.length), some (.r (b.length + 1)), some (.d (.list ((zs (srtN k1)).map PyData.int))), some (.d (.list ((zs k2).map PyData.int))), none, none] (HH b n o2 k1 k2) := by
    unfold m__law_renaming
    rw [seq_nx p0]
    refine (seq_nx r1).trans ?_
    rw [seq_nx pr]
    simp only [retM, blt, consM, nilM, ↓lc, bind_ok, toS_ok, viewsD_cons, viewsD_nil, Option.map_some, Fz.tupleD, okD_some]
  unfold f__law_renaming runDef
  rw [if_pos (show [Vl.r n].length = 1 from rfl)]
  have e0 : ([Vl.r n].map some ++ List.replicate (8 - 1) none : Ls) = [some (Vl.r n), none, none, none, none, none, none, none] := rfl
  rw [e0, mm]
  dsimp only
  rw [finD_d, HH_t]
end K00

set_option Elab.async false
set_option linter.all false
set_option maxRecDepth 100000
set_option maxHeartbeats 8000000
namespace K00
open PySem PySem.Spec PyProof.Rows L2 Fz Ren Fs

/-! ### _law_led: the names told one by one -/
def takN (ss : List Nat) : List Nat := ss.foldl addN []
theorem mem_addN {ks : List Nat} {k x : Nat} : x ∈ addN ks k ↔ x ∈ ks ∨ x = k := by
  unfold addN
  by_cases c : k ∈ ks
  · rw [if_pos c]
    exact ⟨.inl, fun h => h.elim id fun e => e ▸ c⟩
  · rw [if_neg c, List.mem_append, List.mem_singleton]
theorem mem_takN {ss : List Nat} {x : Nat} : x ∈ takN ss ↔ x ∈ ss := by
  have go : ∀ (ss acc : List Nat), x ∈ ss.foldl addN acc ↔ x ∈ acc ∨ x ∈ ss := by
    intro ss
    induction ss with
    | nil => intro acc; simp
    | cons s ss ih =>
      intro acc
      rw [List.foldl_cons, ih, mem_addN, List.mem_cons, or_assoc]
  have := go ss []
  simpa [takN] using this
theorem len_takN (ss : List Nat) : (takN ss).length ≤ ss.length := by
  have go : ∀ (ss acc : List Nat), (ss.foldl addN acc).length ≤ acc.length + ss.length := by
    intro ss
    induction ss with
    | nil => intro acc; exact Nat.le_refl _
    | cons s ss ih =>
      intro acc
      rw [List.foldl_cons, List.length_cons]
      have := ih (addN acc s)
      have := addN_len acc s
      omega
  have := go ss []
  simpa [takN] using this
theorem merge_T (ss : List Nat) : mergeD (ss.map fun s : Nat => (PyData.int (s : Int), PyData.bool true)) = kvT (takN ss) := by
  have go : ∀ (ss acc : List Nat), (ss.map fun s : Nat => (PyData.int (s : Int), PyData.bool true)).foldl (fun acc p => putD acc p.1 p.2) (kvT acc) = kvT (ss.foldl addN acc) := by
    intro ss
    induction ss with
    | nil => intro acc; rfl
    | cons s ss ih =>
      intro acc
      rw [List.map_cons, List.foldl_cons, List.foldl_cons, put_kvT, ih]
  exact go ss []
theorem pairs_T (ss : List Nat) : pairsD (ss.map fun s : Nat => PyData.tuple [.int (s : Int), .bool true]) = some (ss.map fun s : Nat => (PyData.int (s : Int), PyData.bool true)) := by
  induction ss with
  | nil => rfl
  | cons s ss ih =>
    show ((toKey (.int (s : Int))).bind fun _ => (pairsD (ss.map fun s : Nat => PyData.tuple [.int (s : Int), .bool true])).map ((PyData.int (s : Int), PyData.bool true) :: ·)) = _
    rw [ih]; rfl
theorem in_T (ks : List Nat) (f : Nat) : inD (.int (f : Int)) (.dict (kvT ks)) = some (.bool (decide (f ∈ ks))) := by
  show some (PyData.bool (valD (kvT ks) (.int (f : Int))).isSome) = _
  congr 2
  unfold valD
  rw [Option.isSome_map]
  induction ks with
  | nil => rfl
  | cons x ks ih =>
    show (List.find? _ ((PyData.int (x : Int), PyData.bool true) :: kvT ks)).isSome = _
    rw [List.find?_cons]
    by_cases h : x = f
    · subst h
      have : keq (PyData.int (x : Int)) (.int (x : Int)) = true := decide_eq_true rfl
      rw [this]
      simp
    · have : keq (PyData.int (x : Int)) (.int (f : Int)) = false := decide_eq_false fun z => h (Int.ofNat_inj.mp z)
      rw [this]
      have h2 : ¬ f = x := fun z => h z.symm
      simpa [h2] using ih
theorem find_fs (R : NP) (i : Nat) : (R.find? fun p => decide (p.1 = i)).isSome = decide (i ∈ R.map (·.1)) := by
  induction R with
  | nil => rfl
  | cons p R ih =>
    rw [List.find?_cons, List.map_cons]
    by_cases h : p.1 = i
    · rw [decide_eq_true h]; simp [h]
    · rw [decide_eq_false h]
      have h2 : ¬ i = p.1 := fun z => h z.symm
      dsimp only
      rw [ih]
      exact decide_eq_decide.mpr ⟨fun z => List.mem_cons_of_mem _ z, fun z => (List.mem_cons.mp z).resolve_left h2⟩
theorem in_P (R : NP) (i : Nat) : inD (.int (i : Int)) (.dict ((toZ R).map kvI)) = some (.bool (decide (i ∈ R.map (·.1)))) := by
  show some (PyData.bool (valD ((toZ R).map kvI) (.int (i : Int))).isSome) = _
  rw [val_kv, Option.isSome_map, find_toZ, Option.isSome_map, find_fs]
theorem ix_P (R : NP) (i : Nat) (h : i ∈ R.map (·.1)) : ixA (.dict ((toZ R).map kvI)) (.int (i : Int)) = some (.int (img R i : Nat)) := by
  show valD ((toZ R).map kvI) (.int (i : Int)) = _
  rw [val_kv, find_toZ]
  have := find_fs R i
  rw [decide_eq_true h] at this
  unfold img
  cases q : R.find? fun p => decide (p.1 = i) with
  | none => rw [q] at this; cases this
  | some p => rfl
section
variable (R : NP) (m : Int) (ks : List Nat) (L : Nat)
def lcs (x3 : Option Vl) (f : Nat) : Ls := [some (.d (rD R)), some (.d (.int m)), some (.d (.dict (kvT ks))), x3, some (.d (.dict ((toZ R).map kvI))), some (.r (L + 1)), some (.d (.int (f : Int))), none, none]
abbrev wbody : SM := asgM 6 (opM addD (varM 6) (cM (.int 1)))
theorem while_led (x3 : Option Vl) (hp : List O) : ∀ (n f : Nat), (ks.filter fun s => decide (f ≤ s)).length < n →
    ∃ f', f ≤ f' ∧ f' ∉ ks ∧ (∀ j, f ≤ j → j < f' → j ∈ ks) ∧ whileGo (tstM (opM inD (varM 6) (varM 2))) wbody n (lcs R m ks L x3 f) hp = .ok .nx (lcs R m ks L x3 f') hp
  | 0, f, h => absurd h (Nat.not_lt_zero _)
  | n + 1, f, h => by
    have t : tstM (opM inD (varM 6) (varM 2)) (lcs R m ks L x3 f) hp = .ok (decide (f ∈ ks)) hp := by
      have := opM_at (f := inD) (a := varM 6) (b := varM 2) (loc := lcs R m ks L x3 f) (hp := hp) rfl rfl (in_T ks f)
      simp only [tstM, this, bind_ok]
    by_cases c : f ∈ ks
    · rw [decide_eq_true c] at t
      have lt : (ks.filter fun s => decide (f + 1 ≤ s)).length < n := by
        have : (ks.filter fun s => decide (f + 1 ≤ s)).length < (ks.filter fun s => decide (f ≤ s)).length := by
          have e : ks.filter (fun s => decide (f + 1 ≤ s)) = (ks.filter fun s => decide (f ≤ s)).filter fun s => decide (f + 1 ≤ s) := by
            rw [List.filter_filter]
            apply List.filter_congr
            intro x _
            by_cases a : f + 1 ≤ x
            · rw [decide_eq_true a, decide_eq_true (by omega : f ≤ x)]; rfl
            · rw [decide_eq_false a]; rfl
          rw [e]
          refine Nat.lt_of_le_of_ne (List.length_filter_le _ _) fun z => ?_
          have := List.length_filter_eq_length_iff.mp z f (List.mem_filter.mpr ⟨c, decide_eq_true (Nat.le_refl _)⟩)
          have := of_decide_eq_true this
          omega
        omega
      obtain ⟨f', h1, h2, h3, h4⟩ := while_led x3 hp n (f + 1) lt
      refine ⟨f', by omega, h2, fun j a b => ?_, ?_⟩
      · by_cases e : j = f
        · rw [e]; exact c
        · exact h3 j (by omega) b
      · have b1 : wbody (lcs R m ks L x3 f) hp = .ok .nx (lcs R m ks L x3 (f + 1)) hp := by
          have := opM_at (f := addD) (a := varM 6) (b := cM (.int 1)) (loc := lcs R m ks L x3 f) (hp := hp) rfl rfl (add_ok (f : Int) 1)
          simp only [wbody, asgM, this, toS_ok]
          rfl
        unfold whileGo
        simp only [t, toS_ok, if_pos, b1, h4]
    · rw [decide_eq_false c] at t
      refine ⟨f, Nat.le_refl _, c, fun j a b => absurd b (by omega), ?_⟩
      unfold whileGo
      simp only [t, toS_ok, if_neg Bool.false_ne_true]
end
theorem cnt_skip (S : List Nat) : ∀ (d f : Nat), (∀ j, f ≤ j → j < f + d → j ∈ S) → cnt S (f + d) = cnt S f
  | 0, f, _ => rfl
  | d + 1, f, h => by
    rw [← Nat.add_assoc, cnt_succ, if_pos (h (f + d) (by omega) (by omega)), cnt_skip S d f fun j a b => h j a (by omega)]
    rfl
noncomputable abbrev lbody : SM := ifM (tstM (opM inD (varM 3) (varM 4))) (exprM (appM (varM 5) (opM ixA (varM 4) (varM 3)))) (seqM (whileM 40 (tstM (opM inD (varM 6) (varM 2))) wbody) (seqM (exprM (appM (varM 5) (varM 6))) wbody))
def HL (hp : List O) (ds : List D) : List O := hp ++ [.gone, .lst ds, .gone]
theorem HL_at (hp : List O) (ds : List D) : (HL hp ds)[hp.length + 1]? = some (.lst ds) := by
  unfold HL
  rw [List.getElem?_append_right (by omega), Nat.add_sub_cancel_left]; rfl
theorem HL_set (hp : List O) (ds es : List D) : (HL hp ds).set (hp.length + 1) (.lst es) = HL hp es := by
  unfold HL
  rw [List.set_append_right _ _ (by omega), Nat.add_sub_cancel_left]; rfl
theorem app_at' {a b : EM} {loc : Ls} {hp : List O} {n : Nat} {ds : List D} {z : D} (ha : a loc hp = .ok (.r n) hp) (hn : hp[n]? = some (.lst ds)) (hb : b loc hp = .ok (.d z) hp) (hl : ds.length < 10000000) : appM a b loc hp = .ok (.d .none) (hp.set n (.lst (ds ++ [z]))) := by
  have vw : viewD hp (.r n) = some (.list ds) := by simp only [viewD, hn]
  simp only [appM, ha, bind_ok, vw, hb, hn, if_pos hl]
theorem loop_led (R : NP) (V : Valid R) (hz : R.length ≤ 30) (m : Nat) (hm : m ≤ 1000) (hp : List O) :
    ∃ x3 f, forGo none (gN 3) lbody (rngI 0 m) (lcs R m (takN (R.map (·.2))) hp.length none 0) (HL hp []) = .ok .nx (lcs R m (takN (R.map (·.2))) hp.length x3 f) (HL hp ((zs ((List.range m).map (img R))).map PyData.int)) := by
  have hl : (rngI 0 (m : Int)).length = m := by unfold rngI; rw [List.length_map, List.length_range]; omega
  obtain ⟨loc', hp', e, x, f, rfl, rfl, _, _⟩ := for_inv (tg := gN 3) (body := lbody) (keep := none) (items := rngI 0 m) (i := 0) (fun i loc hp' => ∃ x f, loc = lcs R m (takN (R.map (·.2))) hp.length x f ∧ hp' = HL hp ((zs ((List.range i).map (img R))).map PyData.int) ∧ cnt (R.map (·.2)) f = cnt (R.map (·.1)) i ∧ i ≤ i) (loc := lcs R m (takN (R.map (·.2))) hp.length none 0) (hp := HL hp [])
    ⟨none, 0, rfl, rfl, rfl, Nat.le_refl _⟩ (fun _ _ _ _ => trivial) (by
    rintro i v loc hp' hv ⟨x, f, rfl, rfl, hc, _⟩
    obtain ⟨hi, rfl⟩ := rng_get hv
    rw [Nat.zero_add] at hc ⊢
    have ap : ∀ z : Nat, z = img R i → (zs ((List.range i).map (img R))).map PyData.int ++ [PyData.int (z : Int)] = (zs ((List.range (i + 1)).map (img R))).map PyData.int := fun z e => by
      rw [List.range_succ, e]
      unfold zs
      simp only [List.map_append, List.map_cons, List.map_nil]
    have ln : ((zs ((List.range i).map (img R))).map PyData.int).length < 10000000 := by
      unfold zs
      simp only [List.length_map, List.length_range]
      omega
    refine ⟨lcs R m (takN (R.map (·.2))) hp.length (some (.d (.int (i : Int)))) f, rfl, ?_⟩
    have t : tstM (opM inD (varM 3) (varM 4)) (lcs R m (takN (R.map (·.2))) hp.length (some (.d (.int (i : Int)))) f) (HL hp ((zs ((List.range i).map (img R))).map PyData.int)) = .ok (decide (i ∈ R.map (·.1))) (HL hp ((zs ((List.range i).map (img R))).map PyData.int)) := by
      have := opM_at (f := inD) (a := varM 3) (b := varM 4) (loc := lcs R m (takN (R.map (·.2))) hp.length (some (.d (.int (i : Int)))) f) (hp := HL hp ((zs ((List.range i).map (img R))).map PyData.int)) rfl rfl (in_P R i)
      simp only [tstM, this, bind_ok]
    by_cases c : i ∈ R.map (·.1)
    · rw [decide_eq_true c] at t
      refine ⟨lcs R m (takN (R.map (·.2))) hp.length (some (.d (.int (i : Int)))) f, HL hp ((zs ((List.range (i + 1)).map (img R))).map PyData.int), .inl ?_, _, _, rfl, rfl, ?_, Nat.le_refl _⟩
      · have q := opM_at (f := ixA) (a := varM 4) (b := varM 3) (loc := lcs R m (takN (R.map (·.2))) hp.length (some (.d (.int (i : Int)))) f) (hp := HL hp ((zs ((List.range i).map (img R))).map PyData.int)) rfl rfl (ix_P R i c)
        have w := app_at' (a := varM 5) rfl (HL_at hp _) q ln
        rw [HL_set, ap (img R i) rfl] at w
        simp only [lbody, ifM, t, toS_ok, if_pos, exprM, w]
      · rw [hc, cnt_succ, if_pos c]; rfl
    · rw [decide_eq_false c] at t
      have fl : ((takN (R.map (·.2))).filter fun s => decide (f ≤ s)).length < 40 := by
        have := List.length_filter_le (fun s => decide (f ≤ s)) (takN (R.map (·.2)))
        have := len_takN (R.map (·.2))
        rw [List.length_map] at this
        omega
      obtain ⟨f', h1, h2, h3, h4⟩ := while_led R m (takN (R.map (·.2))) hp.length (some (.d (.int (i : Int)))) (HL hp ((zs ((List.range i).map (img R))).map PyData.int)) 40 f fl
      have n2 : f' ∉ R.map (·.2) := fun z => h2 (mem_takN.mpr z)
      have cs : cnt (R.map (·.2)) f' = cnt (R.map (·.2)) f := by
        have := cnt_skip (R.map (·.2)) (f' - f) f fun j a b => mem_takN.mp (h3 j a (by omega))
        rwa [show f + (f' - f) = f' by omega] at this
      have im : f' = img R i := (rel_fun V (img_rel V i) (.inr ⟨c, n2, by rw [cs, hc]⟩)).symm
      refine ⟨lcs R m (takN (R.map (·.2))) hp.length (some (.d (.int (i : Int)))) (f' + 1), HL hp ((zs ((List.range (i + 1)).map (img R))).map PyData.int), .inl ?_, _, _, rfl, rfl, ?_, Nat.le_refl _⟩
      · have w := app_at' (a := varM 5) (b := varM 6) (loc := lcs R m (takN (R.map (·.2))) hp.length (some (.d (.int (i : Int)))) f') rfl (HL_at hp _) rfl ln
        rw [HL_set, ap f' im] at w
        have b1 : wbody (lcs R m (takN (R.map (·.2))) hp.length (some (.d (.int (i : Int)))) f') (HL hp ((zs ((List.range (i + 1)).map (img R))).map PyData.int)) = .ok .nx (lcs R m (takN (R.map (·.2))) hp.length (some (.d (.int (i : Int)))) (f' + 1)) (HL hp ((zs ((List.range (i + 1)).map (img R))).map PyData.int)) := by
          have := opM_at (f := addD) (a := varM 6) (b := cM (.int 1)) (loc := lcs R m (takN (R.map (·.2))) hp.length (some (.d (.int (i : Int)))) f') (hp := HL hp ((zs ((List.range (i + 1)).map (img R))).map PyData.int)) rfl rfl (add_ok (f' : Int) 1)
          simp only [wbody, asgM, this, toS_ok]
          rfl
        simp only [lbody, ifM, t, toS_ok, if_neg Bool.false_ne_true, seqM, whileM, h4, exprM, w, b1]
      · rw [cnt_succ, if_neg n2, cnt_succ, if_neg c, cs, hc])
  rw [Nat.zero_add, hl] at *
  exact ⟨x, f, e⟩
theorem led_eq (R : NP) (V : Valid R) (hz : R.length ≤ 30) (m : Nat) (hm : m ≤ 1000) (hp : List O) : f__law_led [.d (rD R), .d (.int (m : Int))] hp = .ok (.d (.list ((zs ((List.range m).map (img R))).map PyData.int))) hp := by
  obtain ⟨x, f, e⟩ := loop_led R V hz m hm hp
  have d1 := dictF_eq (toZ R) hp (by rw [fs_toZ]; exact zs_nodup.mpr (pw_nodup V.fs)) (by rw [toZ_len]; omega) [some (.d (rD R)), some (.d (.int (m : Int))), none, none, none, none, none, none, none] rfl
  have p1 : (consM (frzM (bindE (varM 0) (newDic dicF))) (consM (lstO nilM) (consM (cM (.int 0)) nilM))) [some (.d (rD R)), some (.d (.int (m : Int))), none, none, none, none, none, none, none] hp = .ok [.d (.dict ((toZ R).map kvI)), .r (hp.length + 1), .d (.int 0)] (hp ++ [.gone, .lst []]) := by
    show (frzM _ _ hp).bind _ = _
    rw [d1, bind_ok]
    show ((lstO nilM _ (hp ++ [.gone])).bind _).bind _ = _
    have : lstO nilM [some (.d (rD R)), some (.d (.int (m : Int))), none, none, none, none, none, none, none] (hp ++ [.gone]) = .ok (.r (hp.length + 1)) (hp ++ [.gone, .lst []]) := by
      simp [lstO, nilM]
    rw [this]; rfl
  have s1 : par3M 4 5 6 (consM (frzM (bindE (varM 0) (newDic dicF))) (consM (lstO nilM) (consM (cM (.int 0)) nilM))) [some (.d (rD R)), some (.d (.int (m : Int))), none, none, none, none, none, none, none] hp = .ok .nx [some (.d (rD R)), some (.d (.int (m : Int))), none, none, some (.d (.dict ((toZ R).map kvI))), some (.r (hp.length + 1)), some (.d (.int 0)), none, none] (hp ++ [.gone, .lst []]) := by
    simp only [par3M, ↓p1, toS_ok]
    rfl
  have l1 : lcM [7, 8] (seqA (varM 0)) (gT [(gN 7), (gN 8)]) yesT (tupM (consM (varM 8) (consM (cM (.bool true)) nilM))) [some (.d (rD R)), some (.d (.int (m : Int))), none, none, some (.d (.dict ((toZ R).map kvI))), some (.r (hp.length + 1)), some (.d (.int 0)), none, none] (hp ++ [.gone, .lst []]) = .ok (.d (.list ((R.map (·.2)).map fun s : Nat => PyData.tuple [.int (s : Int), .bool true]))) (hp ++ [.gone, .lst []]) := by
    have e := lc_pure (f := gT [gN 7, gN 8]) (te := tupM (consM (varM 8) (consM (cM (.bool true)) nilM))) (lw := wipeL [some (.d (rD R)), some (.d (.int (m : Int))), none, none, some (.d (.dict ((toZ R).map kvI))), some (.r (hp.length + 1)), some (.d (.int 0)), none, none] [7, 8]) (h := fun d => match d with | .tuple [_, y] => .tuple [y, .bool true] | _ => .none) (ds := (toZ R).map pD) (b := hp ++ [.gone, .lst []]) (acc := []) fun d hd hp => by
      obtain ⟨p, _, rfl⟩ := List.mem_map.mp hd
      exact ⟨_, rfl, rfl⟩
    have em : ((toZ R).map pD).map (fun d => match d with | .tuple [_, y] => PyData.tuple [y, .bool true] | _ => .none) = (R.map (·.2)).map fun s : Nat => PyData.tuple [.int (s : Int), .bool true] := by
      unfold toZ
      rw [List.map_map, List.map_map, List.map_map]; rfl
    rw [em] at e
    have v0 : varM 0 [some (.d (rD R)), some (.d (.int (m : Int))), none, none, some (.d (.dict ((toZ R).map kvI))), some (.r (hp.length + 1)), some (.d (.int 0)), none, none] (hp ++ [.gone, .lst []]) = .ok (.d (rD R)) (hp ++ [.gone, .lst []]) := rfl
    simp only [lcM, seqA, v0, bind_ok, e, List.nil_append]
  have s2 : asgM 2 (frzM (bindE (lcM [7, 8] (seqA (varM 0)) (gT [(gN 7), (gN 8)]) yesT (tupM (consM (varM 8) (consM (cM (.bool true)) nilM)))) (newDic dicF))) [some (.d (rD R)), some (.d (.int (m : Int))), none, none, some (.d (.dict ((toZ R).map kvI))), some (.r (hp.length + 1)), some (.d (.int 0)), none, none] (hp ++ [.gone, .lst []]) = .ok .nx (lcs R m (takN (R.map (·.2))) hp.length none 0) (HL hp []) := by
    have hz' : ((R.map (·.2)).map fun s : Nat => PyData.tuple [.int (s : Int), .bool true]).length ≤ 10000000 := by simp only [List.length_map]; omega
    have e1 : dicF (.d (.list ((R.map (·.2)).map fun s : Nat => PyData.tuple [.int (s : Int), .bool true]))) (hp ++ [.gone, .lst []]) = some (kvT (takN (R.map (·.2)))) := by
      unfold dicF
      simp only [view_d, if_pos hz', pairs_T, Option.map_some, merge_T]
    have e2 : ((hp ++ [O.gone, .lst []]) ++ [O.dic (kvT (takN (R.map (·.2))))])[(hp ++ [O.gone, .lst []]).length]? = some (.dic (kvT (takN (R.map (·.2))))) := by rw [List.getElem?_append_right (Nat.le_refl _)]; simp
    have e3 : ((hp ++ [O.gone, .lst []]) ++ [O.dic (kvT (takN (R.map (·.2))))]).set (hp ++ [O.gone, .lst []]).length .gone = HL hp [] := by rw [List.set_append_right _ _ (Nat.le_refl _)]; simp [HL]
    simp only [asgM, frzM, bindE, ↓l1, bind_ok, newDic, e1, e2, e3, toS_ok]
    rfl
  have s3 : Fz.forM (rng1 (consM (varM 1) nilM)) (gN 3) lbody (lcs R m (takN (R.map (·.2))) hp.length none 0) (HL hp []) = .ok .nx (lcs R m (takN (R.map (·.2))) hp.length x f) (HL hp ((zs ((List.range m).map (img R))).map PyData.int)) := by
    have v1 : varM 1 (lcs R m (takN (R.map (·.2))) hp.length none 0) (HL hp []) = .ok (.d (.int (m : Int))) (HL hp []) := rfl
    unfold Fz.forM rng1
    simp only [consM, nilM, v1, bind_ok, if_pos (show ((m : Int) ≤ 1000000 ∧ -1000000 ≤ (m : Int)) from ⟨by omega, by omega⟩), toS_ok, e]
  have mm : m__law_led [some (.d (rD R)), some (.d (.int (m : Int))), none, none, none, none, none, none, none] hp = .ok (.rt (.r (hp.length + 1))) (lcs R m (takN (R.map (·.2))) hp.length x f) (HL hp ((zs ((List.range m).map (img R))).map PyData.int)) := by
    unfold m__law_led
    rw [seq_nx s1, seq_nx s2]
    refine (seq_nx s3).trans ?_
    rfl
  unfold f__law_led runDef
  rw [if_pos (show [Vl.d (rD R), .d (.int (m : Int))].length = 2 from rfl)]
  have e0 : ([Vl.d (rD R), .d (.int (m : Int))].map some ++ List.replicate (9 - 2) none : Ls) = [some (.d (rD R)), some (.d (.int (m : Int))), none, none, none, none, none, none, none] := rfl
  rw [e0, mm]
  dsimp only
  unfold finD
  dsimp only
  rw [if_neg (by omega), HL_at]
  dsimp only
  congr 1
  unfold HL
  exact List.take_left
end K00

set_option Elab.async false
set_option linter.all false
set_option maxRecDepth 100000
set_option maxHeartbeats 8000000
namespace K00
open PySem PySem.Spec PyProof.Rows L2 Fz Ren Fs

/-! ### _law_is_one -/
theorem ded_full : ∀ (l acc : List Int), (l.foldl (fun acc x => if x ∈ acc then acc else acc ++ [x]) acc).length ≤ acc.length + l.length ∧
    ((l.foldl (fun acc x => if x ∈ acc then acc else acc ++ [x]) acc).length = acc.length + l.length → l.Nodup ∧ ∀ x ∈ l, x ∉ acc)
  | [], acc => ⟨Nat.le_refl _, fun _ => ⟨.nil, fun _ h => nomatch h⟩⟩
  | x :: l, acc => by
    rw [List.foldl_cons, List.length_cons]
    by_cases c : x ∈ acc
    · rw [if_pos c]
      have h := ded_full l acc
      exact ⟨by omega, fun z => by omega⟩
    · rw [if_neg c]
      have h := ded_full l (acc ++ [x])
      rw [List.length_append, List.length_cons, List.length_nil] at h
      refine ⟨by omega, fun z => ?_⟩
      obtain ⟨h1, h2⟩ := h.2 (by omega)
      refine ⟨List.nodup_cons.mpr ⟨fun hm => h2 x hm (List.mem_append_right _ List.mem_cons_self), h1⟩, fun y hy => ?_⟩
      rcases List.mem_cons.mp hy with rfl | hy
      · exact c
      · exact fun z => h2 y hy (List.mem_append_left _ z)
theorem ded_nodup {l : List Int} (h : (dedI l).length = l.length) : l.Nodup := by
  have := (ded_full l []).2
  rw [List.length_nil, Nat.zero_add] at this
  exact (this h).1
theorem sort_ded (l : List Int) : decide (l = sortI (dedI l)) = (decide (l = sortI l) && decide ((dedI l).length = l.length)) := by
  by_cases c : (dedI l).length = l.length
  · rw [decide_eq_true c, Bool.and_true, dedI_of_nodup (ded_nodup c)]
  · rw [decide_eq_false c, Bool.and_false]
    refine decide_eq_false fun z => c ?_
    have p : (sortI (dedI l)).length = (dedI l).length := (sortB_perm _ (dedI l)).length_eq
    rw [← p, ← z]
def F1 (t : D) (x1 x2 : Option Vl) : Ls := [some (.d t), x1, x2, none, none]
abbrev nbody : SM := ifM (orT (notT (tstM (isiM "int" (varM 2)))) (orT (tstM (isiM "bool" (varM 2))) (tstM (opM ltD (varM 2) (cM (.int 0)))))) (retM (cM (.bool false))) skipM
theorem nbody_eq (t d : D) (x1 : Option Vl) (hp : List O) : nbody (F1 t x1 (some (.d d))) hp = if isNm d = true then .ok .nx (F1 t x1 (some (.d d))) hp else .ok (.rt (.d (.bool false))) (F1 t x1 (some (.d d))) hp := by
  cases d with
  | int i =>
    have e : isNm (.int i) = !decide (i < 0) := by
      show decide (0 ≤ i) = _
      by_cases c : i < 0
      · rw [decide_eq_true c, decide_eq_false (by omega)]; rfl
      · rw [decide_eq_false c, decide_eq_true (by omega)]; rfl
    rw [e]
    by_cases c : i < 0
    · simp [nbody, ifM, orT, notT, tstM, isiM, unM, varM, F1, tyN, isB, opM, cM, ltD, intOp0, retM, c]
    · simp [nbody, ifM, orT, notT, tstM, isiM, unM, varM, F1, tyN, isB, opM, cM, ltD, intOp0, skipM, c]
  | bool b => simp [nbody, ifM, orT, notT, tstM, isiM, unM, varM, F1, tyN, isB, cM, retM, isNm]
  | _ => simp [nbody, ifM, orT, notT, tstM, isiM, unM, varM, F1, tyN, isB, cM, retM, isNm]
theorem nloop (t : D) (x1 : Option Vl) (hp : List O) : ∀ (ds : List D) (x2 : Option Vl), ∃ x, forGo none (gN 2) nbody (ds.map Vl.d) (F1 t x1 x2) hp = if ds.all isNm = true then .ok .nx (F1 t x1 x) hp else .ok (.rt (.d (.bool false))) (F1 t x1 x) hp
  | [], x2 => ⟨x2, by
    rw [List.map_nil]
    unfold forGo
    rw [if_pos (show Kept none hp from trivial)]; rfl⟩
  | d :: ds, x2 => by
    have b := nbody_eq t d x1 hp
    have g : gN 2 (.d d) (F1 t x1 x2) hp = some (F1 t x1 (some (.d d))) := rfl
    rw [List.map_cons, List.all_cons]
    cases c : isNm d with
    | true =>
      rw [c, if_pos rfl] at b
      obtain ⟨x, e⟩ := nloop t x1 hp ds (some (.d d))
      refine ⟨x, ?_⟩
      conv => lhs; unfold forGo
      rw [if_pos (show Kept none hp from trivial), g]
      dsimp only
      rw [b]
      exact e
    | false =>
      rw [c, if_neg Bool.false_ne_true] at b
      refine ⟨some (.d d), ?_⟩
      conv => lhs; unfold forGo
      rw [if_pos (show Kept none hp from trivial), g]
      dsimp only
      rw [b]; rfl
noncomputable abbrev obody : SM := seqM (ifM (orT (notT (tstM (isiM "tuple" (varM 1)))) (tstM (opM neA (bindE (varM 1) lenF) (cM (.int 2))))) (retM (cM (.bool false))) skipM) (Fz.forM (seqA (varM 1)) (gN 2) nbody)
theorem neA_int (a b : Int) : neA (.int a) (.int b) = some (.bool (!decide (a = b))) := by
  show neD (.int a) (.int b) = _
  unfold neD
  rw [if_pos ⟨rfl, rfl⟩]
  rfl
theorem pairB_len {ds : List D} (h : ds.length = 2) : pairB (.tuple ds) = ds.all isNm := by
  match ds, h with
  | [x, y], _ => simp [pairB]
theorem pairB_nlen {ds : List D} (h : ds.length ≠ 2) : pairB (.tuple ds) = false := by
  match ds, h with
  | [], _ => rfl
  | [x], _ => rfl
  | [x, y], h => exact absurd rfl h
  | x :: y :: z :: r, _ => rfl
theorem obody_eq (t d : D) (x2 : Option Vl) (hp : List O) : ∃ x, obody (F1 t (some (.d d)) x2) hp = if pairB d = true then .ok .nx (F1 t (some (.d d)) x) hp else .ok (.rt (.d (.bool false))) (F1 t (some (.d d)) x) hp := by
  cases d with
  | tuple ds =>
    have v1 : varM 1 (F1 t (some (.d (.tuple ds))) x2) hp = .ok (.d (.tuple ds)) hp := rfl
    have is : tstM (isiM "tuple" (varM 1)) (F1 t (some (.d (.tuple ds))) x2) hp = .ok true hp := by
      simp only [tstM, isiM, unM, v1, bind_ok, view_d]
      rfl
    have ln : bindE (varM 1) lenF (F1 t (some (.d (.tuple ds))) x2) hp = .ok (.d (.int ds.length)) hp := by
      simp only [bindE, v1, bind_ok, lenF, view_d, lenD, okD_some]
    have t2 : tstM (opM neA (bindE (varM 1) lenF) (cM (.int 2))) (F1 t (some (.d (.tuple ds))) x2) hp = .ok (!decide ((ds.length : Int) = 2)) hp := by
      have := opM_at (f := neA) (b := cM (.int 2)) ln rfl (neA_int _ _)
      simp only [tstM, this, bind_ok]
    by_cases c : ds.length = 2
    · obtain ⟨x, e⟩ := nloop t (some (.d (.tuple ds))) hp ds x2
      refine ⟨x, ?_⟩
      rw [pairB_len c]
      have s1 : ifM (orT (notT (tstM (isiM "tuple" (varM 1)))) (tstM (opM neA (bindE (varM 1) lenF) (cM (.int 2))))) (retM (cM (.bool false))) skipM (F1 t (some (.d (.tuple ds))) x2) hp = .ok .nx (F1 t (some (.d (.tuple ds))) x2) hp := by
        rw [decide_eq_true (show (ds.length : Int) = 2 by omega)] at t2
        simp only [ifM, orT, notT, is, bind_ok, Bool.not_true, if_neg Bool.false_ne_true, t2, toS_ok, skipM]
      unfold obody
      rw [seq_nx s1]
      unfold Fz.forM seqA
      simp only [v1, bind_ok, toS_ok]
      exact e
    · refine ⟨x2, ?_⟩
      rw [pairB_nlen c, if_neg Bool.false_ne_true]
      rw [decide_eq_false (show ¬ (ds.length : Int) = 2 by omega)] at t2
      have s1 : ifM (orT (notT (tstM (isiM "tuple" (varM 1)))) (tstM (opM neA (bindE (varM 1) lenF) (cM (.int 2))))) (retM (cM (.bool false))) skipM (F1 t (some (.d (.tuple ds))) x2) hp = .ok (.rt (.d (.bool false))) (F1 t (some (.d (.tuple ds))) x2) hp := by
        simp only [ifM, orT, notT, is, bind_ok, Bool.not_true, if_neg Bool.false_ne_true, t2, Bool.not_false, if_pos, toS_ok, retM, cM]
      simp only [obody, seqM, s1]
  | _ => exact ⟨x2, by simp [obody, seqM, ifM, orT, notT, tstM, isiM, unM, varM, F1, tyN, isB, cM, retM, pairB]⟩
theorem oloop (t : D) (hp : List O) : ∀ (ds : List D) (x1 x2 : Option Vl), ∃ y x, forGo none (gN 1) obody (ds.map Vl.d) (F1 t x1 x2) hp = if ds.all pairB = true then .ok .nx (F1 t y x) hp else .ok (.rt (.d (.bool false))) (F1 t y x) hp
  | [], x1, x2 => ⟨x1, x2, by
    rw [List.map_nil]
    unfold forGo
    rw [if_pos (show Kept none hp from trivial)]; rfl⟩
  | d :: ds, x1, x2 => by
    obtain ⟨x, b⟩ := obody_eq t d x2 hp
    have g : gN 1 (.d d) (F1 t x1 x2) hp = some (F1 t (some (.d d)) x2) := rfl
    rw [List.map_cons, List.all_cons]
    cases c : pairB d with
    | true =>
      rw [c, if_pos rfl] at b
      obtain ⟨y, z, e⟩ := oloop t hp ds (some (.d d)) x
      refine ⟨y, z, ?_⟩
      conv => lhs; unfold forGo
      rw [if_pos (show Kept none hp from trivial), g]
      dsimp only
      rw [b]
      exact e
    | false =>
      rw [c, if_neg Bool.false_ne_true] at b
      refine ⟨some (.d d), x, ?_⟩
      conv => lhs; unfold forGo
      rw [if_pos (show Kept none hp from trivial), g]
      dsimp only
      rw [b]; rfl
theorem lcK (ps : List (Int × Int)) (k : Int) (h : Int × Int → Int) (hk : ∀ p, ixA (pD p) (.int k) = some (.int (h p))) (y x : Option Vl) (hp : List O) : lcM [1] (seqA (varM 0)) (gN 1) yesT (opM ixA (varM 1) (cM (.int k))) (F1 (.tuple (ps.map pD)) y x) hp = .ok (.d (.list ((ps.map h).map PyData.int))) hp := by
  rw [lcM_eq (ds := ps.map pD) (h := fun d => .int (h (Fs.toP d))) rfl ?_]
  · rw [List.map_map, List.map_map]; rfl
  · intro d hd hp
    obtain ⟨p, _, rfl⟩ := List.mem_map.mp hd
    exact opM_at (f := ixA) (a := varM 1) (b := cM (.int k)) rfl rfl (hk p)
theorem is_one_eq (d : D) (hz : ∀ ds, d = .tuple ds → ds.length < 64) (hp : List O) : f__law_is_one [.d d] hp = .ok (.d (.bool (isRen d))) hp := by
  cases d with
  | tuple ds =>
    have hl := hz ds rfl
    have v0 : varM 0 (F1 (.tuple ds) none none) hp = .ok (.d (.tuple ds)) hp := rfl
    have s1 : ifM (notT (tstM (isiM "tuple" (varM 0)))) (retM (cM (.bool false))) skipM (F1 (.tuple ds) none none) hp = .ok .nx (F1 (.tuple ds) none none) hp := by
      have is : tstM (isiM "tuple" (varM 0)) (F1 (.tuple ds) none none) hp = .ok true hp := by
        simp only [tstM, isiM, unM, v0, bind_ok, view_d]
        rfl
      simp only [ifM, notT, is, bind_ok, Bool.not_true, if_neg Bool.false_ne_true, toS_ok, skipM]
    obtain ⟨y, x, e⟩ := oloop (.tuple ds) hp ds none none
    have s2 : Fz.forM (seqA (varM 0)) (gN 1) obody (F1 (.tuple ds) none none) hp = if ds.all pairB = true then .ok .nx (F1 (.tuple ds) y x) hp else .ok (.rt (.d (.bool false))) (F1 (.tuple ds) y x) hp := by
      unfold Fz.forM seqA
      simp only [v0, bind_ok, toS_ok]
      exact e
    have fin : ∀ b, (∃ L, m__law_is_one (F1 (.tuple ds) none none) hp = .ok (.rt (.d (.bool b))) L hp) → f__law_is_one [.d (.tuple ds)] hp = .ok (.d (.bool b)) hp := fun b ⟨L, h⟩ => by
      unfold f__law_is_one runDef
      rw [if_pos (show [Vl.d (.tuple ds)].length = 1 from rfl)]
      have e0 : ([Vl.d (.tuple ds)].map some ++ List.replicate (5 - 1) none : Ls) = F1 (.tuple ds) none none := rfl
      rw [e0, h]
      dsimp only
      rw [finD_d, List.take_length]
    cases c : ds.all pairB with
    | false =>
      rw [c, if_neg Bool.false_ne_true] at s2
      have ir : isRen (.tuple ds) = false := by
        show (ds.all pairB && _) = false
        rw [c]; rfl
      rw [ir]
      refine fin false ⟨F1 (.tuple ds) y x, ?_⟩
      unfold m__law_is_one
      rw [seq_nx s1]
      simp only [seqM]
      rw [show Fz.forM (seqA (varM 0)) (gN 1) _ (F1 (.tuple ds) none none) hp = _ from s2]
    | true =>
      rw [c, if_pos rfl] at s2
      obtain ⟨ps, rfl⟩ : ∃ ps : List (Int × Int), ds = ps.map pD := ⟨ds.map Fs.toP, pairs_eq c⟩
      have hps : (ps.map pD).map Fs.toP = ps := by
        rw [List.map_map]
        exact List.map_id _
      have ir : isRen (.tuple (ps.map pD)) = chk ps := by
        show ((ps.map pD).all pairB && chk ((ps.map pD).map Fs.toP)) = _
        rw [c, hps]; rfl
      rw [List.length_map] at hl
      have ao : ps.all okP = true := by
        rw [List.all_map, List.all_eq_true] at c
        rw [List.all_eq_true]
        intro p hp
        exact c p hp
      rw [ir]
      have l0 := lcK ps 0 (·.1) (fun _ => rfl) y x hp
      have l1 := lcK ps 1 (·.2) (fun _ => rfl) y x hp
      have s3 : parM 3 4 (consM (lcM [1] (seqA (varM 0)) (gN 1) yesT (opM ixA (varM 1) (cM (.int 0)))) (consM (lcM [1] (seqA (varM 0)) (gN 1) yesT (opM ixA (varM 1) (cM (.int 1)))) nilM)) (F1 (.tuple (ps.map pD)) y x) hp = .ok .nx [some (.d (.tuple (ps.map pD))), y, x, some (.d (.list ((fsI ps).map PyData.int))), some (.d (.list ((ssI ps).map PyData.int)))] hp := by
        have p3 := consM_two l0 l1
        simp only [parM, ↓p3, toS_ok]
        rfl
      have v3 : varM 3 [some (.d (.tuple (ps.map pD))), y, x, some (.d (.list ((fsI ps).map PyData.int))), some (.d (.list ((ssI ps).map PyData.int)))] hp = .ok (.d (.list ((fsI ps).map PyData.int))) hp := rfl
      have v4 : varM 4 [some (.d (.tuple (ps.map pD))), y, x, some (.d (.list ((fsI ps).map PyData.int))), some (.d (.list ((ssI ps).map PyData.int)))] hp = .ok (.d (.list ((ssI ps).map PyData.int))) hp := rfl
      have dl : (dedI (fsI ps)).length < 64 := by
        have := (ded_full (fsI ps) []).1
        rw [fsI_len, List.length_nil, Nat.zero_add] at this
        exact Nat.lt_of_le_of_lt this hl
      have a1 : opM eqA (varM 3) (bindE (bindE (varM 3) setF) (newD sortF)) [some (.d (.tuple (ps.map pD))), y, x, some (.d (.list ((fsI ps).map PyData.int))), some (.d (.list ((ssI ps).map PyData.int)))] hp = .ok (.d (.bool (decide (fsI ps = sortI (dedI (fsI ps)))))) hp := by
        refine opM_at v3 ?_ (eqA_li _ _)
        simp only [bindE, v3, bind_ok, setF, view_d, asInts_map, if_pos (show (fsI ps).length ≤ 4000 by rw [fsI_len]; omega), newD, sortF, Option.bind, if_pos dl]
      have a2 : opM eqA (bindE (bindE (varM 4) setF) lenF) (bindE (varM 4) lenF) [some (.d (.tuple (ps.map pD))), y, x, some (.d (.list ((fsI ps).map PyData.int))), some (.d (.list ((ssI ps).map PyData.int)))] hp = .ok (.d (.bool (decide ((dedI (ssI ps)).length = (ssI ps).length)))) hp := by
        have e1 : bindE (bindE (varM 4) setF) lenF [some (.d (.tuple (ps.map pD))), y, x, some (.d (.list ((fsI ps).map PyData.int))), some (.d (.list ((ssI ps).map PyData.int)))] hp = .ok (.d (.int (dedI (ssI ps)).length)) hp := by
          simp only [bindE, v4, bind_ok, setF, view_d, asInts_map, if_pos (show (ssI ps).length ≤ 4000 by rw [ssI_len]; omega), lenF, List.length_map]
        have e2 := len_at v4
        rw [List.length_map] at e2
        have := opM_at (f := eqA) e1 e2 (eqA_int _ _)
        rw [this]
        congr 3
        exact decide_eq_decide.mpr Int.ofNat_inj
      have a3 : andE (opM eqA (varM 3) (bindE (bindE (varM 3) setF) (newD sortF))) (opM eqA (bindE (bindE (varM 4) setF) lenF) (bindE (varM 4) lenF)) [some (.d (.tuple (ps.map pD))), y, x, some (.d (.list ((fsI ps).map PyData.int))), some (.d (.list ((ssI ps).map PyData.int)))] hp = .ok (.d (.bool (chk ps))) hp := by
        unfold chk
        rw [ao, Bool.true_and, ← Bool.and_assoc, ← sort_ded]
        simp only [andE, ↓a1, bind_ok]
        cases decide (fsI ps = sortI (dedI (fsI ps))) with
        | true => simp only [a2]; rfl
        | false => rfl
      refine fin (chk ps) ⟨[some (.d (.tuple (ps.map pD))), y, x, some (.d (.list ((fsI ps).map PyData.int))), some (.d (.list ((ssI ps).map PyData.int)))], ?_⟩
      unfold m__law_is_one
      rw [seq_nx s1]
      refine (seq_nx s2).trans ?_
      rw [seq_nx s3]
      simp only [retM, a3, toS_ok]
  | _ => simp [f__law_is_one, m__law_is_one, runDef, seqM, ifM, notT, tstM, isiM, unM, varM, tyN, isB, retM, cM, isRen, List.replicate]
end K00

set_option Elab.async false
set_option linter.all false
set_option maxRecDepth 100000
set_option maxHeartbeats 8000000
namespace K00
open PySem PySem.Spec PyProof.Rows L2 Fz Ren Fs

/-! ### _law_odd, _law_bent -/
theorem mem_cut {α : Type} {xs : List α} {lo hi : Option Int} {x : α} (h : x ∈ cutL xs lo hi) : x ∈ xs := by
  unfold cutL at h
  exact List.mem_of_mem_drop (List.mem_of_mem_take h)
theorem uno_up {N M : Nat} {o : O} (u : UrnO N o) (h : N ≤ M) : UrnO M o := by
  obtain ⟨a, b, c, e, h1, h2, h3, h4⟩ := u
  exact ⟨a, b, c, e, h1, h2, h3, by omega⟩
theorem slice_at {a : EM} {lo hi : OM} {loc : Ls} {hp : List O} {ds : List D} {l h : Option Int} (ha : a loc hp = .ok (.d (.tuple ds)) hp) (hl : lo loc hp = .ok l hp) (hh : hi loc hp = .ok h hp) : sliceM a lo hi loc hp = .ok (.d (.tuple (cutL ds l h))) hp := by
  simp only [sliceM, ha, bind_ok, hl, hh, view_d, Fz.cutD, okD_some]
theorem no_at {loc : Ls} {hp : List O} : noP loc hp = .ok none hp := rfl
theorem to_at {m : EM} {loc : Ls} {hp : List O} {i : Int} (h : m loc hp = .ok (.d (.int i)) hp) : Fz.toP m loc hp = .ok (some i) hp := by
  simp only [Fz.toP, h, bind_ok]
theorem cat_ok {a b : List D} (h : a.length + b.length ≤ 10000000) : addD (.tuple a) (.tuple b) = some (.tuple (a ++ b)) := if_pos h
theorem odd_int (i : Int) (h0 : 0 ≤ i) (h1 : i < 10 ^ 25) (n : Nat) (hp : List O) (N : Nat) (hN : N ≤ 90000) (o : O) (ho : hp[n]? = some o) (u : UrnO N o) :
    ∃ w o', tame 12 0 w = true ∧ UrnO (N + 1) o' ∧ f__law_odd [.r n, .d (.int i)] hp = .ok (.d w) (hp.set n o') := by
  obtain ⟨r, o1, hr, u1, e1⟩ := out_eq 7 (by decide) (by decide) N (by omega) n hp o ho u
  have ix : ∃ w, tame 12 0 w = true ∧ ixA (.list [.int (i + 1), .int (i - 1), .int (i + 2), .none, .bool false, .bool true, .tuple []]) (.int (r : Int)) = some w := by
    have tm : ∀ j : Int, j.natAbs < 10 ^ 30 → tame 12 0 (.int j) = true := fun j hj => decide_eq_true hj
    match r, hr with
    | 0, _ => exact ⟨_, tm _ (by omega), rfl⟩
    | 1, _ => exact ⟨_, tm _ (by omega), rfl⟩
    | 2, _ => exact ⟨_, tm _ (by omega), rfl⟩
    | 3, _ => exact ⟨_, rfl, rfl⟩
    | 4, _ => exact ⟨_, rfl, rfl⟩
    | 5, _ => exact ⟨_, rfl, rfl⟩
    | 6, _ => exact ⟨_, rfl, rfl⟩
  obtain ⟨w, hw, ex⟩ := ix
  refine ⟨w, o1, hw, u1, ?_⟩
  simp [f__law_odd, m__law_odd, runDef, seqM, ifM, tstM, isiM, unM, varM, tyN, isB, skipM, retM, opM, lstM, consM, nilM, cM, tupM, callM, e1, ex, add_ok, sub_ok, take_set, List.replicate]
theorem odd_unit (n : Nat) (hp : List O) (N : Nat) (hN : N ≤ 90000) (o : O) (ho : hp[n]? = some o) (u : UrnO N o) :
    ∃ w o', tame 12 2 w = true ∧ UrnO (N + 1) o' ∧ f__law_odd [.r n, .d (.tuple [])] hp = .ok (.d w) (hp.set n o') := by
  obtain ⟨r, o1, hr, u1, e1⟩ := out_eq 7 (by decide) (by decide) N (by omega) n hp o ho u
  have ix : ∃ w, tame 12 2 w = true ∧ ixA (.list [.tuple [.int 0], .none, .int 0, .str "on", .tuple [.tuple []], .list [], .tuple [.tuple [.int 0, .int 1]]]) (.int (r : Int)) = some w := by
    match r, hr with
    | 0, _ => exact ⟨_, by decide, rfl⟩
    | 1, _ => exact ⟨_, by decide, rfl⟩
    | 2, _ => exact ⟨_, by decide, rfl⟩
    | 3, _ => exact ⟨_, by decide +kernel, rfl⟩
    | 4, _ => exact ⟨_, by decide, rfl⟩
    | 5, _ => exact ⟨_, by decide, rfl⟩
    | 6, _ => exact ⟨_, by decide, rfl⟩
  obtain ⟨w, hw, ex⟩ := ix
  refine ⟨w, o1, hw, u1, ?_⟩
  simp [f__law_odd, m__law_odd, runDef, seqM, ifM, tstM, isiM, unM, varM, tyN, isB, skipM, retM, opM, lstM, consM, nilM, cM, tupM, callM, e1, ex, take_set, List.replicate]
theorem bent_int (k : Nat) (i : Int) (h0 : 0 ≤ i) (h1 : i < 10 ^ 25) (n : Nat) (hp : List O) (N : Nat) (hN : N ≤ 90000) (o : O) (ho : hp[n]? = some o) (u : UrnO N o) :
    ∃ w o', tame 12 0 w = true ∧ UrnO (N + 1) o' ∧ g__law_bent (k + 1) [.r n, .d (.int i)] hp = .ok (.d w) (hp.set n o') := by
  obtain ⟨w, o1, hw, u1, e⟩ := odd_int i h0 h1 n hp N hN o ho u
  refine ⟨w, o1, hw, u1, ?_⟩
  simp [g__law_bent, m__law_bent, runDef, seqM, ifM, orT, notT, tstM, isiM, unM, varM, tyN, isB, retM, callM, consM, nilM, e, take_set, List.replicate]
theorem eq_unit {ds : List D} (h : SeqAt.shaped (.tuple ds) = true) : eqA (.tuple ds) (.tuple []) = some (.bool (ds.isEmpty)) := by
  show eqD _ _ = _
  unfold eqD
  rw [if_pos ⟨h, rfl⟩]
  cases ds <;> rfl
theorem bent_unit (k : Nat) (n : Nat) (hp : List O) (N : Nat) (hN : N ≤ 90000) (o : O) (ho : hp[n]? = some o) (u : UrnO N o) :
    ∃ w o', tame 12 2 w = true ∧ UrnO (N + 1) o' ∧ g__law_bent (k + 1) [.r n, .d (.tuple [])] hp = .ok (.d w) (hp.set n o') := by
  obtain ⟨w, o1, hw, u1, e⟩ := odd_unit n hp N hN o ho u
  refine ⟨w, o1, hw, u1, ?_⟩
  have q : eqA (.tuple []) (.tuple []) = some (.bool true) := eq_unit rfl
  simp [g__law_bent, m__law_bent, runDef, seqM, ifM, orT, notT, tstM, isiM, unM, varM, tyN, isB, retM, callM, consM, nilM, opM, tupM, q, e, take_set, List.replicate]
theorem bent_tup (rec : FM) (ds : List D) (m : Nat) (hm : m ≤ 5) (h0 : ds ≠ []) (hl : ds.length ≤ 4) (ht : ∀ d ∈ ds, tame 12 m d = true) (n : Nat) (hp : List O) (N c : Nat) (hN : N ≤ 80000) (o : O) (ho : hp[n]? = some o) (u : UrnO N o)
    (hrec : ∀ d ∈ ds, ∀ (hp : List O) (o : O), hp[n]? = some o → UrnO (N + 2) o → ∃ w o', tame 12 m w = true ∧ UrnO (N + 2 + c) o' ∧ rec [.r n, .d d] hp = .ok (.d w) (hp.set n o')) :
    ∃ w o', tame 12 (m + 1) w = true ∧ UrnO (N + 2 + c) o' ∧ runDef finD 4 2 (m__law_bent rec) [.r n, .d (.tuple ds)] hp = .ok (.d w) (hp.set n o') := by
  have hn := (List.getElem?_eq_some_iff.mp ho).1
  have pos : 0 < ds.length := List.length_pos_iff.mpr h0
  obtain ⟨a, o1, ha, u1, e1⟩ := out_eq (ds.length : Nat) (by omega) (by
    have : (ds.length : Int).natAbs = ds.length := rfl
    rw [this]
    exact Nat.lt_of_le_of_lt (Nat.log2_le_self _) (by omega)) N (by omega) n hp o ho u
  obtain ⟨b, o2, hb, u2, e2⟩ := out_eq 7 (by decide) (by decide) (N + 1) (by omega) n _ o1 (List.getElem?_set_self hn) u1
  rw [List.set_set] at e2
  have ha' : a < ds.length := by omega
  have sh : SeqAt.shaped (.tuple ds) = true := tame_shaped (w := 12) (n := m + 1) (tame_tup.mpr ⟨by omega, ht⟩) (by omega)
  have tk : ∀ o : O, (hp.set n o).take hp.length = hp.set n o := take_set hp n
  -- what the def gives
  have fin : ∀ w o', (∃ L, m__law_bent rec [some (.r n), some (.d (.tuple ds)), none, none] hp = .ok (.rt (.d w)) L (hp.set n o')) → runDef finD 4 2 (m__law_bent rec) [.r n, .d (.tuple ds)] hp = .ok (.d w) (hp.set n o') := fun w o' ⟨L, h⟩ => by
    unfold runDef
    rw [if_pos (show [Vl.r n, .d (.tuple ds)].length = 2 from rfl)]
    have e0 : ([Vl.r n, .d (.tuple ds)].map some ++ List.replicate (4 - 2) none : Ls) = [some (.r n), some (.d (.tuple ds)), none, none] := rfl
    rw [e0, h]
    dsimp only
    rw [finD_d, tk]
  have s1 : ifM (orT (notT (tstM (isiM "tuple" (varM 1)))) (tstM (opM eqA (varM 1) (tupM nilM)))) (retM (callM f__law_odd (consM (varM 0) (consM (varM 1) nilM)))) skipM [some (.r n), some (.d (.tuple ds)), none, none] hp = .ok .nx [some (.r n), some (.d (.tuple ds)), none, none] hp := by
    have v1 : varM 1 [some (.r n), some (.d (.tuple ds)), none, none] hp = .ok (.d (.tuple ds)) hp := rfl
    have is : tstM (isiM "tuple" (varM 1)) [some (.r n), some (.d (.tuple ds)), none, none] hp = .ok true hp := by
      simp only [tstM, isiM, unM, v1, bind_ok, view_d]
      rfl
    have em : ds.isEmpty = false := by
      cases ds with
      | nil => exact absurd rfl h0
      | cons _ _ => rfl
    have q := eq_unit sh
    rw [em] at q
    have t2 : tstM (opM eqA (varM 1) (tupM nilM)) [some (.r n), some (.d (.tuple ds)), none, none] hp = .ok false hp := by
      have := opM_at (f := eqA) (b := tupM nilM) v1 rfl q
      simp only [tstM, this, bind_ok]
    simp only [ifM, orT, notT, is, bind_ok, Bool.not_true, if_neg Bool.false_ne_true, t2, toS_ok, skipM]
  have s2 : parM 2 3 (consM (callM f__law_out (consM (varM 0) (consM (bindE (varM 1) lenF) nilM))) (consM (callM f__law_out (consM (varM 0) (consM (cM (.int 7)) nilM))) nilM)) [some (.r n), some (.d (.tuple ds)), none, none] hp = .ok .nx [some (.r n), some (.d (.tuple ds)), some (.d (.int (a : Int))), some (.d (.int (b : Int)))] (hp.set n o2) := by
    have c1 : callM f__law_out (consM (varM 0) (consM (bindE (varM 1) lenF) nilM)) [some (.r n), some (.d (.tuple ds)), none, none] hp = .ok (.d (.int (a : Int))) (hp.set n o1) := e1
    have c2 : callM f__law_out (consM (varM 0) (consM (cM (.int 7)) nilM)) [some (.r n), some (.d (.tuple ds)), none, none] (hp.set n o1) = .ok (.d (.int (b : Int))) (hp.set n o2) := e2
    have c3 : (consM (callM f__law_out (consM (varM 0) (consM (bindE (varM 1) lenF) nilM))) (consM (callM f__law_out (consM (varM 0) (consM (cM (.int 7)) nilM))) nilM)) [some (.r n), some (.d (.tuple ds)), none, none] hp = .ok [.d (.int (a : Int)), .d (.int (b : Int))] (hp.set n o2) := by
      show ((callM _ _) _ hp).bind _ = _
      rw [c1, bind_ok]
      show (((callM _ _) _ (hp.set n o1)).bind _).bind _ = _
      rw [c2]; rfl
    simp only [parM, ↓c3, toS_ok]
    rfl
  generalize hL : ([some (Vl.r n), some (.d (.tuple ds)), some (.d (.int (a : Int))), some (.d (.int (b : Int)))] : Ls) = L at s2
  have v1 : ∀ hp, varM 1 L hp = .ok (.d (.tuple ds)) hp := fun _ => by rw [← hL]; rfl
  have v2 : ∀ hp, varM 2 L hp = .ok (.d (.int (a : Int))) hp := fun _ => by rw [← hL]; rfl
  have v3 : ∀ hp, varM 3 L hp = .ok (.d (.int (b : Int))) hp := fun _ => by rw [← hL]; rfl
  have v0 : ∀ hp, varM 0 L hp = .ok (.r n) hp := fun _ => by rw [← hL]; rfl
  have way : ∀ k : Nat, tstM (opM eqA (varM 3) (cM (.int (k : Int)))) L (hp.set n o2) = .ok (decide (b = k)) (hp.set n o2) := fun k => by
    have := opM_at (f := eqA) (b := cM (.int (k : Int))) (v3 (hp.set n o2)) rfl (eqA_int _ _)
    simp only [tstM, this, bind_ok]
    congr 1
    exact decide_eq_decide.mpr Int.ofNat_inj
  have w0 := way 0
  have w1 := way 1
  have w2 := way 2
  have a1 := fun hp => opM_at (f := addD) (b := cM (.int 1)) (v2 hp) rfl (add_ok (a : Int) 1)
  have p1 := fun hp => slice_at (v1 hp) (no_at (loc := L)) (to_at (v2 hp))
  have p2 := fun hp => slice_at (v1 hp) (to_at (a1 hp)) (no_at (loc := L))
  have p3 := fun hp => slice_at (v1 hp) (to_at (v2 hp)) (to_at (a1 hp))
  have p4 := fun hp => slice_at (v1 hp) (to_at (v2 hp)) (no_at (loc := L))
  have l1 := cutL_len ds none (some (a : Int))
  have l2 := cutL_len ds (some ((a : Int) + 1)) none
  have l3 := cutL_len ds (some (a : Int)) (some ((a : Int) + 1))
  have l4 := cutL_len ds (some (a : Int)) none
  have u2' : UrnO (N + 2 + c) o2 := uno_up u2 (by omega)
  by_cases b0 : b = 0
  · rw [show ((0 : Nat) : Int) = 0 from rfl, decide_eq_true b0] at w0
    refine ⟨.tuple (cutL ds none (some (a : Int)) ++ cutL ds (some ((a : Int) + 1)) none), o2, tame_tup.mpr ⟨by rw [List.length_append]; omega, fun d hd => ?_⟩, u2', fin _ _ ⟨L, ?_⟩⟩
    · rcases List.mem_append.mp hd with hd | hd
      · exact ht d (mem_cut hd)
      · exact ht d (mem_cut hd)
    · have q := opM_at (f := addD) (p1 (hp.set n o2)) (p2 (hp.set n o2)) (cat_ok (by omega))
      unfold m__law_bent
      rw [seq_nx s1, seq_nx s2]
      simp only [seqM, ifM, w0, toS_ok, if_pos, retM, q]
  rw [show ((0 : Nat) : Int) = 0 from rfl, decide_eq_false b0] at w0
  have s3 := if_ff (m := retM (opM addD (sliceM (varM 1) noP (Fz.toP (varM 2))) (sliceM (varM 1) (Fz.toP (opM addD (varM 2) (cM (.int 1)))) noP))) w0
  by_cases b1 : b = 1
  · rw [show ((1 : Nat) : Int) = 1 from rfl, decide_eq_true b1] at w1
    refine ⟨.tuple ((cutL ds none (some (a : Int)) ++ cutL ds (some (a : Int)) (some ((a : Int) + 1))) ++ cutL ds (some (a : Int)) none), o2, tame_tup.mpr ⟨by rw [List.length_append, List.length_append]; omega, fun d hd => ?_⟩, u2', fin _ _ ⟨L, ?_⟩⟩
    · rcases List.mem_append.mp hd with hd | hd
      · rcases List.mem_append.mp hd with hd | hd
        · exact ht d (mem_cut hd)
        · exact ht d (mem_cut hd)
      · exact ht d (mem_cut hd)
    · have q := opM_at (f := addD) (opM_at (f := addD) (p1 (hp.set n o2)) (p3 (hp.set n o2)) (cat_ok (by omega))) (p4 (hp.set n o2)) (cat_ok (by rw [List.length_append]; omega))
      unfold m__law_bent
      rw [seq_nx s1, seq_nx s2, seq_nx s3]
      simp only [seqM, ifM, w1, toS_ok, if_pos, retM, q]
  rw [show ((1 : Nat) : Int) = 1 from rfl, decide_eq_false b1] at w1
  have s4 := if_ff (m := retM (opM addD (opM addD (sliceM (varM 1) noP (Fz.toP (varM 2))) (sliceM (varM 1) (Fz.toP (varM 2)) (Fz.toP (opM addD (varM 2) (cM (.int 1)))))) (sliceM (varM 1) (Fz.toP (varM 2)) noP))) w1
  by_cases b2 : b = 2
  · rw [show ((2 : Nat) : Int) = 2 from rfl, decide_eq_true b2] at w2
    refine ⟨.list ds, o2, tame_lst.mpr ⟨by omega, ht⟩, u2', fin _ _ ⟨L, ?_⟩⟩
    have q : bindE (varM 1) (newD lisF) L (hp.set n o2) = .ok (.d (.list ds)) (hp.set n o2) := by
      simp only [bindE, v1, bind_ok, newD, lisF, view_d]
    unfold m__law_bent
    rw [seq_nx s1, seq_nx s2, seq_nx s3, seq_nx s4]
    simp only [seqM, ifM, w2, toS_ok, if_pos, retM, q]
  rw [show ((2 : Nat) : Int) = 2 from rfl, decide_eq_false b2] at w2
  have s5 := if_ff (m := retM (bindE (varM 1) (newD lisF))) w2
  have hat : ds[a]? = some ds[a] := List.getElem?_eq_getElem ha'
  obtain ⟨w, o3, hw, u3, e3⟩ := hrec ds[a] (List.getElem_mem ha') (hp.set n o2) o2 (List.getElem?_set_self hn) u2
  rw [List.set_set] at e3
  refine ⟨.tuple ((cutL ds none (some (a : Int)) ++ [w]) ++ cutL ds (some ((a : Int) + 1)) none), o3, tame_tup.mpr ⟨by rw [List.length_append, List.length_append, List.length_singleton]; omega, fun d hd => ?_⟩, u3, fin _ _ ⟨L, ?_⟩⟩
  · rcases List.mem_append.mp hd with hd | hd
    · rcases List.mem_append.mp hd with hd | hd
      · exact ht d (mem_cut hd)
      · rw [List.mem_singleton.mp hd]; exact hw
    · exact ht d (mem_cut hd)
  · have ix : opM ixA (varM 1) (varM 2) L (hp.set n o2) = .ok (.d ds[a]) (hp.set n o2) := opM_at (f := ixA) (v1 _) (v2 _) (atI_nat hat)
    have cr : callM rec (consM (varM 0) (consM (opM ixA (varM 1) (varM 2)) nilM)) L (hp.set n o2) = .ok (.d w) (hp.set n o3) := by
      simp only [callM, consM, nilM, v0, bind_ok, ↓ix, e3]
    have tr : tupM (consM (callM rec (consM (varM 0) (consM (opM ixA (varM 1) (varM 2)) nilM))) nilM) L (hp.set n o2) = .ok (.d (.tuple [w])) (hp.set n o3) := by
      show (((callM _ _) L _).bind _).bind _ = _
      rw [cr]; rfl
    have q1 : opM addD (sliceM (varM 1) noP (Fz.toP (varM 2))) (tupM (consM (callM rec (consM (varM 0) (consM (opM ixA (varM 1) (varM 2)) nilM))) nilM)) L (hp.set n o2) = .ok (.d (.tuple (cutL ds none (some (a : Int)) ++ [w]))) (hp.set n o3) := by
      show ((sliceM _ _ _) L _).bind _ = _
      rw [p1, bind_ok, tr, bind_ok]
      simp only [view_d, cat_ok (show (cutL ds none (some (a : Int))).length + [w].length ≤ 10000000 by rw [List.length_singleton]; omega), okD_some]
    have q2 : opM addD (opM addD (sliceM (varM 1) noP (Fz.toP (varM 2))) (tupM (consM (callM rec (consM (varM 0) (consM (opM ixA (varM 1) (varM 2)) nilM))) nilM))) (sliceM (varM 1) (Fz.toP (opM addD (varM 2) (cM (.int 1)))) noP) L (hp.set n o2) = .ok (.d (.tuple ((cutL ds none (some (a : Int)) ++ [w]) ++ cutL ds (some ((a : Int) + 1)) none))) (hp.set n o3) := by
      show ((opM _ _ _) L _).bind _ = _
      rw [q1, bind_ok, p2, bind_ok]
      simp only [view_d, cat_ok (show (cutL ds none (some (a : Int)) ++ [w]).length + (cutL ds (some ((a : Int) + 1)) none).length ≤ 10000000 by rw [List.length_append, List.length_singleton]; omega), okD_some]
    unfold m__law_bent
    rw [seq_nx s1, seq_nx s2, seq_nx s3, seq_nx s4, seq_nx s5]
    simp only [retM, ↓q2, toS_ok]
end K00
namespace K00
open PySem PySem.Spec PyProof.Rows L2 Fz Ren Fs
theorem big_lt {x : Nat} (h : x < big) : (x : Int) < 10 ^ 25 := by
  unfold big at h
  have : (10 : Int) ^ 25 = ((10 ^ 25 : Nat) : Int) := by decide
  have : (10 : Nat) ^ 20 + 7 < 10 ^ 25 := by decide
  omega
theorem tame_nat {n x : Nat} (h : x < big) : tame 12 n (.int (x : Int)) = true := by
  have : x < 10 ^ 30 := Nat.lt_trans h (by unfold big; decide)
  cases n <;> exact decide_eq_true (by rw [Int.natAbs_natCast]; exact this)
theorem tame_pair {n : Nat} {p : Nat × Nat} (h1 : p.1 < big) (h2 : p.2 < big) : tame 12 (n + 1) (pD ((p.1 : Int), (p.2 : Int))) = true := by
  show tame 12 (n + 1) (.tuple [.int (p.1 : Int), .int (p.2 : Int)]) = true
  refine tame_tup.mpr ⟨by simp, fun d hd => ?_⟩
  rcases List.mem_cons.mp hd with rfl | hd
  · exact tame_nat h1
  · rw [List.mem_singleton.mp hd]; exact tame_nat h2
theorem mem_rD {R : NP} {d : D} (h : d ∈ (toZ R).map pD) : ∃ p ∈ R, d = .tuple [.int (p.1 : Int), .int (p.2 : Int)] := by
  obtain ⟨q, hq, rfl⟩ := List.mem_map.mp h
  unfold toZ at hq
  obtain ⟨p, hp, rfl⟩ := List.mem_map.mp hq
  exact ⟨p, hp, rfl⟩
theorem rD_len (R : NP) : ((toZ R).map pD).length = R.length := by rw [List.length_map, toZ_len]
theorem tame_rD {n : Nat} {R : NP} (S : Sml R) : tame 12 (n + 2) (rD R) = true := by
  refine tame_tup.mpr ⟨by rw [rD_len]; have := S.1; omega, fun d hd => ?_⟩
  obtain ⟨p, hp, rfl⟩ := mem_rD hd
  exact tame_pair (S.2 p hp).1 (S.2 p hp).2
theorem bent_ren (R : NP) (S : Sml R) (n : Nat) (hp : List O) (N : Nat) (hN : N ≤ 70000) (o : O) (ho : hp[n]? = some o) (u : UrnO N o) :
    ∃ w o', tame 12 2 w = true ∧ UrnO (N + 5) o' ∧ f__law_bent [.r n, .d (rD R)] hp = .ok (.d w) (hp.set n o') := by
  by_cases c : R = []
  · subst c
    obtain ⟨w, o1, hw, u1, e⟩ := bent_unit 2 n hp N (by omega) o ho u
    exact ⟨w, o1, hw, uno_up u1 (by omega), e⟩
  · have pr : ∀ d ∈ (toZ R).map pD, ∀ (hp : List O) (o : O), hp[n]? = some o → UrnO (N + 2) o → ∃ w o', tame 12 1 w = true ∧ UrnO (N + 2 + 3) o' ∧ g__law_bent 2 [.r n, .d d] hp = .ok (.d w) (hp.set n o') := fun d hd hp o ho u => by
      obtain ⟨p, hpR, rfl⟩ := mem_rD hd
      have b := S.2 p hpR
      refine bent_tup (g__law_bent 1) [.int (p.1 : Int), .int (p.2 : Int)] 0 (by decide) (by simp) (by simp) (fun d hd => ?_) n hp (N + 2) 1 (by omega) o ho u (fun d hd hp o ho u => ?_)
      · rcases List.mem_cons.mp hd with rfl | hd
        · exact tame_nat b.1
        · rw [List.mem_singleton.mp hd]; exact tame_nat b.2
      · rcases List.mem_cons.mp hd with rfl | hd
        · exact bent_int 0 _ (by omega) (big_lt b.1) n hp _ (by omega) o ho u
        · rw [List.mem_singleton.mp hd]
          exact bent_int 0 _ (by omega) (big_lt b.2) n hp _ (by omega) o ho u
    have ne : (toZ R).map pD ≠ [] := fun z => c (by
      have := rD_len R
      rw [z] at this
      exact List.length_eq_zero_iff.mp this.symm)
    exact bent_tup (g__law_bent 2) ((toZ R).map pD) 1 (by decide) ne (by rw [rD_len]; exact S.1) (fun d hd => by
      obtain ⟨p, hp, rfl⟩ := mem_rD hd
      exact tame_pair (S.2 p hp).1 (S.2 p hp).2) n hp N 3 (by omega) o ho u pr
end K00

set_option Elab.async false
set_option linter.all false
set_option maxRecDepth 100000
set_option maxHeartbeats 8000000
namespace K00
open PySem PySem.Spec PyProof.Rows L2 Fz Ren Fs

/-! ### what is refused, what is drawn, what is told -/
theorem rep_22 {w : D} (h : tame 12 2 w = true) : repOk w := tame_rep h (by decide) (by decide)
theorem mt1 : mt_InvalidRenaming "InvalidRenaming" = some true := by decide
theorem mt2 : mt_InvalidRenaming "InvalidNames" = some false := by decide
theorem mt3 : mt_InvalidNames "InvalidNames" = some true := by decide
theorem refused_a {d : D} (h : isRen d = false) (hz : ∀ ds, d = .tuple ds → ds.length ≤ 4000) (ht : tame 12 2 d = true) (u : D) (hp : List O) : f__law_refused [.d d, .d u] hp = .ok (.d (.tuple [.int 0, .str d.shown])) hp := by
  have e1 := renamed_no1 h hz ht u
  have e2 := rep_22 ht
  simp [f__law_refused, m__law_refused, runDef, seqM, asgM, tryNM, catchM, exprM, callKM, consM, nilM, varM, cM, pick, e1, mt1, mt2, mt3, susTag, e2, retM, List.replicate]
theorem refused_b (R : NP) (V : Valid R) (hz : R.length < 64) {u : D} (h : valB u = false) (ht : tame 12 2 u = true) (hp : List O) : f__law_refused [.d (rD R), .d u] hp = .ok (.d (.tuple [.int 1, .str u.shown])) hp := by
  have e1 := renamed_no2 R V hz h ht
  have e2 := rep_22 ht
  simp [f__law_refused, m__law_refused, runDef, seqM, asgM, tryNM, catchM, exprM, callKM, consM, nilM, varM, cM, pick, e1, mt1, mt2, mt3, susTag, e2, retM, List.replicate]
noncomputable abbrev nel : EM := opM subD (callM f__law_out (consM (varM 2) (consM (cM (.int 13)) nilM))) (cM (.int 1))
theorem draws (n : Nat) (lw : Ls) (h2 : lw[2]? = some (some (.r n))) : ∀ (items : List Vl) (b : List O) (o : O) (N : Nat) (acc : List D), b[n]? = some o → UrnO N o → N + items.length ≤ 90000 →
    ∃ (zz : List Int) (o' : O), lcGo none (gN 13) yesT nel lw items b acc = .ok (acc ++ zz.map PyData.int) (b.set n o') ∧ UrnO (N + items.length) o' ∧ zz.length = items.length ∧ ∀ z ∈ zz, -1 ≤ z ∧ z ≤ 11
  | [], b, o, N, acc, ho, u, _ => by
    refine ⟨[], o, ?_, u, rfl, fun _ h => nomatch h⟩
    have : b.set n o = b := by
      apply List.ext_getElem?
      intro i
      by_cases c : n = i
      · subst c; rw [List.getElem?_set_self (List.getElem?_eq_some_iff.mp ho).1, ho]
      · rw [List.getElem?_set_ne c]
    rw [lc_end, this, List.map_nil, List.append_nil]
  | v :: items, b, o, N, acc, ho, u, hN => by
    have hn := (List.getElem?_eq_some_iff.mp ho).1
    rw [List.length_cons] at hN
    obtain ⟨r, o1, hr, u1, e1⟩ := out_eq 13 (by decide) (by decide) N (by omega) n (b ++ [.lst acc]) o (by rw [List.getElem?_append_left hn]; exact ho) u
    rw [List.set_append_left _ _ hn] at e1
    have v2 : ∀ hp, varM 2 (lw.set 13 (some v)) hp = .ok (.r n) hp := fun hp => varM_at (set_at (by decide) h2) hp
    have c1 : callM f__law_out (consM (varM 2) (consM (cM (.int 13)) nilM)) (lw.set 13 (some v)) (b ++ [.lst acc]) = .ok (.d (.int (r : Int))) (b.set n o1 ++ [.lst acc]) := by
      simp only [callM, consM, nilM, v2, cM, bind_ok, e1]
    have t : nel (lw.set 13 (some v)) (b ++ [.lst acc]) = .ok (.d (.int ((r : Int) - 1))) (b.set n o1 ++ [.lst acc]) := by
      show ((callM _ _) _ _).bind _ = _
      rw [c1, bind_ok]
      rfl
    obtain ⟨zz, o2, e2, u2, l2, b2⟩ := draws n lw h2 items (b.set n o1) o1 (N + 1) (acc ++ [.int ((r : Int) - 1)]) (List.getElem?_set_self hn) u1 (by omega)
    refine ⟨((r : Int) - 1) :: zz, o2, ?_, by rw [List.length_cons, show N + (items.length + 1) = N + 1 + items.length by omega]; exact u2, by rw [List.length_cons, List.length_cons, l2], fun z hz => ?_⟩
    · rw [lc_step (hf := rfl) (ht := t) (hl := List.length_set ..), e2, List.set_set, List.append_assoc]; rfl
    · rcases List.mem_cons.mp hz with rfl | hz
      · omega
      · exact b2 z hz
theorem names_draw (n : Nat) (loc : Ls) (h2 : loc[2]? = some (some (.r n))) (b : List O) (o : O) (N : Nat) (hN : N ≤ 80000) (ho : b[n]? = some o) (u : UrnO N o) :
    ∃ (zz : List Int) (o' : O), lcM [13] (rng1 (consM (callM f__law_out (consM (varM 2) (consM (cM (.int 8)) nilM))) nilM)) (gN 13) yesT nel loc b = .ok (.d (.list (zz.map PyData.int))) (b.set n o') ∧ UrnO (N + 8) o' ∧ zz.length ≤ 7 ∧ ∀ z ∈ zz, -1 ≤ z ∧ z ≤ 11 := by
  have hn := (List.getElem?_eq_some_iff.mp ho).1
  obtain ⟨r, o1, hr, u1, e1⟩ := out_eq 8 (by decide) (by decide) N (by omega) n b o ho u
  have w2 : (wipeL loc [13])[2]? = some (some (.r n)) := by
    show (loc.set 13 none)[2]? = _
    rw [List.getElem?_set_ne (by decide)]; exact h2
  have hl : (rngI 0 (r : Int)).length = r := by unfold rngI; rw [List.length_map, List.length_range]; omega
  obtain ⟨zz, o2, e2, u2, l2, b2⟩ := draws n (wipeL loc [13]) w2 (rngI 0 r) (b.set n o1) o1 (N + 1) [] (List.getElem?_set_self hn) u1 (by omega)
  rw [hl] at u2 l2
  rw [List.set_set, List.nil_append] at e2
  refine ⟨zz, o2, ?_, uno_up u2 (by omega), by omega, b2⟩
  have v2 := fun hp => varM_at h2 hp
  have c1 : callM f__law_out (consM (varM 2) (consM (cM (.int 8)) nilM)) loc b = .ok (.d (.int (r : Int))) (b.set n o1) := by
    simp only [callM, consM, nilM, v2, cM, bind_ok, e1]
  have i1 : rng1 (consM (callM f__law_out (consM (varM 2) (consM (cM (.int 8)) nilM))) nilM) loc b = .ok (none, rngI 0 r) (b.set n o1) := by
    unfold rng1
    have : (consM (callM f__law_out (consM (varM 2) (consM (cM (.int 8)) nilM))) nilM) loc b = .ok [.d (.int (r : Int))] (b.set n o1) := by
      show ((callM _ _) _ _).bind _ = _
      rw [c1]; rfl
    rw [this, bind_ok]
    exact if_pos ⟨by omega, by omega⟩
  unfold lcM
  rw [i1, bind_ok]
  show (lcGo none (gN 13) yesT nel (wipeL loc [13]) (rngI 0 r) (b.set n o1) []).bind _ = _
  rw [e2]; rfl
theorem img_le {R : NP} (V : Valid R) (n : Nat) : (∃ p ∈ R, img R n = p.2) ∨ img R n ≤ n + R.length := by
  rcases img_rel V n with h | ⟨_, _, h⟩
  · exact .inl ⟨_, h, rfl⟩
  · have a := cnt_eq V.ss (img R n)
    have b := cnt_eq (pw_nodup V.fs) n
    have c := List.length_filter_le (fun s => decide (s < img R n)) (R.map (·.2))
    rw [List.length_map] at c
    exact .inr (by omega)
theorem img_big {R : NP} (V : Valid R) (S : Sml R) {n : Nat} (hn : n ≤ 100) : img R n < big := by
  have := S.1
  rcases img_le V n with ⟨p, hp, e⟩ | h
  · rw [e]; exact (S.2 p hp).2
  · unfold big; omega
theorem imgI_big {R : NP} (V : Valid R) (S : Sml R) {z : Int} (h : -1 ≤ z ∧ z ≤ 11) : -1 ≤ imgI R z ∧ (imgI R z).natAbs < 10 ^ 30 := by
  unfold imgI
  by_cases c : z = -1
  · rw [if_pos c]; decide
  · rw [if_neg c]
    have := img_big V S (n := z.toNat) (by omega)
    have : (10 : Nat) ^ 20 + 7 < 10 ^ 30 := by decide
    unfold big at *
    refine ⟨by omega, ?_⟩
    rw [Int.natAbs_natCast]; omega
noncomputable abbrev tel : EM := iteE (tstM (opM eqA (varM 14) (unM negD (cM (.int 1))))) (unM negD (cM (.int 1))) (opM ixA (varM 5) (varM 14))
theorem told_eq (R : NP) (zz : List Int) (hz : ∀ z ∈ zz, -1 ≤ z ∧ z ≤ 11) (loc : Ls) (h5 : loc[5]? = some (some (.d (.list ((zs ((List.range 12).map (img R))).map PyData.int))))) (h6 : loc[6]? = some (some (.d (.tuple (zz.map PyData.int))))) (hl : loc.length = 17) (hp : List O) :
    lcM [14] (seqA (varM 6)) (gN 14) yesT tel loc hp = .ok (.d (.list ((zz.map (imgI R)).map PyData.int))) hp := by
  have v6 := fun hp => varM_at h6 hp
  rw [lcM_eq (hp1 := hp) (ds := zz.map PyData.int) (h := fun d => match d with | .int i => .int (imgI R i) | _ => .none) ?_ ?_]
  · rw [List.map_map, List.map_map]; rfl
  · simp only [seqA, v6, bind_ok]
  · intro d hd hp
    obtain ⟨z, hzz, rfl⟩ := List.mem_map.mp hd
    have wl : (wipeL loc [14]).length = 17 := by show (loc.set 14 none).length = 17; rw [List.length_set]; exact hl
    have w5 : (wipeL loc [14])[5]? = some (some (.d (.list ((zs ((List.range 12).map (img R))).map PyData.int)))) := by
      show (loc.set 14 none)[5]? = _
      rw [List.getElem?_set_ne (by decide)]; exact h5
    have v14 : ∀ hp, varM 14 ((wipeL loc [14]).set 14 (some (Vl.d (.int z)))) hp = .ok (.d (.int z)) hp := fun hp => varM_eq (by omega) hp
    have v5 : ∀ hp, varM 5 ((wipeL loc [14]).set 14 (some (Vl.d (.int z)))) hp = .ok (.d (.list ((zs ((List.range 12).map (img R))).map PyData.int))) hp := fun hp => varM_at (set_at (by decide) w5) hp
    have t : tstM (opM eqA (varM 14) (unM negD (cM (.int 1)))) ((wipeL loc [14]).set 14 (some (Vl.d (.int z)))) hp = .ok (decide (z = -1)) hp := by
      have := opM_at (f := eqA) (b := unM negD (cM (.int 1))) (v14 hp) rfl (eqA_int z (-1))
      simp only [tstM, this, bind_ok]
    have hb := hz z hzz
    by_cases c : z = -1
    · rw [decide_eq_true c] at t
      simp only [tel, iteE, t, bind_ok, if_pos]
      rw [c]; rfl
    · rw [decide_eq_false c] at t
      have ix : ixA (.list ((zs ((List.range 12).map (img R))).map PyData.int)) (.int z) = some (.int (imgI R z)) := by
        obtain ⟨k, rfl⟩ : ∃ k : Nat, z = k := ⟨z.toNat, by omega⟩
        rw [imgI_nat]
        refine atI_nat ?_
        unfold zs
        rw [List.getElem?_map, List.getElem?_map, List.getElem?_map, List.getElem?_range (by omega)]; rfl
      have q := opM_at (f := ixA) (v5 hp) (v14 hp) ix
      simp only [tel, iteE, t, bind_ok, if_neg Bool.false_ne_true, q]
end K00

set_option Elab.async false
set_option linter.all false
set_option maxRecDepth 100000
set_option maxHeartbeats 8000000
/-! FzS: the mirror evaluated by simp, from the left; what stands behind is a name, not looked into ahead of its time -/
namespace Fz
open PySem PySem.Spec PyProof.Rows L2

def op3 (f : D → D → Option D) (hp : List O) (a b : Option D) : Res Vl := match a, b with
  | some x, some y => okD (f x y) hp
  | _, _ => .bad
@[simp] theorem op3_s (f : D → D → Option D) (hp : List O) (x y : D) : op3 f hp (some x) (some y) = okD (f x y) hp := rfl
def op2 (f : D → D → Option D) (u : Vl) : Res Vl → Res Vl
  | .ok v hp => op3 f hp (viewD hp u) (viewD hp v)
  | .exc e hp => .exc e hp
  | _ => .bad
@[simp] theorem op2_0 (f : D → D → Option D) (u : Vl) (v : Vl) (hp : List O) : op2 f u (.ok v hp) = op3 f hp (viewD hp u) (viewD hp v) := rfl
@[simp] theorem op2_1 (f : D → D → Option D) (u : Vl) (e : Exn) (hp : List O) : op2 f u (.exc e hp) = .exc e hp := rfl
def op1 (f : D → D → Option D) (b : EM) (loc : Ls) : Res Vl → Res Vl
  | .ok u hp => op2 f u (b loc hp)
  | .exc e hp => .exc e hp
  | _ => .bad
@[simp] theorem op1_0 (f : D → D → Option D) (b : EM) (loc : Ls) (u : Vl) (hp : List O) : op1 f b loc (.ok u hp) = op2 f u (b loc hp) := rfl
@[simp] theorem op1_1 (f : D → D → Option D) (b : EM) (loc : Ls) (e : Exn) (hp : List O) : op1 f b loc (.exc e hp) = .exc e hp := rfl
@[simp] theorem e_op (f : D → D → Option D) (a b : EM) (loc : Ls) (hp : List O) : opM f a b loc hp = op1 f b loc (a loc hp) := by
  unfold opM op1
  cases a loc hp with
  | ok u hp1 =>
    show (b loc hp1).bind _ = op2 f u (b loc hp1)
    unfold op2 op3
    cases b loc hp1 <;> rfl
  | exc e hp => rfl
  | bad => rfl
def un2 (f : D → Option D) (hp : List O) (a : Option D) : Res Vl := match a with
  | some x => okD (f x) hp
  | none => .bad
@[simp] theorem un2_s (f : D → Option D) (hp : List O) (x : D) : un2 f hp (some x) = okD (f x) hp := rfl
def un1 (f : D → Option D) : Res Vl → Res Vl
  | .ok u hp => un2 f hp (viewD hp u)
  | .exc e hp => .exc e hp
  | _ => .bad
@[simp] theorem un1_0 (f : D → Option D) (u : Vl) (hp : List O) : un1 f (.ok u hp) = un2 f hp (viewD hp u) := rfl
@[simp] theorem un1_1 (f : D → Option D) (e : Exn) (hp : List O) : un1 f (.exc e hp) = .exc e hp := rfl
@[simp] theorem e_un (f : D → Option D) (a : EM) (loc : Ls) (hp : List O) : unM f a loc hp = un1 f (a loc hp) := by
  unfold unM un1 un2
  cases a loc hp <;> rfl
def cons2 (u : Vl) : Res (List Vl) → Res (List Vl)
  | .ok us hp => .ok (u :: us) hp
  | .exc e hp => .exc e hp
  | _ => .bad
@[simp] theorem cons2_0 (u : Vl) (us : List Vl) (hp : List O) : cons2 u (.ok us hp) = .ok (u :: us) hp := rfl
@[simp] theorem cons2_1 (u : Vl) (e : Exn) (hp : List O) : cons2 u (.exc e hp) = .exc e hp := rfl
def cons1 (r : AM) (loc : Ls) : Res Vl → Res (List Vl)
  | .ok u hp => cons2 u (r loc hp)
  | .exc e hp => .exc e hp
  | _ => .bad
@[simp] theorem cons1_0 (r : AM) (loc : Ls) (u : Vl) (hp : List O) : cons1 r loc (.ok u hp) = cons2 u (r loc hp) := rfl
@[simp] theorem cons1_1 (r : AM) (loc : Ls) (e : Exn) (hp : List O) : cons1 r loc (.exc e hp) = .exc e hp := rfl
@[simp] theorem e_nil (loc : Ls) (hp : List O) : nilM loc hp = .ok [] hp := rfl
@[simp] theorem e_cons (a : EM) (r : AM) (loc : Ls) (hp : List O) : consM a r loc hp = cons1 r loc (a loc hp) := by
  unfold consM cons1 cons2
  cases a loc hp with
  | ok u hp1 =>
    show (r loc hp1).bind _ = (match r loc hp1 with | .ok us hp => _ | .exc e hp => _ | _ => _)
    cases r loc hp1 <;> rfl
  | exc e hp => rfl
  | bad => rfl
def blt2 (f : List D → Option D) (hp : List O) (a : Option (List D)) : Res Vl := match a with
  | some x => okD (f x) hp
  | none => .bad
@[simp] theorem blt2_s (f : List D → Option D) (hp : List O) (x : List D) : blt2 f hp (some x) = okD (f x) hp := rfl
def blt1 (f : List D → Option D) : Res (List Vl) → Res Vl
  | .ok us hp => blt2 f hp (viewsD hp us)
  | .exc e hp => .exc e hp
  | _ => .bad
@[simp] theorem blt1_0 (f : List D → Option D) (us : List Vl) (hp : List O) : blt1 f (.ok us hp) = blt2 f hp (viewsD hp us) := rfl
@[simp] theorem blt1_1 (f : List D → Option D) (e : Exn) (hp : List O) : blt1 f (.exc e hp) = .exc e hp := rfl
@[simp] theorem e_blt (f : List D → Option D) (a : AM) (loc : Ls) (hp : List O) : blt f a loc hp = blt1 f (a loc hp) := by
  unfold blt blt1 blt2
  cases a loc hp <;> rfl
def tup2 (hp : List O) (a : Option (List D)) : Res Vl := match a with
  | some xs => if xs.length ≤ 10000 then .ok (.d (.tuple xs)) hp else .bad
  | none => .bad
@[simp] theorem tup2_s (hp : List O) (xs : List D) : tup2 hp (some xs) = if xs.length ≤ 10000 then .ok (.d (.tuple xs)) hp else .bad := rfl
def tup1  : Res (List Vl) → Res Vl
  | .ok us hp => tup2 hp (allData us)
  | .exc e hp => .exc e hp
  | _ => .bad
@[simp] theorem tup1_0  (us : List Vl) (hp : List O) : tup1  (.ok us hp) = tup2 hp (allData us) := rfl
@[simp] theorem tup1_1  (e : Exn) (hp : List O) : tup1  (.exc e hp) = .exc e hp := rfl
@[simp] theorem e_tup (a : AM) (loc : Ls) (hp : List O) : tupM a loc hp = tup1 (a loc hp) := by
  unfold tupM tup1 tup2
  cases a loc hp <;> rfl
def lst2 (hp : List O) (a : Option (List D)) : Res Vl := match a with
  | some xs => if xs.length ≤ 10000 then .ok (.d (.list xs)) hp else .bad
  | none => .bad
@[simp] theorem lst2_s (hp : List O) (xs : List D) : lst2 hp (some xs) = if xs.length ≤ 10000 then .ok (.d (.list xs)) hp else .bad := rfl
def lst1  : Res (List Vl) → Res Vl
  | .ok us hp => lst2 hp (allData us)
  | .exc e hp => .exc e hp
  | _ => .bad
@[simp] theorem lst1_0  (us : List Vl) (hp : List O) : lst1  (.ok us hp) = lst2 hp (allData us) := rfl
@[simp] theorem lst1_1  (e : Exn) (hp : List O) : lst1  (.exc e hp) = .exc e hp := rfl
@[simp] theorem e_lst (a : AM) (loc : Ls) (hp : List O) : lstM a loc hp = lst1 (a loc hp) := by
  unfold lstM lst1 lst2
  cases a loc hp <;> rfl
def lstO2 (hp : List O) (a : Option (List D)) : Res Vl := match a with
  | some xs => if xs.length ≤ 10000 then .ok (.r hp.length) (hp ++ [.lst xs]) else .bad
  | none => .bad
@[simp] theorem lstO2_s (hp : List O) (xs : List D) : lstO2 hp (some xs) = if xs.length ≤ 10000 then .ok (.r hp.length) (hp ++ [.lst xs]) else .bad := rfl
def lstO1  : Res (List Vl) → Res Vl
  | .ok us hp => lstO2 hp (allData us)
  | .exc e hp => .exc e hp
  | _ => .bad
@[simp] theorem lstO1_0  (us : List Vl) (hp : List O) : lstO1  (.ok us hp) = lstO2 hp (allData us) := rfl
@[simp] theorem lstO1_1  (e : Exn) (hp : List O) : lstO1  (.exc e hp) = .exc e hp := rfl
@[simp] theorem e_lstO (a : AM) (loc : Ls) (hp : List O) : lstO a loc hp = lstO1 (a loc hp) := by
  unfold lstO lstO1 lstO2
  cases a loc hp <;> rfl
def call1 (f : FM) : Res (List Vl) → Res Vl
  | .ok us hp => f us hp
  | .exc e hp => .exc e hp
  | _ => .bad
@[simp] theorem call1_0 (f : FM) (us : List Vl) (hp : List O) : call1 f (.ok us hp) = f us hp := rfl
@[simp] theorem call1_1 (f : FM) (e : Exn) (hp : List O) : call1 f (.exc e hp) = .exc e hp := rfl
@[simp] theorem e_call (f : FM) (a : AM) (loc : Ls) (hp : List O) : callM f a loc hp = call1 f (a loc hp) := by
  unfold callM call1
  cases a loc hp <;> rfl
def ck2 (f : FM) (ord : List Nat) (n : Nat) (us : List Vl) : Res (List Vl) → Res Vl
  | .ok vs hp => if vs.length = n then f (us ++ pick ord vs) hp else .bad
  | .exc e hp => .exc e hp
  | _ => .bad
@[simp] theorem ck2_0 (f : FM) (ord : List Nat) (n : Nat) (us : List Vl) (vs : List Vl) (hp : List O) : ck2 f ord n us (.ok vs hp) = if vs.length = n then f (us ++ pick ord vs) hp else .bad := rfl
@[simp] theorem ck2_1 (f : FM) (ord : List Nat) (n : Nat) (us : List Vl) (e : Exn) (hp : List O) : ck2 f ord n us (.exc e hp) = .exc e hp := rfl
def ck1 (f : FM) (ord : List Nat) (n : Nat) (b : AM) (loc : Ls) : Res (List Vl) → Res Vl
  | .ok us hp => ck2 f ord n us (b loc hp)
  | .exc e hp => .exc e hp
  | _ => .bad
@[simp] theorem ck1_0 (f : FM) (ord : List Nat) (n : Nat) (b : AM) (loc : Ls) (us : List Vl) (hp : List O) : ck1 f ord n b loc (.ok us hp) = ck2 f ord n us (b loc hp) := rfl
@[simp] theorem ck1_1 (f : FM) (ord : List Nat) (n : Nat) (b : AM) (loc : Ls) (e : Exn) (hp : List O) : ck1 f ord n b loc (.exc e hp) = .exc e hp := rfl
@[simp] theorem e_callK (f : FM) (ord : List Nat) (n : Nat) (a b : AM) (loc : Ls) (hp : List O) : callKM f ord n a b loc hp = ck1 f ord n b loc (a loc hp) := by
  unfold callKM ck1 ck2
  cases a loc hp with
  | ok us hp1 =>
    show (b loc hp1).bind _ = (match b loc hp1 with | .ok us hp => _ | .exc e hp => _ | _ => _)
    cases b loc hp1 <;> rfl
  | exc e hp => rfl
  | bad => rfl
@[simp] theorem e_pick_nil {α : Type} (l : List α) : pick [] l = [] := rfl
@[simp] theorem e_pick {α : Type} (n : Nat) (ord : List Nat) (l : List α) : pick (n :: ord) l = (match l[n]? with
  | some x => x :: pick ord l
  | none => pick ord l) := by
  unfold pick; rw [List.filterMap_cons]; cases l[n]? <;> rfl
def bnd (k : Vl → List O → Res Vl) : Res Vl → Res Vl
  | .ok v hp => k v hp
  | .exc e hp => .exc e hp
  | _ => .bad
@[simp] theorem bnd_0 (k : Vl → List O → Res Vl) (v : Vl) (hp : List O) : bnd k (.ok v hp) = k v hp := rfl
@[simp] theorem bnd_1 (k : Vl → List O → Res Vl) (e : Exn) (hp : List O) : bnd k (.exc e hp) = .exc e hp := rfl
@[simp] theorem e_bindE (a : EM) (k : Vl → List O → Res Vl) (loc : Ls) (hp : List O) : bindE a k loc hp = bnd k (a loc hp) := by
  unfold bindE bnd
  cases a loc hp <;> rfl
@[simp] theorem e_isi (T : String) (a : EM) (loc : Ls) (hp : List O) : isiM T a loc hp = un1 (fun d => some (.bool (isB (tyN d) T))) (a loc hp) := e_un _ _ _ _
def vr (hp : List O) (o : Option (Option Vl)) : Res Vl := match o with
  | some (some v) => .ok v hp
  | _ => .bad
@[simp] theorem vr_s (hp : List O) (v : Vl) : vr hp (some (some v)) = .ok v hp := rfl
@[simp] theorem e_var (i : Nat) (loc : Ls) (hp : List O) : varM i loc hp = vr hp loc[i]? := rfl
@[simp] theorem e_c (d : D) (loc : Ls) (hp : List O) : cM d loc hp = .ok (.d d) hp := rfl
def tst1  : Res Vl → Res Bool
  | .ok (.d (.bool b)) hp => .ok b hp
  | .exc e hp => .exc e hp
  | _ => .bad
@[simp] theorem tst1_0  (b : Bool) (hp : List O) : tst1  (.ok (.d (.bool b)) hp) = .ok b hp := rfl
@[simp] theorem tst1_1  (e : Exn) (hp : List O) : tst1  (.exc e hp) = .exc e hp := rfl
@[simp] theorem e_tst (a : EM) (loc : Ls) (hp : List O) : tstM a loc hp = tst1 (a loc hp) := by
  unfold tstM tst1
  cases a loc hp with
  | ok v hp1 => cases v with
    | d x => cases x <;> rfl
    | _ => rfl
  | _ => rfl
def andT1 (b : TM) (loc : Ls) : Res Bool → Res Bool
  | .ok true hp => b loc hp
  | .ok false hp => .ok false hp
  | .exc e hp => .exc e hp
  | _ => .bad
@[simp] theorem andT1_0 (b : TM) (loc : Ls) (hp : List O) : andT1 b loc (.ok true hp) = b loc hp := rfl
@[simp] theorem andT1_1 (b : TM) (loc : Ls) (hp : List O) : andT1 b loc (.ok false hp) = .ok false hp := rfl
@[simp] theorem andT1_2 (b : TM) (loc : Ls) (e : Exn) (hp : List O) : andT1 b loc (.exc e hp) = .exc e hp := rfl
def orT1 (b : TM) (loc : Ls) : Res Bool → Res Bool
  | .ok true hp => .ok true hp
  | .ok false hp => b loc hp
  | .exc e hp => .exc e hp
  | _ => .bad
@[simp] theorem orT1_0 (b : TM) (loc : Ls) (hp : List O) : orT1 b loc (.ok true hp) = .ok true hp := rfl
@[simp] theorem orT1_1 (b : TM) (loc : Ls) (hp : List O) : orT1 b loc (.ok false hp) = b loc hp := rfl
@[simp] theorem orT1_2 (b : TM) (loc : Ls) (e : Exn) (hp : List O) : orT1 b loc (.exc e hp) = .exc e hp := rfl
def notT1  : Res Bool → Res Bool
  | .ok u hp => .ok (!u) hp
  | .exc e hp => .exc e hp
  | _ => .bad
@[simp] theorem notT1_0  (u : Bool) (hp : List O) : notT1  (.ok u hp) = .ok (!u) hp := rfl
@[simp] theorem notT1_1  (e : Exn) (hp : List O) : notT1  (.exc e hp) = .exc e hp := rfl
@[simp] theorem e_andT (a b : TM) (loc : Ls) (hp : List O) : andT a b loc hp = andT1 b loc (a loc hp) := by
  unfold andT andT1
  cases a loc hp with
  | ok u hp1 => cases u <;> rfl
  | _ => rfl
@[simp] theorem e_orT (a b : TM) (loc : Ls) (hp : List O) : orT a b loc hp = orT1 b loc (a loc hp) := by
  unfold orT orT1
  cases a loc hp with
  | ok u hp1 => cases u <;> rfl
  | _ => rfl
@[simp] theorem e_notT (a : TM) (loc : Ls) (hp : List O) : notT a loc hp = notT1 (a loc hp) := by
  unfold notT notT1
  cases a loc hp <;> rfl
def andE1 (b : EM) (loc : Ls) : Res Vl → Res Vl
  | .ok (.d (.bool true)) hp => b loc hp
  | .ok (.d (.bool false)) hp => .ok (.d (.bool false)) hp
  | .exc e hp => .exc e hp
  | _ => .bad
@[simp] theorem andE1_0 (b : EM) (loc : Ls) (hp : List O) : andE1 b loc (.ok (.d (.bool true)) hp) = b loc hp := rfl
@[simp] theorem andE1_1 (b : EM) (loc : Ls) (hp : List O) : andE1 b loc (.ok (.d (.bool false)) hp) = .ok (.d (.bool false)) hp := rfl
@[simp] theorem andE1_2 (b : EM) (loc : Ls) (e : Exn) (hp : List O) : andE1 b loc (.exc e hp) = .exc e hp := rfl
def orE1 (b : EM) (loc : Ls) : Res Vl → Res Vl
  | .ok (.d (.bool true)) hp => .ok (.d (.bool true)) hp
  | .ok (.d (.bool false)) hp => b loc hp
  | .exc e hp => .exc e hp
  | _ => .bad
@[simp] theorem orE1_0 (b : EM) (loc : Ls) (hp : List O) : orE1 b loc (.ok (.d (.bool true)) hp) = .ok (.d (.bool true)) hp := rfl
@[simp] theorem orE1_1 (b : EM) (loc : Ls) (hp : List O) : orE1 b loc (.ok (.d (.bool false)) hp) = b loc hp := rfl
@[simp] theorem orE1_2 (b : EM) (loc : Ls) (e : Exn) (hp : List O) : orE1 b loc (.exc e hp) = .exc e hp := rfl
def notE1  : Res Vl → Res Vl
  | .ok (.d (.bool u)) hp => .ok (.d (.bool (!u))) hp
  | .exc e hp => .exc e hp
  | _ => .bad
@[simp] theorem notE1_0  (u : Bool) (hp : List O) : notE1  (.ok (.d (.bool u)) hp) = .ok (.d (.bool (!u))) hp := rfl
@[simp] theorem notE1_1  (e : Exn) (hp : List O) : notE1  (.exc e hp) = .exc e hp := rfl
@[simp] theorem e_andE (a b : EM) (loc : Ls) (hp : List O) : andE a b loc hp = andE1 b loc (a loc hp) := by
  unfold andE andE1
  cases a loc hp with
  | ok v hp1 => cases v with
    | d x => cases x with
      | bool u => cases u <;> rfl
      | _ => rfl
    | _ => rfl
  | _ => rfl
@[simp] theorem e_orE (a b : EM) (loc : Ls) (hp : List O) : orE a b loc hp = orE1 b loc (a loc hp) := by
  unfold orE orE1
  cases a loc hp with
  | ok v hp1 => cases v with
    | d x => cases x with
      | bool u => cases u <;> rfl
      | _ => rfl
    | _ => rfl
  | _ => rfl
@[simp] theorem e_notE (a : EM) (loc : Ls) (hp : List O) : notE a loc hp = notE1 (a loc hp) := by
  unfold notE notE1
  cases a loc hp with
  | ok v hp1 => cases v with
    | d x => cases x <;> rfl
    | _ => rfl
  | _ => rfl
def ite1 (a b : EM) (loc : Ls) : Res Bool → Res Vl
  | .ok true hp => a loc hp
  | .ok false hp => b loc hp
  | .exc e hp => .exc e hp
  | _ => .bad
@[simp] theorem ite1_0 (a b : EM) (loc : Ls) (hp : List O) : ite1 a b loc (.ok true hp) = a loc hp := rfl
@[simp] theorem ite1_1 (a b : EM) (loc : Ls) (hp : List O) : ite1 a b loc (.ok false hp) = b loc hp := rfl
@[simp] theorem ite1_2 (a b : EM) (loc : Ls) (e : Exn) (hp : List O) : ite1 a b loc (.exc e hp) = .exc e hp := rfl
@[simp] theorem e_ite (c : TM) (a b : EM) (loc : Ls) (hp : List O) : iteE c a b loc hp = ite1 a b loc (c loc hp) := by
  unfold iteE ite1
  cases c loc hp with
  | ok u hp1 => cases u <;> rfl
  | _ => rfl
/-- open tests, where both ways are known -/
theorem andT1_b {b : TM} {loc : Ls} {hp : List O} {u w : Bool} (h : b loc hp = .ok w hp) : andT1 b loc (.ok u hp) = .ok (u && w) hp := by
  cases u
  · rfl
  · exact h
theorem orT1_b {b : TM} {loc : Ls} {hp : List O} {u w : Bool} (h : b loc hp = .ok w hp) : orT1 b loc (.ok u hp) = .ok (u || w) hp := by
  cases u
  · exact h
  · rfl
theorem andE1_b {b : EM} {loc : Ls} {hp : List O} {u w : Bool} (h : b loc hp = .ok (.d (.bool w)) hp) : andE1 b loc (.ok (.d (.bool u)) hp) = .ok (.d (.bool (u && w))) hp := by
  cases u
  · rfl
  · exact h
theorem orE1_b {b : EM} {loc : Ls} {hp : List O} {u w : Bool} (h : b loc hp = .ok (.d (.bool w)) hp) : orE1 b loc (.ok (.d (.bool u)) hp) = .ok (.d (.bool (u || w))) hp := by
  cases u
  · exact h
  · rfl
def RS.sq (b : SM) : RS → RS
  | .ok .nx loc1 hp1 => b loc1 hp1
  | r => r
@[simp] theorem sq_nx (b : SM) (loc : Ls) (hp : List O) : RS.sq b (.ok .nx loc hp) = b loc hp := rfl
@[simp] theorem sq_rt (b : SM) (loc : Ls) (hp : List O) (v : Vl) : RS.sq b (.ok (.rt v) loc hp) = .ok (.rt v) loc hp := rfl
@[simp] theorem sq_ct (b : SM) (loc : Ls) (hp : List O) : RS.sq b (.ok .ct loc hp) = .ok .ct loc hp := rfl
@[simp] theorem sq_bk (b : SM) (loc : Ls) (hp : List O) : RS.sq b (.ok .bk loc hp) = .ok .bk loc hp := rfl
@[simp] theorem sq_exc (b : SM) (loc : Ls) (hp : List O) (e : Exn) : RS.sq b (.exc e loc hp) = .exc e loc hp := rfl
@[simp] theorem e_seq (a b : SM) (loc : Ls) (hp : List O) : seqM a b loc hp = RS.sq b (a loc hp) := by
  unfold seqM RS.sq; rfl
@[simp] theorem e_skip (loc : Ls) (hp : List O) : skipM loc hp = .ok .nx loc hp := rfl
@[simp] theorem e_brk (loc : Ls) (hp : List O) : brkM loc hp = .ok .bk loc hp := rfl
@[simp] theorem e_cnt (loc : Ls) (hp : List O) : cntM loc hp = .ok .ct loc hp := rfl
@[simp] theorem e_retN (loc : Ls) (hp : List O) : retNM loc hp = .ok (.rt (.d .none)) loc hp := rfl
def asg1 (i : Nat) (loc : Ls) : Res Vl → RS
  | .ok v hp => .ok .nx (loc.set i (some v)) hp
  | .exc e hp => .exc e loc hp
  | _ => .bad
@[simp] theorem asg1_0 (i : Nat) (loc : Ls) (v : Vl) (hp : List O) : asg1 i loc (.ok v hp) = .ok .nx (loc.set i (some v)) hp := rfl
@[simp] theorem asg1_1 (i : Nat) (loc : Ls) (e : Exn) (hp : List O) : asg1 i loc (.exc e hp) = .exc e loc hp := rfl
@[simp] theorem e_asg (i : Nat) (a : EM) (loc : Ls) (hp : List O) : asgM i a loc hp = asg1 i loc (a loc hp) := by
  unfold asgM asg1
  cases a loc hp <;> rfl
def expr1 (loc : Ls) : Res Vl → RS
  | .ok v hp => .ok .nx loc hp
  | .exc e hp => .exc e loc hp
  | _ => .bad
@[simp] theorem expr1_0 (loc : Ls) (v : Vl) (hp : List O) : expr1 loc (.ok v hp) = .ok .nx loc hp := rfl
@[simp] theorem expr1_1 (loc : Ls) (e : Exn) (hp : List O) : expr1 loc (.exc e hp) = .exc e loc hp := rfl
@[simp] theorem e_expr (a : EM) (loc : Ls) (hp : List O) : exprM a loc hp = expr1 loc (a loc hp) := by
  unfold exprM expr1
  cases a loc hp <;> rfl
def ret1 (loc : Ls) : Res Vl → RS
  | .ok v hp => .ok (.rt v) loc hp
  | .exc e hp => .exc e loc hp
  | _ => .bad
@[simp] theorem ret1_0 (loc : Ls) (v : Vl) (hp : List O) : ret1 loc (.ok v hp) = .ok (.rt v) loc hp := rfl
@[simp] theorem ret1_1 (loc : Ls) (e : Exn) (hp : List O) : ret1 loc (.exc e hp) = .exc e loc hp := rfl
@[simp] theorem e_ret (a : EM) (loc : Ls) (hp : List O) : retM a loc hp = ret1 loc (a loc hp) := by
  unfold retM ret1
  cases a loc hp <;> rfl
def if1 (a b : SM) (loc : Ls) : Res Bool → RS
  | .ok true hp => a loc hp
  | .ok false hp => b loc hp
  | .exc e hp => .exc e loc hp
  | _ => .bad
@[simp] theorem if1_0 (a b : SM) (loc : Ls) (hp : List O) : if1 a b loc (.ok true hp) = a loc hp := rfl
@[simp] theorem if1_1 (a b : SM) (loc : Ls) (hp : List O) : if1 a b loc (.ok false hp) = b loc hp := rfl
@[simp] theorem if1_2 (a b : SM) (loc : Ls) (e : Exn) (hp : List O) : if1 a b loc (.exc e hp) = .exc e loc hp := rfl
@[simp] theorem e_if (c : TM) (a b : SM) (loc : Ls) (hp : List O) : ifM c a b loc hp = if1 a b loc (c loc hp) := by
  unfold ifM if1
  cases c loc hp with
  | ok u hp1 => cases u <;> rfl
  | _ => rfl
theorem if1_b {a b : SM} {loc : Ls} {hp : List O} {u : Bool} : if1 a b loc (.ok u hp) = if u = true then a loc hp else b loc hp := by cases u <;> rfl
def par1 (i j : Nat) (loc : Ls) : Res (List Vl) → RS
  | .ok [u, v] hp => .ok .nx ((loc.set i (some u)).set j (some v)) hp
  | .exc e hp => .exc e loc hp
  | _ => .bad
@[simp] theorem par1_0 (i j : Nat) (loc : Ls) (u v : Vl) (hp : List O) : par1 i j loc (.ok [u, v] hp) = .ok .nx ((loc.set i (some u)).set j (some v)) hp := rfl
@[simp] theorem par1_1 (i j : Nat) (loc : Ls) (e : Exn) (hp : List O) : par1 i j loc (.exc e hp) = .exc e loc hp := rfl
@[simp] theorem e_par (i j : Nat) (a : AM) (loc : Ls) (hp : List O) : parM i j a loc hp = par1 i j loc (a loc hp) := by
  unfold parM par1
  cases a loc hp with
  | ok us hp1 => cases us with
    | nil => rfl
    | cons u us => cases us with
      | nil => rfl
      | cons w us => cases us <;> rfl
  | _ => rfl
def par31 (i j k : Nat) (loc : Ls) : Res (List Vl) → RS
  | .ok [u, v, w] hp => .ok .nx (((loc.set i (some u)).set j (some v)).set k (some w)) hp
  | .exc e hp => .exc e loc hp
  | _ => .bad
@[simp] theorem par31_0 (i j k : Nat) (loc : Ls) (u v w : Vl) (hp : List O) : par31 i j k loc (.ok [u, v, w] hp) = .ok .nx (((loc.set i (some u)).set j (some v)).set k (some w)) hp := rfl
@[simp] theorem par31_1 (i j k : Nat) (loc : Ls) (e : Exn) (hp : List O) : par31 i j k loc (.exc e hp) = .exc e loc hp := rfl
@[simp] theorem e_par3 (i j k : Nat) (a : AM) (loc : Ls) (hp : List O) : par3M i j k a loc hp = par31 i j k loc (a loc hp) := by
  unfold par3M par31
  cases a loc hp with
  | ok us hp1 => cases us with
    | nil => rfl
    | cons u us => cases us with
      | nil => rfl
      | cons w us => cases us with
        | nil => rfl
        | cons x us => cases us <;> rfl
  | _ => rfl
def asgG2 (loc : Ls) (hp : List O) (o : Option Ls) : RS := match o with
  | some l => .ok .nx l hp
  | none => .bad
@[simp] theorem asgG2_s (loc l : Ls) (hp : List O) : asgG2 loc hp (some l) = .ok .nx l hp := rfl
def asgG1 (f : GM) (loc : Ls) : Res Vl → RS
  | .ok v hp => asgG2 loc hp (f v loc hp)
  | .exc e hp => .exc e loc hp
  | _ => .bad
@[simp] theorem asgG1_0 (f : GM) (loc : Ls) (v : Vl) (hp : List O) : asgG1 f loc (.ok v hp) = asgG2 loc hp (f v loc hp) := rfl
@[simp] theorem asgG1_1 (f : GM) (loc : Ls) (e : Exn) (hp : List O) : asgG1 f loc (.exc e hp) = .exc e loc hp := rfl
@[simp] theorem e_asgG (f : GM) (a : EM) (loc : Ls) (hp : List O) : asgG f a loc hp = asgG1 f loc (a loc hp) := by
  unfold asgG asgG1 asgG2
  cases a loc hp <;> rfl
@[simp] theorem e_gTw (fs : List GM) (ds : List D) (loc : Ls) (hp : List O) : gT fs (.w ds) loc hp = goG hp fs ds loc := rfl
@[simp] theorem e_gTt (fs : List GM) (ds : List D) (loc : Ls) (hp : List O) : gT fs (.d (.tuple ds)) loc hp = goG hp fs ds loc := rfl
@[simp] theorem e_gTl (fs : List GM) (ds : List D) (loc : Ls) (hp : List O) : gT fs (.d (.list ds)) loc hp = goG hp fs ds loc := rfl
@[simp] theorem e_goG0 (hp : List O) (loc : Ls) : goG hp [] [] loc = some loc := rfl
@[simp] theorem e_goG (hp : List O) (f : GM) (fs : List GM) (d : D) (ds : List D) (loc : Ls) : goG hp (f :: fs) (d :: ds) loc = (f (.d d) loc hp).bind fun loc1 => goG hp fs ds loc1 := rfl
def frz2 (hp : List O) (k : Nat) (o : Option O) : Res Vl := match o with
  | some (.lst ds) => .ok (.d (.list ds)) (hp.set k .gone)
  | some (.dic ds) => .ok (.d (.dict ds)) (hp.set k .gone)
  | _ => .bad
@[simp] theorem frz2_l (hp : List O) (k : Nat) (ds : List D) : frz2 hp k (some (.lst ds)) = .ok (.d (.list ds)) (hp.set k .gone) := rfl
@[simp] theorem frz2_d (hp : List O) (k : Nat) (ds : List (D × D)) : frz2 hp k (some (.dic ds)) = .ok (.d (.dict ds)) (hp.set k .gone) := rfl
def frz1  : Res Vl → Res Vl
  | .ok (.r k) hp => frz2 hp k hp[k]?
  | .exc e hp => .exc e hp
  | _ => .bad
@[simp] theorem frz1_0  (k : Nat) (hp : List O) : frz1  (.ok (.r k) hp) = frz2 hp k hp[k]? := rfl
@[simp] theorem frz1_1  (e : Exn) (hp : List O) : frz1  (.exc e hp) = .exc e hp := rfl
@[simp] theorem e_frz (a : EM) (loc : Ls) (hp : List O) : frzM a loc hp = frz1 (a loc hp) := by
  unfold frzM frz1 frz2
  cases a loc hp with
  | ok v hp1 => cases v <;> rfl
  | _ => rfl
def toP1  : Res Vl → Res (Option Int)
  | .ok (.d (.int i)) hp => .ok (some i) hp
  | .exc e hp => .exc e hp
  | _ => .bad
@[simp] theorem toP1_0  (i : Int) (hp : List O) : toP1  (.ok (.d (.int i)) hp) = .ok (some i) hp := rfl
@[simp] theorem toP1_1  (e : Exn) (hp : List O) : toP1  (.exc e hp) = .exc e hp := rfl
@[simp] theorem e_noP (loc : Ls) (hp : List O) : noP loc hp = .ok none hp := rfl
@[simp] theorem e_toP (a : EM) (loc : Ls) (hp : List O) : Fz.toP a loc hp = toP1 (a loc hp) := by
  unfold Fz.toP toP1
  cases a loc hp with
  | ok v hp1 => cases v with
    | d x => cases x <;> rfl
    | _ => rfl
  | _ => rfl
def sl4 (hp : List O) (l h : Option Int) (o : Option D) : Res Vl := match o with
  | some x => okD (cutD x l h) hp
  | none => .bad
@[simp] theorem sl4_s (hp : List O) (l h : Option Int) (x : D) : sl4 hp l h (some x) = okD (cutD x l h) hp := rfl
def sl3 (u : Vl) (l : Option Int) : Res (Option Int) → Res Vl
  | .ok h hp => sl4 hp l h (viewD hp u)
  | .exc e hp => .exc e hp
  | _ => .bad
@[simp] theorem sl3_0 (u : Vl) (l : Option Int) (h : Option Int) (hp : List O) : sl3 u l (.ok h hp) = sl4 hp l h (viewD hp u) := rfl
@[simp] theorem sl3_1 (u : Vl) (l : Option Int) (e : Exn) (hp : List O) : sl3 u l (.exc e hp) = .exc e hp := rfl
def sl2 (u : Vl) (hi : OM) (loc : Ls) : Res (Option Int) → Res Vl
  | .ok l hp => sl3 u l (hi loc hp)
  | .exc e hp => .exc e hp
  | _ => .bad
@[simp] theorem sl2_0 (u : Vl) (hi : OM) (loc : Ls) (l : Option Int) (hp : List O) : sl2 u hi loc (.ok l hp) = sl3 u l (hi loc hp) := rfl
@[simp] theorem sl2_1 (u : Vl) (hi : OM) (loc : Ls) (e : Exn) (hp : List O) : sl2 u hi loc (.exc e hp) = .exc e hp := rfl
def sl1 (lo hi : OM) (loc : Ls) : Res Vl → Res Vl
  | .ok u hp => sl2 u hi loc (lo loc hp)
  | .exc e hp => .exc e hp
  | _ => .bad
@[simp] theorem sl1_0 (lo hi : OM) (loc : Ls) (u : Vl) (hp : List O) : sl1 lo hi loc (.ok u hp) = sl2 u hi loc (lo loc hp) := rfl
@[simp] theorem sl1_1 (lo hi : OM) (loc : Ls) (e : Exn) (hp : List O) : sl1 lo hi loc (.exc e hp) = .exc e hp := rfl
@[simp] theorem e_slice (a : EM) (lo hi : OM) (loc : Ls) (hp : List O) : sliceM a lo hi loc hp = sl1 lo hi loc (a loc hp) := by
  unfold sliceM sl1
  cases a loc hp with
  | ok u hp1 =>
    show (lo loc hp1).bind _ = sl2 u hi loc (lo loc hp1)
    unfold sl2
    cases lo loc hp1 with
    | ok l hp2 =>
      show (hi loc hp2).bind _ = sl3 u l (hi loc hp2)
      unfold sl3 sl4
      cases hi loc hp2 <;> rfl
    | _ => rfl
  | _ => rfl
def app3 (hp : List O) (n : Nat) (z : D) (o : Option O) : Res Vl := match o with
  | some (.lst ds) => if ds.length < 10000000 then .ok (.d .none) (hp.set n (.lst (ds ++ [z]))) else .bad
  | _ => .bad
@[simp] theorem app3_s (hp : List O) (n : Nat) (z : D) (ds : List D) : app3 hp n z (some (.lst ds)) = if ds.length < 10000000 then .ok (.d .none) (hp.set n (.lst (ds ++ [z]))) else .bad := rfl
def app2 (u : Vl) : Res Vl → Res Vl
  | .ok v hp => (match u, v with
    | .r n, .d z => app3 hp n z hp[n]?
    | _, _ => .bad)
  | .exc e hp => .exc e hp
  | .bad => .bad
@[simp] theorem app2_0 (n : Nat) (z : D) (hp : List O) : app2 (.r n) (.ok (.d z) hp) = app3 hp n z hp[n]? := rfl
@[simp] theorem app2_1 (n : Nat) (e : Exn) (hp : List O) : app2 (.r n) (.exc e hp) = .exc e hp := rfl
def app1b (b : EM) (loc : Ls) (u : Vl) (hp : List O) (o : Option D) : Res Vl := match o with
  | some (.list _) => app2 u (b loc hp)
  | _ => .bad
@[simp] theorem app1b_s (b : EM) (loc : Ls) (u : Vl) (hp : List O) (ds : List D) : app1b b loc u hp (some (.list ds)) = app2 u (b loc hp) := rfl
def app1 (b : EM) (loc : Ls) : Res Vl → Res Vl
  | .ok u hp => app1b b loc u hp (viewD hp u)
  | .exc e hp => .exc e hp
  | _ => .bad
@[simp] theorem app1_0 (b : EM) (loc : Ls) (u : Vl) (hp : List O) : app1 b loc (.ok u hp) = app1b b loc u hp (viewD hp u) := rfl
@[simp] theorem app1_1 (b : EM) (loc : Ls) (e : Exn) (hp : List O) : app1 b loc (.exc e hp) = .exc e hp := rfl
@[simp] theorem e_app (a b : EM) (loc : Ls) (hp : List O) : appM a b loc hp = app1 b loc (a loc hp) := by
  unfold appM
  cases a loc hp with
  | ok u hp1 =>
    show (match viewD hp1 u with | some (.list _) => _ | _ => _) = app1b b loc u hp1 (viewD hp1 u)
    cases viewD hp1 u with
    | none => rfl
    | some x => cases x with
      | list ds =>
        show (b loc hp1).bind _ = app2 u (b loc hp1)
        unfold app2 app3
        cases b loc hp1 with
        | ok v hp2 => cases u <;> cases v <;> rfl
        | _ => rfl
      | _ => rfl
  | _ => rfl
def put4 (loc : Ls) (o : Option (List O)) : RS := match o with
  | some hp4 => .ok .nx loc hp4
  | none => .bad
@[simp] theorem put4_s (loc : Ls) (hp : List O) : put4 loc (some hp) = .ok .nx loc hp := rfl
def put3 (z o : Vl) (loc : Ls) : Res Vl → RS
  | .ok i hp => put4 loc (putF hp o i z)
  | .exc e hp => .exc e loc hp
  | _ => .bad
@[simp] theorem put3_0 (z o : Vl) (loc : Ls) (i : Vl) (hp : List O) : put3 z o loc (.ok i hp) = put4 loc (putF hp o i z) := rfl
@[simp] theorem put3_1 (z o : Vl) (loc : Ls) (e : Exn) (hp : List O) : put3 z o loc (.exc e hp) = .exc e loc hp := rfl
def put2 (mi : EM) (z : Vl) (loc : Ls) : Res Vl → RS
  | .ok o hp => put3 z o loc (mi loc hp)
  | .exc e hp => .exc e loc hp
  | _ => .bad
@[simp] theorem put2_0 (mi : EM) (z : Vl) (loc : Ls) (o : Vl) (hp : List O) : put2 mi z loc (.ok o hp) = put3 z o loc (mi loc hp) := rfl
@[simp] theorem put2_1 (mi : EM) (z : Vl) (loc : Ls) (e : Exn) (hp : List O) : put2 mi z loc (.exc e hp) = .exc e loc hp := rfl
def put1 (mo mi : EM) (loc : Ls) : Res Vl → RS
  | .ok z hp => put2 mi z loc (mo loc hp)
  | .exc e hp => .exc e loc hp
  | _ => .bad
@[simp] theorem put1_0 (mo mi : EM) (loc : Ls) (z : Vl) (hp : List O) : put1 mo mi loc (.ok z hp) = put2 mi z loc (mo loc hp) := rfl
@[simp] theorem put1_1 (mo mi : EM) (loc : Ls) (e : Exn) (hp : List O) : put1 mo mi loc (.exc e hp) = .exc e loc hp := rfl
@[simp] theorem e_put (mv mo mi : EM) (loc : Ls) (hp : List O) : putM mv mo mi loc hp = put1 mo mi loc (mv loc hp) := by
  unfold putM put1
  cases mv loc hp with
  | ok z hp1 =>
    show (mo loc hp1).toS loc _ = put2 mi z loc (mo loc hp1)
    unfold put2
    cases mo loc hp1 with
    | ok o hp2 =>
      show (mi loc hp2).toS loc _ = put3 z o loc (mi loc hp2)
      unfold put3 put4
      cases mi loc hp2 <;> rfl
    | _ => rfl
  | _ => rfl
noncomputable def for1 (tg : GM) (body : SM) (loc : Ls) : Res Src → RS
  | .ok s hp => forGo s.1 tg body s.2 loc hp
  | .exc e hp => .exc e loc hp
  | _ => .bad
@[simp] theorem for1_0 (tg : GM) (body : SM) (loc : Ls) (s : Src) (hp : List O) : for1 tg body loc (.ok s hp) = forGo s.1 tg body s.2 loc hp := rfl
@[simp] theorem for1_1 (tg : GM) (body : SM) (loc : Ls) (e : Exn) (hp : List O) : for1 tg body loc (.exc e hp) = .exc e loc hp := rfl
@[simp] theorem e_for (im : IM) (tg : GM) (body : SM) (loc : Ls) (hp : List O) : Fz.forM im tg body loc hp = for1 tg body loc (im loc hp) := by
  unfold Fz.forM for1
  cases im loc hp <;> rfl
def lc2  : Res (List D) → Res Vl
  | .ok acc hp => .ok (.d (.list acc)) hp
  | .exc e hp => .exc e hp
  | _ => .bad
@[simp] theorem lc2_0  (acc : List D) (hp : List O) : lc2  (.ok acc hp) = .ok (.d (.list acc)) hp := rfl
@[simp] theorem lc2_1  (e : Exn) (hp : List O) : lc2  (.exc e hp) = .exc e hp := rfl
noncomputable def lc1 (f : GM) (tt : TM) (te : EM) (lw : Ls) : Res Src → Res Vl
  | .ok s hp => lc2 (lcGo s.1 f tt te lw s.2 hp [])
  | .exc e hp => .exc e hp
  | _ => .bad
@[simp] theorem lc1_0 (f : GM) (tt : TM) (te : EM) (lw : Ls) (s : Src) (hp : List O) : lc1 f tt te lw (.ok s hp) = lc2 (lcGo s.1 f tt te lw s.2 hp []) := rfl
@[simp] theorem lc1_1 (f : GM) (tt : TM) (te : EM) (lw : Ls) (e : Exn) (hp : List O) : lc1 f tt te lw (.exc e hp) = .exc e hp := rfl
@[simp] theorem e_lc (own : List Nat) (im : IM) (f : GM) (tt : TM) (te : EM) (loc : Ls) (hp : List O) : lcM own im f tt te loc hp = lc1 f tt te (wipeL loc own) (im loc hp) := by
  unfold lcM lc1 lc2
  cases im loc hp with
  | ok s hp1 =>
    show (lcGo _ _ _ _ _ _ _ _).bind _ = lc2 (lcGo s.1 f tt te (wipeL loc own) s.2 hp1 [])
    unfold lc2
    cases lcGo s.1 f tt te (wipeL loc own) s.2 hp1 [] <;> rfl
  | _ => rfl
def rg1  : Res (List Vl) → Res Src
  | .ok [.d (.int n)] hp => if n ≤ 1000000 ∧ -1000000 ≤ n then .ok (none, rngI 0 n) hp else .bad
  | .exc e hp => .exc e hp
  | _ => .bad
@[simp] theorem rg1_0  (n : Int) (hp : List O) : rg1  (.ok [.d (.int n)] hp) = if n ≤ 1000000 ∧ -1000000 ≤ n then .ok (none, rngI 0 n) hp else .bad := rfl
@[simp] theorem rg1_1  (e : Exn) (hp : List O) : rg1  (.exc e hp) = .exc e hp := rfl
@[simp] theorem e_rng1 (a : AM) (loc : Ls) (hp : List O) : rng1 a loc hp = rg1 (a loc hp) := by
  unfold rng1 rg1
  cases a loc hp with
  | ok us hp1 => show (match us with | [.d (.int n)] => _ | _ => _ : Res Src) = _; split <;> first | rfl | (split <;> simp_all)
  | _ => rfl
def sqA2 (hp : List O) (n : Nat) (o : Option O) : Res Src := match o with
  | some (.lst ds) => .ok (some (n, .lst ds), ds.map Vl.d) hp
  | _ => .bad
@[simp] theorem sqA2_s (hp : List O) (n : Nat) (ds : List D) : sqA2 hp n (some (.lst ds)) = .ok (some (n, .lst ds), ds.map Vl.d) hp := rfl
def sqA  : Res Vl → Res Src
  | .ok (.d (.dict kvs)) hp => if kvs.length ≤ 10000000 then .ok (none, (kvs.map (·.1)).map Vl.d) hp else .bad
  | .ok (.d (.tuple ds)) hp => .ok (none, ds.map Vl.d) hp
  | .ok (.d (.list ds)) hp => .ok (none, ds.map Vl.d) hp
  | .ok (.r n) hp => sqA2 hp n hp[n]?
  | .exc e hp => .exc e hp
  | _ => .bad
@[simp] theorem sqA_0  (kvs : List (D × D)) (hp : List O) : sqA  (.ok (.d (.dict kvs)) hp) = if kvs.length ≤ 10000000 then .ok (none, (kvs.map (·.1)).map Vl.d) hp else .bad := rfl
@[simp] theorem sqA_1  (ds : List D) (hp : List O) : sqA  (.ok (.d (.tuple ds)) hp) = .ok (none, ds.map Vl.d) hp := rfl
@[simp] theorem sqA_2  (ds : List D) (hp : List O) : sqA  (.ok (.d (.list ds)) hp) = .ok (none, ds.map Vl.d) hp := rfl
@[simp] theorem sqA_3  (n : Nat) (hp : List O) : sqA  (.ok (.r n) hp) = sqA2 hp n hp[n]? := rfl
@[simp] theorem sqA_4  (e : Exn) (hp : List O) : sqA  (.exc e hp) = .exc e hp := rfl
@[simp] theorem e_seqA (a : EM) (loc : Ls) (hp : List O) : seqA a loc hp = sqA (a loc hp) := by
  unfold seqA sqA sqA2
  cases a loc hp with
  | ok v hp1 => cases v with
    | d x => cases x <;> rfl
    | _ => rfl
  | _ => rfl
def zp1  : Res (List Vl) → Res Src
  | .ok [.d (.list xs), .d (.list ys)] hp => .ok (none, (xs.zip ys).map fun p => Vl.w [p.1, p.2]) hp
  | .ok [.d (.tuple xs), .d (.tuple ys)] hp => .ok (none, (xs.zip ys).map fun p => Vl.w [p.1, p.2]) hp
  | .exc e hp => .exc e hp
  | _ => .bad
@[simp] theorem zp1_0  (xs ys : List D) (hp : List O) : zp1  (.ok [.d (.list xs), .d (.list ys)] hp) = .ok (none, (xs.zip ys).map fun p => Vl.w [p.1, p.2]) hp := rfl
@[simp] theorem zp1_1  (xs ys : List D) (hp : List O) : zp1  (.ok [.d (.tuple xs), .d (.tuple ys)] hp) = .ok (none, (xs.zip ys).map fun p => Vl.w [p.1, p.2]) hp := rfl
@[simp] theorem zp1_2  (e : Exn) (hp : List O) : zp1  (.exc e hp) = .exc e hp := rfl
theorem e_zip {a : AM} {loc : Ls} {hp hp1 : List O} {xs ys : List D} (h : a loc hp = .ok [.d (.tuple xs), .d (.tuple ys)] hp1) : zipI a loc hp = .ok (none, (xs.zip ys).map fun p => Vl.w [p.1, p.2]) hp1 := by unfold zipI; rw [h]; rfl
theorem e_zipl {a : AM} {loc : Ls} {hp hp1 : List O} {xs ys : List D} (h : a loc hp = .ok [.d (.list xs), .d (.list ys)] hp1) : zipI a loc hp = .ok (none, (xs.zip ys).map fun p => Vl.w [p.1, p.2]) hp1 := by unfold zipI; rw [h]; rfl
@[simp] theorem e_gN (i : Nat) (v : Vl) (loc : Ls) (hp : List O) : gN i v loc hp = some (loc.set i (some v)) := rfl
@[simp] theorem e_wipe0 (loc : Ls) : wipeL loc [] = loc := rfl
@[simp] theorem e_wipe (loc : Ls) (v : Nat) (vs : List Nat) : wipeL loc (v :: vs) = (wipeL loc vs).set v none := rfl
/-- the end of a def -/
def fnR (fin : Nat → Vl → List O → Res Vl) (n : Nat) : RS → Res Vl
  | .ok (.rt v) _ hp1 => fin n v hp1
  | .ok .nx _ hp1 => fin n (.d .none) hp1
  | .ok _ _ _ => .bad
  | .exc e _ hp1 => .exc e (hp1.take n)
  | .bad => .bad
@[simp] theorem fnR_rt (n : Nat) (x : D) (loc : Ls) (hp : List O) : fnR finD n (.ok (.rt (.d x)) loc hp) = .ok (.d x) (hp.take n) := rfl
@[simp] theorem fnR_nx (n : Nat) (loc : Ls) (hp : List O) : fnR finD n (.ok .nx loc hp) = .ok (.d .none) (hp.take n) := rfl
@[simp] theorem fnR_exc {fin : Nat → Vl → List O → Res Vl} (n : Nat) (e : Exn) (loc : Ls) (hp : List O) : fnR fin n (.exc e loc hp) = .exc e (hp.take n) := rfl
theorem e_run {fin : Nat → Vl → List O → Res Vl} {nn np : Nat} {m : SM} {ds : List Vl} {hp : List O} (h : ds.length = np) : runDef fin nn np m ds hp = fnR fin hp.length (m (ds.map some ++ List.replicate (nn - np) none) hp) := by
  unfold runDef fnR; rw [if_pos h]; try rfl
@[simp] theorem e_run1 (fin : Nat → Vl → List O → Res Vl) (nn : Nat) (m : SM) (a : Vl) (hp : List O) : runDef fin nn 1 m [a] hp = fnR fin hp.length (m (some a :: List.replicate (nn - 1) none) hp) := e_run rfl
@[simp] theorem e_run2 (fin : Nat → Vl → List O → Res Vl) (nn : Nat) (m : SM) (a b : Vl) (hp : List O) : runDef fin nn 2 m [a, b] hp = fnR fin hp.length (m (some a :: some b :: List.replicate (nn - 2) none) hp) := e_run rfl
@[simp] theorem e_run3 (fin : Nat → Vl → List O → Res Vl) (nn : Nat) (m : SM) (a b c : Vl) (hp : List O) : runDef fin nn 3 m [a, b, c] hp = fnR fin hp.length (m (some a :: some b :: some c :: List.replicate (nn - 3) none) hp) := e_run rfl
@[simp] theorem e_run4 (fin : Nat → Vl → List O → Res Vl) (nn : Nat) (m : SM) (a b c d : Vl) (hp : List O) : runDef fin nn 4 m [a, b, c, d] hp = fnR fin hp.length (m (some a :: some b :: some c :: some d :: List.replicate (nn - 4) none) hp) := e_run rfl
@[simp] theorem e_run5 (fin : Nat → Vl → List O → Res Vl) (nn : Nat) (m : SM) (a b c d e : Vl) (hp : List O) : runDef fin nn 5 m [a, b, c, d, e] hp = fnR fin hp.length (m (some a :: some b :: some c :: some d :: some e :: List.replicate (nn - 5) none) hp) := e_run rfl
@[simp] theorem e_run6 (fin : Nat → Vl → List O → Res Vl) (nn : Nat) (m : SM) (a b c d e f : Vl) (hp : List O) : runDef fin nn 6 m [a, b, c, d, e, f] hp = fnR fin hp.length (m (some a :: some b :: some c :: some d :: some e :: some f :: List.replicate (nn - 6) none) hp) := e_run rfl
@[simp] theorem rep_s (n : Nat) : List.replicate (n + 1) (none : Option Vl) = none :: List.replicate n none := rfl
@[simp] theorem rep_0 : List.replicate 0 (none : Option Vl) = [] := rfl
def RS.tr (cs : List Cl) (r : RS) : RS := match r with
  | .exc e loc1 hp1 => catchM cs e loc1 hp1
  | r => r
@[simp] theorem e_try (cs : List Cl) (body : SM) (loc : Ls) (hp : List O) : tryNM cs body loc hp = RS.tr cs (body loc hp) := rfl
@[simp] theorem tr_ok (cs : List Cl) (f : Flw) (loc : Ls) (hp : List O) : RS.tr cs (.ok f loc hp) = .ok f loc hp := rfl
@[simp] theorem tr_exc (cs : List Cl) (e : Exn) (loc : Ls) (hp : List O) : RS.tr cs (.exc e loc hp) = catchM cs e loc hp := rfl
end Fz

set_option Elab.async false
set_option linter.all false
set_option maxRecDepth 100000
set_option maxHeartbeats 8000000
/-! FsW: the text of small data is a text -/
namespace Fs
open PySem PySem.Spec PyProof.Rows L2 Fz Ren

def okS (x : Str) : Prop := ∀ c ∈ x.cps.toList, c < 0x110000
theorem char_lt (c : Char) : c.toNat < 0x110000 := by
  have := c.valid
  rcases this with h | ⟨_, h⟩
  · exact Nat.lt_trans h (by decide)
  · exact h
theorem okS_of (s : String) : okS (Str.ofString s) := by
  intro c h
  rw [PyProof.Rows.signs_ofString] at h
  obtain ⟨k, _, rfl⟩ := List.mem_map.mp h
  exact char_lt k
theorem okS_app {a b : Str} (ha : okS a) (hb : okS b) : okS (a ++ b) := by
  intro c h
  have h' : c ∈ (a.cps ++ b.cps).toList := h
  rw [Array.toList_append] at h'
  rcases List.mem_append.mp h' with h | h
  · exact ha c h
  · exact hb c h
theorem okS_join {s : Str} (hs : okS s) : ∀ {l : List Str}, (∀ x ∈ l, okS x) → okS (Str.join s l)
  | [], _ => fun c h => by
    have : (Str.empty).cps.toList = [] := rfl
    have h' : c ∈ (Str.empty).cps.toList := h
    rw [this] at h'; cases h'
  | [x], h => h x List.mem_cons_self
  | x :: y :: r, h => by
    show okS (x ++ s ++ Str.join s (y :: r))
    exact okS_app (okS_app (h x List.mem_cons_self) hs) (okS_join hs fun z hz => h z (List.mem_cons_of_mem _ hz))
theorem okS_char {q c : Nat} (hc : c < 0x110000) : ∀ e ∈ PySem.Builtin.Str.reprChar q c, e < 0x110000 := by
  have hx : ∀ w : Nat, ∀ e ∈ (List.replicate (w - ((Nat.toDigits 16 c).map Char.toNat).length) 48 ++ (Nat.toDigits 16 c).map Char.toNat), e < 0x110000 := by
    intro w e h
    rcases List.mem_append.mp h with h | h
    · rw [(List.mem_replicate.mp h).2]; decide
    · obtain ⟨k, _, rfl⟩ := List.mem_map.mp h
      exact char_lt k
  intro e h
  unfold PySem.Builtin.Str.reprChar at h
  dsimp only at h
  have two : ∀ a b : Nat, a < 0x110000 → b < 0x110000 → e ∈ [a, b] → e < 0x110000 := fun a b ha hb h => by
    rcases List.mem_cons.mp h with rfl | h
    · exact ha
    · rw [List.mem_singleton.mp h]; exact hb
  split at h
  · exact two _ _ (by decide) hc h
  · split at h
    · exact two _ _ (by decide) (by decide) h
    · split at h
      · exact two _ _ (by decide) (by decide) h
      · split at h
        · exact two _ _ (by decide) (by decide) h
        · split at h
          · rw [List.mem_singleton.mp h]; exact hc
          · split at h
            · rcases List.mem_append.mp h with h | h
              · exact two _ _ (by decide) (by decide) h
              · exact hx 2 e h
            · split at h
              · rcases List.mem_append.mp h with h | h
                · exact two _ _ (by decide) (by decide) h
                · exact hx 4 e h
              · rcases List.mem_append.mp h with h | h
                · exact two _ _ (by decide) (by decide) h
                · exact hx 8 e h
theorem okS_repr {x : Str} (hx : okS x) : okS (reprText x) := by
  have hq : reprQuote x < 0x110000 := by unfold reprQuote; split <;> decide
  have go : ∀ (l : List Nat) (acc : Array Nat), (∀ c ∈ l, c < 0x110000) → (∀ c ∈ acc.toList, c < 0x110000) → ∀ c ∈ (l.foldl (fun out c => out ++ (PySem.Builtin.Str.reprChar (reprQuote x) c).toArray) acc).toList, c < 0x110000 := by
    intro l
    induction l with
    | nil => intro acc _ h; exact h
    | cons a l ih =>
      intro acc hl ha
      rw [List.foldl_cons]
      refine ih _ (fun c hc => hl c (List.mem_cons_of_mem _ hc)) fun c hc => ?_
      rw [Array.toList_append] at hc
      rcases List.mem_append.mp hc with h | h
      · exact ha c h
      · exact okS_char (hl a List.mem_cons_self) c (by simpa using h)
  intro c hc
  have hc' : c ∈ ((x.cps.foldl (fun out c => out ++ (PySem.Builtin.Str.reprChar (reprQuote x) c).toArray) #[reprQuote x]).push (reprQuote x)).toList := hc
  rw [Array.toList_push] at hc'
  rcases List.mem_append.mp hc' with h | h
  · rw [← Array.foldl_toList] at h
    exact go x.cps.toList #[reprQuote x] hx (fun c hc => by
      have : c = reprQuote x := by simpa using hc
      rw [this]; exact hq) c h
  · rw [List.mem_singleton.mp h]; exact hq
theorem okS_strOk {x : Str} : okS x ↔ PyData.strOk x = true := by
  unfold okS PyData.strOk
  rw [← Array.all_toList, List.all_eq_true]
  exact ⟨fun h c hc => decide_eq_true (h c hc), fun h c hc => of_decide_eq_true (h c hc)⟩
mutual
theorem okS_shown : ∀ d : D, d.canLay0 = true → okS d.shown
  | .none, _ => okS_of "None"
  | .bool b, _ => by cases b <;> exact okS_of _
  | .int i, _ => by rw [PyData.shown_int]; exact okS_of _
  | .str x, h => by rw [PyData.shown_str]; exact okS_repr (okS_strOk.mpr (by simpa [PyData.canLay0] using h))
  | .list xs, h => by
    rw [PyData.shown_list]
    exact okS_app (okS_app (okS_of _) (okS_join (okS_of _) (okS_all xs (by simpa [PyData.canLay0] using h)))) (okS_of _)
  | .tuple xs, h => by
    rw [PyData.shown_tuple]
    exact okS_app (okS_app (okS_of _) (okS_join (okS_of _) (okS_all xs (by simpa [PyData.canLay0] using h)))) (okS_of _)
  | .dict _, h => by simp [PyData.canLay0] at h
theorem okS_all : ∀ xs : List D, PyData.canLayAll0 xs = true → ∀ t ∈ PyData.shownAll xs, okS t
  | [], _ => fun t h => by cases h
  | x :: xs, h => fun t ht => by
    have h' : x.canLay0 = true ∧ PyData.canLayAll0 xs = true := by simpa [PyData.canLayAll0] using h
    rw [PyData.shownAll_cons] at ht
    rcases List.mem_cons.mp ht with rfl | ht
    · exact okS_shown x h'.1
    · exact okS_all xs h'.2 t ht
end
theorem lay_shown {d : D} (h : d.canLay0 = true) : (PyData.str d.shown).canLay0 = true := by
  show PyData.strOk d.shown = true
  exact okS_strOk.mp (okS_shown d h)
end Fs

set_option Elab.async false
set_option linter.all false
set_option maxRecDepth 100000
set_option maxHeartbeats 8000000
namespace K00
open PySem PySem.Spec PyProof.Rows L2 Fz Ren Fs

noncomputable def tbody : SM := (seqM (parM 11 12 (consM (callM f__law_is_one (consM (varM 9) nilM)) (consM (blt reprD (consM (varM 9) nilM)) nilM)))
    (seqM (ifM (orT (tstM (opM neA (lstM (consM (callM f_is_renaming (consM (varM 9) nilM)) (consM (callKM f_is_renaming [0] 1 nilM (consM (varM 9) nilM)) nilM))) (lstM (consM (varM 11) (consM (varM 11) nilM))))) (tstM (opM neA (blt reprD (consM (varM 9) nilM)) (varM 12)))) (retM (cM (.bool false))) skipM)
    (ifM (andT (notT (tstM (varM 11))) (tstM (opM neA (callM f__law_refused (consM (varM 9) (consM (cM .none) nilM))) (tupM (consM (cM (.int 0)) (consM (varM 12) nilM)))))) (retM (cM (.bool false))) skipM)))
noncomputable def ibody : SM := (seqM (asgM 4 (callM f__law_renaming (consM (varM 2) nilM)))
    (seqM (asgM 5 (callM f__law_led (consM (varM 4) (consM (cM (.int 12)) nilM))))
    (seqM (asgM 6 (blt tupleD (consM (lcM [13] (rng1 (consM (callM f__law_out (consM (varM 2) (consM (cM (.int 8)) nilM))) nilM)) (gN 13) yesT (opM subD (callM f__law_out (consM (varM 2) (consM (cM (.int 13)) nilM))) (cM (.int 1)))) nilM)))
    (seqM (asgM 7 (blt tupleD (consM (lcM [14] (seqA (varM 6)) (gN 14) yesT (iteE (tstM (opM eqA (varM 14) (unM negD (cM (.int 1))))) (unM negD (cM (.int 1))) (opM ixA (varM 5) (varM 14)))) nilM)))
    (seqM (ifM (tstM (opM neA (blt reprD (consM (lstM (consM (callM f_renamed (consM (varM 4) (consM (varM 6) nilM))) (consM (callKM f_renamed [1, 0] 2 nilM (consM (varM 6) (consM (varM 4) nilM))) nilM))) nilM)) (blt reprD (consM (lstM (consM (varM 7) (consM (varM 7) nilM))) nilM)))) (retM (cM (.bool false))) skipM)
    (seqM (asgM 8 (blt tupleD (consM (bindE (lcM [15, 16] (seqA (varM 4)) (gT [(gN 15), (gN 16)]) yesT (tupM (consM (varM 16) (consM (varM 15) nilM)))) (newD sortF)) nilM)))
    (seqM (ifM (tstM (opM neA (blt reprD (consM (lstM (consM (callM f_contrary (consM (varM 4) nilM)) (consM (callKM f_contrary [0] 1 nilM (consM (varM 4) nilM)) nilM))) nilM)) (blt reprD (consM (lstM (consM (varM 8) (consM (varM 8) nilM))) nilM)))) (retM (cM (.bool false))) skipM)
    (seqM (ifM (orT (tstM (opM neA (callM f_renamed (consM (varM 8) (consM (callM f_renamed (consM (varM 4) (consM (varM 6) nilM))) nilM))) (varM 6))) (tstM (opM neA (bindE (bindE (varM 5) setF) lenF) (bindE (varM 5) lenF)))) (retM (cM (.bool false))) skipM)
    (seqM (forM (seqA (lstM (consM (varM 4) (consM (callM f__law_bent (consM (varM 2) (consM (varM 4) nilM))) (consM (callM f__law_bent (consM (varM 2) (consM (varM 4) nilM))) (consM (opM addD (varM 4) (tupM (consM (tupM (consM (cM (.int 3)) (consM (cM (.int 3)) nilM))) nilM))) (consM (unM revD (varM 4)) nilM))))))) (gN 9) tbody)
    (seqM (asgM 10 (opM ixA (lstM (consM (cM .none) (consM (bindE (varM 6) (newD lisF)) (consM (opM addD (varM 6) (tupM (consM (unM negD (cM (.int 2))) nilM))) (consM (opM addD (varM 6) (tupM (consM (cM (.bool true)) nilM))) (consM (cM (.int 0)) nilM)))))) (callM f__law_out (consM (varM 2) (consM (cM (.int 5)) nilM)))))
    (ifM (tstM (opM neA (callM f__law_refused (consM (varM 4) (consM (varM 10) nilM))) (tupM (consM (cM (.int 1)) (consM (blt reprD (consM (varM 10) nilM)) nilM))))) (retM (cM (.bool false))) skipM)))))))))))
noncomputable def obody' : SM := (seqM (asgM 2 (callM f__law_urn (consM (varM 0) (consM (varM 1) nilM))))
    (forM (rng1 (consM (cM (.int 5)) nilM)) (gN 3) ibody))
theorem tame_len {d : D} (ht : tame 12 2 d = true) (ds : List D) (h : d = .tuple ds) : ds.length ≤ 12 := by
  subst h
  exact (tame_tup.mp ht).1
theorem neA_str (a b : Str) : neA (.str a) (.str b) = some (.bool (!decide (a = b))) := rfl
theorem neA_bb (b : Bool) : neA (.list [.bool b, .bool b]) (.list [.bool b, .bool b]) = some (.bool false) := by
  refine neA_same ?_
  cases b <;> decide +kernel
theorem neA_ks {d : D} (k : Int) (h : d.canLay0 = true) : neA (.tuple [.int k, .str d.shown]) (.tuple [.int k, .str d.shown]) = some (.bool false) := by
  refine neA_same ?_
  have := lay_shown h
  unfold SeqAt.shaped
  rw [Bool.and_eq_true]
  constructor
  · show (true && (PyData.canLay0 (.str d.shown) && true)) = true
    rw [this]; rfl
  · rfl
theorem tbody_eq (x0 x1 x2 x3 x4 x5 x6 x7 x8 x10 x11 x12 x13 x14 x15 x16 : Option Vl) (d : D) (ht : tame 12 2 d = true) (hp : List O) :
    ∃ y11 y12, tbody [x0, x1, x2, x3, x4, x5, x6, x7, x8, some (.d d), x10, x11, x12, x13, x14, x15, x16] hp = .ok .nx [x0, x1, x2, x3, x4, x5, x6, x7, x8, some (.d d), x10, y11, y12, x13, x14, x15, x16] hp := by
  have hl := tame_len ht
  have e1 := is_one_eq d (fun ds h => by have := hl ds h; omega) hp
  have e2 := isren_all d hp (fun ds h => by have := hl ds h; omega)
  have e3 := rep_22 ht
  refine ⟨some (.d (.bool (isRen d))), some (.d (.str d.shown)), ?_⟩
  cases h : isRen d
  · have e4 := refused_a h (fun ds h => by have := hl ds h; omega) ht .none hp
    have e5 := neA_ks 0 e3.1
    rw [h] at e1 e2
    simp [tbody, e1, e2, Fz.reprD, e3, neA_bb, neA_str, e4, e5]
  · rw [h] at e1 e2
    simp [tbody, e1, e2, Fz.reprD, e3, neA_bb, neA_str]
theorem imgI_inv {R : NP} (V : Valid R) {z : Int} (h : -1 ≤ z) : imgI (turn R) (imgI R z) = z := by
  by_cases c : z = -1
  · subst c; rfl
  · obtain ⟨k, rfl⟩ : ∃ k : Nat, z = k := ⟨z.toNat, by omega⟩
    rw [imgI_nat, imgI_nat, turn_img V]
theorem imgI_ge (R : NP) {z : Int} : -1 ≤ imgI R z := by
  unfold imgI
  split <;> omega
theorem ded_nd {l : List Int} (h : l.Nodup) : dedI l = l := by
  have go : ∀ (l acc : List Int), (acc ++ l).Nodup → l.foldl (fun acc x => if x ∈ acc then acc else acc ++ [x]) acc = acc ++ l := by
    intro l
    induction l with
    | nil => intro acc _; simp
    | cons x l ih =>
      intro acc h
      rw [List.foldl_cons, if_neg (fun z => by
        have := (List.nodup_append.mp h).2.2 x z x List.mem_cons_self
        exact this rfl), ih _ (by rw [List.append_assoc]; exact h), List.append_assoc]; rfl
  exact go l [] h
theorem due_nd {R : NP} (V : Valid R) (m : Nat) : (zs ((List.range m).map (img R))).Nodup := by
  refine zs_nodup.mpr ?_
  unfold List.Nodup
  rw [List.pairwise_map]
  exact List.nodup_range.imp fun h e => h (img_inj V e)
theorem neA_ti' (xs ys : List Int) (h : xs = ys) : neA (.tuple (xs.map PyData.int)) (.tuple (ys.map PyData.int)) = some (.bool false) := by
  rw [neA_ti, h, decide_eq_true rfl]; rfl
theorem neA_ii (a : Int) : neA (.int a) (.int a) = some (.bool false) := by rw [neA_int, decide_eq_true rfl]; rfl
theorem tame_told {R : NP} (V : Valid R) (S : Sml R) {zz : List Int} (hl : zz.length ≤ 7) (hz : ∀ z ∈ zz, -1 ≤ z ∧ z ≤ 11) : tame 12 1 (.tuple ((zz.map (imgI R)).map PyData.int)) = true := by
  refine tame_tup.mpr ⟨by rw [List.length_map, List.length_map]; omega, fun d hd => ?_⟩
  obtain ⟨i, hi, rfl⟩ := List.mem_map.mp hd
  obtain ⟨z, hzz, rfl⟩ := List.mem_map.mp hi
  exact decide_eq_true (imgI_big V S (hz z hzz)).2
theorem tame_zz {zz : List Int} (hl : zz.length ≤ 7) (hz : ∀ z ∈ zz, -1 ≤ z ∧ z ≤ 11) : ∀ d ∈ zz.map PyData.int, tame 12 0 d = true := fun d hd => by
  obtain ⟨z, hzz, rfl⟩ := List.mem_map.mp hd
  have := hz z hzz
  exact decide_eq_true (by omega)
theorem rep_two {d : D} (h : tame 12 1 d = true) : repOk (.list [d, d]) := rep_22 (tame_lst.mpr ⟨by show 2 ≤ 12; decide, fun x hx => by
  rcases List.mem_cons.mp hx with rfl | hx
  · exact h
  · rw [List.mem_singleton.mp hx]; exact h⟩)
/-- five things, each right -/
theorem things (x0 x1 x2 x3 x4 x5 x6 x7 x8 x10 x13 x14 x15 x16 : Option Vl) (hp : List O) : ∀ (ds : List D) (x9 x11 x12 : Option Vl), (∀ d ∈ ds, tame 12 2 d = true) →
    ∃ y9 y11 y12, forGo none (gN 9) tbody (ds.map Vl.d) [x0, x1, x2, x3, x4, x5, x6, x7, x8, x9, x10, x11, x12, x13, x14, x15, x16] hp = .ok .nx [x0, x1, x2, x3, x4, x5, x6, x7, x8, y9, x10, y11, y12, x13, x14, x15, x16] hp
  | [], x9, x11, x12, _ => ⟨x9, x11, x12, by unfold forGo; rw [List.map_nil]; exact if_pos trivial⟩
  | d :: ds, x9, x11, x12, h => by
    obtain ⟨y11, y12, e⟩ := tbody_eq x0 x1 x2 x3 x4 x5 x6 x7 x8 x10 x11 x12 x13 x14 x15 x16 d (h d List.mem_cons_self) hp
    obtain ⟨z9, z11, z12, e2⟩ := things x0 x1 x2 x3 x4 x5 x6 x7 x8 x10 x13 x14 x15 x16 hp ds (some (.d d)) y11 y12 fun x hx => h x (List.mem_cons_of_mem _ hx)
    refine ⟨z9, z11, z12, ?_⟩
    rw [List.map_cons]
    unfold forGo
    rw [if_pos (show Kept none hp from trivial)]
    simp only [e_gN, List.set_cons_succ, List.set_cons_zero]
    rw [e]
    exact e2
theorem tame_33 {R : NP} (S : Sml R) : tame 12 2 (.tuple ((toZ R).map pD ++ [.tuple [.int 3, .int 3]])) = true := by
  refine tame_tup.mpr ⟨by rw [List.length_append, rD_len]; have := S.1; simp; omega, fun d hd => ?_⟩
  rcases List.mem_append.mp hd with hd | hd
  · obtain ⟨p, hp, rfl⟩ := mem_rD hd
    exact tame_pair (S.2 p hp).1 (S.2 p hp).2
  · rw [List.mem_singleton.mp hd]; decide
theorem tame_rev {R : NP} (S : Sml R) : tame 12 2 (.tuple ((toZ R).map pD).reverse) = true := by
  refine tame_tup.mpr ⟨by rw [List.length_reverse, rD_len]; have := S.1; omega, fun d hd => ?_⟩
  obtain ⟨p, hp, rfl⟩ := mem_rD (List.mem_reverse.mp hd)
  exact tame_pair (S.2 p hp).1 (S.2 p hp).2
theorem lcBack (R : NP) (hz : R.length ≤ 64) (loc : Ls) (hl : loc.length = 17) (h4 : loc[4]? = some (some (.d (rD R)))) (hp : List O) :
    bnd (newD sortF) (lcM [15, 16] (seqA (varM 4)) (gT [gN 15, gN 16]) yesT (tupM (consM (varM 16) (consM (varM 15) nilM))) loc hp) = .ok (.d (.list ((toZ (turn R)).map pD))) hp := by
  have e := lc_pure (f := gT [gN 15, gN 16]) (te := tupM (consM (varM 16) (consM (varM 15) nilM))) (lw := wipeL loc [15, 16]) (h := fun d => match d with | .tuple [x, y] => .tuple [y, x] | _ => .none) (ds := (toZ R).map pD) (b := hp) (acc := []) fun d hd hp => by
    obtain ⟨p, _, rfl⟩ := List.mem_map.mp hd
    refine ⟨((wipeL loc [15, 16]).set 15 (some (.d (.int p.1)))).set 16 (some (.d (.int p.2))), rfl, ?_⟩
    have l1 : 16 < loc.length := by omega
    have l2 : 15 < loc.length := by omega
    simp [List.getElem?_set, l1, l2]
    rfl
  have em : ((toZ R).map pD).map (fun d => match d with | .tuple [x, y] => PyData.tuple [y, x] | _ => .none) = ((toZ R).map sw).map pD := by rw [List.map_map, List.map_map]; rfl
  rw [em] at e
  have s := sortF_pairs ((toZ R).map sw) hp
  rw [turn_toZ] at s
  simp only [e_lc, e_seqA, e_var, h4, vr_s, sqA_1, lc1_0, e, List.nil_append, lc2_0, bnd_0, s]
end K00

set_option Elab.async false
set_option linter.all false
set_option maxRecDepth 100000
set_option maxHeartbeats 8000000
namespace K00
open PySem PySem.Spec PyProof.Rows L2 Fz Ren Fs

theorem bad_at (zz : List Int) (hl : zz.length ≤ 7) (hz : ∀ z ∈ zz, -1 ≤ z ∧ z ≤ 11) (r : Nat) (hr : r < 5) :
    ∃ u, valB u = false ∧ tame 12 2 u = true ∧ ixA (.list [.none, .list (zz.map PyData.int), .tuple (zz.map PyData.int ++ [.int (-2)]), .tuple (zz.map PyData.int ++ [.bool true]), .int 0]) (.int (r : Int)) = some u := by
  have tz := tame_zz hl hz
  match r, hr with
  | 0, _ => exact ⟨_, rfl, rfl, rfl⟩
  | 1, _ => exact ⟨_, rfl, tame_lst.mpr ⟨by rw [List.length_map]; omega, fun d hd => tame_up (tz d hd)⟩, rfl⟩
  | 2, _ =>
    refine ⟨_, ?_, tame_tup.mpr ⟨by rw [List.length_append, List.length_map]; simp; omega, fun d hd => ?_⟩, rfl⟩
    · simp [valB, natB]
    · rcases List.mem_append.mp hd with hd | hd
      · exact tame_up (tz d hd)
      · rw [List.mem_singleton.mp hd]; decide
  | 3, _ =>
    refine ⟨_, ?_, tame_tup.mpr ⟨by rw [List.length_append, List.length_map]; simp; omega, fun d hd => ?_⟩, rfl⟩
    · simp [valB, natB]
    · rcases List.mem_append.mp hd with hd | hd
      · exact tame_up (tz d hd)
      · rw [List.mem_singleton.mp hd]; decide
  | 4, _ => exact ⟨_, rfl, rfl, rfl⟩
theorem ibody_eq (x0 x1 x3 x4 x5 x6 x7 x8 x9 x10 x11 x12 : Option Vl) (n : Nat) (b : List O) (N : Nat) (hN : N ≤ 60000) (o : O) (ho : b[n]? = some o) (u : UrnO N o) :
    ∃ y4 y5 y6 y7 y8 y9 y10 y11 y12 o', ibody [x0, x1, some (.r n), x3, x4, x5, x6, x7, x8, x9, x10, x11, x12, none, none, none, none] b = .ok .nx [x0, x1, some (.r n), x3, y4, y5, y6, y7, y8, y9, y10, y11, y12, none, none, none, none] (b.set n o') ∧ UrnO (N + 40) o' := by
  have hn : n < b.length := (List.getElem?_eq_some_iff.mp ho).1
  obtain ⟨R, o1, V, S, u1, e1⟩ := ren_eq n b N (by omega) o ho u
  have ho1 : (b.set n o1)[n]? = some o1 := List.getElem?_set_self hn
  have z1 := S.1
  have e2 : f__law_led [.d (rD R), .d (.int 12)] (b.set n o1) = _ := led_eq R V (by omega) 12 (by decide) (b.set n o1)
  obtain ⟨zz, o2, e3, u2, hl, hz⟩ := names_draw n [x0, x1, some (.r n), x3, some (.d (rD R)), some (.d (.list ((zs ((List.range 12).map (img R))).map PyData.int))), x6, x7, x8, x9, x10, x11, x12, none, none, none, none] rfl (b.set n o1) o1 (N + 17) (by omega) ho1 u1
  rw [List.set_set] at e3
  have ho2 : (b.set n o2)[n]? = some o2 := List.getElem?_set_self hn
  have e4 := told_eq R zz hz [x0, x1, some (.r n), x3, some (.d (rD R)), some (.d (.list ((zs ((List.range 12).map (img R))).map PyData.int))), some (.d (.tuple (zz.map PyData.int))), x7, x8, x9, x10, x11, x12, none, none, none, none] rfl rfl rfl (b.set n o2)
  have e5 := renamed_I R V (by omega) zz (fun z h => (hz z h).1) (b.set n o2)
  have r5 := rep_two (tame_told V S hl hz)
  have e6 := fun x7 => lcBack R (by omega) [x0, x1, some (.r n), x3, some (.d (rD R)), some (.d (.list ((zs ((List.range 12).map (img R))).map PyData.int))), some (.d (.tuple (zz.map PyData.int))), x7, x8, x9, x10, x11, x12, none, none, none, none] rfl rfl (b.set n o2)
  have e7 := contrary_R R V (by omega) (b.set n o2)
  have VT := turn_valid V
  have zT := turn_len R
  have ST : Sml (turn R) := ⟨by omega, fun p hp => by
    have := S.2 (p.2, p.1) (turn_mem.mp hp)
    exact ⟨this.2, this.1⟩⟩
  have r7 : repOk (.list [rD (turn R), rD (turn R)]) := tame_rep (w := 12) (n := 3) (tame_lst.mpr ⟨by show 2 ≤ 12; decide, fun x hx => by
    have t := tame_rD (n := 0) ST
    rcases List.mem_cons.mp hx with rfl | hx
    · exact t
    · rw [List.mem_singleton.mp hx]; exact t⟩) (by decide) (by decide)
  have e8 := renamed_I (turn R) VT (by omega) (zz.map (imgI R)) (fun z h => by
    obtain ⟨y, _, rfl⟩ := List.mem_map.mp h
    exact imgI_ge R) (b.set n o2)
  have id8 : (zz.map (imgI R)).map (imgI (turn R)) = zz := by
    rw [List.map_map]
    conv => rhs; rw [← List.map_id zz]
    exact List.map_congr_left fun z h => imgI_inv V (hz z h).1
  rw [id8] at e8
  have q8 := neA_ti' zz zz rfl
  have d8 := ded_nd (due_nd V 12)
  have s8 : setF (.d (.list ((zs ((List.range 12).map (img R))).map PyData.int))) (b.set n o2) = .ok (.s ((zs ((List.range 12).map (img R))).map PyData.int)) (b.set n o2) := by
    have : (zs ((List.range 12).map (img R))).length ≤ 4000 := by unfold zs; rw [List.length_map, List.length_map, List.length_range]; decide
    simp only [setF, view_d, asInts_map, if_pos this, d8]
  have l8 : ((zs ((List.range 12).map (img R))).map PyData.int).length = 12 := by unfold zs; rw [List.length_map, List.length_map, List.length_map, List.length_range]
  obtain ⟨w1, o3, t1, u3, b1⟩ := bent_ren R S n (b.set n o2) (N + 17 + 8) (by omega) o2 ho2 u2
  rw [List.set_set] at b1
  have ho3 : (b.set n o3)[n]? = some o3 := List.getElem?_set_self hn
  obtain ⟨w2, o4, t2, u4, b2⟩ := bent_ren R S n (b.set n o3) (N + 17 + 8 + 5) (by omega) o3 ho3 u3
  rw [List.set_set] at b2
  have ho4 : (b.set n o4)[n]? = some o4 := List.getElem?_set_self hn
  obtain ⟨k, o5, hk, u5, e10⟩ := out_eq 5 (by decide) (by decide) (N + 17 + 8 + 5 + 5) (by omega) n (b.set n o4) o4 ho4 u4
  rw [List.set_set] at e10
  obtain ⟨bad, hb, tb, eb⟩ := bad_at zz hl hz k (by omega)
  have rb := rep_22 tb
  have e11 := refused_b R V (by omega) hb tb (b.set n o5)
  have e12 := neA_ks (d := bad) 1 rb.1
  have ts : ∀ d ∈ [rD R, w1, w2, .tuple ((toZ R).map pD ++ [.tuple [.int 3, .int 3]]), .tuple ((toZ R).map pD).reverse], tame 12 2 d = true := fun d hd => by
    simp only [List.mem_cons, List.not_mem_nil, or_false] at hd
    rcases hd with rfl | rfl | rfl | rfl | rfl
    · exact tame_rD (n := 0) S
    · exact t1
    · exact t2
    · exact tame_33 S
    · exact tame_rev S
  have q9 := fun x7 x8 => things x0 x1 (some (.r n)) x3 (some (.d (rD R))) (some (.d (.list ((zs ((List.range 12).map (img R))).map PyData.int)))) (some (.d (.tuple (zz.map PyData.int)))) x7 x8 x10 none none none none (b.set n o4) _ x9 x11 x12 ts
  obtain ⟨y9, y11, y12, e9⟩ := q9 (some (.d (.tuple ((zz.map (imgI R)).map PyData.int)))) (some (.d (rD (turn R))))
  simp only [List.map_cons, List.map_nil] at e9
  have c9 : ((toZ R).map pD).length + [PyData.tuple [.int 3, .int 3]].length ≤ 10000000 := by rw [rD_len]; simp; omega
  have a9 := cat_ok c9
  have cz : ∀ y : D, (zz.map PyData.int).length + [y].length ≤ 10000000 := fun y => by rw [List.length_map]; simp; omega
  have a10 := cat_ok (cz (.int (-2)))
  have a11 := cat_ok (cz (.bool true))
  refine ⟨some (.d (rD R)), some (.d (.list ((zs ((List.range 12).map (img R))).map PyData.int))), some (.d (.tuple (zz.map PyData.int))), some (.d (.tuple ((zz.map (imgI R)).map PyData.int))), some (.d (rD (turn R))), y9, some (.d bad), y11, y12, o5, ?_, uno_up u5 (by omega)⟩
  simp [-List.map_map, ibody, e1, e2, ↓e3, ↓e4, e5, Fz.reprD, r5, Fz.tupleD, neA_str, ↓e6, e7, r7, e8, q8, s8, Fz.lenF, Fz.lenD, b1, b2, a9, Fz.revD, e9, Fz.newD, Fz.lisF, a10, a11, e10, eb, rb, e11, e12, neA_ii, Fz.negD]
end K00

set_option Elab.async false
set_option linter.all false
set_option maxRecDepth 100000
set_option maxHeartbeats 8000000
namespace K00
open PySem PySem.Spec PyProof.Rows L2 Fz Ren Fs

theorem turns (x0 x1 : Option Vl) (n : Nat) : ∀ (items : List Vl) (b : List O) (N : Nat) (o : O) (x3 x4 x5 x6 x7 x8 x9 x10 x11 x12 : Option Vl), N + 40 * items.length ≤ 60000 → b[n]? = some o → UrnO N o →
    ∃ y3 y4 y5 y6 y7 y8 y9 y10 y11 y12 b', forGo none (gN 3) ibody items [x0, x1, some (.r n), x3, x4, x5, x6, x7, x8, x9, x10, x11, x12, none, none, none, none] b = .ok .nx [x0, x1, some (.r n), y3, y4, y5, y6, y7, y8, y9, y10, y11, y12, none, none, none, none] b'
  | [], b, N, o, x3, x4, x5, x6, x7, x8, x9, x10, x11, x12, _, _, _ => ⟨x3, x4, x5, x6, x7, x8, x9, x10, x11, x12, b, by unfold forGo; exact if_pos trivial⟩
  | v :: vs, b, N, o, x3, x4, x5, x6, x7, x8, x9, x10, x11, x12, hN, ho, u => by
    rw [List.length_cons] at hN
    obtain ⟨y4, y5, y6, y7, y8, y9, y10, y11, y12, o', e, u'⟩ := ibody_eq x0 x1 (some v) x4 x5 x6 x7 x8 x9 x10 x11 x12 n b N (by omega) o ho u
    obtain ⟨z3, z4, z5, z6, z7, z8, z9, z10, z11, z12, b', e2⟩ := turns x0 x1 n vs (b.set n o') (N + 40) o' (some v) y4 y5 y6 y7 y8 y9 y10 y11 y12 (by omega) (List.getElem?_set_self (List.getElem?_eq_some_iff.mp ho).1) u'
    refine ⟨z3, z4, z5, z6, z7, z8, z9, z10, z11, z12, b', ?_⟩
    unfold forGo
    rw [if_pos (show Kept none b from trivial)]
    simp only [e_gN, List.set_cons_succ, List.set_cons_zero, e]
    exact e2
theorem rounds (ns : List Int) (h1 : ns.length ≤ 63) (h2 : ∀ z ∈ ns, Builtin.Int.intBits z ≤ 1048576) : ∀ (items : List Nat) (b : List O) (x1 x2 x3 x4 x5 x6 x7 x8 x9 x10 x11 x12 : Option Vl), (∀ i ∈ items, i ≤ 100) →
    ∃ loc b', forGo none (gN 1) obody' (items.map fun i : Nat => Vl.d (.int (i : Int))) [some (.d (.list (ns.map PyData.int))), x1, x2, x3, x4, x5, x6, x7, x8, x9, x10, x11, x12, none, none, none, none] b = .ok .nx loc b'
  | [], b, x1, x2, x3, x4, x5, x6, x7, x8, x9, x10, x11, x12, _ => ⟨_, b, by unfold forGo; exact if_pos trivial⟩
  | i :: is, b, x1, x2, x3, x4, x5, x6, x7, x8, x9, x10, x11, x12, hi => by
    obtain ⟨o, u, e⟩ := urn_eq ns h1 h2 i (hi i List.mem_cons_self) b
    have ho : (b ++ [o])[b.length]? = some o := by rw [List.getElem?_append_right (Nat.le_refl _)]; simp
    obtain ⟨y3, y4, y5, y6, y7, y8, y9, y10, y11, y12, b1, e2⟩ := turns (some (.d (.list (ns.map PyData.int)))) (some (.d (.int (i : Int)))) b.length (rngI 0 5) (b ++ [o]) 0 o x3 x4 x5 x6 x7 x8 x9 x10 x11 x12 (by decide) ho u
    obtain ⟨loc, b', e3⟩ := rounds ns h1 h2 is b1 (some (.d (.int (i : Int)))) (some (.r b.length)) y3 y4 y5 y6 y7 y8 y9 y10 y11 y12 fun j hj => hi j (List.mem_cons_of_mem _ hj)
    refine ⟨loc, b', ?_⟩
    rw [List.map_cons]
    unfold forGo
    rw [if_pos (show Kept none b from trivial)]
    have eb : obody' [some (.d (.list (ns.map PyData.int))), some (.d (.int (i : Int))), x2, x3, x4, x5, x6, x7, x8, x9, x10, x11, x12, none, none, none, none] b = .ok .nx [some (.d (.list (ns.map PyData.int))), some (.d (.int (i : Int))), some (.r b.length), y3, y4, y5, y6, y7, y8, y9, y10, y11, y12, none, none, none, none] b1 := by
      simp [obody', e, e2]
    simp only [e_gN, List.set_cons_succ, List.set_cons_zero, eb]
    exact e3
theorem law_true (ns : List Int) (h1 : ns.length ≤ 63) (h2 : ∀ z ∈ ns, Builtin.Int.intBits z ≤ 1048576) : ∃ hp, f_law [.d (.list (ns.map PyData.int))] [] = .ok (.d (.bool true)) hp := by
  have em : ∃ m : Nat, m ≤ 4 ∧ (if (if ((ns.map PyData.int).length : Int) < 4 then ((ns.map PyData.int).length : Int) else 4) > 1 then (if ((ns.map PyData.int).length : Int) < 4 then ((ns.map PyData.int).length : Int) else 4) else 1) = (m : Int) := by
    refine ⟨max 1 (min 4 (ns.map PyData.int).length), by omega, ?_⟩
    split <;> split at * <;> omega
  obtain ⟨m, hm, em⟩ := em
  obtain ⟨loc, hp, e⟩ := rounds ns h1 h2 (List.range m) [] none none none none none none none none none none none none (fun i hi => by have := List.mem_range.mp hi; omega)
  have er : rngI 0 (m : Int) = (List.range m).map fun i : Nat => Vl.d (.int (i : Int)) := by
    unfold rngI
    rw [show ((m : Int) - 0).toNat = m by omega]
    exact List.map_congr_left fun i _ => by rw [Int.zero_add]
  rw [← er] at e
  have s2 : Fz.forM (rng1 (consM (blt max2D (consM (cM (.int 1)) (consM (blt min2D (consM (cM (.int 4)) (consM (bindE (varM 0) lenF) nilM))) nilM))) nilM)) (gN 1) obody' [some (.d (.list (ns.map PyData.int))), none, none, none, none, none, none, none, none, none, none, none, none, none, none, none, none] [] = .ok .nx loc hp := by
    have v0 : varM 0 [some (.d (.list (ns.map PyData.int))), none, none, none, none, none, none, none, none, none, none, none, none, none, none, none, none] [] = .ok (.d (.list (ns.map PyData.int))) [] := rfl
    have l := len_at v0
    have mn : blt min2D (consM (cM (.int 4)) (consM (bindE (varM 0) lenF) nilM)) [some (.d (.list (ns.map PyData.int))), none, none, none, none, none, none, none, none, none, none, none, none, none, none, none, none] [] = .ok (.d (.int (if ((ns.map PyData.int).length : Int) < 4 then ((ns.map PyData.int).length : Int) else 4))) [] := by
      simp only [blt, consM, nilM, cM, l, bind_ok, viewsD_cons, viewsD_nil, Option.map_some, Fz.min2D, okD_some]
    have mx := max_at (a := cM (.int 1)) (i := 1) (hp := []) rfl mn
    rw [em] at mx
    rw [e_for, e_rng1, e_cons, mx, cons1_0, e_nil, cons2_0, rg1_0, if_pos (show ((m : Int) ≤ 1000000 ∧ -1000000 ≤ (m : Int)) from ⟨by omega, by omega⟩), for1_0]
    exact e
  refine ⟨hp.take 0, ?_⟩
  have s3 : m_law [some (.d (.list (ns.map PyData.int))), none, none, none, none, none, none, none, none, none, none, none, none, none, none, none, none] [] = .ok (.rt (.d (.bool true))) loc hp := by
    unfold m_law
    refine (seq_nx s2).trans ?_
    rfl
  unfold f_law
  rw [e_run1]
  have e0 : (some (Vl.d (PyData.list (ns.map PyData.int))) :: List.replicate (17 - 1) none : Ls) = [some (.d (.list (ns.map PyData.int))), none, none, none, none, none, none, none, none, none, none, none, none, none, none, none, none] := rfl
  rw [e0, s3]
  rfl
end K00

set_option Elab.async false
set_option linter.all false
set_option maxRecDepth 100000
set_option maxHeartbeats 8000000
namespace K00
open PySem PySem.Spec PyProof.Rows L2 Fz
theorem all_mk (law_true : ∀ ns : List Int, ns.length ≤ 63 → (∀ z ∈ ns, Builtin.Int.intBits z ≤ 1048576) → ∃ hp, f_law [.d (.list (ns.map PyData.int))] [] = .ok (.d (.bool true)) hp) {l : PySem.W.OpenLaw} {w : World} {K : PySem.W.Frag} {h : Heap} {mg : Str → Option Value} {fa : Addr} (X : K.In h) (G : h.Ns mainGlobals mg) (hfa : mg "law" = some (.ref fa))
    {f0 : Addr} {od0 an0 : Option Addr} {sl0 : Array (Option Value)} {oc0 kV0 dc0 pm0 cd0 ct0 : Value}
    {f1 : Addr} {od1 an1 : Option Addr} {sl1 : Array (Option Value)} {oc1 kV1 dc1 pm1 cd1 ct1 : Value}
    {f2 : Addr} {od2 an2 : Option Addr} {sl2 : Array (Option Value)} {oc2 kV2 dc2 pm2 cd2 ct2 : Value}
    {f3 : Addr} {od3 an3 : Option Addr} {sl3 : Array (Option Value)} {oc3 kV3 dc3 pm3 cd3 ct3 : Value}
    {f4 : Addr} {od4 an4 : Option Addr} {sl4 : Array (Option Value)} {oc4 kV4 dc4 pm4 cd4 ct4 : Value}
    {f5 : Addr} {od5 an5 : Option Addr} {sl5 : Array (Option Value)} {oc5 kV5 dc5 pm5 cd5 ct5 : Value}
    {f6 : Addr} {od6 an6 : Option Addr} {sl6 : Array (Option Value)} {oc6 kV6 dc6 pm6 cd6 ct6 : Value}
    {f7 : Addr} {od7 an7 : Option Addr} {sl7 : Array (Option Value)} {oc7 kV7 dc7 pm7 cd7 ct7 : Value}
    {f8 : Addr} {od8 an8 : Option Addr} {sl8 : Array (Option Value)} {oc8 kV8 dc8 pm8 cd8 ct8 : Value}
    {f9 : Addr} {od9 an9 : Option Addr} {sl9 : Array (Option Value)} {oc9 kV9 dc9 pm9 cd9 ct9 : Value}
    {f10 : Addr} {od10 an10 : Option Addr} {sl10 : Array (Option Value)} {oc10 kV10 dc10 pm10 cd10 ct10 : Value}
    {f11 : Addr} {od11 an11 : Option Addr} {sl11 : Array (Option Value)} {oc11 kV11 dc11 pm11 cd11 ct11 : Value}
    {f12 : Addr} {od12 an12 : Option Addr} {sl12 : Array (Option Value)} {oc12 kV12 dc12 pm12 cd12 ct12 : Value}
    {f13 : Addr} {od13 an13 : Option Addr} {sl13 : Array (Option Value)} {oc13 kV13 dc13 pm13 cd13 ct13 : Value}
    {f14 : Addr} {od14 an14 : Option Addr} {sl14 : Array (Option Value)} {oc14 kV14 dc14 pm14 cd14 ct14 : Value}
    {f15 : Addr} {od15 an15 : Option Addr} {sl15 : Array (Option Value)} {oc15 kV15 dc15 pm15 cd15 ct15 : Value}
    {f16 : Addr} {od16 an16 : Option Addr} {sl16 : Array (Option Value)} {oc16 kV16 dc16 pm16 cd16 ct16 : Value}
    {f17 : Addr} {od17 an17 : Option Addr} {sl17 : Array (Option Value)} {oc17 kV17 dc17 pm17 cd17 ct17 : Value}
    {f18 : Addr} {od18 an18 : Option Addr} {sl18 : Array (Option Value)} {oc18 kV18 dc18 pm18 cd18 ct18 : Value}
    {f19 : Addr} {od19 an19 : Option Addr} {sl19 : Array (Option Value)} {oc19 kV19 dc19 pm19 cd19 ct19 : Value}
    {f20 : Addr} {od20 an20 : Option Addr} {sl20 : Array (Option Value)} {oc20 kV20 dc20 pm20 cd20 ct20 : Value}
    {f21 : Addr} {od21 an21 : Option Addr} {sl21 : Array (Option Value)} {oc21 kV21 dc21 pm21 cd21 ct21 : Value}
    {f22 : Addr} {od22 an22 : Option Addr} {sl22 : Array (Option Value)} {oc22 kV22 dc22 pm22 cd22 ct22 : Value}
    {f23 : Addr} {od23 an23 : Option Addr} {sl23 : Array (Option Value)} {oc23 kV23 dc23 pm23 cd23 ct23 : Value}
    {f24 : Addr} {od24 an24 : Option Addr} {sl24 : Array (Option Value)} {oc24 kV24 dc24 pm24 cd24 ct24 : Value}
    {t_NOTHING : Tok}
    {D fI cda cc : Addr} {ocI kVI dcI pmI ctI ccl cl : Value} {odI anI cdd cld : Option Addr} {slI ccs csl : Array (Option Value)} {vs : Array Value} {file : Str} {tf : Tok}
    {C0 N0 : Addr} {nm0 q0 : Str} {bs0 : List Value} {sn0 : List Str} {sub0 : List Value} {ab0 : Bool} {col0 : Option Bool} {dd0 : Option Addr} {m00 m10 m20 m30 m50 : Option Value}
    {C1 N1 : Addr} {nm1 q1 : Str} {bs1 : List Value} {sn1 : List Str} {sub1 : List Value} {ab1 : Bool} {col1 : Option Bool} {dd1 : Option Addr} {m01 m11 m21 m31 m51 : Option Value}
    (b_len : PySem.W.nsIn K mainGlobals "len" = some none)
    (b_set : PySem.W.nsIn K mainGlobals "set" = some none)
    (b_list : PySem.W.nsIn K mainGlobals "list" = some none)
    (b_tuple : PySem.W.nsIn K mainGlobals "tuple" = some none)
    (b_dict : PySem.W.nsIn K mainGlobals "dict" = some none)
    (b_sorted : PySem.W.nsIn K mainGlobals "sorted" = some none)
    (b_repr : PySem.W.nsIn K mainGlobals "repr" = some none)
    (b_all : PySem.W.nsIn K mainGlobals "all" = some none)
    (b_any : PySem.W.nsIn K mainGlobals "any" = some none)
    (b_int : PySem.W.nsIn K mainGlobals "int" = some none)
    (b_abs : PySem.W.nsIn K mainGlobals "abs" = some none)
    (b_max : PySem.W.nsIn K mainGlobals "max" = some none)
    (b_min : PySem.W.nsIn K mainGlobals "min" = some none)
    (b_range : PySem.W.nsIn K mainGlobals "range" = some none)
    (b_zip : PySem.W.nsIn K mainGlobals "zip" = some none)
    (b_isinstance : PySem.W.nsIn K mainGlobals "isinstance" = some none)
    (b_bool : PySem.W.nsIn K mainGlobals "bool" = some none)
    (b_str : PySem.W.nsIn K mainGlobals "str" = some none)
    (b_enumerate : PySem.W.nsIn K mainGlobals "enumerate" = some none)
    (b_sum : PySem.W.nsIn K mainGlobals "sum" = some none)
    (a0 : PySem.W.nsIn K mainGlobals "_law_urn" = some (some (.ref f0)))
    (l0 : K.lookup f0 = some ⟨oc0, od0, .func (PySem.W.fnOf "_law_urn" "_law_urn" (defArgs (top 24)) (defBody (top 24)) (defScope (top 24)) .none kV0 dc0 pm0 an0 cd0 ct0), sl0⟩)
    (c0 : PySem.W.codeIn K cd0 "_law_urn" = true)
    (k0 : PySem.W.keepIn K (.ref f0) = true)
    (a1 : PySem.W.nsIn K mainGlobals "_law_out" = some (some (.ref f1)))
    (l1 : K.lookup f1 = some ⟨oc1, od1, .func (PySem.W.fnOf "_law_out" "_law_out" (defArgs (top 25)) (defBody (top 25)) (defScope (top 25)) .none kV1 dc1 pm1 an1 cd1 ct1), sl1⟩)
    (c1 : PySem.W.codeIn K cd1 "_law_out" = true)
    (k1 : PySem.W.keepIn K (.ref f1) = true)
    (a2 : PySem.W.nsIn K mainGlobals "_law_renaming" = some (some (.ref f2)))
    (l2 : K.lookup f2 = some ⟨oc2, od2, .func (PySem.W.fnOf "_law_renaming" "_law_renaming" (defArgs (top 28)) (defBody (top 28)) (defScope (top 28)) .none kV2 dc2 pm2 an2 cd2 ct2), sl2⟩)
    (c2 : PySem.W.codeIn K cd2 "_law_renaming" = true)
    (k2 : PySem.W.keepIn K (.ref f2) = true)
    (a3 : PySem.W.nsIn K mainGlobals "_law_led" = some (some (.ref f3)))
    (l3 : K.lookup f3 = some ⟨oc3, od3, .func (PySem.W.fnOf "_law_led" "_law_led" (defArgs (top 30)) (defBody (top 30)) (defScope (top 30)) .none kV3 dc3 pm3 an3 cd3 ct3), sl3⟩)
    (c3 : PySem.W.codeIn K cd3 "_law_led" = true)
    (k3 : PySem.W.keepIn K (.ref f3) = true)
    (a4 : PySem.W.nsIn K mainGlobals "_law_odd" = some (some (.ref f4)))
    (l4 : K.lookup f4 = some ⟨oc4, od4, .func (PySem.W.fnOf "_law_odd" "_law_odd" (defArgs (top 27)) (defBody (top 27)) (defScope (top 27)) .none kV4 dc4 pm4 an4 cd4 ct4), sl4⟩)
    (c4 : PySem.W.codeIn K cd4 "_law_odd" = true)
    (k4 : PySem.W.keepIn K (.ref f4) = true)
    (a5 : PySem.W.nsIn K mainGlobals "_law_bent" = some (some (.ref f5)))
    (l5 : K.lookup f5 = some ⟨oc5, od5, .func (PySem.W.fnOf "_law_bent" "_law_bent" (defArgs (top 26)) (defBody (top 26)) (defScope (top 26)) .none kV5 dc5 pm5 an5 cd5 ct5), sl5⟩)
    (c5 : PySem.W.codeIn K cd5 "_law_bent" = true)
    (k5 : PySem.W.keepIn K (.ref f5) = true)
    (a6 : PySem.W.nsIn K mainGlobals "are_unlike" = some (some (.ref f6)))
    (l6 : K.lookup f6 = some ⟨oc6, od6, .func (PySem.W.fnOf "are_unlike" "are_unlike" (defArgs (top 12)) (defBody (top 12)) (defScope (top 12)) .none kV6 dc6 pm6 an6 cd6 ct6), sl6⟩)
    (c6 : PySem.W.codeIn K cd6 "are_unlike" = true)
    (k6 : PySem.W.keepIn K (.ref f6) = true)
    (a7 : PySem.W.nsIn K mainGlobals "is_tuple" = some (some (.ref f7)))
    (l7 : K.lookup f7 = some ⟨oc7, od7, .func (PySem.W.fnOf "is_tuple" "is_tuple" (defArgs (top 7)) (defBody (top 7)) (defScope (top 7)) .none kV7 dc7 pm7 an7 cd7 ct7), sl7⟩)
    (c7 : PySem.W.codeIn K cd7 "is_tuple" = true)
    (k7 : PySem.W.keepIn K (.ref f7) = true)
    (a8 : PySem.W.nsIn K mainGlobals "is_integer" = some (some (.ref f8)))
    (l8 : K.lookup f8 = some ⟨oc8, od8, .func (PySem.W.fnOf "is_integer" "is_integer" (defArgs (top 5)) (defBody (top 5)) (defScope (top 5)) .none kV8 dc8 pm8 an8 cd8 ct8), sl8⟩)
    (c8 : PySem.W.codeIn K cd8 "is_integer" = true)
    (k8 : PySem.W.keepIn K (.ref f8) = true)
    (a9 : PySem.W.nsIn K mainGlobals "is_between" = some (some (.ref f9)))
    (l9 : K.lookup f9 = some ⟨oc9, od9, .func (PySem.W.fnOf "is_between" "is_between" (defArgs (top 6)) (defBody (top 6)) (defScope (top 6)) .none kV9 dc9 pm9 an9 cd9 ct9), sl9⟩)
    (c9 : PySem.W.codeIn K cd9 "is_between" = true)
    (k9 : PySem.W.keepIn K (.ref f9) = true)
    (a10 : PySem.W.nsIn K mainGlobals "is_name" = some (some (.ref f10)))
    (l10 : K.lookup f10 = some ⟨oc10, od10, .func (PySem.W.fnOf "is_name" "is_name" (defArgs (top 11)) (defBody (top 11)) (defScope (top 11)) .none kV10 dc10 pm10 an10 cd10 ct10), sl10⟩)
    (c10 : PySem.W.codeIn K cd10 "is_name" = true)
    (k10 : PySem.W.keepIn K (.ref f10) = true)
    (a11 : PySem.W.nsIn K mainGlobals "is_pair" = some (some (.ref f11)))
    (l11 : K.lookup f11 = some ⟨oc11, od11, .func (PySem.W.fnOf "is_pair" "is_pair" (defArgs (top 13)) (defBody (top 13)) (defScope (top 13)) .none kV11 dc11 pm11 an11 cd11 ct11), sl11⟩)
    (c11 : PySem.W.codeIn K cd11 "is_pair" = true)
    (k11 : PySem.W.keepIn K (.ref f11) = true)
    (a12 : PySem.W.nsIn K mainGlobals "is_a_renaming" = some (some (.ref f12)))
    (l12 : K.lookup f12 = some ⟨oc12, od12, .func (PySem.W.fnOf "is_a_renaming" "is_a_renaming" (defArgs (top 14)) (defBody (top 14)) (defScope (top 14)) .none kV12 dc12 pm12 an12 cd12 ct12), sl12⟩)
    (c12 : PySem.W.codeIn K cd12 "is_a_renaming" = true)
    (k12 : PySem.W.keepIn K (.ref f12) = true)
    (a13 : PySem.W.nsIn K mainGlobals "anew" = some (some (.ref f13)))
    (l13 : K.lookup f13 = some ⟨oc13, od13, .func (PySem.W.fnOf "anew" "anew" (defArgs (top 8)) (defBody (top 8)) (defScope (top 8)) .none kV13 dc13 pm13 an13 cd13 ct13), sl13⟩)
    (c13 : PySem.W.codeIn K cd13 "anew" = true)
    (k13 : PySem.W.keepIn K (.ref f13) = true)
    (a14 : PySem.W.nsIn K mainGlobals "need_renaming" = some (some (.ref f14)))
    (l14 : K.lookup f14 = some ⟨oc14, od14, .func (PySem.W.fnOf "need_renaming" "need_renaming" (defArgs (top 19)) (defBody (top 19)) (defScope (top 19)) .none kV14 dc14 pm14 an14 cd14 ct14), sl14⟩)
    (c14 : PySem.W.codeIn K cd14 "need_renaming" = true)
    (k14 : PySem.W.keepIn K (.ref f14) = true)
    (a15 : PySem.W.nsIn K mainGlobals "image" = some (some (.ref f15)))
    (l15 : K.lookup f15 = some ⟨oc15, od15, .func (PySem.W.fnOf "image" "image" (defArgs (top 15)) (defBody (top 15)) (defScope (top 15)) .none kV15 dc15 pm15 an15 cd15 ct15), sl15⟩)
    (c15 : PySem.W.codeIn K cd15 "image" = true)
    (k15 : PySem.W.keepIn K (.ref f15) = true)
    (a16 : PySem.W.nsIn K mainGlobals "images" = some (some (.ref f16)))
    (l16 : K.lookup f16 = some ⟨oc16, od16, .func (PySem.W.fnOf "images" "images" (defArgs (top 17)) (defBody (top 17)) (defScope (top 17)) .none kV16 dc16 pm16 an16 cd16 ct16), sl16⟩)
    (c16 : PySem.W.codeIn K cd16 "images" = true)
    (k16 : PySem.W.keepIn K (.ref f16) = true)
    (a17 : PySem.W.nsIn K mainGlobals "are_values" = some (some (.ref f17)))
    (l17 : K.lookup f17 = some ⟨oc17, od17, .func (PySem.W.fnOf "are_values" "are_values" (defArgs (top 18)) (defBody (top 18)) (defScope (top 18)) .none kV17 dc17 pm17 an17 cd17 ct17), sl17⟩)
    (c17 : PySem.W.codeIn K cd17 "are_values" = true)
    (k17 : PySem.W.keepIn K (.ref f17) = true)
    (a18 : PySem.W.nsIn K mainGlobals "renamed" = some (some (.ref f18)))
    (l18 : K.lookup f18 = some ⟨oc18, od18, .func (PySem.W.fnOf "renamed" "renamed" (defArgs (top 21)) (defBody (top 21)) (defScope (top 21)) .none kV18 dc18 pm18 an18 cd18 ct18), sl18⟩)
    (c18 : PySem.W.codeIn K cd18 "renamed" = true)
    (k18 : PySem.W.keepIn K (.ref f18) = true)
    (a19 : PySem.W.nsIn K mainGlobals "_law_refused" = some (some (.ref f19)))
    (l19 : K.lookup f19 = some ⟨oc19, od19, .func (PySem.W.fnOf "_law_refused" "_law_refused" (defArgs (top 31)) (defBody (top 31)) (defScope (top 31)) .none kV19 dc19 pm19 an19 cd19 ct19), sl19⟩)
    (c19 : PySem.W.codeIn K cd19 "_law_refused" = true)
    (k19 : PySem.W.keepIn K (.ref f19) = true)
    (a20 : PySem.W.nsIn K mainGlobals "_law_is_one" = some (some (.ref f20)))
    (l20 : K.lookup f20 = some ⟨oc20, od20, .func (PySem.W.fnOf "_law_is_one" "_law_is_one" (defArgs (top 29)) (defBody (top 29)) (defScope (top 29)) .none kV20 dc20 pm20 an20 cd20 ct20), sl20⟩)
    (c20 : PySem.W.codeIn K cd20 "_law_is_one" = true)
    (k20 : PySem.W.keepIn K (.ref f20) = true)
    (a21 : PySem.W.nsIn K mainGlobals "turned" = some (some (.ref f21)))
    (l21 : K.lookup f21 = some ⟨oc21, od21, .func (PySem.W.fnOf "turned" "turned" (defArgs (top 16)) (defBody (top 16)) (defScope (top 16)) .none kV21 dc21 pm21 an21 cd21 ct21), sl21⟩)
    (c21 : PySem.W.codeIn K cd21 "turned" = true)
    (k21 : PySem.W.keepIn K (.ref f21) = true)
    (a22 : PySem.W.nsIn K mainGlobals "contrary" = some (some (.ref f22)))
    (l22 : K.lookup f22 = some ⟨oc22, od22, .func (PySem.W.fnOf "contrary" "contrary" (defArgs (top 22)) (defBody (top 22)) (defScope (top 22)) .none kV22 dc22 pm22 an22 cd22 ct22), sl22⟩)
    (c22 : PySem.W.codeIn K cd22 "contrary" = true)
    (k22 : PySem.W.keepIn K (.ref f22) = true)
    (a23 : PySem.W.nsIn K mainGlobals "is_renaming" = some (some (.ref f23)))
    (l23 : K.lookup f23 = some ⟨oc23, od23, .func (PySem.W.fnOf "is_renaming" "is_renaming" (defArgs (top 20)) (defBody (top 20)) (defScope (top 20)) .none kV23 dc23 pm23 an23 cd23 ct23), sl23⟩)
    (c23 : PySem.W.codeIn K cd23 "is_renaming" = true)
    (k23 : PySem.W.keepIn K (.ref f23) = true)
    (a24 : PySem.W.nsIn K mainGlobals "law" = some (some (.ref f24)))
    (l24 : K.lookup f24 = some ⟨oc24, od24, .func (PySem.W.fnOf "law" "law" (defArgs (top 32)) (defBody (top 32)) (defScope (top 32)) .none kV24 dc24 pm24 an24 cd24 ct24), sl24⟩)
    (c24 : PySem.W.codeIn K cd24 "law" = true)
    (k24 : PySem.W.keepIn K (.ref f24) = true)
    (g_NOTHING : PySem.W.nsIn K mainGlobals "NOTHING" = some (some (.int (-1) t_NOTHING)))
    (aD : PySem.W.nsIn K mainGlobals "FreshError" = some (some (.ref D)))
    (isD : PySem.W.isClsIn K D = true)
    (opq : PySem.W.nsIn K PySem.cStatics "thirdparty.any" = some none)
    (nos : PySem.W.nsIn K mainGlobals "super" = some none)
    (x0_a : PySem.W.nsIn K mainGlobals "InvalidNames" = some (some (.ref C0)))
    (x0_l : K.lookup C0 = some (excClassObj nm0 q0 C0 N0 bs0 [.ref D, .type "ValueError", .type "Exception", .type "BaseException", .type "object"] true sn0 sub0 ab0 col0 dd0 m00 m10 m20 m30 m50 "ValueError.__new__"))
    (x0_sa : PySem.W.findIn K (.ref C0) "__setattr__" = some (some (.builtin "object.__setattr__")))
    (x0_ga : PySem.W.findIn K (.ref C0) "__getattribute__" = some (some (.builtin "BaseException.__getattribute__")))
    (x0_gg : PySem.W.findIn K (.ref C0) "__getattr__" = some none)
    (x0_nv : PySem.W.findIn K (.ref C0) "value" = some none)
    (x0_i : PySem.W.findIn K (.ref C0) "__init__" = some (some (.ref fI)))
    (x0_hd : PySem.W.hasDictIn K C0 = true)
    (x0_mr : PySem.W.mroIn K C0 (.ref D) = some true)
    (x0_su : PySem.W.ks_superIn K C0 D "__init__" = some (some (.builtin "ValueError.__init__")))
    (x0_ve : PySem.W.subIn K (.ref C0) (.type "ValueError") = some true)
    (x0_ex : PySem.W.subIn K (.ref C0) (.type "BaseException") = some true)
    (x0_ty : PySem.W.typeIn K (.ref C0) = some (.type "type"))
    (x0_k : PySem.W.keepIn K (.ref C0) = true)
    (x0_is : PySem.W.isClsIn K C0 = true)
    (x1_a : PySem.W.nsIn K mainGlobals "InvalidRenaming" = some (some (.ref C1)))
    (x1_l : K.lookup C1 = some (excClassObj nm1 q1 C1 N1 bs1 [.ref D, .type "ValueError", .type "Exception", .type "BaseException", .type "object"] true sn1 sub1 ab1 col1 dd1 m01 m11 m21 m31 m51 "ValueError.__new__"))
    (x1_sa : PySem.W.findIn K (.ref C1) "__setattr__" = some (some (.builtin "object.__setattr__")))
    (x1_ga : PySem.W.findIn K (.ref C1) "__getattribute__" = some (some (.builtin "BaseException.__getattribute__")))
    (x1_gg : PySem.W.findIn K (.ref C1) "__getattr__" = some none)
    (x1_nv : PySem.W.findIn K (.ref C1) "value" = some none)
    (x1_i : PySem.W.findIn K (.ref C1) "__init__" = some (some (.ref fI)))
    (x1_hd : PySem.W.hasDictIn K C1 = true)
    (x1_mr : PySem.W.mroIn K C1 (.ref D) = some true)
    (x1_su : PySem.W.ks_superIn K C1 D "__init__" = some (some (.builtin "ValueError.__init__")))
    (x1_ve : PySem.W.subIn K (.ref C1) (.type "ValueError") = some true)
    (x1_ex : PySem.W.subIn K (.ref C1) (.type "BaseException") = some true)
    (x1_ty : PySem.W.typeIn K (.ref C1) = some (.type "type"))
    (x1_k : PySem.W.keepIn K (.ref C1) = true)
    (x1_is : PySem.W.isClsIn K C1 = true)
    (tI : PySem.W.typeIn K (.ref fI) = some (.type "function"))
    (lI : K.lookup fI = some ⟨ocI, odI, .func (PySem.W.ksFn "__init__" "FreshError.__init__" Er.iA Er.iB Er.iS .none kVI dcI pmI anI (.ref cda) ctI cc), slI⟩)
    (cI : PySem.W.codeIn K (.ref cda) "FreshError.__init__" = true)
    (lc : K.lookup cda = some ⟨ccl, cdd, .fields vs, ccs⟩)
    (v2 : vs[2]? = some (.str file tf))
    (hf : ((l.prog.main.file : Str) == file) = true)
    (lcc : K.lookup cc = some ⟨cl, cld, .cell (some (.ref D)), csl⟩)
    (tp : (l.prog.main.scope.names.lookup ("super" : Str)).isSome = false)
    (s_InvalidNames_0 : PySem.W.subIn K (.ref C0) (.ref C0) = some true)
    (s_InvalidNames_1 : PySem.W.subIn K (.ref C1) (.ref C0) = some false)
    (s_InvalidRenaming_0 : PySem.W.subIn K (.ref C0) (.ref C1) = some false)
    (s_InvalidRenaming_1 : PySem.W.subIn K (.ref C1) (.ref C1) = some true) :
    ∃ fd : FuncData, (∀ (s : Shared) (u : Value), BindsTo s fd ⟨[u], []⟩ [("script", u)]) ∧ ∀ base : Heap, K.In base → base.Ns mainGlobals mg → FnG ⟨l.prog, w, K, mg, base⟩ 9 fa fd ["script"] (lawSp K) := by
  have e := hfa.symm.trans (PySem.W.mg_of X G a24)
  cases e
  have nb : NoB mg := by
    intro x hx
    simp only [bnames, List.mem_cons, List.not_mem_nil, or_false] at hx
    rcases hx with rfl | rfl | rfl | rfl | rfl | rfl | rfl | rfl | rfl | rfl | rfl | rfl | rfl | rfl | rfl | rfl | rfl | rfl | rfl | rfl
    · exact PySem.W.mg_none_of X G b_len
    · exact PySem.W.mg_none_of X G b_set
    · exact PySem.W.mg_none_of X G b_list
    · exact PySem.W.mg_none_of X G b_tuple
    · exact PySem.W.mg_none_of X G b_dict
    · exact PySem.W.mg_none_of X G b_sorted
    · exact PySem.W.mg_none_of X G b_repr
    · exact PySem.W.mg_none_of X G b_all
    · exact PySem.W.mg_none_of X G b_any
    · exact PySem.W.mg_none_of X G b_int
    · exact PySem.W.mg_none_of X G b_abs
    · exact PySem.W.mg_none_of X G b_max
    · exact PySem.W.mg_none_of X G b_min
    · exact PySem.W.mg_none_of X G b_range
    · exact PySem.W.mg_none_of X G b_zip
    · exact PySem.W.mg_none_of X G b_isinstance
    · exact PySem.W.mg_none_of X G b_bool
    · exact PySem.W.mg_none_of X G b_str
    · exact PySem.W.mg_none_of X G b_enumerate
    · exact PySem.W.mg_none_of X G b_sum
  have e_InvalidNames : ∀ base : Heap, ErX ⟨l.prog, w, K, mg, base⟩ "InvalidNames" := fun base => ⟨C0, D, fI, { oex := ⟨⟨_, _, _, _, _, _, _, _, _, _, _, _, _, _, _, x0_l, rfl⟩, x0_sa, x0_ex, x0_ty, x0_k⟩, noN := x0_nv, ga := x0_ga, gg := x0_gg, iC := x0_i, tC := tI, hdC := x0_hd, isD := isD, mro := x0_mr, sup := x0_su, veC := x0_ve, opq := opq, nos := nos, top := tp, fn := ⟨_, _, _, _, _, _, _, _, _, _, _, _, _, _, _, _, _, _, _, lI, cI, lc, v2, hf, lcc⟩ }, PySem.W.mg_of X G x0_a⟩
  have e_InvalidRenaming : ∀ base : Heap, ErX ⟨l.prog, w, K, mg, base⟩ "InvalidRenaming" := fun base => ⟨C1, D, fI, { oex := ⟨⟨_, _, _, _, _, _, _, _, _, _, _, _, _, _, _, x1_l, rfl⟩, x1_sa, x1_ex, x1_ty, x1_k⟩, noN := x1_nv, ga := x1_ga, gg := x1_gg, iC := x1_i, tC := tI, hdC := x1_hd, isD := isD, mro := x1_mr, sup := x1_su, veC := x1_ve, opq := opq, nos := nos, top := tp, fn := ⟨_, _, _, _, _, _, _, _, _, _, _, _, _, _, _, _, _, _, _, lI, cI, lc, v2, hf, lcc⟩ }, PySem.W.mg_of X G x1_a⟩
  have n_InvalidNames : mg "InvalidNames" = some (.ref C0) := PySem.W.mg_of X G x0_a
  have tk_InvalidNames : ∀ base : Heap, Takes1 ⟨l.prog, w, K, mg, base⟩ (.ref C0) mt_InvalidNames := by
    intro base x b hx
    unfold mt_InvalidNames at hx
    split at hx
    · rename_i c
      subst c
      cases hx
      refine ⟨e_InvalidNames base, fun C hC => ?_⟩
      have e := hC.symm.trans (PySem.W.mg_of X G x0_a)
      cases e
      exact exm_by x0_ex x0_is x0_ty s_InvalidNames_0
    split at hx
    · rename_i c
      subst c
      cases hx
      refine ⟨e_InvalidRenaming base, fun C hC => ?_⟩
      have e := hC.symm.trans (PySem.W.mg_of X G x1_a)
      cases e
      exact exm_by x0_ex x0_is x0_ty s_InvalidNames_1
    cases hx
  have n_InvalidRenaming : mg "InvalidRenaming" = some (.ref C1) := PySem.W.mg_of X G x1_a
  have tk_InvalidRenaming : ∀ base : Heap, Takes1 ⟨l.prog, w, K, mg, base⟩ (.ref C1) mt_InvalidRenaming := by
    intro base x b hx
    unfold mt_InvalidRenaming at hx
    split at hx
    · rename_i c
      subst c
      cases hx
      refine ⟨e_InvalidNames base, fun C hC => ?_⟩
      have e := hC.symm.trans (PySem.W.mg_of X G x0_a)
      cases e
      exact exm_by x1_ex x1_is x1_ty s_InvalidRenaming_0
    split at hx
    · rename_i c
      subst c
      cases hx
      refine ⟨e_InvalidRenaming base, fun C hC => ?_⟩
      have e := hC.symm.trans (PySem.W.mg_of X G x1_a)
      cases e
      exact exm_by x1_ex x1_is x1_ty s_InvalidRenaming_1
    cases hx
  have F0 := fun_mk (st := top 24) l0 c0 k0
  have F1 := fun_mk (st := top 25) l1 c1 k1
  have F2 := fun_mk (st := top 28) l2 c2 k2
  have F3 := fun_mk (st := top 30) l3 c3 k3
  have F4 := fun_mk (st := top 27) l4 c4 k4
  have F5 := fun_mk (st := top 26) l5 c5 k5
  have F6 := fun_mk (st := top 12) l6 c6 k6
  have F7 := fun_mk (st := top 7) l7 c7 k7
  have F8 := fun_mk (st := top 5) l8 c8 k8
  have F9 := fun_mk (st := top 6) l9 c9 k9
  have F10 := fun_mk (st := top 11) l10 c10 k10
  have F11 := fun_mk (st := top 13) l11 c11 k11
  have F12 := fun_mk (st := top 14) l12 c12 k12
  have F13 := fun_mk (st := top 8) l13 c13 k13
  have F14 := fun_mk (st := top 19) l14 c14 k14
  have F15 := fun_mk (st := top 15) l15 c15 k15
  have F16 := fun_mk (st := top 17) l16 c16 k16
  have F17 := fun_mk (st := top 18) l17 c17 k17
  have F18 := fun_mk (st := top 21) l18 c18 k18
  have F19 := fun_mk (st := top 31) l19 c19 k19
  have F20 := fun_mk (st := top 29) l20 c20 k20
  have F21 := fun_mk (st := top 16) l21 c21 k21
  have F22 := fun_mk (st := top 22) l22 c22 k22
  have F23 := fun_mk (st := top 20) l23 c23 k23
  have F24 := fun_mk (st := top 32) l24 c24 k24
  refine ⟨PySem.W.fnOf "law" "law" (defArgs (top 32)) (defBody (top 32)) (defScope (top 32)) .none kV24 dc24 pm24 an24 cd24 ct24, fun s u => .of_eq rfl, fun base _ _ => ?_⟩
  refine law_end (g := ⟨l.prog, w, K, mg, base⟩) ?_ law_true
  have o__law_urn := ok__law_urn (g := ⟨l.prog, w, K, mg, base⟩) nb  F0 (PySem.W.mg_of X G a0)
  have o__law_out := ok__law_out (g := ⟨l.prog, w, K, mg, base⟩) nb  F1 (PySem.W.mg_of X G a1)
  have o__law_renaming := ok__law_renaming (g := ⟨l.prog, w, K, mg, base⟩) nb o__law_out F2 (PySem.W.mg_of X G a2)
  have o__law_led := ok__law_led (g := ⟨l.prog, w, K, mg, base⟩) nb  F3 (PySem.W.mg_of X G a3)
  have o__law_odd := ok__law_odd (g := ⟨l.prog, w, K, mg, base⟩) nb o__law_out F4 (PySem.W.mg_of X G a4)
  have o__law_bent := ok__law_bent (g := ⟨l.prog, w, K, mg, base⟩) nb o__law_odd o__law_out F5 (PySem.W.mg_of X G a5)
  have o_are_unlike := ok_are_unlike (g := ⟨l.prog, w, K, mg, base⟩) nb  F6 (PySem.W.mg_of X G a6)
  have o_is_tuple := ok_is_tuple (g := ⟨l.prog, w, K, mg, base⟩) nb  F7 (PySem.W.mg_of X G a7)
  have o_is_integer := ok_is_integer (g := ⟨l.prog, w, K, mg, base⟩) nb  F8 (PySem.W.mg_of X G a8)
  have o_is_between := ok_is_between (g := ⟨l.prog, w, K, mg, base⟩) nb o_is_integer F9 (PySem.W.mg_of X G a9)
  have o_is_name := ok_is_name (g := ⟨l.prog, w, K, mg, base⟩) nb o_is_between F10 (PySem.W.mg_of X G a10)
  have o_is_pair := ok_is_pair (g := ⟨l.prog, w, K, mg, base⟩) nb o_is_tuple o_is_name F11 (PySem.W.mg_of X G a11)
  have o_is_a_renaming := ok_is_a_renaming (g := ⟨l.prog, w, K, mg, base⟩) nb o_are_unlike o_is_pair F12 (PySem.W.mg_of X G a12)
  have o_anew := ok_anew (g := ⟨l.prog, w, K, mg, base⟩) nb  F13 (PySem.W.mg_of X G a13)
  have o_need_renaming := ok_need_renaming (g := ⟨l.prog, w, K, mg, base⟩) nb o_is_a_renaming o_anew (e_InvalidRenaming base) F14 (PySem.W.mg_of X G a14)
  have o_image := ok_image (g := ⟨l.prog, w, K, mg, base⟩) nb ⟨_, PySem.W.mg_of X G g_NOTHING⟩ F15 (PySem.W.mg_of X G a15)
  have o_images := ok_images (g := ⟨l.prog, w, K, mg, base⟩) nb o_image F16 (PySem.W.mg_of X G a16)
  have o_are_values := ok_are_values (g := ⟨l.prog, w, K, mg, base⟩) nb o_is_between ⟨_, PySem.W.mg_of X G g_NOTHING⟩ F17 (PySem.W.mg_of X G a17)
  have o_renamed := ok_renamed (g := ⟨l.prog, w, K, mg, base⟩) nb o_need_renaming o_images o_are_values o_anew (e_InvalidNames base) F18 (PySem.W.mg_of X G a18)
  have o__law_refused := ok__law_refused (g := ⟨l.prog, w, K, mg, base⟩) nb o_renamed n_InvalidNames (tk_InvalidNames base) n_InvalidRenaming (tk_InvalidRenaming base) F19 (PySem.W.mg_of X G a19)
  have o__law_is_one := ok__law_is_one (g := ⟨l.prog, w, K, mg, base⟩) nb  F20 (PySem.W.mg_of X G a20)
  have o_turned := ok_turned (g := ⟨l.prog, w, K, mg, base⟩) nb  F21 (PySem.W.mg_of X G a21)
  have o_contrary := ok_contrary (g := ⟨l.prog, w, K, mg, base⟩) nb o_need_renaming o_turned F22 (PySem.W.mg_of X G a22)
  have o_is_renaming := ok_is_renaming (g := ⟨l.prog, w, K, mg, base⟩) nb o_is_a_renaming F23 (PySem.W.mg_of X G a23)
  exact at_law (g := ⟨l.prog, w, K, mg, base⟩) nb o__law_urn o__law_renaming o__law_led o__law_bent o__law_out o__law_refused o_renamed o__law_is_one o_contrary o_is_renaming F24 (PySem.W.mg_of X G a24)
end K00
open PySem PySem.W PyProof.Rows
set_option maxRecDepth 100000 in
set_option maxHeartbeats 0 in
theorem PySem.Challenge.cw_freshshapes_k00_names_led_by_renamings_holds : PySem.Challenge.rw_freshshapes_k00_names_led_by_renamings.Holds := by
  w_on; o_law; k_head; (case hw => w_witness2)
  k_fill
  refine Fz.walk_law (l := PySem.Challenge.rw_freshshapes_k00_names_led_by_renamings) (k := 9) rfl rfl ⟨⟨rfl, by decide, by decide⟩, rfl⟩ (fun w h Y => PySem.W.kIn_of Y) ?F
  case F =>
    intro w mg fa h KX G hmg
    refine' K00.all_mk K00.law_true KX G hmg ?b_len ?b_set ?b_list ?b_tuple ?b_dict ?b_sorted ?b_repr ?b_all ?b_any ?b_int ?b_abs ?b_max ?b_min ?b_range ?b_zip ?b_isinstance ?b_bool ?b_str ?b_enumerate ?b_sum ?a0 ?l0 ?c0 ?k0 ?a1 ?l1 ?c1 ?k1 ?a2 ?l2 ?c2 ?k2 ?a3 ?l3 ?c3 ?k3 ?a4 ?l4 ?c4 ?k4 ?a5 ?l5 ?c5 ?k5 ?a6 ?l6 ?c6 ?k6 ?a7 ?l7 ?c7 ?k7 ?a8 ?l8 ?c8 ?k8 ?a9 ?l9 ?c9 ?k9 ?a10 ?l10 ?c10 ?k10 ?a11 ?l11 ?c11 ?k11 ?a12 ?l12 ?c12 ?k12 ?a13 ?l13 ?c13 ?k13 ?a14 ?l14 ?c14 ?k14 ?a15 ?l15 ?c15 ?k15 ?a16 ?l16 ?c16 ?k16 ?a17 ?l17 ?c17 ?k17 ?a18 ?l18 ?c18 ?k18 ?a19 ?l19 ?c19 ?k19 ?a20 ?l20 ?c20 ?k20 ?a21 ?l21 ?c21 ?k21 ?a22 ?l22 ?c22 ?k22 ?a23 ?l23 ?c23 ?k23 ?a24 ?l24 ?c24 ?k24 ?g_NOTHING ?aD ?isD ?opq ?nos ?x0_a ?x0_l ?x0_sa ?x0_ga ?x0_gg ?x0_nv ?x0_i ?x0_hd ?x0_mr ?x0_su ?x0_ve ?x0_ex ?x0_ty ?x0_k ?x0_is ?x1_a ?x1_l ?x1_sa ?x1_ga ?x1_gg ?x1_nv ?x1_i ?x1_hd ?x1_mr ?x1_su ?x1_ve ?x1_ex ?x1_ty ?x1_k ?x1_is ?tI ?lI ?cI ?lc ?v2 ?hf ?lcc ?tp ?s_InvalidNames_0 ?s_InvalidNames_1 ?s_InvalidRenaming_0 ?s_InvalidRenaming_1
    (case b_len => k_is)
    (case b_set => k_is)
    (case b_list => k_is)
    (case b_tuple => k_is)
    (case b_dict => k_is)
    (case b_sorted => k_is)
    (case b_repr => k_is)
    (case b_all => k_is)
    (case b_any => k_is)
    (case b_int => k_is)
    (case b_abs => k_is)
    (case b_max => k_is)
    (case b_min => k_is)
    (case b_range => k_is)
    (case b_zip => k_is)
    (case b_isinstance => k_is)
    (case b_bool => k_is)
    (case b_str => k_is)
    (case b_enumerate => k_is)
    (case b_sum => k_is)
    (case a0 => k_is)
    (case l0 => k_is)
    (case c0 => k_is)
    (case k0 => k_is)
    (case a1 => k_is)
    (case l1 => k_is)
    (case c1 => k_is)
    (case k1 => k_is)
    (case a2 => k_is)
    (case l2 => k_is)
    (case c2 => k_is)
    (case k2 => k_is)
    (case a3 => k_is)
    (case l3 => k_is)
    (case c3 => k_is)
    (case k3 => k_is)
    (case a4 => k_is)
    (case l4 => k_is)
    (case c4 => k_is)
    (case k4 => k_is)
    (case a5 => k_is)
    (case l5 => k_is)
    (case c5 => k_is)
    (case k5 => k_is)
    (case a6 => k_is)
    (case l6 => k_is)
    (case c6 => k_is)
    (case k6 => k_is)
    (case a7 => k_is)
    (case l7 => k_is)
    (case c7 => k_is)
    (case k7 => k_is)
    (case a8 => k_is)
    (case l8 => k_is)
    (case c8 => k_is)
    (case k8 => k_is)
    (case a9 => k_is)
    (case l9 => k_is)
    (case c9 => k_is)
    (case k9 => k_is)
    (case a10 => k_is)
    (case l10 => k_is)
    (case c10 => k_is)
    (case k10 => k_is)
    (case a11 => k_is)
    (case l11 => k_is)
    (case c11 => k_is)
    (case k11 => k_is)
    (case a12 => k_is)
    (case l12 => k_is)
    (case c12 => k_is)
    (case k12 => k_is)
    (case a13 => k_is)
    (case l13 => k_is)
    (case c13 => k_is)
    (case k13 => k_is)
    (case a14 => k_is)
    (case l14 => k_is)
    (case c14 => k_is)
    (case k14 => k_is)
    (case a15 => k_is)
    (case l15 => k_is)
    (case c15 => k_is)
    (case k15 => k_is)
    (case a16 => k_is)
    (case l16 => k_is)
    (case c16 => k_is)
    (case k16 => k_is)
    (case a17 => k_is)
    (case l17 => k_is)
    (case c17 => k_is)
    (case k17 => k_is)
    (case a18 => k_is)
    (case l18 => k_is)
    (case c18 => k_is)
    (case k18 => k_is)
    (case a19 => k_is)
    (case l19 => k_is)
    (case c19 => k_is)
    (case k19 => k_is)
    (case a20 => k_is)
    (case l20 => k_is)
    (case c20 => k_is)
    (case k20 => k_is)
    (case a21 => k_is)
    (case l21 => k_is)
    (case c21 => k_is)
    (case k21 => k_is)
    (case a22 => k_is)
    (case l22 => k_is)
    (case c22 => k_is)
    (case k22 => k_is)
    (case a23 => k_is)
    (case l23 => k_is)
    (case c23 => k_is)
    (case k23 => k_is)
    (case a24 => k_is)
    (case l24 => k_is)
    (case c24 => k_is)
    (case k24 => k_is)
    (case g_NOTHING => k_is)
    (case aD => k_is)
    (case isD => k_is)
    (case opq => k_is)
    (case nos => k_is)
    (case x0_a => k_is)
    (case x0_l => k_is)
    (case x0_sa => k_is)
    (case x0_ga => k_is)
    (case x0_gg => k_is)
    (case x0_nv => k_is)
    (case x0_i => k_is)
    (case x0_hd => k_is)
    (case x0_mr => k_is)
    (case x0_su => first | ks_is | k_is)
    (case x0_ve => k_is)
    (case x0_ex => k_is)
    (case x0_ty => k_is)
    (case x0_k => k_is)
    (case x0_is => k_is)
    (case x1_a => k_is)
    (case x1_l => k_is)
    (case x1_sa => k_is)
    (case x1_ga => k_is)
    (case x1_gg => k_is)
    (case x1_nv => k_is)
    (case x1_i => k_is)
    (case x1_hd => k_is)
    (case x1_mr => k_is)
    (case x1_su => first | ks_is | k_is)
    (case x1_ve => k_is)
    (case x1_ex => k_is)
    (case x1_ty => k_is)
    (case x1_k => k_is)
    (case x1_is => k_is)
    (case tI => k_is)
    (case lI => k_is)
    (case cI => k_is)
    (case lc => k_is)
    (case v2 => rfl)
    (case hf => first | rfl | decide +kernel)
    (case lcc => k_is)
    (case tp => first | rfl | decide +kernel)
    (case s_InvalidNames_0 => first | rfl | k_is)
    (case s_InvalidNames_1 => first | rfl | k_is)
    (case s_InvalidRenaming_0 => first | rfl | k_is)
    (case s_InvalidRenaming_1 => first | rfl | k_is)


