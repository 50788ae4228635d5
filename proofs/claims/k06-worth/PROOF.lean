import PyProof.Rows.All
import Wide.All
import OpenK.AllK
import Wide.FinOn
import KE.KStateDown
import HandS.ForMost
import HandS.ForExc
import HandS.HeadHook1
import HandS.TupAny
import HandS.Style
import HandS.IsInst
import HandS.Deep
import HandS.Gcd
import HandS.Wide
import HandS.Defaults
import HandS.CallSlots
import HandS.WordsExc
import HandS.HeadHook4
import HandS.HeadEnd
import HandS.Head3
import HandS.Head2
import HandS.More
import PySem.Challenge.RW_crossededges_k06_worth_counts_points
set_option Elab.async false
set_option linter.all false
set_option maxRecDepth 100000
set_option maxHeartbeats 4000000
/-! Pure readings: what a piece of Python computes as a function on plain data, over the hand layer. -/
namespace Pu
open PySem PySem.Spec PyProof.Rows L2
set_option autoImplicit false
abbrev St := L2.St

/-! ### data and how a value stands for it -/
inductive D where
  | non | bl (b : Bool) | int (i : Int) | str (s : Str) | lst (xs : List D) | tup (xs : List D) | obj (c : Str) (fs : List (Str × D))
  /-- the law's own argument -/
  | scr (ns : List Int)

mutual
inductive Rp (K : PySem.W.Frag) (F : Hp) : V → D → Prop
  | non : Rp K F .non .non
  | bl (b : Bool) : Rp K F (.bl b) (.bl b)
  | int (i : Int) : Rp K F (.int i) (.int i)
  | str (x : Str) : Rp K F (.str x) (.str x)
  | lst {a : Addr} {xs : List V} {ds : List D} : F a = some (.lst xs) → RpA K F xs ds → Rp K F (.ref a) (.lst ds)
  | scr {a : Addr} {ns : List Int} : SqL K F a (ns.map V.int) → Rp K F (.ref a) (.scr ns)
  | tup {a : Addr} {xs : List V} {ds : List D} : SqT K F a xs → RpA K F xs ds → Rp K F (.ref a) (.tup ds)
  | obj {a dx : Addr} {c : Str} {fvs : List (Str × V)} {fs : List (Str × D)} : F a = some (.ins (He.ga K c) dx fvs) → RpF K F fvs fs → Rp K F (.ref a) (.obj c fs)
inductive RpA (K : PySem.W.Frag) (F : Hp) : List V → List D → Prop
  | nil : RpA K F [] []
  | cons {v : V} {vs : List V} {d : D} {ds : List D} : Rp K F v d → RpA K F vs ds → RpA K F (v :: vs) (d :: ds)
inductive RpF (K : PySem.W.Frag) (F : Hp) : List (Str × V) → List (Str × D) → Prop
  | nil : RpF K F [] []
  | cons {n : Str} {v : V} {vs : List (Str × V)} {d : D} {ds : List (Str × D)} : Rp K F v d → RpF K F vs ds → RpF K F ((n, v) :: vs) ((n, d) :: ds)
end

section
variable {K : PySem.W.Frag} {F F' H H' : Hp}
theorem seqT_mono {a : Addr} {xs : List V} (e : Same F F') (h : SqT K F a xs) : SqT K F' a xs := by
  rcases h with (h | ⟨o, h⟩) | h
  · exact .inl (.inl (e _ _ h))
  · exact .inl (.inr ⟨o, e _ _ h⟩)
  · exact .inr h
mutual
theorem Rp.mono (e : Same F F') {v : V} {d : D} : Rp K F v d → Rp K F' v d
  | .non => .non
  | .bl b => .bl b
  | .int i => .int i
  | .str x => .str x
  | .lst s r => .lst (e _ _ s) (RpA.mono e r)
  | .scr s => .scr (e.seq s)
  | .tup s r => .tup (seqT_mono e s) (RpA.mono e r)
  | .obj h r => .obj (e _ _ h) (RpF.mono e r)
theorem RpA.mono (e : Same F F') {v : List V} {d : List D} : RpA K F v d → RpA K F' v d
  | .nil => .nil
  | .cons h r => .cons (Rp.mono e h) (RpA.mono e r)
theorem RpF.mono (e : Same F F') {v : List (Str × V)} {d : List (Str × D)} : RpF K F v d → RpF K F' v d
  | .nil => .nil
  | .cons h r => .cons (Rp.mono e h) (RpF.mono e r)
end
theorem RpA.length : ∀ {vs : List V} {ds : List D}, RpA K F vs ds → vs.length = ds.length
  | _, _, .nil => rfl
  | _, _, .cons _ r => congrArg Nat.succ (RpA.length r)
theorem RpA.append : ∀ {vs ws : List V} {ds es : List D}, RpA K F vs ds → RpA K F ws es → RpA K F (vs ++ ws) (ds ++ es)
  | _, _, _, _, .nil, s => s
  | _, _, _, _, .cons r t, s => .cons r (RpA.append t s)
theorem RpA.get : ∀ {vs : List V} {ds : List D} {i : Nat} {d : D}, RpA K F vs ds → ds[i]? = some d → ∃ v, vs[i]? = some v ∧ Rp K F v d
  | _, _, _, _, .nil, e => by simp at e
  | _, _, 0, _, .cons r _, e => by simp at e; subst e; exact ⟨_, rfl, r⟩
  | _, _, i + 1, _, .cons _ t, e => by
    obtain ⟨v, h1, h2⟩ := RpA.get (i := i) t (by simpa using e)
    exact ⟨v, by simpa using h1, h2⟩
theorem RpA.take : ∀ {vs : List V} {ds : List D} (n : Nat), RpA K F vs ds → RpA K F (vs.take n) (ds.take n)
  | _, _, 0, _ => .nil
  | _, _, _ + 1, .nil => .nil
  | _, _, n + 1, .cons r t => .cons r (RpA.take n t)
theorem RpA.drop : ∀ {vs : List V} {ds : List D} (n : Nat), RpA K F vs ds → RpA K F (vs.drop n) (ds.drop n)
  | _, _, 0, r => r
  | _, _, _ + 1, .nil => .nil
  | _, _, n + 1, .cons _ t => RpA.drop n t
theorem RpA.set {v : V} {d : D} (r : Rp K F v d) : ∀ {vs : List V} {ds : List D} (i : Nat), RpA K F vs ds → RpA K F (vs.set i v) (ds.set i d)
  | _, _, _, .nil => .nil
  | _, _, 0, .cons _ t => .cons r t
  | _, _, i + 1, .cons q t => .cons q (RpA.set r i t)
theorem RpA.eraseIdx : ∀ {vs : List V} {ds : List D} (i : Nat), RpA K F vs ds → RpA K F (vs.eraseIdx i) (ds.eraseIdx i)
  | _, _, _, .nil => .nil
  | _, _, 0, .cons _ t => t
  | _, _, i + 1, .cons q t => .cons q (RpA.eraseIdx i t)
theorem RpA.reverse : ∀ {vs : List V} {ds : List D}, RpA K F vs ds → RpA K F vs.reverse ds.reverse
  | _, _, .nil => .nil
  | _, _, .cons r t => by
    rw [List.reverse_cons, List.reverse_cons]
    exact (RpA.reverse t).append (.cons r .nil)
theorem RpA.ints : ∀ {vs : List V} {ns : List Int}, RpA K F vs (ns.map D.int) → vs = ns.map V.int
  | _, [], h => by cases h; rfl
  | _, n :: ns, h => by
    cases h with
    | cons r t =>
      cases r
      rw [RpA.ints t]
      rfl
theorem RpA.ofInts : ∀ (ns : List Int), RpA K F (ns.map V.int) (ns.map D.int)
  | [] => .nil
  | n :: ns => .cons (.int n) (RpA.ofInts ns)
theorem RpA.bls : ∀ {vs : List V} {ns : List Bool}, RpA K F vs (ns.map D.bl) → vs = ns.map V.bl
  | _, [], h => by cases h; rfl
  | _, n :: ns, h => by
    cases h with
    | cons r t =>
      cases r
      rw [RpA.bls t]
      rfl
theorem RpA.strs : ∀ {vs : List V} {ns : List Str}, RpA K F vs (ns.map D.str) → vs = ns.map V.str
  | _, [], h => by cases h; rfl
  | _, n :: ns, h => by
    cases h with
    | cons r t =>
      cases r
      rw [RpA.strs t]
      rfl
theorem RpA.ofStrs : ∀ (ns : List Str), RpA K F (ns.map V.str) (ns.map D.str)
  | [] => .nil
  | n :: ns => .cons (.str n) (RpA.ofStrs ns)
theorem same_upd {p : Addr} {o : HO} (h : F p = none) : Same F (upd F p o) := fun b u e => by rw [upd_ne (ne_of_none e h)]; exact e
theorem same_upd2 {p : Addr} {o : HO} (h : Same F H) : Same (upd F p o) (upd H p o) := fun b u e => by
  by_cases hb : b = p
  · subst hb; rw [upd_same] at e ⊢; exact e
  · rw [upd_ne hb] at e ⊢; exact h _ _ e
end

/-! ### the slots -/
/-- what an own object holds -/
inductive Ct where
  | l (ds : List D) | d (kvs : List (Key × D))
inductive Slot where
  | em | sh (d : D) | ow (c : Ct)
abbrev En := List Slot
def Slot.own : Slot → Bool
  | .ow _ => true
  | _ => false
abbrev RpK (K : PySem.W.Frag) (F : Hp) : List (Key × V) → List (Key × D) → Prop := Paired fun p q => p.1 = q.1 ∧ Rp K F p.2 q.2
def CtOk (K : PySem.W.Frag) (F : Hp) : HO → Ct → Prop
  | .lst xs, .l ds => RpA K F xs ds
  | .dK kvv, .d kvs => RpK K F kvv kvs
  | _, _ => False
theorem CtOk.mono {K : PySem.W.Frag} {F F' : Hp} (S : Same F F') : ∀ {o : HO} {c : Ct}, CtOk K F o c → CtOk K F' o c
  | .lst _, .l _, h => RpA.mono S h
  | .dK _, .d _, h => L2.Paired.mapP (show RpK K F _ _ from h) fun _ _ z => ⟨z.1, z.2.mono S⟩
  | .lst _, .d _, h => h.elim
  | .dK _, .l _, h => h.elim
  | .tup _, .l _, h => h.elim
  | .tup _, .d _, h => h.elim
  | .dT _, .l _, h => h.elim
  | .dT _, .d _, h => h.elim
  | .set _ _, .l _, h => h.elim
  | .set _ _, .d _, h => h.elim
  | .ins _ _ _, .l _, h => h.elim
  | .ins _ _ _, .d _, h => h.elim
  | .own _, .l _, h => h.elim
  | .own _, .d _, h => h.elim
  | .xd _, .l _, h => h.elim
  | .xd _, .d _, h => h.elim
  | .met _ _, .l _, h => h.elim
  | .met _ _, .d _, h => h.elim
  | .rng _ _, .l _, h => h.elim
  | .rng _ _, .d _, h => h.elim
  | .frz _ _, .l _, h => h.elim
  | .frz _ _, .d _, h => h.elim
  | .tbl _, .l _, h => h.elim
  | .tbl _, .d _, h => h.elim
  | .ext _, .l _, h => h.elim
  | .ext _, .d _, h => h.elim
theorem CtOk.l {K : PySem.W.Frag} {F : Hp} {o : HO} {ds : List D} (h : CtOk K F o (.l ds)) : ∃ xs, o = .lst xs ∧ RpA K F xs ds := by
  cases o with
  | lst xs => exact ⟨xs, rfl, h⟩
  | _ => exact h.elim
theorem CtOk.d {K : PySem.W.Frag} {F : Hp} {o : HO} {kvs : List (Key × D)} (h : CtOk K F o (.d kvs)) : ∃ kvv, o = .dK kvv ∧ RpK K F kvv kvs := by
  cases o with
  | dK xs => exact ⟨xs, rfl, h⟩
  | _ => exact h.elim
def SlOk (K : PySem.W.Frag) (F H : Hp) (ov : Option (Option V)) : Slot → Prop
  | .em => True
  | .sh d => ∃ v, ov = some (some v) ∧ Rp K F v d
  | .ow c => ∃ a o, ov = some (some (.ref a)) ∧ F a = none ∧ H a = some o ∧ CtOk K F o c
structure J (K : PySem.W.Frag) (F H : Hp) (σ : St) (ρ : En) : Prop where
  sub : Same F H
  len : σ.length = ρ.length
  at_ : ∀ (i : Nat) (s : Slot), ρ[i]? = some s → SlOk K F H σ[i]? s
  inj : ∀ (i j : Nat) (a : Addr) (s t : Slot), ρ[i]? = some s → ρ[j]? = some t → s.own = true → t.own = true → σ[i]? = some (some (.ref a)) → σ[j]? = some (some (.ref a)) → i = j
def Own (σ : St) (ρ : En) (a : Addr) : Prop := ∃ (i : Nat) (s : Slot), ρ[i]? = some s ∧ s.own = true ∧ σ[i]? = some (some (.ref a))
structure Ext (O O' : Addr → Prop) (F H F' H' : Hp) : Prop where
  sub : Same F F'
  new : ∀ a o, F' a = some o → F a = some o ∨ H a = none ∨ O a
  keep : ∀ a o, H a = some o → ¬ O a → H' a = some o
  own : ∀ a, O' a → O a ∨ H a = none
section
variable {K : PySem.W.Frag} {O O1 O2 : Addr → Prop} {F H F1 H1 F2 H2 : Hp} {σ : St} {ρ : En}
theorem Ext.refl : Ext O O F H F H := ⟨Same.refl _, fun _ _ e => .inl e, fun _ _ e _ => e, fun _ e => .inl e⟩
theorem Ext.lost (x : Ext O O1 F H F1 H1) {a : Addr} (h : H1 a = none) : O a ∨ H a = none := by
  by_cases ho : O a
  · exact .inl ho
  · cases e : H a with
    | none => exact .inr rfl
    | some o =>
      rw [x.keep a o e ho] at h
      cases h
theorem Ext.trans (x : Ext O O1 F H F1 H1) (y : Ext O1 O2 F1 H1 F2 H2) : Ext O O2 F H F2 H2 where
  sub := x.sub.trans y.sub
  new := fun a o e => by
    rcases y.new a o e with e | e | e
    · exact x.new a o e
    · exact .inr (x.lost e).symm
    · exact .inr (x.own a e).symm
  keep := fun a o e n => y.keep a o (x.keep a o e n) fun z => by
    rcases x.own a z with z | z
    · exact n z
    · rw [z] at e; cases e
  own := fun a e => by
    rcases y.own a e with e | e
    · exact x.own a e
    · exact x.lost e
/-- what is new beside a state that a rule hands on -/
theorem SlOk.mono {ov : Option (Option V)} (h1 : Same F F1) (h2 : ∀ a o, H a = some o → F a = none → F1 a = none ∧ H1 a = some o) : ∀ {s : Slot}, SlOk K F H ov s → SlOk K F1 H1 ov s
  | .em, _ => trivial
  | .sh d, ⟨v, e, r⟩ => ⟨v, e, r.mono h1⟩
  | .ow c, ⟨a, o, e, f, h, r⟩ => ⟨a, o, e, (h2 a _ h f).1, (h2 a _ h f).2, r.mono h1⟩
theorem J.free (j : J K F H σ ρ) {p : Addr} (h : H p = none) : F p = none := j.sub.free h
theorem J.alloc (j : J K F H σ ρ) {p : Addr} {o : HO} (hp : H p = none) : J K (upd F p o) (upd H p o) σ ρ where
  sub := same_upd2 j.sub
  len := j.len
  at_ := fun i s e => (j.at_ i s e).mono (same_upd (j.free hp)) fun a u h f => by
    have ne := ne_of_none h hp
    rw [upd_ne ne, upd_ne ne]
    exact ⟨f, h⟩
  inj := j.inj
/-- a new object that is not (yet) data -/
theorem J.beside (j : J K F H σ ρ) {p : Addr} {o : HO} (hp : H p = none) : J K F (upd H p o) σ ρ where
  sub := j.sub.trans (same_upd hp)
  len := j.len
  at_ := fun i s e => (j.at_ i s e).mono (Same.refl _) fun a u h f => by
    have ne := ne_of_none h hp
    rw [upd_ne ne]
    exact ⟨f, h⟩
  inj := j.inj
theorem Ext.alloc (j : J K F H σ ρ) {p : Addr} {o : HO} (hp : H p = none) : Ext O O F H (upd F p o) (upd H p o) where
  sub := same_upd (j.free hp)
  new := fun a u e => by
    by_cases ha : a = p
    · subst ha; exact .inr (.inl hp)
    · rw [upd_ne ha] at e; exact .inl e
  keep := fun a u e _ => by rw [upd_ne (ne_of_none e hp)]; exact e
  own := fun _ e => .inl e
theorem Ext.beside {p : Addr} {o : HO} (hp : H p = none) : Ext O O F H F (upd H p o) where
  sub := Same.refl _
  new := fun a u e => .inl e
  keep := fun a u e _ => by rw [upd_ne (ne_of_none e hp)]; exact e
  own := fun _ e => .inl e
end

/-! ### results -/
/-- an own exception: its class, its fields -/
structure Exn where
  cls : Str
  fs : List (Str × D)
inductive R (α : Type) where
  | ok (a : α) (ρ : En) | ex (x : Exn) (ρ : En) | bad
def R.bind {α β : Type} (r : R α) (k : α → En → R β) : R β := match r with
  | .ok a ρ => k a ρ
  | .ex x ρ => .ex x ρ
  | .bad => .bad
def R.of {α : Type} (o : Option α) (ρ : En) : R α := match o with
  | some a => .ok a ρ
  | none => .bad
def XRep (K : PySem.W.Frag) (F : Hp) (c : Value) (dd : Option Addr) (x : Exn) : Prop :=
  c = .ref (He.ga K x.cls) ∧ (x.fs = [] ∨ ∃ da fvs, dd = some da ∧ F da = some (.xd fvs) ∧ RpF K F fvs x.fs)
section
variable {α β γ δ : Type}
/-- what is to be shown behind a reading whose result is r -/
def Post (K : PySem.W.Frag) (W : WX) (rel : Hp → β → α → Prop) (σ : St) (ρ : En) (F H : Hp) (r : R α) (Q : β → Hp → Prop) : Prop := match r with
  | .ok d ρ' => ∀ v F' H', J K F' H' σ ρ' → Ext (Own σ ρ) (Own σ ρ') F H F' H' → rel F' v d → Q v H'
  | .ex x ρ' => ∀ c dd F' H', J K F' H' σ ρ' → Ext (Own σ ρ) (Own σ ρ') F H F' H' → XRep K F' c dd x → W c dd σ H'
  | .bad => False
abbrev TX (β : Type) := St → Hp → (β → Hp → Prop) → Prop
def Sd (K : PySem.W.Frag) (W : WX) (rel : St → Hp → β → α → Prop) (t : TX β) (f : En → R α) : Prop :=
  ∀ F H σ ρ Q, J K F H σ ρ → Post K W (rel σ) σ ρ F H (f ρ) Q → t σ H Q
variable {K : PySem.W.Frag} {W : WX} {rel : Hp → β → α → Prop} {rel2 : Hp → δ → γ → Prop} {σ : St} {ρ ρ1 : En} {F H F1 H1 : Hp}
theorem Post.shift {r : R α} {Q : β → Hp → Prop} (h : Post K W rel σ ρ F H r Q) (x : Ext (Own σ ρ) (Own σ ρ1) F H F1 H1) : Post K W rel σ ρ1 F1 H1 r Q := by
  cases r with
  | ok d ρ' => exact fun v F' H' j y r => h v F' H' j (x.trans y) r
  | ex e ρ' => exact fun c dd F' H' j y r => h c dd F' H' j (x.trans y) r
  | bad => exact h
theorem Post.step {rel : St → Hp → β → α → Prop} {f : En → R α} {t : TX β} {g : α → En → R γ} {Q : δ → Hp → Prop} {Q1 : β → Hp → Prop} (q : Sd K W rel t f) (j : J K F H σ ρ) (h : Post K W rel2 σ ρ F H ((f ρ).bind g) Q)
    (k : ∀ d ρ1 v F1 H1, J K F1 H1 σ ρ1 → Ext (Own σ ρ) (Own σ ρ1) F H F1 H1 → rel σ F1 v d → Post K W rel2 σ ρ1 F1 H1 (g d ρ1) Q → Q1 v H1) : t σ H Q1 := by
  refine q F H σ ρ Q1 j ?_
  cases e : f ρ with
  | ok d ρ1 =>
    rw [e] at h
    have h : Post K W rel2 σ ρ F H (g d ρ1) Q := h
    exact fun v F1 H1 j1 x1 r1 => k d ρ1 v F1 H1 j1 x1 r1 (h.shift x1)
  | ex x ρ1 =>
    rw [e] at h
    exact h
  | bad =>
    rw [e] at h
    exact h
theorem Post.of_some {o : Option α} {Q : β → Hp → Prop} (h : Post K W rel σ ρ F H (R.of o ρ) Q) : ∃ d, o = some d ∧ ∀ v F' H', J K F' H' σ ρ → Ext (Own σ ρ) (Own σ ρ) F H F' H' → rel F' v d → Q v H' := by
  cases o with
  | none => exact h.elim
  | some d => exact ⟨d, rfl, h⟩
end
abbrev relD (K : PySem.W.Frag) : St → Hp → V → D → Prop := fun _ F v d => Rp K F v d
abbrev relA (K : PySem.W.Frag) : St → Hp → List V → List D → Prop := fun _ F v d => RpA K F v d
abbrev relB : St → Hp → Bool → Bool → Prop := fun _ _ a b => a = b
/-- an expression, a test, an argument list, as functions of the slots -/
def SE (X : Cx) (W : WX) (e : Expr) (f : En → R D) : Prop := ∃ t : TE, PE X e t ∧ Sd X.K W (relD X.K) t f
def ST (X : Cx) (W : WX) (e : Expr) (f : En → R Bool) : Prop := ∃ t : TT, PT X e t ∧ Sd X.K W relB t f
def SA (X : Cx) (W : WX) (es : List Expr) (f : En → R (List D)) : Prop := ∃ t : TA, PA X es t ∧ Sd X.K W (relA X.K) t f
end Pu
namespace Pu
open PySem PySem.Spec PyProof.Rows L2
set_option autoImplicit false

/-! ### names and constants -/
def eVar (i : Nat) : En → R D := fun ρ => match ρ[i]? with
  | some (.sh d) => .ok d ρ
  | some (.ow (.l ds)) => .ok (.lst ds) (ρ.set i (.sh (.lst ds)))
  | _ => .bad
def eC (d : D) : En → R D := fun ρ => .ok d ρ
section
variable {X : Cx} {W : WX} {K : PySem.W.Frag} {F H : Hp} {σ : St} {ρ : En}
theorem get_set {ρ : En} {i j : Nat} {s t : Slot} (h : (ρ.set i s)[j]? = some t) : (j = i ∧ t = s ∧ i < ρ.length) ∨ (j ≠ i ∧ ρ[j]? = some t) := by
  by_cases e : j = i
  · subst e
    by_cases hl : j < ρ.length
    · rw [List.getElem?_set_self hl] at h
      exact .inl ⟨rfl, (Option.some.inj h).symm, hl⟩
    · rw [List.getElem?_eq_none (by simpa using hl)] at h
      cases h
  · rw [List.getElem?_set_ne (Ne.symm e)] at h
    exact .inr ⟨e, h⟩
/-- an own list becomes data -/
theorem J.freeze (j : J K F H σ ρ) {i : Nat} {ds : List D} (h : ρ[i]? = some (.ow (.l ds))) : ∃ a xs, σ[i]? = some (some (.ref a)) ∧ H a = some (.lst xs) ∧ RpA K F xs ds ∧ F a = none ∧
    J K (upd F a (.lst xs)) H σ (ρ.set i (.sh (.lst ds))) ∧ Ext (Own σ ρ) (Own σ (ρ.set i (.sh (.lst ds)))) F H (upd F a (.lst xs)) H := by
  obtain ⟨a, o, e1, e2, e3, r⟩ := j.at_ i _ h
  obtain ⟨xs, rfl, r⟩ := r.l
  have sm : Same F (upd F a (.lst xs)) := same_upd e2
  refine ⟨a, xs, e1, e3, r, e2, ⟨fun b o e => ?_, by rw [List.length_set]; exact j.len, fun k s e => ?_, fun k l b s t hs ht os ot e e' => ?_⟩, ⟨sm, fun b o e => ?_, fun b o e _ => e, fun b hb => ?_⟩⟩
  · by_cases hb : b = a
    · subst hb; rw [upd_same] at e; rw [← e]; exact e3
    · rw [upd_ne hb] at e; exact j.sub _ _ e
  · rcases get_set e with ⟨rfl, rfl, _⟩ | ⟨ne, e⟩
    · exact ⟨.ref a, e1, .lst upd_same (r.mono sm)⟩
    · have q := j.at_ k s e
      cases s with
      | em => trivial
      | sh d => obtain ⟨v, q1, q2⟩ := q; exact ⟨v, q1, q2.mono sm⟩
      | ow es =>
        obtain ⟨b, ys, q1, q2, q3, q4⟩ := q
        have nb : b ≠ a := fun z => by
          subst z
          exact ne (j.inj k i b _ _ e h rfl rfl q1 e1)
        exact ⟨b, ys, q1, by rw [upd_ne nb]; exact q2, q3, q4.mono sm⟩
  · rcases get_set hs with ⟨rfl, rfl, _⟩ | ⟨_, hs⟩
    · cases os
    · rcases get_set ht with ⟨rfl, rfl, _⟩ | ⟨_, ht⟩
      · cases ot
      · exact j.inj k l b s t hs ht os ot e e'
  · by_cases hb : b = a
    · subst hb; exact .inr (.inr ⟨i, _, h, rfl, e1⟩)
    · rw [upd_ne hb] at e; exact .inl e
  · obtain ⟨k, s, q1, q2, q3⟩ := hb
    rcases get_set q1 with ⟨rfl, rfl, _⟩ | ⟨_, q1⟩
    · cases q2
    · exact .inl ⟨k, s, q1, q2, q3⟩
theorem sd_var (i : Nat) : Sd K W (relD K) (tVar i) (eVar i) := by
  intro F H σ ρ Q j h
  unfold eVar at h
  cases e : ρ[i]? with
  | none => rw [e] at h; exact h.elim
  | some s =>
    rw [e] at h
    cases s with
    | em => exact h.elim
    | sh d =>
      obtain ⟨v, q1, q2⟩ := j.at_ i _ e
      exact ⟨v, q1, h v F H j .refl q2⟩
    | ow c =>
      cases c with
      | d kvs => exact h.elim
      | l ds =>
        obtain ⟨a, xs, q1, q2, q3, q4, j', x'⟩ := j.freeze e
        exact ⟨_, q1, h _ _ _ j' x' (.lst upd_same (q3.mono (same_upd q4)))⟩
theorem se_var (i : Nat) {x : Str} {pos : Pos} (hN : X.N[i]? = some x := by rfl) (hv : Vis X.env.scope x := by first | exact Or.inl rfl | exact Or.inr (Or.inl rfl) | exact Or.inr (Or.inr rfl)) (hd : (x == ("__debug__" : Str)) = false := by decide)
    (hcd : (x == ("__classdict__" : Str)) = false := by decide) : SE X W (.Name x pos) (eVar i) := ⟨_, pe_var hN hv hd hcd, sd_var i⟩
theorem sd_C {v : V} {d : D} (r : ∀ F, Rp K F v d) : Sd K W (relD K) (tC v) (eC d) := fun F H σ ρ Q j h => h v F H j .refl (r F)
theorem se_int {i : Int} {k pos} : SE X W (.Constant (.int i) k pos) (eC (.int i)) := ⟨_, pe_int, sd_C fun _ => .int i⟩
theorem se_bl {b : Bool} {k pos} : SE X W (.Constant (.bool b) k pos) (eC (.bl b)) := ⟨_, pe_bl, sd_C fun _ => .bl b⟩
theorem se_non {k pos} : SE X W (.Constant .none k pos) (eC .non) := ⟨_, pe_non, sd_C fun _ => .non⟩
theorem se_str {s : Str} {k pos} : SE X W (.Constant (.str s) k pos) (eC (.str s)) := ⟨_, pe_str, sd_C fun _ => .str s⟩

/-! ### operators -/
def eBin (g : D → D → Option D) (fa fb : En → R D) : En → R D := fun ρ => (fa ρ).bind fun a ρ1 => (fb ρ1).bind fun b ρ2 => R.of (g a b) ρ2
def eUn (g : D → Option D) (fa : En → R D) : En → R D := fun ρ => (fa ρ).bind fun a ρ1 => R.of (g a) ρ1
/-- the wish behind a rule by values -/
abbrev Wish (K : PySem.W.Frag) (σ : St) (ρ : En) (F H : Hp) (d : D) (Q : VK) : Prop := ∀ v F' H', J K F' H' σ ρ → Ext (Own σ ρ) (Own σ ρ) F H F' H' → Rp K F' v d → Q v H'
def OpOk (K : PySem.W.Frag) (r : R2) (g : D → D → Option D) : Prop :=
  ∀ (x y : V) (a b d : D) (F H : Hp) (σ : St) (ρ : En) (Q : VK), J K F H σ ρ → Rp K F x a → Rp K F y b → g a b = some d → Wish K σ ρ F H d Q → r x y H Q
def UnOk (K : PySem.W.Frag) (r : V → Hp → VK → Prop) (g : D → Option D) : Prop :=
  ∀ (x : V) (a d : D) (F H : Hp) (σ : St) (ρ : En) (Q : VK), J K F H σ ρ → Rp K F x a → g a = some d → Wish K σ ρ F H d Q → r x H Q
theorem Wish.flat {d : D} {v : V} {Q : VK} (w : Wish K σ ρ F H d Q) (j : J K F H σ ρ) (r : Rp K F v d) : Q v H := w v F H j .refl r
theorem Wish.new {d : D} {o : HO} {Q : VK} {p : Addr} (w : Wish K σ ρ F H d Q) (j : J K F H σ ρ) (hp : H p = none) (r : Rp K (upd F p o) (.ref p) d) : Q (.ref p) (upd H p o) := w _ _ _ (j.alloc hp) (Ext.alloc j hp) r
theorem Wish.lst {ds : List D} {xs : List V} {Q : VK} {p : Addr} (w : Wish K σ ρ F H (.lst ds) Q) (j : J K F H σ ρ) (r : RpA K F xs ds) (hp : H p = none) : Q (.ref p) (upd H p (.lst xs)) :=
  w.new j hp (.lst upd_same (r.mono (same_upd (j.free hp))))
theorem Wish.tup {ds : List D} {xs : List V} {Q : VK} {p : Addr} (w : Wish K σ ρ F H (.tup ds) Q) (j : J K F H σ ρ) (r : RpA K F xs ds) (hp : H p = none) : Q (.ref p) (upd H p (.tup xs)) :=
  w.new j hp (.tup (SqT.of upd_same) (r.mono (same_upd (j.free hp))))
theorem sd_op {r : R2} {g : D → D → Option D} {ta tb : TE} {fa fb : En → R D} (ok : OpOk K r g) (ha : Sd K W (relD K) ta fa) (hb : Sd K W (relD K) tb fb) : Sd K W (relD K) (tOp r ta tb) (eBin g fa fb) := by
  intro F H σ ρ Q j h
  show ta σ H fun x H1 => tb σ H1 fun y H2 => r x y H2 Q
  refine Post.step ha j h fun a ρ1 x F1 H1 j1 e1 r1 h1 => ?_
  refine Post.step hb j1 h1 fun b ρ2 y F2 H2 j2 e2 r2 h2 => ?_
  obtain ⟨d, e, w⟩ := h2.of_some
  exact ok x y a b d F2 H2 σ ρ2 Q j2 (r1.mono e2.sub) r2 e w
theorem se_bin {op : Operator} {r : R2} {g : D → D → Option D} {a b : Expr} {fa fb : En → R D} {pos : Pos} (ho : OpR X (binaryOp op) r) (ok : OpOk X.K r g) (ha : SE X W a fa) (hb : SE X W b fb) : SE X W (.BinOp a op b pos) (eBin g fa fb) := by
  obtain ⟨ta, pa, qa⟩ := ha
  obtain ⟨tb, pb, qb⟩ := hb
  exact ⟨_, pe_op ho pa pb, sd_op ok qa qb⟩
theorem se_un {op : UnaryOp} {r : V → Hp → VK → Prop} {g : D → Option D} {a : Expr} {fa : En → R D} {pos : Pos} (ho : UnR X (unaryOp op) r) (ok : UnOk X.K r g) (ha : SE X W a fa) : SE X W (.UnaryOp op a pos) (eUn g fa) := by
  obtain ⟨ta, pa, qa⟩ := ha
  refine ⟨_, pe_un ho pa, fun F H σ ρ Q j h => ?_⟩
  show ta σ H fun x H1 => r x H1 Q
  refine Post.step qa j h fun a ρ1 x F1 H1 j1 e1 r1 h1 => ?_
  obtain ⟨d, e, w⟩ := h1.of_some
  exact ok x a d F1 H1 σ ρ1 Q j1 r1 e w
theorem OpOk.or {r r' : R2} {g g' : D → D → Option D} (h : OpOk K r g) (h' : OpOk K r' g') : OpOk K (fun x y H Q => r x y H Q ∨ r' x y H Q) (fun a b => (g a b).orElse fun _ => g' a b) := by
  intro x y a b d F H σ ρ Q j ra rb e w
  have e : ((g a b).orElse fun _ => g' a b) = some d := e
  cases q : g a b with
  | some z =>
    rw [q] at e
    have e : some z = some d := e
    exact .inl (h x y a b d F H σ ρ Q j ra rb (q.trans e) w)
  | none =>
    rw [q] at e
    exact .inr (h' x y a b d F H σ ρ Q j ra rb e w)
/-- two ints -/
def gI (C : Int → Int → Bool) (g : Int → Int → D) : D → D → Option D
  | .int i, .int j => if C i j then some (g i j) else none
  | _, _ => none
theorem ok_I {P : Int → Int → Prop} {C : Int → Int → Bool} {g : Int → Int → V} {g' : Int → Int → D} (hc : ∀ i j, C i j = true → P i j) (hg : ∀ F i j, Rp K F (g i j) (g' i j)) : OpOk K (rI P g) (gI C g') := by
  intro x y a b d F H σ ρ Q j ra rb e w
  cases a <;> cases b <;> first | (cases e; done) | skip
  rename_i i k
  cases ra
  cases rb
  have e : (if C i k then some (g' i k) else none) = some d := e
  by_cases c : C i k = true
  · rw [if_pos c] at e
    cases e
    exact ⟨i, k, rfl, rfl, hc _ _ c, w.flat j (hg F i k)⟩
  · rw [if_neg c] at e
    cases e
def gI0 (g : Int → Int → D) : D → D → Option D
  | .int i, .int j => some (g i j)
  | _, _ => none
theorem ok_I0 {g : Int → Int → V} {g' : Int → Int → D} (hg : ∀ F i j, Rp K F (g i j) (g' i j)) : OpOk K (rI0 g) (gI0 g') := by
  intro x y a b d F H σ ρ Q j ra rb e w
  cases a <;> cases b <;> first | (cases e; done) | skip
  rename_i i k
  cases ra
  cases rb
  cases e
  exact ⟨i, k, rfl, rfl, w.flat j (hg F i k)⟩
def sl : Nat := 16777216
theorem sl_eq : sl = sizeLine := sizeLine_eq.symm
def gAddS : D → D → Option D
  | .str a, .str b => if a.length + b.length ≤ sl then some (.str (a ++ b)) else none
  | _, _ => none
theorem ok_addS : OpOk K (fun x y H Q => ∃ i j, x = .str i ∧ y = .str j ∧ i.length + j.length ≤ sizeLine ∧ Q (.str (i ++ j)) H) gAddS := by
  intro x y a b d F H σ ρ Q j ra rb e w
  cases a <;> cases b <;> first | (cases e; done) | skip
  rename_i i k
  cases ra
  cases rb
  have e : (if i.length + k.length ≤ sl then some (D.str (i ++ k)) else none) = some d := e
  by_cases c : i.length + k.length ≤ sl
  · rw [if_pos c] at e
    cases e
    exact ⟨i, k, rfl, rfl, by rw [← sl_eq]; exact c, w.flat j (.str _)⟩
  · rw [if_neg c] at e
    cases e
def gAddL : D → D → Option D
  | .lst a, .lst b => if a.length + b.length ≤ sl then some (.lst (a ++ b)) else none
  | _, _ => none
theorem ok_addL : OpOk K rCat gAddL := by
  intro x y a b d F H σ ρ Q j ra rb e w
  cases a <;> cases b <;> first | (cases e; done) | skip
  rename_i i k
  cases ra with
  | lst ha ra =>
  cases rb with
  | lst hb rb =>
  have e : (if i.length + k.length ≤ sl then some (D.lst (i ++ k)) else none) = some d := e
  by_cases c : i.length + k.length ≤ sl
  · rw [if_pos c] at e
    cases e
    exact ⟨_, _, _, _, rfl, rfl, j.sub _ _ ha, j.sub _ _ hb, by rw [ra.length, rb.length, ← sl_eq]; exact c, fun p hp => w.lst j (ra.append rb) hp⟩
  · rw [if_neg c] at e
    cases e
def gAddT : D → D → Option D
  | .tup a, .tup b => if a.length + b.length ≤ sl then some (.tup (a ++ b)) else none
  | _, _ => none
theorem RpA.nil_iff {vs : List V} {ds : List D} (r : RpA K F vs ds) : vs = [] ↔ ds = [] := by
  cases r <;> simp
theorem ok_addT : OpOk K (rCatA K) gAddT := by
  intro x y a b d F H σ ρ Q j ra rb e w
  cases a <;> cases b <;> first | (cases e; done) | skip
  rename_i i k
  cases ra with
  | tup ha ra =>
  cases rb with
  | tup hb rb =>
  have e : (if i.length + k.length ≤ sl then some (D.tup (i ++ k)) else none) = some d := e
  by_cases c : i.length + k.length ≤ sl
  · rw [if_pos c] at e
    cases e
    refine ⟨_, _, _, _, rfl, rfl, seqT_mono j.sub ha, seqT_mono j.sub hb, by rw [ra.length, rb.length, ← sl_eq]; exact c, fun z => ?_, fun z z' => ?_, fun z z' p hp => w.tup j (ra.append rb) hp⟩
    · refine w.flat j ?_
      rw [ra.nil_iff.mp z]
      exact .tup hb rb
    · refine w.flat j ?_
      rw [rb.nil_iff.mp z', List.append_nil]
      exact .tup ha ra
  · rw [if_neg c] at e
    cases e
def gAdd : D → D → Option D := fun a b => ((gI0 fun i j => .int (i + j)) a b).orElse fun _ => (gAddS a b).orElse fun _ => (gAddL a b).orElse fun _ => gAddT a b
theorem se_add {a b : Expr} {fa fb : En → R D} {pos : Pos} (ha : SE X W a fa) (hb : SE X W b fb) : SE X W (.BinOp a .Add b pos) (eBin gAdd fa fb) :=
  se_bin (op_add.or (op_add_str.or (op_cat.or op_catA))) ((ok_I0 fun _ _ _ => .int _).or (ok_addS.or (ok_addL.or ok_addT))) ha hb
def gSub : D → D → Option D := gI0 fun i j => .int (i - j)
theorem se_sub {a b : Expr} {fa fb : En → R D} {pos : Pos} (ha : SE X W a fa) (hb : SE X W b fb) : SE X W (.BinOp a .Sub b pos) (eBin gSub fa fb) := se_bin op_sub (ok_I0 fun _ _ _ => .int _) ha hb
/-- one factor below 2 ^ 64, or both together below a million bits -/
def cMul (i j : Int) : Bool := decide (i.natAbs < 2 ^ 64) || decide (j.natAbs < 2 ^ 64)
def gMulI : D → D → Option D := gI cMul fun i j => .int (i * j)
theorem cMul_ok (i j : Int) (h : cMul i j = true) : CMul i j := by
  unfold cMul at h
  rcases Bool.or_eq_true_iff.mp h with h | h
  · have := of_decide_eq_true h
    exact .inl (by omega)
  · have := of_decide_eq_true h
    exact .inr (by omega)
theorem se_mul {a b : Expr} {fa fb : En → R D} {pos : Pos} (ha : SE X W a fa) (hb : SE X W b fb) : SE X W (.BinOp a .Mult b pos) (eBin gMulI fa fb) := se_bin op_mul (ok_I cMul_ok fun _ _ _ => .int _) ha hb
def gFdiv : D → D → Option D := gI (fun _ j => decide (0 < j) && decide (j.natAbs.log2 < 9000)) fun i j => .int (i / j)
theorem se_fdiv {a b : Expr} {fa fb : En → R D} {pos : Pos} (ha : SE X W a fa) (hb : SE X W b fb) : SE X W (.BinOp a .FloorDiv b pos) (eBin gFdiv fa fb) := se_bin op_fdivW (ok_I (fun i j h => by
  obtain ⟨h1, h2⟩ := Bool.and_eq_true_iff.mp h
  exact ⟨of_decide_eq_true h1, of_decide_eq_true h2⟩) fun _ _ _ => .int _) ha hb
def gMod : D → D → Option D := gI (fun _ j => decide (0 < j)) fun i j => .int (i % j)
theorem se_mod {a b : Expr} {fa fb : En → R D} {pos : Pos} (ha : SE X W a fa) (hb : SE X W b fb) : SE X W (.BinOp a .Mod b pos) (eBin gMod fa fb) := se_bin op_mod (ok_I (fun i j h => of_decide_eq_true h) fun _ _ _ => .int _) ha hb
def gPow : D → D → Option D := gI (fun i j => decide (0 ≤ j) && (decide (j ≤ 1000000) && decide (i.natAbs < 2 ^ 64))) fun i j => .int (i ^ j.toNat)
theorem se_pow {a b : Expr} {fa fb : En → R D} {pos : Pos} (ha : SE X W a fa) (hb : SE X W b fb) : SE X W (.BinOp a .Pow b pos) (eBin gPow fa fb) := se_bin op_pow (ok_I (fun i j h => by
  obtain ⟨h1, h2⟩ := Bool.and_eq_true_iff.mp h
  obtain ⟨h2, h3⟩ := Bool.and_eq_true_iff.mp h2
  exact ⟨of_decide_eq_true h1, of_decide_eq_true h2, of_decide_eq_true h3⟩) fun _ _ _ => .int _) ha hb
def gNeg : D → Option D
  | .int i => some (.int (-i))
  | _ => none
theorem se_neg {a : Expr} {fa : En → R D} {pos : Pos} (ha : SE X W a fa) : SE X W (.UnaryOp .USub a pos) (eUn gNeg fa) := se_un un_neg (fun x a d F H σ ρ Q j ra e w => by
  cases a <;> first | (cases e; done) | skip
  cases ra
  cases e
  exact ⟨_, rfl, w.flat j (.int _)⟩) ha
end
end Pu
namespace Pu
open PySem PySem.Spec PyProof.Rows L2
set_option autoImplicit false

/-! ### data as the library compares it -/
mutual
def D.py : D → PyData
  | .non => .none
  | .bl b => .bool b
  | .int i => .int i
  | .str s => .str s
  | .lst xs => .list (pyA xs)
  | .tup xs => .tuple (pyA xs)
  | .obj _ _ => .dict []
  | .scr _ => .dict []
def pyA : List D → List PyData
  | [] => []
  | x :: xs => x.py :: pyA xs
end
section
variable {K : PySem.W.Frag} {F H : Hp}
mutual
theorem Rp.dp (S : Same F H) : ∀ {v : V} {d : D}, Rp K F v d → d.py.canLay0 = true → Dp K H v d.py
  | _, _, .non, _ => by simp only [D.py]; exact .non
  | _, _, .bl b, _ => by simp only [D.py]; exact .bl b
  | _, _, .int i, _ => by simp only [D.py]; exact .int i
  | _, _, .str x, _ => by simp only [D.py]; exact .str x
  | _, _, .lst s r, h => by
    simp only [D.py] at h ⊢
    exact .lst (SqL.of (S _ _ s)) (RpA.dp S r (by simpa only [PyData.canLay0] using h))
  | _, _, .tup s r, h => by
    simp only [D.py] at h ⊢
    exact .tup (seqT_mono S s) (RpA.dp S r (by simpa only [PyData.canLay0] using h))
  | _, _, .obj _ _, h => by
    simp only [D.py, PyData.canLay0] at h
    cases h
  | _, _, .scr _, h => by
    simp only [D.py, PyData.canLay0] at h
    cases h
theorem RpA.dp (S : Same F H) : ∀ {v : List V} {d : List D}, RpA K F v d → PyData.canLayAll0 (pyA d) = true → DpAll K H v (pyA d)
  | _, _, .nil, _ => by simp only [pyA]; exact .nil
  | _, _, .cons r t, h => by
    simp only [pyA, PyData.canLayAll0] at h ⊢
    obtain ⟨h1, h2⟩ := Bool.and_eq_true_iff.mp h
    exact .cons (Rp.dp S r h1) (RpA.dp S t h2)
end
end

section
variable {X : Cx} {W : WX} {K : PySem.W.Frag} {F H : Hp} {σ : St} {ρ : En} {a b c : Expr} {fa fb fc : En → R D} {pos : Pos}
/-! ### comparisons -/
def shp (d : D) : Bool := SeqAt.shaped d.py
theorem shp_lay {d : D} (h : shp d = true) : d.py.canLay0 = true := SeqAt.canLay_of_shaped h
def gEq (a b : D) : Option D := if shp a && shp b then some (.bl (PyData.eqv a.py b.py)) else none
def gNe (a b : D) : Option D := if shp a && shp b then some (.bl (!PyData.eqv a.py b.py)) else none
theorem ok_eqD : OpOk K (rEqD K) gEq := by
  intro x y a b d F H σ ρ Q j ra rb e w
  unfold gEq at e
  by_cases c : (shp a && shp b) = true
  · rw [if_pos c] at e
    cases e
    obtain ⟨c1, c2⟩ := Bool.and_eq_true_iff.mp c
    exact ⟨_, _, ra.dp j.sub (shp_lay c1), rb.dp j.sub (shp_lay c2), c1, c2, w.flat j (.bl _)⟩
  · rw [if_neg c] at e
    cases e
theorem ok_neD : OpOk K (rNeD K) gNe := by
  intro x y a b d F H σ ρ Q j ra rb e w
  unfold gNe at e
  by_cases c : (shp a && shp b) = true
  · rw [if_pos c] at e
    cases e
    obtain ⟨c1, c2⟩ := Bool.and_eq_true_iff.mp c
    exact ⟨_, _, ra.dp j.sub (shp_lay c1), rb.dp j.sub (shp_lay c2), c1, c2, w.flat j (.bl _)⟩
  · rw [if_neg c] at e
    cases e
def gIsN (a b : D) : Option D := match b with
  | .non => some (.bl (match a with | .non => true | _ => false))
  | _ => none
def gNotN (a b : D) : Option D := match b with
  | .non => some (.bl (match a with | .non => false | _ => true))
  | _ => none
theorem ok_isN : OpOk K (fun x y H Q => y = .non ∧ Q (.bl (decide (x = .non))) H) gIsN := by
  intro x y a b d F H σ ρ Q j ra rb e w
  cases b <;> first | (cases e; done) | skip
  cases rb
  cases e
  refine ⟨rfl, w.flat j ?_⟩
  cases ra <;> exact .bl _
theorem ok_notN : OpOk K (fun x y H Q => y = .non ∧ Q (.bl (!decide (x = .non))) H) gNotN := by
  intro x y a b d F H σ ρ Q j ra rb e w
  cases b <;> first | (cases e; done) | skip
  cases rb
  cases e
  refine ⟨rfl, w.flat j ?_⟩
  cases ra <;> exact .bl _
def gLt : D → D → Option D := gI0 fun i j => .bl (decide (i < j))
def gLe : D → D → Option D := gI0 fun i j => .bl (decide (i ≤ j))
def gGt : D → D → Option D := gI0 fun i j => .bl (decide (j < i))
def gGe : D → D → Option D := gI0 fun i j => .bl (decide (j ≤ i))
def gIn (a b : D) : Option D := match b with
  | .lst ds => if shp a && shp (.lst ds) then some (.bl ((pyA ds).any fun z => PyData.eqv z a.py)) else none
  | _ => none
def gNin (a b : D) : Option D := match b with
  | .lst ds => if shp a && shp (.lst ds) then some (.bl (!(pyA ds).any fun z => PyData.eqv z a.py)) else none
  | _ => none
theorem ok_inL : OpOk K (rInD K) gIn := by
  intro x y a b d F H σ ρ Q j ra rb e w
  cases b <;> first | (cases e; done) | skip
  rename_i ds
  have e : (if shp a && shp (.lst ds) then some (D.bl ((pyA ds).any fun z => PyData.eqv z a.py)) else none) = some d := e
  by_cases c : (shp a && shp (.lst ds)) = true
  · rw [if_pos c] at e
    cases e
    obtain ⟨c1, c2⟩ := Bool.and_eq_true_iff.mp c
    have q := rb.dp j.sub (shp_lay c2)
    simp only [D.py] at q
    have c2 : SeqAt.shaped (.list (pyA ds)) = true := by
      have := c2
      unfold shp at this
      simpa only [D.py] using this
    exact ⟨_, _, ra.dp j.sub (shp_lay c1), q, c1, c2, w.flat j (.bl _)⟩
  · rw [if_neg c] at e
    cases e
theorem ok_ninL : OpOk K (rNotInD K) gNin := by
  intro x y a b d F H σ ρ Q j ra rb e w
  cases b <;> first | (cases e; done) | skip
  rename_i ds
  have e : (if shp a && shp (.lst ds) then some (D.bl (!(pyA ds).any fun z => PyData.eqv z a.py)) else none) = some d := e
  by_cases c : (shp a && shp (.lst ds)) = true
  · rw [if_pos c] at e
    cases e
    obtain ⟨c1, c2⟩ := Bool.and_eq_true_iff.mp c
    have q := rb.dp j.sub (shp_lay c2)
    simp only [D.py] at q
    have c2 : SeqAt.shaped (.list (pyA ds)) = true := by
      have := c2
      unfold shp at this
      simpa only [D.py] using this
    exact ⟨_, _, ra.dp j.sub (shp_lay c1), q, c1, c2, w.flat j (.bl _)⟩
  · rw [if_neg c] at e
    cases e
/-- the rule of a comparison, with what it is on data -/
structure Cmp (X : Cx) (op : CmpOp) (g : D → D → Option D) : Prop where
  ex : ∃ r, OpR X (compareOp op) r ∧ OpOk X.K r g
theorem c_eq {k : Nat} (hr : Room k X.A) : Cmp X .Eq gEq := ⟨⟨_, op_eqD hr.units, ok_eqD⟩⟩
theorem c_ne {k : Nat} (hr : Room k X.A) : Cmp X .NotEq gNe := ⟨⟨_, op_neD hr.units, ok_neD⟩⟩
theorem c_lt : Cmp X .Lt gLt := ⟨⟨_, op_lt, ok_I0 fun _ _ _ => .bl _⟩⟩
theorem c_le : Cmp X .LtE gLe := ⟨⟨_, op_le, ok_I0 fun _ _ _ => .bl _⟩⟩
theorem c_gt : Cmp X .Gt gGt := ⟨⟨_, op_gt, ok_I0 fun _ _ _ => .bl _⟩⟩
theorem c_ge : Cmp X .GtE gGe := ⟨⟨_, op_ge, ok_I0 fun _ _ _ => .bl _⟩⟩
theorem c_isN : Cmp X .Is gIsN := ⟨⟨_, op_isN, ok_isN⟩⟩
theorem c_notN : Cmp X .IsNot gNotN := ⟨⟨_, op_notN, ok_notN⟩⟩
theorem units65 {k : Nat} (hr : Room k X.A) : X.A.units + 65 < cLine := by have := hr.un; omega
theorem c_in {k : Nat} (hr : Room k X.A) : Cmp X .In gIn := ⟨⟨_, op_inD (units65 hr), ok_inL⟩⟩
theorem c_nin {k : Nat} (hr : Room k X.A) : Cmp X .NotIn gNin := ⟨⟨_, op_notInD (units65 hr), ok_ninL⟩⟩
theorem se_cmp {op : CmpOp} {g : D → D → Option D} (h : Cmp X op g) (ha : SE X W a fa) (hb : SE X W b fb) (hm : behindInMarks op b = false := by rfl) : SE X W (.Compare a [op] [b] pos) (eBin g fa fb) := by
  obtain ⟨r, ho, ok⟩ := h.ex
  obtain ⟨ta, pa, qa⟩ := ha
  obtain ⟨tb, pb, qb⟩ := hb
  exact ⟨_, pe_cmpR ho pa pb hm, sd_op ok qa qb⟩
def asB : D → Option Bool
  | .bl b => some b
  | _ => none
def tOf (f : En → R D) : En → R Bool := fun ρ => (f ρ).bind fun d ρ1 => R.of (asB d) ρ1
theorem sd_test {t : TE} {f : En → R D} (h : Sd K W (relD K) t f) : Sd K W relB (tTest t) (tOf f) := by
  intro F H σ ρ Q j p
  show t σ H fun x H' => ∃ k, x = .bl k ∧ Q k H'
  refine Post.step h j p fun d ρ1 x F1 H1 j1 e1 r1 h1 => ?_
  obtain ⟨k, e, w⟩ := h1.of_some
  cases d <;> first | (cases e; done) | skip
  cases r1
  cases e
  exact ⟨_, rfl, w _ F1 H1 j1 .refl rfl⟩
theorem st_cmp {op : CmpOp} {g : D → D → Option D} (h : Cmp X op g) (ha : SE X W a fa) (hb : SE X W b fb) (hm : behindInMarks op b = false := by rfl) : ST X W (.Compare a [op] [b] pos) (tOf (eBin g fa fb)) := by
  obtain ⟨r, ho, ok⟩ := h.ex
  obtain ⟨ta, pa, qa⟩ := ha
  obtain ⟨tb, pb, qb⟩ := hb
  exact ⟨_, pt_cmpR ho pa pb hm, sd_test (sd_op ok qa qb)⟩
/-- a < b < c -/
def eChn (g g' : D → D → Option D) (fa fb fc : En → R D) : En → R D := fun ρ => (fa ρ).bind fun a ρ1 => (fb ρ1).bind fun b ρ2 => (R.of (g a b) ρ2).bind fun z ρ3 => (R.of (asB z) ρ3).bind fun k ρ4 => match k with
  | true => (fc ρ4).bind fun c ρ5 => R.of (g' b c) ρ5
  | false => .ok (.bl false) ρ4
theorem sd_chn {r r' : R2} {g g' : D → D → Option D} {ta tb tc : TE} (ok : OpOk K r g) (ok' : OpOk K r' g') (ha : Sd K W (relD K) ta fa) (hb : Sd K W (relD K) tb fb) (hc : Sd K W (relD K) tc fc) : Sd K W (relD K) (tChain r r' ta tb tc) (eChn g g' fa fb fc) := by
  intro F H σ ρ Q j h
  show ta σ H fun x H1 => tb σ H1 fun y H2 => r x y H2 fun z H3 => ∃ k, z = .bl k ∧ (if k = true then tc σ H3 fun w' H4 => r' y w' H4 Q else Q (.bl false) H3)
  refine Post.step ha j h fun a ρ1 x F1 H1 j1 e1 r1 h1 => ?_
  refine Post.step hb j1 h1 fun b ρ2 y F2 H2 j2 e2 r2 h2 => ?_
  cases e : g a b with
  | none => rw [e] at h2; exact h2.elim
  | some z =>
    rw [e] at h2
    cases e' : asB z with
    | none =>
      have h2 : Post K W (relD K σ) σ ρ2 F2 H2 ((R.of (asB z) ρ2).bind _) Q := h2
      rw [e'] at h2
      exact h2.elim
    | some k =>
      have h2 : Post K W (relD K σ) σ ρ2 F2 H2 ((R.of (asB z) ρ2).bind _) Q := h2
      rw [e'] at h2
      refine ok x y a b z F2 H2 σ ρ2 _ j2 (r1.mono e2.sub) r2 e fun v F3 H3 j3 e3 r3 => ?_
      cases z <;> first | (cases e'; done) | skip
      cases r3
      cases e'
      refine ⟨_, rfl, ?_⟩
      cases k with
      | false =>
        have h2 : Post K W (relD K σ) σ ρ2 F2 H2 (.ok (.bl false) ρ2) Q := h2
        exact h2 _ F3 H3 j3 e3 (.bl _)
      | true =>
        have h2 : Post K W (relD K σ) σ ρ2 F2 H2 ((fc ρ2).bind fun c ρ5 => R.of (g' b c) ρ5) Q := h2
        refine Post.step hc j3 (h2.shift e3) fun c ρ4 u F4 H4 j4 e4 r4 h4 => ?_
        obtain ⟨d, e5, w⟩ := h4.of_some
        exact ok' y u b c d F4 H4 σ ρ4 Q j4 ((r2.mono e3.sub).mono e4.sub) r4 e5 w
theorem se_chn {op op' : CmpOp} {g g' : D → D → Option D} (h : Cmp X op g) (h' : Cmp X op' g') (ha : SE X W a fa) (hb : SE X W b fb) (hc : SE X W c fc) (hm : lastMarks [op, op'] [b, c] = false := by with_unfolding_all rfl) :
    SE X W (.Compare a [op, op'] [b, c] pos) (eChn g g' fa fb fc) := by
  obtain ⟨r, ho, ok⟩ := h.ex
  obtain ⟨r', ho', ok'⟩ := h'.ex
  obtain ⟨ta, pa, qa⟩ := ha
  obtain ⟨tb, pb, qb⟩ := hb
  obtain ⟨tc, pc, qc⟩ := hc
  exact ⟨_, pe_chain ho ho' pa pb pc hm, sd_chn ok ok' qa qb qc⟩
theorem st_chn {op op' : CmpOp} {g g' : D → D → Option D} (h : Cmp X op g) (h' : Cmp X op' g') (ha : SE X W a fa) (hb : SE X W b fb) (hc : SE X W c fc) (hm : lastMarks [op, op'] [b, c] = false := by with_unfolding_all rfl) :
    ST X W (.Compare a [op, op'] [b, c] pos) (tOf (eChn g g' fa fb fc)) := by
  obtain ⟨r, ho, ok⟩ := h.ex
  obtain ⟨r', ho', ok'⟩ := h'.ex
  obtain ⟨ta, pa, qa⟩ := ha
  obtain ⟨tb, pb, qb⟩ := hb
  obtain ⟨tc, pc, qc⟩ := hc
  exact ⟨_, pt_chain ho ho' pa pb pc hm, sd_test (sd_chn ok ok' qa qb qc)⟩

/-! ### truth -/
def truD : D → Option Bool
  | .non => some false
  | .bl b => some b
  | .int i => some (i != 0)
  | .str s => if s.length ≤ sl then some ((s.length : Int) != 0) else none
  | .lst ds => some (!ds.isEmpty)
  | .tup ds => some (!ds.isEmpty)
  | .scr ds => some (!ds.isEmpty)
  | .obj _ _ => none
theorem RpA.isEmpty {vs : List V} {ds : List D} (r : RpA K F vs ds) : vs.isEmpty = ds.isEmpty := by
  cases r <;> rfl
theorem tru_of {v : V} {d : D} {k : Bool} (S : Same F H) (r : Rp K F v d) (e : truD d = some k) : TruV K v H k := by
  cases r with
  | non => cases e; rfl
  | bl b => cases e; rfl
  | int i => cases e; rfl
  | str x =>
    have e : (if x.length ≤ sl then some ((x.length : Int) != 0) else none) = some k := e
    by_cases c : x.length ≤ sl
    · rw [if_pos c] at e
      cases e
      exact ⟨by rw [← sl_eq]; exact c, rfl⟩
    · rw [if_neg c] at e
      cases e
  | lst s t =>
    cases e
    exact .inl ⟨_, SqL.of (S _ _ s), by rw [t.isEmpty]⟩
  | tup s t =>
    cases e
    exact .inr (.inl ⟨_, seqT_mono S s, by rw [t.isEmpty]⟩)
  | scr s =>
    cases e
    exact .inl ⟨_, S.seq s, by rw [List.isEmpty_map]⟩
  | obj _ _ => cases e
def tTru (f : En → R D) : En → R Bool := fun ρ => (f ρ).bind fun d ρ1 => R.of (truD d) ρ1
theorem st_tru (ha : SE X W a fa) (he : ∀ whole, isTrue a X.env whole = (do let v ← whole; standAt a.pos; holding [v] (truthy v)) := by intro _; rfl) : ST X W a (tTru fa) := by
  obtain ⟨ta, pa, qa⟩ := ha
  refine ⟨_, pt_truth pa he, fun F H σ ρ Q j h => ?_⟩
  refine Post.step qa j h fun d ρ1 x F1 H1 j1 e1 r1 h1 => ?_
  obtain ⟨k, e, w⟩ := h1.of_some
  exact ⟨k, tru_of j1.sub r1 e, w _ F1 H1 j1 .refl rfl⟩

/-! ### and, or, not, if -/
def tNo (f : En → R Bool) : En → R Bool := fun ρ => (f ρ).bind fun b ρ1 => .ok (!b) ρ1
theorem st_not {f : En → R Bool} (h : ST X W a f) : ST X W (.UnaryOp .Not a pos) (tNo f) := by
  obtain ⟨t, p, q⟩ := h
  refine ⟨_, pt_not p, fun F H σ ρ Q j h => ?_⟩
  show t σ H fun c H1 => Q (!c) H1
  refine Post.step q j h fun d ρ1 x F1 H1 j1 e1 r1 h1 => ?_
  have r1 : x = d := r1
  subst r1
  exact h1 _ F1 H1 j1 .refl rfl
def SW (X : Cx) (W : WX) (e : Expr) (f : En → R Bool) : Prop := ∃ t : TT, PW X e t ∧ Sd X.K W relB t f
variable {rest : List Expr} {f g : En → R Bool}
theorem SW.st (h : SW X W a f) : ST X W a f := let ⟨t, p, q⟩ := h; ⟨t, p.pt, q⟩
def tAn (f g : En → R Bool) : En → R Bool := fun ρ => (f ρ).bind fun b ρ1 => match b with
  | true => g ρ1
  | false => .ok false ρ1
def tOu (f g : En → R Bool) : En → R Bool := fun ρ => (f ρ).bind fun b ρ1 => match b with
  | true => .ok true ρ1
  | false => g ρ1
theorem sw_and1 (h : ST X W a f) : SW X W (.BoolOp .And [a] pos) f := let ⟨t, p, q⟩ := h; ⟨t, pw_and1 p, q⟩
theorem sw_or1 (h : ST X W a f) : SW X W (.BoolOp .Or [a] pos) f := let ⟨t, p, q⟩ := h; ⟨t, pw_or1 p, q⟩
theorem sw_and (h : ST X W a f) (h' : SW X W (.BoolOp .And (b :: rest) pos) g) : SW X W (.BoolOp .And (a :: b :: rest) pos) (tAn f g) := by
  obtain ⟨t, p, q⟩ := h
  obtain ⟨u, p', q'⟩ := h'
  refine ⟨_, pw_and p p', fun F H σ ρ Q j h => ?_⟩
  show t σ H fun c H1 => if c = true then u σ H1 Q else Q false H1
  refine Post.step q j h fun d ρ1 x F1 H1 j1 e1 r1 h1 => ?_
  have r1 : x = d := r1
  subst r1
  cases x with
  | true => exact q' F1 H1 σ ρ1 Q j1 h1
  | false => exact h1 _ F1 H1 j1 .refl rfl
theorem sw_or (h : ST X W a f) (h' : SW X W (.BoolOp .Or (b :: rest) pos) g) : SW X W (.BoolOp .Or (a :: b :: rest) pos) (tOu f g) := by
  obtain ⟨t, p, q⟩ := h
  obtain ⟨u, p', q'⟩ := h'
  refine ⟨_, pw_or p p', fun F H σ ρ Q j h => ?_⟩
  show t σ H fun c H1 => if c = true then Q true H1 else u σ H1 Q
  refine Post.step q j h fun d ρ1 x F1 H1 j1 e1 r1 h1 => ?_
  have r1 : x = d := r1
  subst r1
  cases x with
  | false => exact q' F1 H1 σ ρ1 Q j1 h1
  | true => exact h1 _ F1 H1 j1 .refl rfl
/-- as values: all but the last are bools -/
def eAn (fa fb : En → R D) : En → R D := fun ρ => (fa ρ).bind fun a ρ1 => (R.of (asB a) ρ1).bind fun k ρ2 => match k with
  | true => fb ρ2
  | false => .ok (.bl false) ρ2
def eOu (fa fb : En → R D) : En → R D := fun ρ => (fa ρ).bind fun a ρ1 => (R.of (asB a) ρ1).bind fun k ρ2 => match k with
  | true => .ok (.bl true) ρ2
  | false => fb ρ2
theorem se_one {op} (h : SE X W a fa) : SE X W (.BoolOp op [a] pos) fa := let ⟨t, p, q⟩ := h; ⟨t, pe_one p, q⟩
theorem se_and (ha : SE X W a fa) (hb : SE X W (.BoolOp .And (b :: rest) pos) fb) : SE X W (.BoolOp .And (a :: b :: rest) pos) (eAn fa fb) := by
  obtain ⟨t, p, q⟩ := ha
  obtain ⟨u, p', q'⟩ := hb
  refine ⟨_, pe_and p p', fun F H σ ρ Q j h => ?_⟩
  show t σ H fun x H1 => ∃ c, x = .bl c ∧ if c = true then u σ H1 Q else Q (.bl false) H1
  refine Post.step q j h fun d ρ1 x F1 H1 j1 e1 r1 h1 => ?_
  cases e : asB d with
  | none => rw [e] at h1; exact h1.elim
  | some k =>
    rw [e] at h1
    cases d <;> first | (cases e; done) | skip
    cases r1
    cases e
    refine ⟨_, rfl, ?_⟩
    cases k with
    | true => exact q' F1 H1 σ ρ1 Q j1 h1
    | false =>
      have h1 : Post X.K W (relD X.K σ) σ ρ1 F1 H1 (.ok (.bl false) ρ1) Q := h1
      exact h1 _ F1 H1 j1 .refl (.bl _)
theorem se_or (ha : SE X W a fa) (hb : SE X W (.BoolOp .Or (b :: rest) pos) fb) : SE X W (.BoolOp .Or (a :: b :: rest) pos) (eOu fa fb) := by
  obtain ⟨t, p, q⟩ := ha
  obtain ⟨u, p', q'⟩ := hb
  refine ⟨_, pe_or p p', fun F H σ ρ Q j h => ?_⟩
  show t σ H fun x H1 => ∃ c, x = .bl c ∧ if c = true then Q (.bl true) H1 else u σ H1 Q
  refine Post.step q j h fun d ρ1 x F1 H1 j1 e1 r1 h1 => ?_
  cases e : asB d with
  | none => rw [e] at h1; exact h1.elim
  | some k =>
    rw [e] at h1
    cases d <;> first | (cases e; done) | skip
    cases r1
    cases e
    refine ⟨_, rfl, ?_⟩
    cases k with
    | false => exact q' F1 H1 σ ρ1 Q j1 h1
    | true =>
      have h1 : Post X.K W (relD X.K σ) σ ρ1 F1 H1 (.ok (.bl true) ρ1) Q := h1
      exact h1 _ F1 H1 j1 .refl (.bl _)
def gNot : D → Option D
  | .bl b => some (.bl (!b))
  | _ => none
theorem se_not (ha : SE X W a fa) : SE X W (.UnaryOp .Not a pos) (eUn gNot fa) := by
  obtain ⟨t, p, q⟩ := ha
  refine ⟨_, pe_not p, fun F H σ ρ Q j h => ?_⟩
  show t σ H fun x H1 => ∃ c, x = .bl c ∧ Q (.bl (!c)) H1
  refine Post.step q j h fun d ρ1 x F1 H1 j1 e1 r1 h1 => ?_
  obtain ⟨z, e, w⟩ := h1.of_some
  cases d <;> first | (cases e; done) | skip
  cases r1
  cases e
  exact ⟨_, rfl, w _ F1 H1 j1 .refl (.bl _)⟩
def eIf (f : En → R Bool) (fa fb : En → R D) : En → R D := fun ρ => (f ρ).bind fun k ρ1 => match k with
  | true => fa ρ1
  | false => fb ρ1
theorem se_ifx (hc : ST X W c f) (ha : SE X W a fa) (hb : SE X W b fb) : SE X W (.IfExp c a b pos) (eIf f fa fb) := by
  obtain ⟨t, p, q⟩ := hc
  obtain ⟨ta, pa, qa⟩ := ha
  obtain ⟨tb, pb, qb⟩ := hb
  refine ⟨_, pe_ifExp p pa pb, fun F H σ ρ Q j h => ?_⟩
  show t σ H fun k H1 => if k = true then ta σ H1 Q else tb σ H1 Q
  refine Post.step q j h fun d ρ1 x F1 H1 j1 e1 r1 h1 => ?_
  have r1 : x = d := r1
  subst r1
  cases x with
  | true => exact qa F1 H1 σ ρ1 Q j1 h1
  | false => exact qb F1 H1 σ ρ1 Q j1 h1

/-! ### places and slices -/
def gIx : D → D → Option D
  | .lst ds, .int i => atI ds i
  | .tup ds, .int i => atI ds i
  | .scr ns, .int i => (atI ns i).map D.int
  | .str z, .int i => if z.length ≤ sl then (atI z.cps.toList i).map fun c => .str ⟨#[c]⟩ else none
  | _, _ => none
theorem atI_rp {vs : List V} {ds : List D} {i : Int} {d : D} (r : RpA K F vs ds) (e : atI ds i = some d) : ∃ v, atI vs i = some v ∧ Rp K F v d := by
  unfold atI at e ⊢
  rw [r.length]
  cases q : ixN ds.length i with
  | none => rw [q] at e; cases e
  | some k =>
    rw [q] at e
    exact r.get e
theorem atI_map {α β : Type} (f : α → β) (xs : List α) (i : Int) : atI (xs.map f) i = (atI xs i).map f := by
  unfold atI
  rw [List.length_map]
  cases ixN xs.length i with
  | none => rfl
  | some k => simp
theorem ok_ix : OpOk K (rIx K) gIx := by
  intro x y a b d F H σ ρ Q j ra rb e w
  cases a <;> cases b <;> first | (cases e; done) | skip
  · rename_i z i
    cases ra
    cases rb
    have e : (if z.length ≤ sl then (atI z.cps.toList i).map fun c => D.str ⟨#[c]⟩ else none) = some d := e
    by_cases c : z.length ≤ sl
    · rw [if_pos c] at e
      cases q : atI z.cps.toList i with
      | none => rw [q] at e; cases e
      | some u =>
        rw [q] at e
        cases e
        exact .inr (.inr ⟨z, i, u, rfl, rfl, by rw [← sl_eq]; exact c, q, w.flat j (.str _)⟩)
    · rw [if_neg c] at e
      cases e
  · cases ra with
    | lst s r =>
    cases rb
    obtain ⟨v, e1, e2⟩ := atI_rp r e
    exact .inl ⟨_, _, _, v, rfl, rfl, SqL.of (j.sub _ _ s), e1, w.flat j e2⟩
  · cases ra with
    | tup s r =>
    cases rb
    obtain ⟨v, e1, e2⟩ := atI_rp r e
    exact .inr (.inl ⟨_, _, _, v, rfl, rfl, seqT_mono j.sub s, e1, w.flat j e2⟩)
  · rename_i ns i
    cases ra with
    | scr s =>
    cases rb
    have e : (atI ns i).map D.int = some d := e
    cases q : atI ns i with
    | none => rw [q] at e; cases e
    | some u =>
      rw [q] at e
      cases e
      exact .inl ⟨_, _, _, .int u, rfl, rfl, j.sub.seq s, by rw [atI_map, q]; rfl, w.flat j (.int _)⟩
theorem se_ix (ha : SE X W a fa) (hb : SE X W b fb) (hs : PlainIx b := by exact fun _ _ => rfl) : SE X W (.Subscript a b pos) (eBin gIx fa fb) := by
  obtain ⟨ta, pa, qa⟩ := ha
  obtain ⟨tb, pb, qb⟩ := hb
  exact ⟨_, pe_ix ix_seq pa pb hs, sd_op ok_ix qa qb⟩
/-- a slot that has a value -/
def hasV : Option Slot → Bool
  | some (.sh _) => true
  | some (.ow _) => true
  | _ => false
theorem J.has (j : J K F H σ ρ) {i : Nat} (h : hasV ρ[i]? = true) : ∃ v, σ[i]? = some (some v) := by
  cases e : ρ[i]? with
  | none => rw [e] at h; cases h
  | some s =>
    have q := j.at_ i s e
    cases s with
    | em => rw [e] at h; cases h
    | sh d => obtain ⟨v, q, _⟩ := q; exact ⟨v, q⟩
    | ow d => obtain ⟨v, _, q, _⟩ := q; exact ⟨_, q⟩
/-- x[i] of an own list that stays own -/
def eIxP (i : Nat) (fb : En → R D) : En → R D := fun ρ => match hasV ρ[i]? with
  | true => (fb ρ).bind fun b ρ1 => match ρ1[i]? with
    | some (.ow (.l ds)) => R.of (gIx (.lst ds) b) ρ1
    | some (.sh d) => R.of (gIx d b) ρ1
    | _ => .bad
  | false => .bad
/-- a name whose place is read -/
structure Nm (X : Cx) (i : Nat) (x : Str) : Prop where
  hN : X.N[i]? = some x
  hv : Vis X.env.scope x
  hd : (x == ("__debug__" : Str)) = false
  hcd : (x == ("__classdict__" : Str)) = false
theorem nm (i : Nat) {x : Str} (hN : X.N[i]? = some x := by rfl) (hv : Vis X.env.scope x := by first | exact Or.inl rfl | exact Or.inr (Or.inl rfl) | exact Or.inr (Or.inr rfl)) (hd : (x == ("__debug__" : Str)) = false := by decide)
    (hcd : (x == ("__classdict__" : Str)) = false := by decide) : Nm X i x := ⟨hN, hv, hd, hcd⟩
theorem Nm.pe {i : Nat} {x : Str} {p : Pos} (n : Nm X i x) : PE X (.Name x p) (tVar i) := pe_var n.hN n.hv n.hd n.hcd
theorem seq_at {i : Nat} (j : J K F H σ ρ) {ds : List D} (e : ρ[i]? = some (.ow (.l ds))) {v : V} (hv : σ[i]? = some (some v)) : ∃ a xs, v = .ref a ∧ F a = none ∧ H a = some (.lst xs) ∧ RpA K F xs ds := by
  obtain ⟨a, o, e1, e2, e3, e4⟩ := j.at_ i _ e
  obtain ⟨xs, rfl, e4⟩ := e4.l
  rw [hv] at e1
  cases e1
  exact ⟨a, xs, rfl, e2, e3, e4⟩
theorem sh_at {i : Nat} (j : J K F H σ ρ) {d : D} (e : ρ[i]? = some (.sh d)) {v : V} (hv : σ[i]? = some (some v)) : Rp K F v d := by
  obtain ⟨u, e1, e2⟩ := j.at_ i _ e
  rw [hv] at e1
  cases e1
  exact e2
theorem se_ixP (i : Nat) {x : Str} {p : Pos} (n : Nm X i x) (hb : SE X W b fb) (hs : PlainIx b := by exact fun _ _ => rfl) : SE X W (.Subscript (.Name x p) b pos) (eIxP i fb) := by
  obtain ⟨tb, pb, qb⟩ := hb
  refine ⟨_, pe_ix ix_seq n.pe pb hs, fun F H σ ρ Q j h => ?_⟩
  show ∃ v, σ[i]? = some (some v) ∧ tb σ H fun y H2 => rIx X.K v y H2 Q
  unfold eIxP at h
  cases hh : hasV ρ[i]? with
  | false => rw [hh] at h; exact h.elim
  | true =>
    rw [hh] at h
    obtain ⟨v, hv⟩ := j.has hh
    refine ⟨v, hv, Post.step qb j h fun b ρ1 y F1 H1 j1 e1 r1 h1 => ?_⟩
    cases e : ρ1[i]? with
    | none => rw [e] at h1; exact h1.elim
    | some s =>
      rw [e] at h1
      cases s with
      | em => exact h1.elim
      | sh d =>
        obtain ⟨z, e2, w⟩ := h1.of_some
        exact ok_ix _ _ _ _ _ _ _ _ _ _ j1 (sh_at j1 e hv) r1 e2 w
      | ow c =>
        cases c with
        | d _ => exact h1.elim
        | l ds =>
          obtain ⟨z, e2, w⟩ := h1.of_some
          obtain ⟨a, xs, rfl, ha, hx, r⟩ := seq_at j1 e hv
          cases b <;> first | (cases e2; done) | skip
          cases r1
          obtain ⟨u, e3, e4⟩ := atI_rp r e2
          exact .inl ⟨_, _, _, u, rfl, rfl, SqL.of hx, e3, w _ _ _ j1 .refl e4⟩
/-! ### slices -/
def SO (X : Cx) (W : WX) (e : Option Expr) (f : En → R (Option Int)) : Prop := ∃ t : TO, PO X e t ∧ Sd X.K W (fun _ _ a b => a = b) t f
def asI : D → Option Int
  | .int i => some i
  | _ => none
def oNo : En → R (Option Int) := fun ρ => .ok none ρ
def oSo (f : En → R D) : En → R (Option Int) := fun ρ => (f ρ).bind fun d ρ1 => (R.of (asI d) ρ1).bind fun i ρ2 => .ok (some i) ρ2
theorem so_none : SO X W none oNo := ⟨_, po_none, fun F H σ ρ Q j h => h none F H j .refl rfl⟩
theorem so_some (ha : SE X W a fa) : SO X W (some a) (oSo fa) := by
  obtain ⟨t, p, q⟩ := ha
  refine ⟨_, po_some p, fun F H σ ρ Q j h => ?_⟩
  show t σ H fun x H1 => ∃ i, x = .int i ∧ Q (some i) H1
  refine Post.step q j h fun d ρ1 x F1 H1 j1 e1 r1 h1 => ?_
  cases d <;> first | (exact h1.elim; done) | skip
  cases r1
  have h1 : Post X.K W (fun _ a b => a = b) σ ρ1 F1 H1 (.ok (some _) ρ1) Q := h1
  exact ⟨_, rfl, h1 _ F1 H1 j1 .refl rfl⟩
def cutL {α : Type} (xs : List α) (lo hi : Option Int) : List α := (xs.drop (HT.sIx xs.length 0 lo)).take (HT.sIx xs.length xs.length hi - HT.sIx xs.length 0 lo)
theorem RpA.cut {vs : List V} {ds : List D} (r : RpA K F vs ds) (lo hi : Option Int) : RpA K F (cutV vs lo hi) (cutL ds lo hi) := by
  unfold cutV cutL
  rw [r.length]
  exact (r.drop _).take _
theorem cutV_ints (ns : List Int) (lo hi : Option Int) : cutV (ns.map V.int) lo hi = (cutL ns lo hi).map V.int := by
  unfold cutV cutL
  rw [List.length_map, List.map_take, List.map_drop]
def gSl (d : D) (lo hi : Option Int) : Option D := match d with
  | .lst ds => some (.lst (cutL ds lo hi))
  | .tup ds => some (.tup (cutL ds lo hi))
  | .scr ns => some (.lst ((cutL ns lo hi).map D.int))
  | .str z => if z.length ≤ sl then some (.str (cutS z lo hi)) else none
  | _ => none
theorem sIx_whole {α : Type} {xs : List α} {lo hi : Option Int} (h : HT.sIx xs.length 0 lo = 0 ∧ HT.sIx xs.length xs.length hi = xs.length) : cutL xs lo hi = xs := by
  unfold cutL
  rw [h.1, h.2]
  simp
def eSl (fa : En → R D) (fl fh : En → R (Option Int)) : En → R D := fun ρ => (fa ρ).bind fun a ρ1 => (fl ρ1).bind fun l ρ2 => (fh ρ2).bind fun h ρ3 => R.of (gSl a l h) ρ3
theorem se_sl {lo hi : Option Expr} {fl fh : En → R (Option Int)} {p2 : Pos} (ha : SE X W a fa) (hl : SO X W lo fl) (hh : SO X W hi fh) : SE X W (.Subscript a (.Slice lo hi none p2) pos) (eSl fa fl fh) := by
  obtain ⟨ta, pa, qa⟩ := ha
  obtain ⟨tl, pl, ql⟩ := hl
  obtain ⟨th, ph, qh⟩ := hh
  refine ⟨_, pe_slice (sl_list.or (sl_tupA.or sl_str)) pa pl ph, fun F H σ ρ Q j h => ?_⟩
  show ta σ H fun x H1 => tl σ H1 fun l H2 => th σ H2 fun u H3 => (rSlL X.K x l u H3 Q ∨ rSlA X.K x l u H3 Q ∨ rSlS x l u H3 Q)
  refine Post.step qa j h fun a ρ1 x F1 H1 j1 e1 r1 h1 => ?_
  refine Post.step ql j1 h1 fun l ρ2 l' F2 H2 j2 e2 r2 h2 => ?_
  refine Post.step qh j2 h2 fun u ρ3 u' F3 H3 j3 e3 r3 h3 => ?_
  have r2 : l' = l := r2
  have r3 : u' = u := r3
  subst r2 r3
  obtain ⟨d, e, w⟩ := h3.of_some
  have rx := (r1.mono e2.sub).mono e3.sub
  cases a <;> first | (cases e; done) | skip
  · rename_i z
    cases rx
    have e : (if z.length ≤ sl then some (D.str (cutS z l' u')) else none) = some d := e
    by_cases c : z.length ≤ sl
    · rw [if_pos c] at e
      cases e
      exact .inr (.inr ⟨z, rfl, by rw [← sl_eq]; exact c, w _ F3 H3 j3 .refl (.str _)⟩)
    · rw [if_neg c] at e
      cases e
  · cases e
    cases rx with
    | lst s r => exact .inl ⟨_, _, rfl, SqL.of (j3.sub _ _ s), fun p hp => Wish.lst w j3 (r.cut l' u') hp⟩
  · cases e
    cases rx with
    | tup s r =>
      refine .inr (.inl ⟨_, _, rfl, seqT_mono j3.sub s, fun hw => ?_, fun _ p hp => Wish.tup w j3 (r.cut l' u') hp⟩)
      rw [r.length] at hw
      refine w _ F3 H3 j3 .refl ?_
      rw [sIx_whole hw]
      exact .tup s r
  · cases e
    cases rx with
    | scr s =>
      refine .inl ⟨_, _, rfl, j3.sub.seq s, fun p hp => ?_⟩
      rw [cutV_ints]
      exact Wish.lst w j3 (.ofInts _) hp
/-- xs[::-1] -/
def gRev : D → Option D
  | .lst ds => some (.lst ds.reverse)
  | .scr ns => some (.lst (ns.reverse.map D.int))
  | _ => none
theorem se_rev {k : Nat} {p1 p2 p3 : Pos} (ha : SE X W a fa) : SE X W (.Subscript a (.Slice none none (some (.UnaryOp .USub (.Constant (.int 1) k p1) p2)) p3) pos) (eUn gRev fa) := by
  obtain ⟨ta, pa, qa⟩ := ha
  refine ⟨_, pe_revL pa, fun F H σ ρ Q j h => ?_⟩
  show ta σ H fun x H1 => ∃ a xs, x = .ref a ∧ SqL X.K H1 a xs ∧ ∀ p, H1 p = none → Q (.ref p) (upd H1 p (.lst xs.reverse))
  refine Post.step qa j h fun a ρ1 x F1 H1 j1 e1 r1 h1 => ?_
  obtain ⟨d, e, w⟩ := h1.of_some
  cases a <;> first | (cases e; done) | skip
  · cases e
    cases r1 with
    | lst s r => exact ⟨_, _, rfl, SqL.of (j1.sub _ _ s), fun p hp => Wish.lst w j1 r.reverse hp⟩
  · cases e
    cases r1 with
    | scr s =>
      refine ⟨_, _, rfl, j1.sub.seq s, fun p hp => ?_⟩
      rw [← List.map_reverse]
      exact Wish.lst w j1 (.ofInts _) hp

/-! ### argument lists and displays -/
def aNil : En → R (List D) := fun ρ => .ok [] ρ
def aCons (f : En → R D) (g : En → R (List D)) : En → R (List D) := fun ρ => (f ρ).bind fun d ρ1 => (g ρ1).bind fun ds ρ2 => .ok (d :: ds) ρ2
theorem sa_nil : SA X W [] aNil := ⟨_, pa_nil, fun F H σ ρ Q j h => h [] F H j .refl .nil⟩
theorem sa_cons {es : List Expr} {g : En → R (List D)} (ha : SE X W a fa) (hb : SA X W es g) (hs : starEach (a :: es) X.env = (false, eval a X.env) :: starEach es X.env := by rfl) : SA X W (a :: es) (aCons fa g) := by
  obtain ⟨t, p, q⟩ := ha
  obtain ⟨u, p', q'⟩ := hb
  refine ⟨_, pa_cons p p' hs, fun F H σ ρ Q j h => ?_⟩
  show t σ H fun x H1 => u σ H1 fun xs H2 => Q (x :: xs) H2
  refine Post.step q j h fun d ρ1 x F1 H1 j1 e1 r1 h1 => ?_
  refine Post.step q' j1 h1 fun ds ρ2 xs F2 H2 j2 e2 r2 h2 => ?_
  exact h2 _ F2 H2 j2 .refl (.cons (r1.mono e2.sub) r2)
def mkT (ds : List D) : Option D := if ds.length ≤ sl then some (.tup ds) else none
def mkL (ds : List D) : Option D := if ds.length ≤ sl then some (.lst ds) else none
def eA (g : List D → Option D) (f : En → R (List D)) : En → R D := fun ρ => (f ρ).bind fun ds ρ1 => R.of (g ds) ρ1
theorem se_tup {es : List Expr} {g : En → R (List D)} {x1} (h : SA X W es g) : SE X W (.Tuple es x1 pos) (eA mkT g) := by
  obtain ⟨t, p, q⟩ := h
  refine ⟨_, pe_tup p, fun F H σ ρ Q j h => ?_⟩
  show t σ H fun xs H1 => xs.length ≤ sizeLine ∧ ∀ p, H1 p = none → Q (.ref p) (upd H1 p (.tup xs))
  refine Post.step q j h fun ds ρ1 x F1 H1 j1 e1 r1 h1 => ?_
  obtain ⟨d, e, w⟩ := h1.of_some
  unfold mkT at e
  by_cases c : ds.length ≤ sl
  · rw [if_pos c] at e
    cases e
    exact ⟨by rw [RpA.length r1, ← sl_eq]; exact c, fun p hp => Wish.tup w j1 r1 hp⟩
  · rw [if_neg c] at e
    cases e
theorem se_lst {es : List Expr} {g : En → R (List D)} (h : SA X W es g) : SE X W (.List es pos) (eA mkL g) := by
  obtain ⟨t, p, q⟩ := h
  refine ⟨_, pe_lst p, fun F H σ ρ Q j h => ?_⟩
  show t σ H fun xs H1 => xs.length ≤ sizeLine ∧ ∀ p, H1 p = none → Q (.ref p) (upd H1 p (.lst xs))
  refine Post.step q j h fun ds ρ1 x F1 H1 j1 e1 r1 h1 => ?_
  obtain ⟨d, e, w⟩ := h1.of_some
  unfold mkL at e
  by_cases c : ds.length ≤ sl
  · rw [if_pos c] at e
    cases e
    exact ⟨by rw [RpA.length r1, ← sl_eq]; exact c, fun p hp => Wish.lst w j1 r1 hp⟩
  · rw [if_neg c] at e
    cases e

/-! ### built-ins by name -/
def CallOk (K : PySem.W.Frag) (r : List V → Hp → VK → Prop) (g : List D → Option D) : Prop :=
  ∀ (vs : List V) (ds : List D) (d : D) (F H : Hp) (σ : St) (ρ : En) (Q : VK), J K F H σ ρ → RpA K F vs ds → g ds = some d → Wish K σ ρ F H d Q → r vs H Q
theorem sd_cb {r : List V → Hp → VK → Prop} {g : List D → Option D} {t : TA} {f : En → R (List D)} (ok : CallOk K r g) (h : Sd K W (relA K) t f) : Sd K W (relD K) (tCB r t) (eA g f) := by
  intro F H σ ρ Q j p
  show t σ H fun vs H1 => r vs H1 Q
  refine Post.step h j p fun ds ρ1 x F1 H1 j1 e1 r1 h1 => ?_
  obtain ⟨d, e, w⟩ := h1.of_some
  exact ok x ds d F1 H1 σ ρ1 Q j1 r1 e w
/-- a built-in with what it is on data -/
structure Blt (X : Cx) (id : String) (g : List D → Option D) : Prop where
  ex : ∃ r, CallR X (.builtin id) r ∧ CallOk X.K r g
structure BltT (X : Cx) (T : String) (g : List D → Option D) : Prop where
  ex : ∃ r, CallR X (.type T) r ∧ CallOk X.K r g
variable {x : Str} {p : Pos} {es : List Expr} {f' : En → R (List D)} {id T : String} {gg : List D → Option D}
theorem se_b (hc : Blt X id gg) (hm : X.mg x = none) (ha : SA X W (a :: es) f') (hg : Gl X x := by rfl) (hv : bootBuiltins x = some (.builtin id) := by decide +kernel) (hn : x ≠ "__name__" := by decide) (hdb : (x == ("__debug__" : Str)) = false := by decide)
    (he : starEach (a :: es) X.env = (false, eval a X.env) :: starEach es X.env := by rfl) (hpl : (backTo pos (starEach es X.env)).any (·.1) = false := by rfl) : SE X W (.Call (.Name x p) (a :: es) [] pos) (eA gg f') := by
  obtain ⟨r, h1, h2⟩ := hc.ex
  obtain ⟨t, pa, qa⟩ := ha
  exact ⟨_, pe_callB h1 hg hm hv pa hn hdb he hpl, sd_cb h2 qa⟩
theorem se_bT (hc : BltT X T gg) (hm : X.mg x = none) (ha : SA X W (a :: es) f') (hg : Gl X x := by rfl) (hv : bootBuiltins x = some (.type T) := by decide +kernel) (hn : x ≠ "__name__" := by decide) (hdb : (x == ("__debug__" : Str)) = false := by decide)
    (he : starEach (a :: es) X.env = (false, eval a X.env) :: starEach es X.env := by rfl) (hpl : (backTo pos (starEach es X.env)).any (·.1) = false := by rfl) : SE X W (.Call (.Name x p) (a :: es) [] pos) (eA gg f') := by
  obtain ⟨r, h1, h2⟩ := hc.ex
  obtain ⟨t, pa, qa⟩ := ha
  exact ⟨_, pe_callTy h1 hg hm hv pa hn hdb he hpl, sd_cb h2 qa⟩
/-- a built-in that the module imported -/
theorem se_bI (hc : Blt X id gg) (hm : X.mg x = some (.builtin id)) (ha : SA X W (a :: es) f') (hg : Gl X x := by rfl) (hdb : (x == ("__debug__" : Str)) = false := by decide)
    (he : starEach (a :: es) X.env = (false, eval a X.env) :: starEach es X.env := by rfl) (hpl : (backTo pos (starEach es X.env)).any (·.1) = false := by rfl) : SE X W (.Call (.Name x p) (a :: es) [] pos) (eA gg f') := by
  obtain ⟨r, h1, h2⟩ := hc.ex
  obtain ⟨t, pa, qa⟩ := ha
  exact ⟨_, pe_callBfun h1 hg hm pa hdb he hpl, sd_cb h2 qa⟩
def gLen : List D → Option D
  | [.lst ds] => some (.int ds.length)
  | [.tup ds] => some (.int ds.length)
  | [.scr ds] => some (.int ds.length)
  | [.str z] => if z.length ≤ sl then some (.int z.length) else none
  | _ => none
theorem b_len : Blt X "len" gLen := ⟨_, call_len, fun vs ds d F H σ ρ Q j r e w => by
  cases r with
  | nil => cases e
  | cons r t =>
    cases t with
    | cons _ _ => rename_i z _ _ _ _ _ _; cases z <;> cases e
    | nil =>
      cases r with
      | lst s r => cases e; exact ⟨_, _, rfl, .inl ⟨_, SqL.of (j.sub _ _ s), rfl⟩, w.flat j (by rw [r.length]; exact .int _)⟩
      | tup s r => cases e; exact ⟨_, _, rfl, .inr ⟨_, seqT_mono j.sub s, rfl⟩, w.flat j (by rw [r.length]; exact .int _)⟩
      | scr s => cases e; exact ⟨_, _, rfl, .inl ⟨_, j.sub.seq s, rfl⟩, w.flat j (by rw [List.length_map]; exact .int _)⟩
      | str z =>
        have e : (if z.length ≤ sl then some (D.int z.length) else none) = some d := e
        by_cases c : z.length ≤ sl
        · rw [if_pos c] at e
          cases e
          exact ⟨_, _, rfl, ⟨by rw [← sl_eq]; exact c, rfl⟩, w.flat j (.int _)⟩
        · rw [if_neg c] at e
          cases e
      | _ => cases e⟩
/-- len(x) of an own list that stays own -/
def eLenP (i : Nat) : En → R D := fun ρ => match ρ[i]? with
  | some (.ow (.l ds)) => .ok (.int ds.length) ρ
  | some (.sh d) => R.of (gLen [d]) ρ
  | _ => .bad
theorem se_lenP (i : Nat) {y : Str} {py : Pos} (n : Nm X i y) (hm : X.mg x = none) (hx : x = ("len" : Str) := by rfl) (hg : Gl X x := by rfl)
    (he : starEach ([.Name y py]) X.env = (false, eval (.Name y py) X.env) :: starEach [] X.env := by rfl) (hpl : (backTo pos (starEach [] X.env)).any (·.1) = false := by rfl) : SE X W (.Call (.Name x p) [.Name y py] [] pos) (eLenP i) := by
  subst hx
  refine ⟨_, pe_callB call_len hg hm (by decide +kernel) (pa_cons n.pe pa_nil he) (by decide) (by decide) he hpl, fun F H σ ρ Q j h => ?_⟩
  show ∃ v, σ[i]? = some (some v) ∧ (fun xs H Q => ∃ x n, xs = [x] ∧ LenV X.K x H n ∧ Q (.int n) H : List V → Hp → VK → Prop) [v] H Q
  unfold eLenP at h
  cases e : ρ[i]? with
  | none => rw [e] at h; exact h.elim
  | some s =>
    rw [e] at h
    cases s with
    | em => exact h.elim
    | sh d =>
      obtain ⟨z, e2, w⟩ := h.of_some
      obtain ⟨v, q1, q2⟩ := j.at_ i _ e
      refine ⟨v, q1, ?_⟩
      cases q2 with
      | lst s r => cases e2; exact ⟨_, _, rfl, .inl ⟨_, SqL.of (j.sub _ _ s), rfl⟩, w _ F H j .refl (by rw [r.length]; exact .int _)⟩
      | tup s r => cases e2; exact ⟨_, _, rfl, .inr ⟨_, seqT_mono j.sub s, rfl⟩, w _ F H j .refl (by rw [r.length]; exact .int _)⟩
      | scr s => cases e2; exact ⟨_, _, rfl, .inl ⟨_, j.sub.seq s, rfl⟩, w _ F H j .refl (by rw [List.length_map]; exact .int _)⟩
      | str z =>
        have e2 : (if z.length ≤ sl then some (D.int z.length) else none) = some _ := e2
        by_cases c : z.length ≤ sl
        · rw [if_pos c] at e2
          cases e2
          exact ⟨_, _, rfl, ⟨by rw [← sl_eq]; exact c, rfl⟩, w _ F H j .refl (.int _)⟩
        · rw [if_neg c] at e2
          cases e2
      | _ => cases e2
    | ow c =>
      cases c with
      | d _ => exact h.elim
      | l ds =>
        obtain ⟨a, o, e1, e2, e3, e4⟩ := j.at_ i _ e
        obtain ⟨xs, rfl, e4⟩ := e4.l
        exact ⟨_, e1, _, _, rfl, .inl ⟨_, SqL.of e3, rfl⟩, h _ F H j .refl (by rw [e4.length]; exact .int _)⟩
def g1I (g : Int → D) : List D → Option D
  | [.int i] => some (g i)
  | _ => none
def g2I (g : Int → Int → D) : List D → Option D
  | [.int i, .int k] => some (g i k)
  | _ => none
theorem args1I {vs : List V} {ds : List D} {d : D} {g : Int → D} (r : RpA K F vs ds) (e : g1I g ds = some d) : ∃ i, vs = [.int i] ∧ d = g i := by
  cases r with
  | nil => cases e
  | cons r t =>
    cases t with
    | cons _ _ => rename_i z _ _ _ _ _ _; cases z <;> cases e
    | nil => cases r <;> first | (cases e; done) | skip
             cases e
             exact ⟨_, rfl, rfl⟩
theorem args2I {vs : List V} {ds : List D} {d : D} {g : Int → Int → D} (r : RpA K F vs ds) (e : g2I g ds = some d) : ∃ i k, vs = [.int i, .int k] ∧ d = g i k := by
  cases r with
  | nil => cases e
  | cons r t =>
    cases t with
    | nil => cases r <;> cases e
    | cons r2 t =>
      cases t with
      | cons _ _ => rename_i z1 _ z2 _ _ _ _ _ _ <;> cases r <;> first | (cases e; done) | (cases r2 <;> cases e)
      | nil =>
        cases r <;> first | (cases e; done) | skip
        cases r2 <;> first | (cases e; done) | skip
        cases e
        exact ⟨_, _, rfl, rfl⟩
theorem b_abs : Blt X "abs" (g1I fun i => .int (if i < 0 then -i else i)) := ⟨_, call_abs, fun vs ds d F H σ ρ Q j r e w => by
  obtain ⟨i, rfl, rfl⟩ := args1I r e
  exact ⟨i, rfl, w.flat j (.int _)⟩⟩
theorem b_gcd : Blt X "math.gcd" (g2I fun i k => .int (Nat.gcd i.natAbs k.natAbs : Nat)) := ⟨_, cr_gcd, fun vs ds d F H σ ρ Q j r e w => by
  obtain ⟨i, k, rfl, rfl⟩ := args2I r e
  exact ⟨i, k, rfl, w.flat j (.int _)⟩⟩
theorem b_max2 (hc : X.calm = true) : Blt X "max" (g2I fun i k => .int (if k > i then k else i)) := ⟨_, call_max2 hc, fun vs ds d F H σ ρ Q j r e w => by
  obtain ⟨i, k, rfl, rfl⟩ := args2I r e
  exact ⟨i, k, rfl, w.flat j (.int _)⟩⟩
theorem b_min2 (hc : X.calm = true) : Blt X "min" (g2I fun i k => .int (if k < i then k else i)) := ⟨_, call_min2 hc, fun vs ds d F H σ ρ Q j r e w => by
  obtain ⟨i, k, rfl, rfl⟩ := args2I r e
  exact ⟨i, k, rfl, w.flat j (.int _)⟩⟩
def gInt : List D → Option D
  | [.int i] => some (.int i)
  | [.bl b] => some (.int (if b then 1 else 0))
  | _ => none
theorem b_int : BltT X "int" gInt := ⟨_, call_int1, fun vs ds d F H σ ρ Q j r e w => by
  cases r with
  | nil => cases e
  | cons r t =>
    cases t with
    | cons _ _ => rename_i z _ _ _ _ _ _; cases z <;> cases e
    | nil =>
      cases r <;> first | (cases e; done) | skip
      · cases e; exact .inr ⟨_, rfl, w.flat j (.int _)⟩
      · cases e; exact .inl ⟨_, rfl, w.flat j (.int _)⟩⟩
def gList : List D → Option D
  | [.lst ds] => some (.lst ds)
  | [.tup ds] => some (.lst ds)
  | [.scr ns] => some (.lst (ns.map D.int))
  | _ => none
theorem b_list : BltT X "list" gList := ⟨_, call_list_of, fun vs ds d F H σ ρ Q j r e w => by
  cases r with
  | nil => cases e
  | cons r t =>
    cases t with
    | cons _ _ => rename_i z _ _ _ _ _ _; cases z <;> cases e
    | nil =>
      cases r <;> first | (cases e; done) | skip
      · rename_i s r
        cases e; exact ⟨_, _, rfl, .inl (SqL.of (j.sub _ _ s)), fun p hp => Wish.lst w j r hp⟩
      · rename_i s
        cases e; exact ⟨_, _, rfl, .inl (j.sub.seq s), fun p hp => Wish.lst w j (.ofInts _) hp⟩
      · rename_i s r
        cases e; exact ⟨_, _, rfl, .inr (seqT_mono j.sub s), fun p hp => Wish.lst w j r hp⟩⟩
def gTup : List D → Option D
  | [.lst ds] => some (.tup ds)
  | [.tup ds] => some (.tup ds)
  | [.scr ns] => some (.tup (ns.map D.int))
  | _ => none
theorem b_tup : BltT X "tuple" gTup := ⟨_, call_tuple_of, fun vs ds d F H σ ρ Q j r e w => by
  cases r with
  | nil => cases e
  | cons r t =>
    cases t with
    | cons _ _ => rename_i z _ _ _ _ _ _; cases z <;> cases e
    | nil =>
      cases r <;> first | (cases e; done) | skip
      · rename_i s r
        cases e; exact ⟨_, _, rfl, .inl ⟨SqL.of (j.sub _ _ s), fun p hp => Wish.tup w j r hp⟩⟩
      · rename_i s
        cases e; exact ⟨_, _, rfl, .inl ⟨j.sub.seq s, fun p hp => Wish.tup w j (.ofInts _) hp⟩⟩
      · rename_i s r
        cases e; exact ⟨_, _, rfl, .inr ⟨seqT_mono j.sub s, w.flat j (.tup s r)⟩⟩⟩
/-- all items bools, ints, texts -/
def allB : List D → Option (List Bool)
  | [] => some []
  | .bl b :: r => (allB r).map (b :: ·)
  | _ => none
def allI : List D → Option (List Int)
  | [] => some []
  | .int b :: r => (allI r).map (b :: ·)
  | _ => none
def allS : List D → Option (List Str)
  | [] => some []
  | .str b :: r => (allS r).map (b :: ·)
  | _ => none
theorem allB_eq : ∀ {ds : List D} {bs : List Bool}, allB ds = some bs → ds = bs.map D.bl
  | [], bs, h => by cases h; rfl
  | d :: ds, bs, h => by
    cases d <;> first | (cases h; done) | skip
    rename_i b
    have h : (allB ds).map (b :: ·) = some bs := h
    cases q : allB ds with
    | none => rw [q] at h; cases h
    | some cs =>
      rw [q] at h
      cases h
      rw [allB_eq q]
      rfl
theorem allI_eq : ∀ {ds : List D} {bs : List Int}, allI ds = some bs → ds = bs.map D.int
  | [], bs, h => by cases h; rfl
  | d :: ds, bs, h => by
    cases d <;> first | (cases h; done) | skip
    rename_i b
    have h : (allI ds).map (b :: ·) = some bs := h
    cases q : allI ds with
    | none => rw [q] at h; cases h
    | some cs =>
      rw [q] at h
      cases h
      rw [allI_eq q]
      rfl
theorem allS_eq : ∀ {ds : List D} {bs : List Str}, allS ds = some bs → ds = bs.map D.str
  | [], bs, h => by cases h; rfl
  | d :: ds, bs, h => by
    cases d <;> first | (cases h; done) | skip
    rename_i b
    have h : (allS ds).map (b :: ·) = some bs := h
    cases q : allS ds with
    | none => rw [q] at h; cases h
    | some cs =>
      rw [q] at h
      cases h
      rw [allS_eq q]
      rfl
theorem allB_map : ∀ (bs : List Bool), allB (bs.map D.bl) = some bs
  | [] => rfl
  | b :: bs => by show (allB (bs.map D.bl)).map (b :: ·) = _; rw [allB_map bs]; rfl
theorem allI_map : ∀ (bs : List Int), allI (bs.map D.int) = some bs
  | [] => rfl
  | b :: bs => by show (allI (bs.map D.int)).map (b :: ·) = _; rw [allI_map bs]; rfl
theorem allS_map : ∀ (bs : List Str), allS (bs.map D.str) = some bs
  | [] => rfl
  | b :: bs => by show (allS (bs.map D.str)).map (b :: ·) = _; rw [allS_map bs]; rfl
def gL {α : Type} (al : List D → Option α) (g : α → D) : List D → Option D
  | [.lst ds] => (al ds).map g
  | _ => none
theorem argsL {α : Type} {al : List D → Option α} {g : α → D} {vs : List V} {ds : List D} {d : D} (S : Same F H) (r : RpA K F vs ds) (e : gL al g ds = some d) : ∃ a xs es y, vs = [.ref a] ∧ H a = some (.lst xs) ∧ RpA K F xs es ∧ al es = some y ∧ d = g y := by
  cases r with
  | nil => cases e
  | cons r t =>
    cases t with
    | cons _ _ => rename_i z _ _ _ _ _ _; cases z <;> cases e
    | nil =>
      cases r <;> first | (cases e; done) | skip
      rename_i a xs es s r
      have e : (al es).map g = some d := e
      cases q : al es with
      | none => rw [q] at e; cases e
      | some y =>
        rw [q] at e
        cases e
        exact ⟨a, xs, es, y, rfl, S _ _ s, r, q, rfl⟩
theorem b_any (hc : X.calm = true) : Blt X "any" (gL allB fun bs => .bl (bs.any _root_.id)) := ⟨_, cr_any hc, fun vs ds d F H σ ρ Q j r e w => by
  obtain ⟨a, xs, es, y, rfl, s, r, q, rfl⟩ := argsL j.sub r e
  rw [allB_eq q] at r
  rw [r.bls] at s
  exact ⟨a, y, rfl, SqL.of s, w.flat j (.bl _)⟩⟩
theorem b_all (hc : X.calm = true) : Blt X "all" (gL allB fun bs => .bl (bs.all _root_.id)) := ⟨_, cr_all hc, fun vs ds d F H σ ρ Q j r e w => by
  obtain ⟨a, xs, es, y, rfl, s, r, q, rfl⟩ := argsL j.sub r e
  rw [allB_eq q] at r
  rw [r.bls] at s
  exact ⟨a, y, rfl, SqL.of s, w.flat j (.bl _)⟩⟩
theorem b_sum (hc : X.calm = true) : Blt X "sum" (gL allI fun ns => .int ns.sum) := ⟨_, cr_sum hc, fun vs ds d F H σ ρ Q j r e w => by
  obtain ⟨a, xs, es, y, rfl, s, r, q, rfl⟩ := argsL j.sub r e
  rw [allI_eq q] at r
  rw [r.ints] at s
  exact ⟨a, y, rfl, SqL.of s, w.flat j (.int _)⟩⟩
/-- the type's name of data -/
def tyD : D → Option String
  | .non => some "NoneType"
  | .bl _ => some "bool"
  | .int _ => some "int"
  | .str _ => some "str"
  | .lst _ => some "list"
  | .tup _ => some "tuple"
  | .scr _ => some "list"
  | .obj _ _ => none
theorem tyX_of {v : V} {d : D} {T : String} (S : Same F H) (r : Rp K F v d) (e : tyD d = some T) : TyX K H v (.type T) := by
  cases r with
  | non => cases e; exact .base .non
  | bl b => cases e; exact .base (.bl b)
  | int i => cases e; exact .base (.int i)
  | str x => cases e; exact .base (.str x)
  | lst s r => cases e; exact .base (.lst (S _ _ s))
  | tup s r =>
    cases e
    rcases seqT_mono S s with (h | ⟨o, h⟩) | ⟨o, its, n, h, hc, _⟩
    · exact .base (.tup h)
    · exact .fTuple h
    · exact .kTuple h hc
  | scr s =>
    cases e
    rcases S.seq s with (h | ⟨o, h⟩) | ⟨o, its, n, h, hc, _⟩
    · exact .base (.lst h)
    · exact .base (.frz h)
    · exact .kList h hc
  | obj _ _ => cases e
def eIsi (T : String) (f : En → R D) : En → R D := fun ρ => (f ρ).bind fun d ρ1 => R.of (((tyD d).bind fun t => kitB t T).map D.bl) ρ1
theorem se_isi {T : String} {xT : Str} {pT : Pos} (hm : X.mg x = none) (hmT : X.mg xT = none) (ha : SE X W a fa) (hx : x = ("isinstance" : Str) := by rfl) (hg : Gl X x := by rfl) (hgT : Gl X xT := by rfl) (hvT : bootBuiltins xT = some (.type T) := by decide +kernel) (hnT : xT ≠ "__name__" := by decide) (hdT : (xT == ("__debug__" : Str)) = false := by decide)
    (hs1 : starEach (a :: [.Name xT pT]) X.env = (false, eval a X.env) :: starEach [.Name xT pT] X.env := by rfl) (hs2 : starEach ([.Name xT pT]) X.env = (false, eval (.Name xT pT) X.env) :: starEach [] X.env := by rfl)
    (hpl : (backTo pos (starEach [.Name xT pT] X.env)).any (·.1) = false := by rfl) : SE X W (.Call (.Name x p) [a, .Name xT pT] [] pos) (eIsi T fa) := by
  subst hx
  obtain ⟨ta, pa, qa⟩ := ha
  have pT' : PE X (.Name xT pT) (tC (.ty T)) := pe_bltn hgT hmT hvT rfl hnT hdT
  refine ⟨_, pe_callB call_isi hg hm (by decide +kernel) (pa_cons pa (pa_cons pT' pa_nil hs2) hs1) (by decide) (by decide) hs1 hpl, fun F H σ ρ Q j h => ?_⟩
  show ta σ H fun x H1 => rIsi X.K [x, .ty T] H1 Q
  refine Post.step qa j h fun d ρ1 x F1 H1 j1 e1 r1 h1 => ?_
  obtain ⟨z, e, w⟩ := h1.of_some
  cases q : tyD d with
  | none => rw [q] at e; cases e
  | some t =>
    rw [q] at e
    have e : (kitB t T).map D.bl = some z := e
    cases q2 : kitB t T with
    | none => rw [q2] at e; cases e
    | some b =>
      rw [q2] at e
      cases e
      exact ⟨_, _, _, _, b, rfl, .ty T, tyX_of j1.sub r1 q, kit_ty q2, w _ F1 H1 j1 .refl (.bl b)⟩
end
end Pu
namespace Pu
open PySem PySem.Spec PyProof.Rows L2
set_option autoImplicit false

/-! ### fresh objects, statements: what is to be shown -/
inductive RS where
  | nx (ρ : En) | rt (d : D) (ρ : En) | rf (c : Ct) (ρ : En) | bk (ρ : En) | ct (ρ : En) | ex (x : Exn) (ρ : En) | bad
def R.toS {α : Type} (r : R α) (k : α → En → RS) : RS := match r with
  | .ok a ρ => k a ρ
  | .ex x ρ => .ex x ρ
  | .bad => .bad
def RS.seq (r : RS) (k : En → RS) : RS := match r with
  | .nx ρ => k ρ
  | .rt d ρ => .rt d ρ
  | .rf c ρ => .rf c ρ
  | .bk ρ => .bk ρ
  | .ct ρ => .ct ρ
  | .ex x ρ => .ex x ρ
  | .bad => .bad
def Pin (io : List Nat) (σ σ' : St) : Prop := ∀ i ∈ io, σ'[i]? = σ[i]?
theorem Pin.refl {io : List Nat} {σ : St} : Pin io σ σ := fun _ _ => rfl
theorem Pin.trans {io : List Nat} {σ σ1 σ2 : St} (a : Pin io σ σ1) (b : Pin io σ1 σ2) : Pin io σ σ2 := fun i h => (b i h).trans (a i h)
section
variable {α β : Type} {K : PySem.W.Frag} {W : WX} {io : List Nat} {σ σ1 : St} {ρ ρ1 : En} {F H F1 H1 : Hp}
/-- a fresh object's result -/
def PostF (K : PySem.W.Frag) (W : WX) (σ : St) (ρ : En) (F H : Hp) (r : R Ct) (Q : VK) : Prop := match r with
  | .ok c ρ' => ∀ p o F' H', J K F' H' σ ρ' → Ext (Own σ ρ) (Own σ ρ') F H F' H' → (Own σ ρ p ∨ H p = none) → F' p = none → H' p = some o → CtOk K F' o c → ¬ Own σ ρ' p → Q (.ref p) H'
  | .ex x ρ' => ∀ c dd F' H', J K F' H' σ ρ' → Ext (Own σ ρ) (Own σ ρ') F H F' H' → XRep K F' c dd x → W c dd σ H'
  | .bad => False
theorem PostF.shift {r : R Ct} {Q : VK} (h : PostF K W σ ρ F H r Q) (x : Ext (Own σ ρ) (Own σ ρ1) F H F1 H1) : PostF K W σ ρ1 F1 H1 r Q := by
  cases r with
  | ok d ρ' =>
    refine fun p o F' H' j y n f e c no => h p o F' H' j (x.trans y) ?_ f e c no
    rcases n with n | n
    · exact x.own p n
    · exact x.lost n
  | ex e ρ' => exact fun c dd F' H' j y r => h c dd F' H' j (x.trans y) r
  | bad => exact h
theorem PostF.step {rel : St → Hp → β → α → Prop} {f : En → R α} {t : TX β} {g : α → En → R Ct} {Q : VK} {Q1 : β → Hp → Prop} (q : Sd K W rel t f) (j : J K F H σ ρ) (h : PostF K W σ ρ F H ((f ρ).bind g) Q)
    (k : ∀ d ρ1 v F1 H1, J K F1 H1 σ ρ1 → Ext (Own σ ρ) (Own σ ρ1) F H F1 H1 → rel σ F1 v d → PostF K W σ ρ1 F1 H1 (g d ρ1) Q → Q1 v H1) : t σ H Q1 := by
  refine q F H σ ρ Q1 j ?_
  cases e : f ρ with
  | ok d ρ1 =>
    rw [e] at h
    have h : PostF K W σ ρ F H (g d ρ1) Q := h
    exact fun v F1 H1 j1 x1 r1 => k d ρ1 v F1 H1 j1 x1 r1 (h.shift x1)
  | ex x ρ1 =>
    rw [e] at h
    exact h
  | bad =>
    rw [e] at h
    exact h
def SF (X : Cx) (W : WX) (e : Expr) (f : En → R Ct) : Prop := ∃ t : TE, PE X e t ∧ ∀ F H σ ρ Q, J X.K F H σ ρ → PostF X.K W σ ρ F H (f ρ) Q → t σ H Q
/-- a statement's result -/
def PostS (K : PySem.W.Frag) (W : WX) (io : List Nat) (σ : St) (ρ : En) (F H : Hp) (r : RS) (D : Ends) : Prop := match r with
  | .nx ρ' => ∀ σ' F' H', J K F' H' σ' ρ' → Pin io σ σ' → Ext (Own σ ρ) (Own σ' ρ') F H F' H' → D.nx σ' H'
  | .bk ρ' => ∀ σ' F' H', J K F' H' σ' ρ' → Pin io σ σ' → Ext (Own σ ρ) (Own σ' ρ') F H F' H' → D.bk σ' H'
  | .ct ρ' => ∀ σ' F' H', J K F' H' σ' ρ' → Pin io σ σ' → Ext (Own σ ρ) (Own σ' ρ') F H F' H' → D.ct σ' H'
  | .rt d ρ' => ∀ σ' v F' H', J K F' H' σ' ρ' → Pin io σ σ' → Ext (Own σ ρ) (Own σ' ρ') F H F' H' → Rp K F' v d → D.rt v H'
  | .rf c ρ' => ∀ σ' p o F' H', J K F' H' σ' ρ' → Pin io σ σ' → Ext (Own σ ρ) (Own σ' ρ') F H F' H' → (Own σ ρ p ∨ H p = none) → F' p = none → H' p = some o → CtOk K F' o c → ¬ Own σ' ρ' p → D.rt (.ref p) H'
  | .ex x ρ' => ∀ σ' c dd F' H', J K F' H' σ' ρ' → Pin io σ σ' → Ext (Own σ ρ) (Own σ' ρ') F H F' H' → XRep K F' c dd x → W c dd σ' H'
  | .bad => False
theorem PostS.shift {r : RS} {D : Ends} (h : PostS K W io σ ρ F H r D) (p : Pin io σ σ1) (x : Ext (Own σ ρ) (Own σ1 ρ1) F H F1 H1) : PostS K W io σ1 ρ1 F1 H1 r D := by
  cases r with
  | nx ρ' => exact fun σ' F' H' j q y => h σ' F' H' j (p.trans q) (x.trans y)
  | bk ρ' => exact fun σ' F' H' j q y => h σ' F' H' j (p.trans q) (x.trans y)
  | ct ρ' => exact fun σ' F' H' j q y => h σ' F' H' j (p.trans q) (x.trans y)
  | rt d ρ' => exact fun σ' v F' H' j q y r => h σ' v F' H' j (p.trans q) (x.trans y) r
  | rf c ρ' =>
    refine fun σ' b o F' H' j q y n f e c no => h σ' b o F' H' j (p.trans q) (x.trans y) ?_ f e c no
    rcases n with n | n
    · exact x.own b n
    · exact x.lost n
  | ex e ρ' => exact fun σ' c dd F' H' j q y r => h σ' c dd F' H' j (p.trans q) (x.trans y) r
  | bad => exact h
theorem PostS.step {rel : St → Hp → β → α → Prop} {f : En → R α} {t : TX β} {g : α → En → RS} {D : Ends} {Q1 : β → Hp → Prop} (q : Sd K W rel t f) (j : J K F H σ ρ) (h : PostS K W io σ ρ F H ((f ρ).toS g) D)
    (k : ∀ d ρ1 v F1 H1, J K F1 H1 σ ρ1 → Ext (Own σ ρ) (Own σ ρ1) F H F1 H1 → rel σ F1 v d → PostS K W io σ ρ1 F1 H1 (g d ρ1) D → Q1 v H1) : t σ H Q1 := by
  refine q F H σ ρ Q1 j ?_
  cases e : f ρ with
  | ok d ρ1 =>
    rw [e] at h
    have h : PostS K W io σ ρ F H (g d ρ1) D := h
    exact fun v F1 H1 j1 x1 r1 => k d ρ1 v F1 H1 j1 x1 r1 (h.shift .refl x1)
  | ex x ρ1 =>
    rw [e] at h
    exact fun c dd F' H' j y r => h σ c dd F' H' j .refl y r
  | bad =>
    rw [e] at h
    exact h
theorem PostS.stepF {f : En → R Ct} {t : TE} {g : Ct → En → RS} {D : Ends} {Q1 : VK} (q : ∀ F H σ ρ Q, J K F H σ ρ → PostF K W σ ρ F H (f ρ) Q → t σ H Q) (j : J K F H σ ρ) (h : PostS K W io σ ρ F H ((f ρ).toS g) D)
    (k : ∀ c ρ1 p o F1 H1, J K F1 H1 σ ρ1 → Ext (Own σ ρ) (Own σ ρ1) F H F1 H1 → (Own σ ρ p ∨ H p = none) → F1 p = none → H1 p = some o → CtOk K F1 o c → ¬ Own σ ρ1 p → PostS K W io σ ρ F H (g c ρ1) D → Q1 (.ref p) H1) : t σ H Q1 := by
  refine q F H σ ρ Q1 j ?_
  cases e : f ρ with
  | ok d ρ1 =>
    rw [e] at h
    have h : PostS K W io σ ρ F H (g d ρ1) D := h
    exact fun p o F1 H1 j1 x1 n f e c no => k d ρ1 p o F1 H1 j1 x1 n f e c no h
  | ex x ρ1 =>
    rw [e] at h
    exact fun c dd F' H' j y r => h σ c dd F' H' j .refl y r
  | bad =>
    rw [e] at h
    exact h
def SS (X : Cx) (W : WX) (io : List Nat) (st : Stmt) (g : En → RS) : Prop := ∃ t : TS, PS X st t ∧ ∀ F H σ ρ D, J X.K F H σ ρ → PostS X.K W io σ ρ F H (g ρ) D → t D σ H
def SSs (X : Cx) (W : WX) (io : List Nat) (st : List Stmt) (g : En → RS) : Prop := ∃ t : TS, PSs X st t ∧ ∀ F H σ ρ D, J X.K F H σ ρ → PostS X.K W io σ ρ F H (g ρ) D → t D σ H

/-! ### the slots change -/
theorem J.setSh (j : J K F H σ ρ) {v : V} {d : D} (r : Rp K F v d) (i : Nat) : J K F H (σ.set i (some v)) (ρ.set i (.sh d)) ∧ Ext (Own σ ρ) (Own (σ.set i (some v)) (ρ.set i (.sh d))) F H F H := by
  refine ⟨⟨j.sub, by rw [List.length_set, List.length_set]; exact j.len, fun k s e => ?_, fun k l b s t hs ht os ot e e' => ?_⟩, ⟨Same.refl _, fun _ _ e => .inl e, fun _ _ e _ => e, fun a ha => ?_⟩⟩
  · rcases get_set e with ⟨rfl, rfl, hl⟩ | ⟨ne, e⟩
    · exact ⟨v, by rw [List.getElem?_set_self (by rw [j.len]; exact hl)], r⟩
    · rw [List.getElem?_set_ne (Ne.symm ne)]
      exact j.at_ k s e
  · rcases get_set hs with ⟨rfl, rfl, _⟩ | ⟨n1, hs⟩
    · cases os
    · rcases get_set ht with ⟨rfl, rfl, _⟩ | ⟨n2, ht⟩
      · cases ot
      · rw [List.getElem?_set_ne (Ne.symm n1)] at e
        rw [List.getElem?_set_ne (Ne.symm n2)] at e'
        exact j.inj k l b s t hs ht os ot e e'
  · obtain ⟨k, s, q1, q2, q3⟩ := ha
    rcases get_set q1 with ⟨rfl, rfl, _⟩ | ⟨n1, q1⟩
    · cases q2
    · rw [List.getElem?_set_ne (Ne.symm n1)] at q3
      exact .inl ⟨k, s, q1, q2, q3⟩
theorem J.setOw (j : J K F H σ ρ) {p : Addr} {o : HO} {c : Ct} (f : F p = none) (e : H p = some o) (h : CtOk K F o c) (no : ¬ Own σ ρ p) (i : Nat) :
    J K F H (σ.set i (some (.ref p))) (ρ.set i (.ow c)) ∧ ∀ a, Own (σ.set i (some (.ref p))) (ρ.set i (.ow c)) a → Own σ ρ a ∨ a = p := by
  have key : ∀ (k : Nat) (s : Slot) (b : Addr), (ρ.set i (.ow c))[k]? = some s → s.own = true → (σ.set i (some (V.ref p)))[k]? = some (some (.ref b)) → (k = i ∧ b = p) ∨ (k ≠ i ∧ ρ[k]? = some s ∧ σ[k]? = some (some (.ref b))) := fun k s b q1 q2 q3 => by
    rcases get_set q1 with ⟨rfl, rfl, h1⟩ | ⟨n1, q1'⟩
    · rw [List.getElem?_set_self (by rw [j.len]; exact h1)] at q3
      cases q3
      exact .inl ⟨rfl, rfl⟩
    · rw [List.getElem?_set_ne (Ne.symm n1)] at q3
      exact .inr ⟨n1, q1', q3⟩
  refine ⟨⟨j.sub, by rw [List.length_set, List.length_set]; exact j.len, fun k s e' => ?_, fun k l b s t hs ht os ot e1 e2 => ?_⟩, fun a ha => ?_⟩
  · rcases get_set e' with ⟨rfl, rfl, hl⟩ | ⟨ne, e'⟩
    · exact ⟨p, o, by rw [List.getElem?_set_self (by rw [j.len]; exact hl)], f, e, h⟩
    · rw [List.getElem?_set_ne (Ne.symm ne)]
      exact j.at_ k s e'
  · rcases key k s b hs os e1 with ⟨rfl, rfl⟩ | ⟨n1, a1, a2⟩
    · rcases key l t b ht ot e2 with ⟨rfl, _⟩ | ⟨n2, b1, b2⟩
      · rfl
      · exact absurd ⟨l, t, b1, ot, b2⟩ no
    · rcases key l t b ht ot e2 with ⟨rfl, rfl⟩ | ⟨n2, b1, b2⟩
      · exact absurd ⟨k, s, a1, os, a2⟩ no
      · exact j.inj k l b s t a1 b1 os ot a2 b2
  · obtain ⟨k, s, q1, q2, q3⟩ := ha
    rcases key k s a q1 q2 q3 with ⟨_, rfl⟩ | ⟨_, b1, b2⟩
    · exact .inr rfl
    · exact .inl ⟨k, s, b1, q2, b2⟩
/-- an own object changes -/
theorem J.put (j : J K F H σ ρ) {i : Nat} {c c' : Ct} {a : Addr} {o' : HO} (e : ρ[i]? = some (.ow c)) (ea : σ[i]? = some (some (.ref a))) (h : CtOk K F o' c') :
    J K F (upd H a o') σ (ρ.set i (.ow c')) ∧ Ext (Own σ ρ) (Own σ (ρ.set i (.ow c'))) F H F (upd H a o') := by
  obtain ⟨a', o, e1, f, e2, _⟩ := j.at_ i _ e
  rw [ea] at e1
  cases e1
  refine ⟨⟨fun b u q => ?_, by rw [List.length_set]; exact j.len, fun k s q => ?_, fun k l b s t hs ht os ot q1 q2 => ?_⟩, ⟨Same.refl _, fun _ _ q => .inl q, fun b u q no => ?_, fun b hb => ?_⟩⟩
  · rw [upd_ne (ne_of_none q f)]
    exact j.sub _ _ q
  · rcases get_set q with ⟨rfl, rfl, hl⟩ | ⟨ne, q⟩
    · exact ⟨a, o', ea, f, upd_same, h⟩
    · have z := j.at_ k s q
      cases s with
      | em => trivial
      | sh d => exact z
      | ow es =>
        obtain ⟨b, u, q1, q2, q3, q4⟩ := z
        have nb : b ≠ a := fun z => by
          subst z
          exact ne (j.inj k i b _ _ q e rfl rfl q1 ea)
        exact ⟨b, u, q1, q2, by rw [upd_ne nb]; exact q3, q4⟩
  · have old : ∀ {m : Nat} {s : Slot}, (ρ.set i (.ow c'))[m]? = some s → s.own = true → ∃ s', ρ[m]? = some s' ∧ s'.own = true := fun {m s} hm os => by
      rcases get_set hm with ⟨rfl, rfl, _⟩ | ⟨_, hm⟩
      · exact ⟨_, e, rfl⟩
      · exact ⟨s, hm, os⟩
    obtain ⟨s', hs', os'⟩ := old hs os
    obtain ⟨t', ht', ot'⟩ := old ht ot
    exact j.inj k l b s' t' hs' ht' os' ot' q1 q2
  · have nb : b ≠ a := fun z => by
      subst z
      exact no ⟨i, _, e, rfl, ea⟩
    rw [upd_ne nb]
    exact q
  · obtain ⟨k, s, q1, q2, q3⟩ := hb
    rcases get_set q1 with ⟨rfl, rfl, _⟩ | ⟨_, q1⟩
    · exact .inl ⟨k, _, e, rfl, q3⟩
    · exact .inl ⟨k, s, q1, q2, q3⟩
/-- something else changes -/
theorem J.other (j : J K F H σ ρ) {p : Addr} {o : HO} (f : F p = none) (no : ¬ Own σ ρ p) : J K F (upd H p o) σ ρ where
  sub := fun b u q => by rw [upd_ne (ne_of_none q f)]; exact j.sub _ _ q
  len := j.len
  at_ := fun k s q => by
    have z := j.at_ k s q
    cases s with
    | em => trivial
    | sh d => exact z
    | ow es =>
      obtain ⟨b, u, q1, q2, q3, q4⟩ := z
      have nb : b ≠ p := fun z => by
        subst z
        exact no ⟨k, _, q, rfl, q1⟩
      exact ⟨b, u, q1, q2, by rw [upd_ne nb]; exact q3, q4⟩
  inj := j.inj
/-- the heap grows -/
theorem J.grow (j : J K F H σ ρ) (s1 : Same F F1) (s2 : Same F1 H1) (s3 : Same H H1) (nw : ∀ a o, F1 a = some o → F a = some o ∨ H a = none) : J K F1 H1 σ ρ where
  sub := s2
  len := j.len
  at_ := fun i s e => (j.at_ i s e).mono s1 fun a o h f => by
    refine ⟨?_, s3 _ _ h⟩
    cases q : F1 a with
    | none => rfl
    | some u =>
      rcases nw a u q with z | z
      · rw [f] at z; cases z
      · rw [h] at z; cases z
  inj := j.inj
end

section
variable {X : Cx} {W : WX} {io : List Nat} {K : PySem.W.Frag} {F H : Hp} {σ : St} {ρ : En} {a b c e : Expr} {fa fb fc : En → R D} {ff : En → R Ct} {st : Stmt} {rest : List Stmt} {g h : En → RS} {pos : Pos}
theorem own_lt {p : Addr} (j : J K F H σ ρ) (hp : H p = none) : ¬ Own σ ρ p := fun ⟨i, s, e, os, ev⟩ => by
  cases s with
  | ow c =>
    obtain ⟨a, o, e1, _, e3, _⟩ := j.at_ i _ e
    rw [ev] at e1
    cases e1
    rw [hp] at e3
    cases e3
  | _ => cases os
/-- a fresh list becomes data -/
def frzC (c : Ct) : Option D := match c with
  | .l ds => some (.lst ds)
  | .d _ => none
def eF (f : En → R Ct) : En → R D := fun ρ => (f ρ).bind fun c ρ1 => R.of (frzC c) ρ1
theorem sd_F {t : TE} (q : ∀ F H σ ρ Q, J K F H σ ρ → PostF K W σ ρ F H (ff ρ) Q → t σ H Q) : Sd K W (relD K) t (eF ff) := by
  refine fun F H σ ρ Q j h => q F H σ ρ Q j ?_
  unfold eF at h
  cases e : ff ρ with
  | bad => rw [e] at h; exact h
  | ex x ρ1 => rw [e] at h; exact h
  | ok c ρ1 =>
    rw [e] at h
    have h : Post K W (relD K σ) σ ρ F H (R.of (frzC c) ρ1) Q := h
    intro p o F' H' j' x n f e' co no
    cases c with
    | d _ => exact h.elim
    | l ds =>
      obtain ⟨xs, rfl, co⟩ := co.l
      have h : ∀ v F' H', J K F' H' σ ρ1 → Ext (Own σ ρ) (Own σ ρ1) F H F' H' → Rp K F' v (.lst ds) → Q v H' := h
      have sm : Same F' (upd F' p (.lst xs)) := same_upd f
      refine h (.ref p) (upd F' p (.lst xs)) H' ⟨fun b u q => ?_, j'.len, fun i s e => ?_, j'.inj⟩ ⟨x.sub.trans sm, fun b u q => ?_, x.keep, x.own⟩ (.lst upd_same (co.mono sm))
      · by_cases hb : b = p
        · subst hb; rw [upd_same] at q; rw [← q]; exact e'
        · rw [upd_ne hb] at q; exact j'.sub _ _ q
      · have z := j'.at_ i s e
        cases s with
        | em => trivial
        | sh d => obtain ⟨v, q1, q2⟩ := z; exact ⟨v, q1, q2.mono sm⟩
        | ow c =>
          obtain ⟨b, u, q1, q2, q3, q4⟩ := z
          have nb : b ≠ p := fun z => by
            subst z
            exact no ⟨i, _, e, rfl, q1⟩
          exact ⟨b, u, q1, by rw [upd_ne nb]; exact q2, q3, q4.mono sm⟩
      · by_cases hb : b = p
        · subst hb; exact .inr n.symm
        · rw [upd_ne hb] at q; exact x.new b u q
theorem SF.se (h : SF X W e ff) : SE X W e (eF ff) := let ⟨t, p, q⟩ := h; ⟨t, p, sd_F q⟩
/-! ### blocks and small statements -/
theorem sss_nil : SSs X W io [] .nx := ⟨_, pss_nil, fun F H σ ρ D j h => h σ F H j .refl .refl⟩
theorem sss_one (h1 : SS X W io st g) : SSs X W io [st] g := let ⟨t, p, q⟩ := h1; ⟨t, pss_one p, q⟩
def sSeq (g h : En → RS) : En → RS := fun ρ => (g ρ).seq h
theorem sss_cons (h1 : SS X W io st g) (h2 : SSs X W io rest h) : SSs X W io (st :: rest) (sSeq g h) := by
  obtain ⟨t, p, q⟩ := h1
  obtain ⟨u, p', q'⟩ := h2
  refine ⟨_, pss_cons p p', fun F H σ ρ D j h' => ?_⟩
  show t { D with nx := u D } σ H
  refine q F H σ ρ _ j ?_
  unfold sSeq at h'
  cases e : g ρ with
  | nx ρ1 =>
    rw [e] at h'
    have h' : PostS X.K W io σ ρ F H (h ρ1) D := h'
    exact fun σ' F' H' j' pi x => q' F' H' σ' ρ1 D j' (h'.shift pi x)
  | bk ρ1 => rw [e] at h'; exact h'
  | ct ρ1 => rw [e] at h'; exact h'
  | rt d ρ1 => rw [e] at h'; exact h'
  | rf d ρ1 => rw [e] at h'; exact h'
  | ex d ρ1 => rw [e] at h'; exact h'
  | bad => rw [e] at h'; exact h'
end
end Pu
namespace Pu
open PySem PySem.Spec PyProof.Rows L2
set_option autoImplicit false
section
variable {X : Cx} {W : WX} {io : List Nat} {K : PySem.W.Frag} {F H : Hp} {σ : St} {ρ : En} {a b c e : Expr} {fa fb fc : En → R D} {ff : En → R Ct} {ft : En → R Bool} {st : Stmt} {rest as bs : List Stmt} {g h : En → RS} {pos : Pos}
theorem Pin.set {i : Nat} {v : V} (h : i ∉ io) : Pin io σ (σ.set i (some v)) := fun k hk => List.getElem?_set_ne (fun z => h (by rw [z]; exact hk))
/-! ### small statements -/
def sSet (i : Nat) (f : En → R D) : En → RS := fun ρ => (f ρ).toS fun d ρ1 => .nx (ρ1.set i (.sh d))
def sSetF (i : Nat) (f : En → R Ct) : En → RS := fun ρ => (f ρ).toS fun c ρ1 => .nx (ρ1.set i (.ow c))
def sRet (f : En → R D) : En → RS := fun ρ => (f ρ).toS fun d ρ1 => .rt d ρ1
def sRetF (f : En → R Ct) : En → RS := fun ρ => (f ρ).toS fun d ρ1 => .rf d ρ1
def sDrop (f : En → R D) : En → RS := fun ρ => (f ρ).toS fun _ ρ1 => .nx ρ1
def sIf (t : En → R Bool) (g h : En → RS) : En → RS := fun ρ => (t ρ).toS fun b ρ1 => match b with
  | true => g ρ1
  | false => h ρ1
/-- a local name that is stored -/
structure Ns (X : Cx) (i : Nat) (x : Str) : Prop where
  hi : X.N[i]? = some x
  hx : Loc X.env.scope x
  hf : X.fn x = true ∨ X.env.scope.names.lookup x = some .local
theorem ns (i : Nat) {x : Str} (hi : X.N[i]? = some x := by rfl) (hx : Loc X.env.scope x := by first | exact Or.inl rfl | exact Or.inr rfl) (hf : X.fn x = true ∨ X.env.scope.names.lookup x = some .local := by first | exact .inl rfl | exact .inr rfl | assumption) : Ns X i x := ⟨hi, hx, hf⟩
theorem ss_set {i : Nat} {x : Str} {pos' : Pos} (hN : X.N.Nodup) (n : Ns X i x) (he : SE X W e fa) (hio : i ∉ io := by decide) (hs : swapsWith e (some (.Name x pos')) pos.line X.env = pure false := by rfl) : SS X W io (.Assign [.Name x pos'] e pos) (sSet i fa) := by
  obtain ⟨t, p, q⟩ := he
  refine ⟨_, ps_set hN n.hi n.hx p hs n.hf, fun F H σ ρ D j h => ?_⟩
  show t σ H fun x H1 => D.nx (σ.set i (some x)) H1
  refine PostS.step q j h fun d ρ1 v F1 H1 j1 x1 r1 h1 => ?_
  obtain ⟨j2, x2⟩ := j1.setSh r1 i
  exact h1 _ F1 H1 j2 (Pin.set hio) x2
theorem ss_setF {i : Nat} {x : Str} {pos' : Pos} (hN : X.N.Nodup) (n : Ns X i x) (he : SF X W e ff) (hio : i ∉ io := by decide) (hs : swapsWith e (some (.Name x pos')) pos.line X.env = pure false := by rfl) : SS X W io (.Assign [.Name x pos'] e pos) (sSetF i ff) := by
  obtain ⟨t, p, q⟩ := he
  refine ⟨_, ps_set hN n.hi n.hx p hs n.hf, fun F H σ ρ D j h => ?_⟩
  show t σ H fun x H1 => D.nx (σ.set i (some x)) H1
  refine PostS.stepF q j h fun c ρ1 p o F1 H1 j1 x1 nw f1 e1 co no h1 => ?_
  obtain ⟨j2, ow⟩ := j1.setOw f1 e1 co no i
  refine h1 _ F1 H1 j2 (Pin.set hio) ⟨x1.sub, x1.new, x1.keep, fun b hb => ?_⟩
  rcases ow b hb with z | rfl
  · exact x1.own b z
  · exact nw
theorem ss_ret (he : SE X W e fa) : SS X W io (.Return (some e) pos) (sRet fa) := by
  obtain ⟨t, p, q⟩ := he
  refine ⟨_, ps_ret p, fun F H σ ρ D j h => ?_⟩
  show t σ H D.rt
  exact PostS.step q j h fun d ρ1 v F1 H1 j1 x1 r1 h1 => h1 σ v F1 H1 j1 .refl .refl r1
theorem ss_retF (he : SF X W e ff) : SS X W io (.Return (some e) pos) (sRetF ff) := by
  obtain ⟨t, p, q⟩ := he
  refine ⟨_, ps_ret p, fun F H σ ρ D j h => ?_⟩
  show t σ H D.rt
  exact PostS.stepF q j h fun c ρ1 p o F1 H1 j1 x1 nw f1 e1 co no h1 => h1 σ p o F1 H1 j1 .refl x1 nw f1 e1 co no
theorem ss_retN : SS X W io (.Return none pos) (fun ρ => .rt .non ρ) := ⟨_, ps_retN, fun F H σ ρ D j h => h σ .non F H j .refl .refl .non⟩
theorem ss_pass : SS X W io (.Pass pos) .nx := ⟨_, ps_pass, fun F H σ ρ D j h => h σ F H j .refl .refl⟩
theorem ss_break : SS X W io (.Break pos) .bk := ⟨_, ps_break, fun F H σ ρ D j h => h σ F H j .refl .refl⟩
theorem ss_cont : SS X W io (.Continue pos) .ct := ⟨_, ps_continue, fun F H σ ρ D j h => h σ F H j .refl .refl⟩
theorem ss_never : SS X W io st (fun _ => .bad) := ⟨_, ps_never, fun F H σ ρ D j h => h.elim⟩
theorem ss_drop (he : SE X W e fa) (hs : swapsWith e none pos.line X.env = pure false := by rfl) : SS X W io (.Expr e pos) (sDrop fa) := by
  obtain ⟨t, p, q⟩ := he
  refine ⟨_, ps_expr p hs, fun F H σ ρ D j h => ?_⟩
  show t σ H fun _ H1 => D.nx σ H1
  exact PostS.step q j h fun d ρ1 v F1 H1 j1 x1 r1 h1 => h1 σ F1 H1 j1 .refl .refl
theorem ss_if (hc : ST X W c ft) (ha : SSs X W io as g) (hb : SSs X W io bs h) : SS X W io (.If c as bs pos) (sIf ft g h) := by
  obtain ⟨t, p, q⟩ := hc
  obtain ⟨ta, pa, qa⟩ := ha
  obtain ⟨tb, pb, qb⟩ := hb
  refine ⟨_, ps_if p pa pb, fun F H σ ρ D j h => ?_⟩
  show t σ H fun b H1 => if b = true then ta D σ H1 else tb D σ H1
  refine PostS.step q j h fun d ρ1 v F1 H1 j1 x1 r1 h1 => ?_
  have r1 : v = d := r1
  subst r1
  cases v with
  | true => exact qa F1 H1 σ ρ1 D j1 h1
  | false => exact qb F1 H1 σ ρ1 D j1 h1
/-- x.append(e) -/
def sApp (i : Nat) (f : En → R D) : En → RS := fun ρ => match ρ[i]? with
  | some (.ow (.l _)) => (f ρ).toS fun d ρ1 => match ρ1[i]? with
    | some (.ow (.l ds)) => if ds.length < sl then .nx (ρ1.set i (.ow (.l (ds ++ [d])))) else .bad
    | _ => .bad
  | _ => .bad
theorem ss_app (i : Nat) {x : Str} {px ap cp : Pos} (n : Nm X i x) (he : SE X W e fa)
    (hst : starEach (e :: []) X.env = (false, eval e X.env) :: starEach [] X.env := by rfl) (hpl : (backTo cp (starEach [] X.env)).any (·.1) = false := by rfl)
    (hfew : ((backTo cp (starEach (e :: []) X.env)).all (fun x => !x.1) && (backToKw cp (keywordEach [] X.env)).all (fun x => x.1.isSome)
      && decide ((e :: ([] : List Expr)).length + ([] : List Keyword).length + (if ([] : List Keyword).isEmpty then 0 else 1) < 30)) = true := by rfl)
    (hline : (ap.endLine == cp.line) = true := by rfl)
    (hs : swapsWith (.Call (.Attribute (.Name x px) "append" ap) [e] [] cp) none pos.line X.env = pure false := by rfl)
    (hb : attributeBase (.Name x px) "append" X.env (eval (.Name x px) X.env) = eval (.Name x px) X.env := by rfl) :
    SS X W io (.Expr (.Call (.Attribute (.Name x px) "append" ap) [e] [] cp) pos) (sApp i fa) := by
  obtain ⟨t, p, q⟩ := he
  refine ⟨_, ps_expr (pe_bm PySem.F.plainAttrs_list PySem.F.slot_list_append PySem.F.type_list_append mt_append n.pe (pa_cons p pa_nil hst) hb hfew hline hst hpl) hs, fun F H σ ρ D j h => ?_⟩
  show ∃ v, σ[i]? = some (some v) ∧ tyV X.K "list" v H ∧ t σ H fun y H2 => rAppend v [y] H2 fun _ H3 => D.nx σ H3
  unfold sApp at h
  cases e0 : ρ[i]? with
  | none => rw [e0] at h; exact h.elim
  | some s =>
    rw [e0] at h
    cases s with
    | em => exact h.elim
    | sh d => exact h.elim
    | ow c =>
      cases c with
      | d _ => exact h.elim
      | l ds0 =>
        obtain ⟨a, o, ea, _, eh, co⟩ := j.at_ i _ e0
        obtain ⟨xs, rfl, _⟩ := co.l
        refine ⟨_, ea, .inl ⟨rfl, _, SqL.of eh⟩, ?_⟩
        refine PostS.step q j h fun d ρ1 v F1 H1 j1 x1 r1 h1 => ?_
        cases e1 : ρ1[i]? with
        | none => rw [e1] at h1; exact h1.elim
        | some s =>
          rw [e1] at h1
          cases s with
          | em => exact h1.elim
          | sh d => exact h1.elim
          | ow c =>
            cases c with
            | d _ => exact h1.elim
            | l ds =>
              have h1 : PostS X.K W io σ ρ1 F1 H1 (if ds.length < sl then RS.nx (ρ1.set i (.ow (.l (ds ++ [d])))) else .bad) D := h1
              by_cases hl : ds.length < sl
              · rw [if_pos hl] at h1
                obtain ⟨a', xs', rfl, fa', hx, r⟩ : ∃ a' xs', a = a' ∧ F1 a' = none ∧ H1 a' = some (.lst xs') ∧ RpA X.K F1 xs' ds := by
                  obtain ⟨a', o', ea', f', eh', co'⟩ := j1.at_ i _ e1
                  obtain ⟨xs', rfl, r⟩ := co'.l
                  rw [ea] at ea'
                  cases ea'
                  exact ⟨a, xs', rfl, f', eh', r⟩
                refine ⟨a, xs', v, rfl, rfl, hx, by rw [r.length, ← sl_eq]; exact hl, ?_⟩
                obtain ⟨j2, x2⟩ := j1.put (c' := .l (ds ++ [d])) (o' := .lst (xs' ++ [v])) e1 ea (r.append (.cons r1 .nil))
                exact h1 σ F1 _ j2 .refl x2
              · rw [if_neg hl] at h1
                exact h1.elim
/-- x[i] = e, x an own list -/
def sSto (i : Nat) (fi fv : En → R D) : En → RS := fun ρ => (fv ρ).toS fun d ρ1 => match ρ1[i]? with
  | some (.ow (.l _)) => (fi ρ1).toS fun k ρ2 => match k, ρ2[i]? with
    | .int n, some (.ow (.l ds)) => match ixN ds.length n with
      | some m => .nx (ρ2.set i (.ow (.l (ds.set m d))))
      | none => .bad
    | _, _ => .bad
  | _ => .bad
theorem ss_sto (i : Nat) {x : Str} {px p2 : Pos} {ix : Expr} {fi fv : En → R D} (n : Nm X i x) (hi : SE X W ix fi) (hv : SE X W e fv)
    (ha : ∀ v, assign (.Subscript (.Name x px) ix p2) X.env v = (do
      let ov ← holding [v] (eval (.Name x px) X.env)
      let iv ← holding [v, ov] (eval ix X.env)
      standAt p2
      holding [v, ov, iv] (setItem ov iv v)
      release [v, ov, iv] []) := by intro _; rfl)
    (hs : swapsWithSole [.Subscript (.Name x px) ix p2] e pos.line X.env = pure false := by rfl) (hw : swappedStores [.Subscript (.Name x px) ix p2] e X.env = pure none := by rfl)
    (h1 : (assignEach [.Subscript (.Name x px) ix p2] X.env).map (·.2) = [assign (.Subscript (.Name x px) ix p2) X.env] := by rfl) : SS X W io (.Assign [.Subscript (.Name x px) ix p2] e pos) (sSto i fi fv) := by
  obtain ⟨ti, pi, qi⟩ := hi
  obtain ⟨tv, pv, qv⟩ := hv
  refine ⟨_, ps_asg pv (pg_sub n.pe pi set_list ha) hs hw h1, fun F H σ ρ D j h => ?_⟩
  show tv σ H fun y H1 => ∃ v, σ[i]? = some (some v) ∧ ti σ H1 fun k H2 => rSetL v k y H2 fun H3 => D.nx σ H3
  refine PostS.step qv j h fun d ρ1 y F1 H1 j1 x1 r1 h1 => ?_
  cases e0 : ρ1[i]? with
  | none => rw [e0] at h1; exact h1.elim
  | some s =>
    rw [e0] at h1
    cases s with
    | em => exact h1.elim
    | sh d => exact h1.elim
    | ow c =>
      cases c with
      | d _ => exact h1.elim
      | l ds0 =>
        obtain ⟨a, o, ea, _, eh, co⟩ := j1.at_ i _ e0
        refine ⟨_, ea, ?_⟩
        refine PostS.step qi j1 h1 fun k ρ2 kv F2 H2 j2 x2 r2 h2 => ?_
        cases k <;> first | (exact h2.elim; done) | skip
        rename_i m
        cases r2
        cases e1 : ρ2[i]? with
        | none => rw [e1] at h2; exact h2.elim
        | some s =>
          rw [e1] at h2
          cases s with
          | em => exact h2.elim
          | sh d => exact h2.elim
          | ow c =>
            cases c with
            | d _ => exact h2.elim
            | l ds =>
              obtain ⟨a', o', ea', f', eh', co'⟩ := j2.at_ i _ e1
              obtain ⟨xs', rfl, r⟩ := co'.l
              rw [ea] at ea'
              cases ea'
              cases e2 : ixN ds.length m with
              | none =>
                have h2 : PostS X.K W io σ ρ2 F2 H2 (match ixN ds.length m with
                  | some m => RS.nx (ρ2.set i (.ow (.l (ds.set m d))))
                  | none => .bad) D := h2
                rw [e2] at h2
                exact h2.elim
              | some z =>
                have h2 : PostS X.K W io σ ρ2 F2 H2 (match ixN ds.length m with
                  | some m => RS.nx (ρ2.set i (.ow (.l (ds.set m d))))
                  | none => .bad) D := h2
                rw [e2] at h2
                refine ⟨a, xs', m, z, rfl, rfl, eh', by rw [r.length]; exact e2, ?_⟩
                obtain ⟨j3, x3⟩ := j2.put (c' := .l (ds.set z d)) (o' := .lst (xs'.set z y)) e1 ea (r.set (r1.mono x2.sub) z)
                exact h2 σ F2 _ j3 .refl x3
/-! ### dicts with written keys -/
def asKey : D → Option Key
  | .int i => some (.inl i)
  | .str s => some (.inr s)
  | _ => none
theorem key_of {v : V} {d : D} {k : Key} (r : Rp K F v d) (e : asKey d = some k) : v = kV k := by
  cases r <;> first | (cases e; done) | skip
  · cases e; rfl
  · cases e; rfl
def valD (kvs : List (Key × D)) (k : Key) : Option D := (kvs.find? fun kv => decide (kv.1 = k)).map (·.2)
def putD (kvs : List (Key × D)) (k : Key) (v : D) : List (Key × D) := if kvs.any (fun kv => decide (kv.1 = k)) then kvs.map fun kv => if kv.1 = k then (kv.1, v) else kv else kvs ++ [(k, v)]
theorem rk_val : ∀ {kvv : List (Key × V)} {kvs : List (Key × D)} {k : Key} {d : D}, RpK K F kvv kvs → valD kvs k = some d → ∃ v, valV kvv k = some v ∧ Rp K F v d
  | _, _, k, d, .nil, e => by cases e
  | _, _, k, d, .cons (a := p) (b := q) r t, e => by
    obtain ⟨e1, r⟩ := r
    by_cases hk : q.1 = k
    · have e2 : ∀ l, valD (q :: l) k = some q.2 := fun l => by simp [valD, List.find?_cons, hk]
      rw [e2] at e
      cases e
      exact ⟨p.2, valV_pos (e1.trans hk), r⟩
    · have e2 : ∀ l, valD (q :: l) k = valD l k := fun l => by simp [valD, List.find?_cons, hk]
      rw [e2] at e
      obtain ⟨v, h1, h2⟩ := rk_val t e
      exact ⟨v, by rw [valV_neg (fun z => hk (e1.symm.trans z))]; exact h1, h2⟩
theorem rk_any : ∀ {kvv : List (Key × V)} {kvs : List (Key × D)} {k : Key}, RpK K F kvv kvs → (kvv.any fun kv => decide (kv.1 = k)) = kvs.any fun kv => decide (kv.1 = k)
  | _, _, k, .nil => rfl
  | _, _, k, .cons r t => by
    rw [List.any_cons, List.any_cons, rk_any t, r.1]
theorem rk_map {k : Key} {v : V} {d : D} (rv : Rp K F v d) : ∀ {kvv : List (Key × V)} {kvs : List (Key × D)}, RpK K F kvv kvs → RpK K F (kvv.map fun kv => if kv.1 = k then (kv.1, v) else kv) (kvs.map fun kv => if kv.1 = k then (kv.1, d) else kv)
  | _, _, .nil => .nil
  | _, _, .cons (a := p) (b := q) r t => by
    rw [List.map_cons, List.map_cons]
    refine .cons ?_ (rk_map rv t)
    by_cases hk : q.1 = k
    · rw [if_pos hk, if_pos (r.1.trans hk)]
      exact ⟨r.1, rv⟩
    · rw [if_neg hk, if_neg (fun z => hk (r.1.symm.trans z))]
      exact r
theorem rk_app : ∀ {kvv lvv : List (Key × V)} {kvs lvs : List (Key × D)}, RpK K F kvv kvs → RpK K F lvv lvs → RpK K F (kvv ++ lvv) (kvs ++ lvs)
  | _, _, _, _, .nil, s => s
  | _, _, _, _, .cons r t, s => .cons r (rk_app t s)
theorem rk_put {kvv : List (Key × V)} {kvs : List (Key × D)} {k : Key} {v : V} {d : D} (r : RpK K F kvv kvs) (rv : Rp K F v d) : RpK K F (putK kvv k v) (putD kvs k d) := by
  unfold putK putD
  rw [rk_any r]
  split
  · exact rk_map rv r
  · exact rk_app r (.cons ⟨rfl, rv⟩ .nil)
theorem rk_len {kvv : List (Key × V)} {kvs : List (Key × D)} (r : RpK K F kvv kvs) : kvv.length = kvs.length := _root_.PySem.Paired.length r
/-- x[k] of an own dict -/
def eDg (i : Nat) (fk : En → R D) : En → R D := fun ρ => match hasV ρ[i]? with
  | true => (fk ρ).bind fun d ρ1 => match asKey d, ρ1[i]? with
    | some k, some (.ow (.d kvs)) => R.of (valD kvs k) ρ1
    | _, _ => .bad
  | false => .bad
theorem se_dg (i : Nat) {x : Str} {px : Pos} (hu : X.A.units + 1 < cLine) (n : Nm X i x) (hb : SE X W b fb) (hs : NoSl b := by exact fun _ _ => rfl) : SE X W (.Subscript (.Name x px) b pos) (eDg i fb) := by
  obtain ⟨tb, pb, qb⟩ := hb
  refine ⟨_, pe_dget hu n.pe pb hs, fun F H σ ρ Q j h => ?_⟩
  show ∃ v, σ[i]? = some (some v) ∧ tb σ H fun y H2 => ∃ a u, v = .ref a ∧ DGet H2 a y (some u) ∧ Q u H2
  unfold eDg at h
  cases hh : hasV ρ[i]? with
  | false => rw [hh] at h; exact h.elim
  | true =>
    rw [hh] at h
    obtain ⟨v, hv⟩ := j.has hh
    refine ⟨v, hv, Post.step qb j h fun d ρ1 y F1 H1 j1 e1 r1 h1 => ?_⟩
    cases ek : asKey d with
    | none => rw [ek] at h1; exact h1.elim
    | some k =>
      rw [ek] at h1
      cases es : ρ1[i]? with
      | none => rw [es] at h1; exact h1.elim
      | some s =>
        rw [es] at h1
        cases s with
        | em => exact h1.elim
        | sh d => exact h1.elim
        | ow c =>
          cases c with
          | l _ => exact h1.elim
          | d kvs =>
            obtain ⟨z, e2, w⟩ := h1.of_some
            obtain ⟨a, o, ea, f, eh, co⟩ := j1.at_ i _ es
            obtain ⟨kvv, rfl, r⟩ := co.d
            rw [hv] at ea
            cases ea
            obtain ⟨u, e3, e4⟩ := rk_val r e2
            refine ⟨a, u, rfl, ?_, w _ F1 H1 j1 .refl e4⟩
            rw [key_of r1 ek, ← e3]
            exact DGet.k eh
/-- x[k] = e, x an own dict -/
def sDp (i : Nat) (fk fv : En → R D) : En → RS := fun ρ => (fv ρ).toS fun d ρ1 => match hasV ρ1[i]? with
  | true => (fk ρ1).toS fun kd ρ2 => match asKey kd, ρ2[i]? with
    | some k, some (.ow (.d kvs)) => if kvs.length < sl then .nx (ρ2.set i (.ow (.d (putD kvs k d)))) else .bad
    | _, _ => .bad
  | false => .bad
theorem ss_dp (i : Nat) {x : Str} {px p2 : Pos} {ix : Expr} {fi fv : En → R D} (hu : X.A.units + 1 < cLine) (n : Nm X i x) (hi : SE X W ix fi) (hv : SE X W e fv)
    (hs : swapsWith e (some (.Subscript (.Name x px) ix p2)) pos.line X.env = pure false := by rfl) : SS X W io (.Assign [.Subscript (.Name x px) ix p2] e pos) (sDp i fi fv) := by
  obtain ⟨ti, pi, qi⟩ := hi
  obtain ⟨tv, pv, qv⟩ := hv
  refine ⟨_, ps_dput hu n.pe pi pv hs, fun F H σ ρ D j h => ?_⟩
  show tv σ H fun v H1 => ∃ o, σ[i]? = some (some o) ∧ ti σ H1 fun y H3 => ∃ a H4, o = .ref a ∧ DPut H3 a y v H4 ∧ D.nx σ H4
  refine PostS.step qv j h fun d ρ1 v F1 H1 j1 x1 r1 h1 => ?_
  cases hh : hasV ρ1[i]? with
  | false => rw [hh] at h1; exact h1.elim
  | true =>
    rw [hh] at h1
    obtain ⟨o, ho⟩ := j1.has hh
    refine ⟨o, ho, PostS.step qi j1 h1 fun kd ρ2 y F2 H2 j2 x2 r2 h2 => ?_⟩
    cases ek : asKey kd with
    | none => rw [ek] at h2; exact h2.elim
    | some k =>
      rw [ek] at h2
      cases es : ρ2[i]? with
      | none => rw [es] at h2; exact h2.elim
      | some s =>
        rw [es] at h2
        cases s with
        | em => exact h2.elim
        | sh d => exact h2.elim
        | ow c =>
          cases c with
          | l _ => exact h2.elim
          | d kvs =>
            have h2 : PostS X.K W io σ ρ2 F2 H2 (if kvs.length < sl then RS.nx (ρ2.set i (.ow (.d (putD kvs k d)))) else .bad) D := h2
            by_cases hl : kvs.length < sl
            · rw [if_pos hl] at h2
              obtain ⟨a, u, ea, f, eh, co⟩ := j2.at_ i _ es
              obtain ⟨kvv, rfl, r⟩ := co.d
              rw [ho] at ea
              cases ea
              refine ⟨a, _, rfl, (by rw [key_of r2 ek]; exact DPut.k eh (by rw [rk_len r, ← sl_eq]; exact hl)), ?_⟩
              obtain ⟨j3, x3⟩ := j2.put (c' := .d (putD kvs k d)) (o' := .dK (putK kvv k v)) es ho (rk_put r (r1.mono x2.sub))
              exact h2 σ F2 _ j3 .refl x3
            · rw [if_neg hl] at h2
              exact h2.elim
/-- a, b = e1, e2 -/
def sPar (i k : Nat) (f : En → R (List D)) : En → RS := fun ρ => (f ρ).toS fun ds ρ1 => match ds with
  | [d, e] => .nx ((ρ1.set i (.sh d)).set k (.sh e))
  | _ => .bad
theorem ss_par {i k : Nat} {x y : Str} {px py pt : Pos} {kt k2 pt2} {f : En → R (List D)} (hc : X.calm = true) (hN : X.N.Nodup) (hi : X.N[i]? = some x) (hj : X.N[k]? = some y) (hij : i ≠ k)
    (hx : X.env.scope.names.lookup x = some .local) (hy : X.env.scope.names.lookup y = some .local) (ha : SA X W [a, b] f) (hio : i ∉ io) (hko : k ∉ io)
    (hw : swappedStores [.Tuple [.Name x px, .Name y py] kt pt] (.Tuple [a, b] k2 pt2) X.env = pure (some [x, y]))
    (hs : swapsWithSole [.Tuple [.Name x px, .Name y py] kt pt] (.Tuple [a, b] k2 pt2) pos.line X.env = pure false := by rfl) :
    SS X W io (.Assign [.Tuple [.Name x px, .Name y py] kt pt] (.Tuple [a, b] k2 pt2) pos) (sPar i k f) := by
  obtain ⟨t, p, q⟩ := ha
  refine ⟨_, ps_par hc hN hi hj hij hx hy p hw hs, fun F H σ ρ D j h => ?_⟩
  show t σ H fun vs H1 => ∃ v w, vs = [v, w] ∧ D.nx ((σ.set i (some v)).set k (some w)) H1
  refine PostS.step q j h fun ds ρ1 vs F1 H1 j1 x1 r1 h1 => ?_
  match ds, r1, h1 with
  | [d, e], .cons ra (.cons rb .nil), h1 =>
    refine ⟨_, _, rfl, ?_⟩
    obtain ⟨j2, x2⟩ := j1.setSh ra i
    obtain ⟨j3, x3⟩ := j2.setSh rb k
    exact h1 _ F1 H1 j3 ((Pin.set hio).trans (Pin.set hko)) (x2.trans x3)
  | [], _, h1 => exact h1.elim
  | [_], _, h1 => exact h1.elim
  | _ :: _ :: _ :: _, _, h1 => exact h1.elim

/-! ### fresh lists and dicts -/
def cL (ds : List D) : Option Ct := if ds.length ≤ sl then some (.l ds) else none
def RC_of {α : Type} (g : α → Option Ct) (f : En → R α) : En → R Ct := fun ρ => (f ρ).bind fun a ρ1 => R.of (g a) ρ1
theorem PostF.of_some {o : Option Ct} {Q : VK} (h : PostF K W σ ρ F H (R.of o ρ) Q) : ∃ c, o = some c ∧ PostF K W σ ρ F H (.ok c ρ) Q := by
  cases o with
  | none => exact h.elim
  | some c => exact ⟨c, rfl, h⟩
/-- a new object is the result -/
theorem PostF.new {c : Ct} {o : HO} {Q : VK} (w : PostF K W σ ρ F H (.ok c ρ) Q) (j : J K F H σ ρ) (co : CtOk K F o c) {p : Addr} (hp : H p = none) : Q (.ref p) (upd H p o) :=
  w p o F (upd H p o) (j.beside hp) (.beside hp) (.inr hp) (j.free hp) upd_same co (own_lt j hp)
theorem sf_lst {es : List Expr} {f : En → R (List D)} (h : SA X W es f) : SF X W (.List es pos) (RC_of cL f) := by
  obtain ⟨t, p, q⟩ := h
  refine ⟨_, pe_lst p, fun F H σ ρ Q j h => ?_⟩
  show t σ H fun xs H1 => xs.length ≤ sizeLine ∧ ∀ p, H1 p = none → Q (.ref p) (upd H1 p (.lst xs))
  refine PostF.step q j h fun ds ρ1 x F1 H1 j1 e1 r1 h1 => ?_
  obtain ⟨c, e, w⟩ := h1.of_some
  unfold cL at e
  by_cases hl : ds.length ≤ sl
  · rw [if_pos hl] at e
    cases e
    exact ⟨by rw [RpA.length r1, ← sl_eq]; exact hl, fun p hp => w.new (o := .lst x) j1 r1 hp⟩
  · rw [if_neg hl] at e
    cases e
/-- a rule by values that gives a new list -/
def FreshOk (K : PySem.W.Frag) (r : List V → Hp → VK → Prop) (g : List D → Option Ct) : Prop :=
  ∀ (vs : List V) (ds : List D) (c : Ct) (F H : Hp) (Q : VK), Same F H → RpA K F vs ds → g ds = some c → (∀ p o, H p = none → CtOk K F o c → Q (.ref p) (upd H p o)) → r vs H Q
def gListF : List D → Option Ct
  | [.lst ds] => some (.l ds)
  | [.tup ds] => some (.l ds)
  | [.scr ns] => some (.l (ns.map D.int))
  | _ => none
theorem fr_list : FreshOk K (fun xs H Q => ∃ p ys, xs = [.ref p] ∧ (SqL K H p ys ∨ SqT K H p ys) ∧ ∀ l, H l = none → Q (.ref l) (upd H l (.lst ys))) gListF := fun vs ds d F H Q S r e w => by
  cases r with
  | nil => cases e
  | cons r t =>
    cases t with
    | cons _ _ => rename_i z _ _ _ _ _ _; cases z <;> cases e
    | nil =>
      cases r <;> first | (cases e; done) | skip
      · rename_i s r
        cases e; exact ⟨_, _, rfl, .inl (SqL.of (S _ _ s)), fun p hp => w p (.lst _) hp r⟩
      · rename_i s
        cases e; exact ⟨_, _, rfl, .inl (S.seq s), fun p hp => w p (.lst _) hp (RpA.ofInts _)⟩
      · rename_i s r
        cases e; exact ⟨_, _, rfl, .inr (seqT_mono S s), fun p hp => w p (.lst _) hp r⟩
theorem sf_list {x : Str} {p : Pos} {es : List Expr} {f' : En → R (List D)} (hm : X.mg x = none) (ha : SA X W (a :: es) f') (hx : x = ("list" : Str) := by rfl) (hg : Gl X x := by rfl)
    (he : starEach (a :: es) X.env = (false, eval a X.env) :: starEach es X.env := by rfl) (hpl : (backTo pos (starEach es X.env)).any (·.1) = false := by rfl) : SF X W (.Call (.Name x p) (a :: es) [] pos) (RC_of gListF f') := by
  subst hx
  obtain ⟨t, pa, qa⟩ := ha
  refine ⟨_, pe_callTy call_list_of hg hm (by decide +kernel) pa (by decide) (by decide) he hpl, fun F H σ ρ Q j h => ?_⟩
  show t σ H fun vs H1 => (fun xs H Q => ∃ p ys, xs = [.ref p] ∧ (SqL X.K H p ys ∨ SqT X.K H p ys) ∧ ∀ l, H l = none → Q (.ref l) (upd H l (.lst ys)) : List V → Hp → VK → Prop) vs H1 Q
  refine PostF.step qa j h fun ds ρ1 vs F1 H1 j1 e1 r1 h1 => ?_
  obtain ⟨c, e, w⟩ := h1.of_some
  exact fr_list vs ds c F1 H1 Q j1.sub r1 e fun p o hp co => w.new j1 co hp
/-- xs + ys as an own list -/
def gCatF : D → D → Option Ct
  | .lst a, .lst b => if a.length + b.length ≤ sl then some (.l (a ++ b)) else none
  | _, _ => none
def eBinF (g : D → D → Option Ct) (fa fb : En → R D) : En → R Ct := fun ρ => (fa ρ).bind fun a ρ1 => (fb ρ1).bind fun b ρ2 => R.of (g a b) ρ2
theorem sf_cat (ha : SE X W a fa) (hb : SE X W b fb) : SF X W (.BinOp a .Add b pos) (eBinF gCatF fa fb) := by
  obtain ⟨ta, pa, qa⟩ := ha
  obtain ⟨tb, pb, qb⟩ := hb
  refine ⟨_, pe_op op_cat pa pb, fun F H σ ρ Q j h => ?_⟩
  show ta σ H fun x H1 => tb σ H1 fun y H2 => rCat x y H2 Q
  refine PostF.step qa j h fun a ρ1 x F1 H1 j1 e1 r1 h1 => ?_
  refine PostF.step qb j1 h1 fun b ρ2 y F2 H2 j2 e2 r2 h2 => ?_
  obtain ⟨c, e, w⟩ := h2.of_some
  cases a <;> cases b <;> first | (cases e; done) | skip
  rename_i i k
  cases r1.mono e2.sub with
  | lst ha ra =>
  cases r2 with
  | lst hb rb =>
  have e : (if i.length + k.length ≤ sl then some (Ct.l (i ++ k)) else none) = some c := e
  by_cases hl : i.length + k.length ≤ sl
  · rw [if_pos hl] at e
    cases e
    exact ⟨_, _, _, _, rfl, rfl, j2.sub _ _ ha, j2.sub _ _ hb, by rw [ra.length, rb.length, ← sl_eq]; exact hl, fun p hp => w.new (o := .lst _) j2 (ra.append rb) hp⟩
  · rw [if_neg hl] at e
    cases e
/-- a written dict: keys and values from the left -/
def SP (X : Cx) (W : WX) (pos : Pos) (keys : List (Option Expr)) (values : List Expr) (f : En → R (List (D × D))) : Prop :=
  ∃ trs : List (TE × TE), PPs X pos keys values trs ∧ Sd X.K W (fun _ F vs ds => Paired (fun (p : V × V) (q : D × D) => Rp X.K F p.1 q.1 ∧ Rp X.K F p.2 q.2) vs ds) (tPairs trs) f
def pNil : En → R (List (D × D)) := fun ρ => .ok [] ρ
def pCons (fk fv : En → R D) (g : En → R (List (D × D))) : En → R (List (D × D)) := fun ρ => (fk ρ).bind fun k ρ1 => (fv ρ1).bind fun v ρ2 => (g ρ2).bind fun r ρ3 => .ok ((k, v) :: r) ρ3
theorem sp_nil : SP X W pos [] [] pNil := ⟨[], pps_nil, fun F H σ ρ Q j h => h [] F H j .refl .nil⟩
theorem sp_cons {k v : Expr} {ks : List (Option Expr)} {vs : List Expr} {fk fv : En → R D} {f : En → R (List (D × D))} (hk : SE X W k fk) (hv : SE X W v fv) (hr : SP X W pos ks vs f) : SP X W pos (some k :: ks) (v :: vs) (pCons fk fv f) := by
  obtain ⟨tk, pk, qk⟩ := hk
  obtain ⟨tv, pv, qv⟩ := hv
  obtain ⟨tr, pr, qr⟩ := hr
  refine ⟨_, pps_cons pk pv pr, fun F H σ ρ Q j h => ?_⟩
  show tk σ H fun x H1 => tv σ H1 fun y H2 => tPairs tr σ H2 fun ps H3 => Q ((x, y) :: ps) H3
  refine Post.step qk j h fun a ρ1 x F1 H1 j1 e1 r1 h1 => ?_
  refine Post.step qv j1 h1 fun b ρ2 y F2 H2 j2 e2 r2 h2 => ?_
  refine Post.step qr j2 h2 fun ps ρ3 z F3 H3 j3 e3 r3 h3 => ?_
  exact h3 _ F3 H3 j3 .refl (.cons ⟨(r1.mono e2.sub).mono e3.sub, r2.mono e3.sub⟩ r3)
def keysOf : List (D × D) → Option (List (Key × D))
  | [] => some []
  | (k, v) :: r => match asKey k, keysOf r with
    | some k, some l => some ((k, v) :: l)
    | _, _ => none
def mergeD (kvs more : List (Key × D)) : List (Key × D) := more.foldl (fun acc kv => putD acc kv.1 kv.2) kvs
theorem keys_rp : ∀ {vs : List (V × V)} {ds : List (D × D)} {l : List (Key × D)}, Paired (fun (p : V × V) (q : D × D) => Rp K F p.1 q.1 ∧ Rp K F p.2 q.2) vs ds → keysOf ds = some l →
    ∃ kvv : List (Key × V), vs = kvv.map (fun kv => (kV kv.1, kv.2)) ∧ RpK K F kvv l
  | _, _, _, .nil, e => by cases e; exact ⟨[], rfl, .nil⟩
  | _, _, l, .cons (a := p) (b := q) r t, e => by
    obtain ⟨k, v⟩ := q
    obtain ⟨x, y⟩ := p
    rename_i ds
    have e : (match asKey k, keysOf ds with
      | some k, some l => some ((k, v) :: l)
      | _, _ => none) = some l := e
    cases ek : asKey k with
    | none => rw [ek] at e; cases e
    | some k' =>
      rw [ek] at e
      cases er : keysOf ds with
      | none => rw [er] at e; cases e
      | some l' =>
        rw [er] at e
        cases e
        obtain ⟨kvv, h1, h2⟩ := keys_rp t er
        refine ⟨(k', y) :: kvv, ?_, .cons ⟨rfl, r.2⟩ h2⟩
        have ex : x = kV k' := key_of r.1 ek
        rw [h1, ex]
        rfl
theorem rk_merge : ∀ {mv : List (Key × V)} {md : List (Key × D)} {kvv : List (Key × V)} {kvs : List (Key × D)}, RpK K F mv md → RpK K F kvv kvs → RpK K F (mergeK kvv mv) (mergeD kvs md)
  | _, _, _, _, .nil, s => s
  | _, _, _, _, .cons (a := p) (b := q) r t, s => by
    show RpK K F (mergeK (putK _ p.1 p.2) _) (mergeD (putD _ q.1 q.2) _)
    rw [r.1]
    exact rk_merge t (rk_put s r.2)
def cD (ps : List (D × D)) : Option Ct := (keysOf ps).bind fun l => if l.length ≤ 15 then some (.d (mergeD [] l)) else none
theorem sf_dict {keys : List (Option Expr)} {values : List Expr} {f : En → R (List (D × D))} (h : SP X W pos keys values f) (hall : keys.all (·.isSome) = true) (hl : keys.length = values.length) (h0 : keys ≠ []) (hm : keys.length ≤ 15) :
    SF X W (.Dict keys values pos) (RC_of cD f) := by
  obtain ⟨tr, pr, qr⟩ := h
  refine ⟨_, pe_disp pr hall hl h0 hm, fun F H σ ρ Q j h p hp => ?_⟩
  have j0 : J X.K F (upd H p (.dK [])) σ ρ := j.beside hp
  have x0 : Ext (Own σ ρ) (Own σ ρ) F H F (upd H p (.dK [])) := .beside hp
  have no : ¬ Own σ ρ p := own_lt j hp
  refine qr F _ σ ρ _ j0 ?_
  unfold RC_of at h
  cases ef : f ρ with
  | bad => rw [ef] at h; exact h
  | ex x ρ1 =>
    rw [ef] at h
    exact fun c dd F' H' j' y r => h c dd F' H' j' (x0.trans y) r
  | ok ps ρ1 =>
    rw [ef] at h
    have h : PostF X.K W σ ρ F H (R.of (cD ps) ρ1) Q := h
    intro vs F1 H1 j1 e1 r1
    have hp1 : H1 p = some (.dK []) := e1.keep p _ upd_same no
    have fp : F1 p = none := by
      cases q : F1 p with
      | none => rfl
      | some o =>
        rcases e1.new p o q with z | z | z
        · rw [j.free hp] at z; cases z
        · rw [upd_same] at z; cases z
        · exact absurd z no
    have no1 : ¬ Own σ ρ1 p := fun z => by
      rcases e1.own p z with z | z
      · exact no z
      · rw [upd_same] at z; cases z
    unfold cD at h
    cases ek : keysOf ps with
    | none => rw [ek] at h; exact h.elim
    | some l =>
      rw [ek] at h
      have h : PostF X.K W σ ρ F H (R.of (if l.length ≤ 15 then some (Ct.d (mergeD [] l)) else none) ρ1) Q := h
      by_cases hl : l.length ≤ 15
      · rw [if_pos hl] at h
        obtain ⟨kvv, rfl, rk⟩ := keys_rp r1 ek
        refine ⟨hp1, kvv, rfl, by rw [rk_len rk]; exact hl, ?_⟩
        have x1 := x0.trans e1
        exact h p (.dK (mergeK [] kvv)) F1 (upd H1 p (.dK (mergeK [] kvv))) (j1.other fp no1) ⟨x1.sub, x1.new, fun b o q n => by rw [upd_ne (ne_of_none q hp)]; exact x1.keep b o q n, x1.own⟩ (.inr hp) fp upd_same (rk_merge rk .nil) no1
      · rw [if_neg hl] at h
        exact h.elim
end
end Pu
namespace Pu
open PySem PySem.Spec PyProof.Rows L2
set_option autoImplicit false
section
variable {X : Cx} {W : WX} {io ts : List Nat} {K : PySem.W.Frag} {F H : Hp} {σ : St} {ρ : En} {a b c e tgt iter : Expr} {fa fb fc : En → R D} {ff : En → R Ct} {ft : En → R Bool} {st : Stmt} {rest as bs body : List Stmt} {g h : En → RS} {pos : Pos}
/-! ### targets: ts are the slots that they store -/
def Fr (ts : List Nat) (σ σ' : St) : Prop := σ'.length = σ.length ∧ ∀ i, i ∉ ts → σ'[i]? = σ[i]?
def SG (X : Cx) (ts : List Nat) (e : Expr) (f : D → En → Option En) : Prop := ∃ t : TG, PG X e t ∧ ∀ v d F H σ ρ ρ' Q, J X.K F H σ ρ → Rp X.K F v d → f d ρ = some ρ' →
  (∀ σ', J X.K F H σ' ρ' → Fr ts σ σ' → Ext (Own σ ρ) (Own σ' ρ') F H F H → Q σ' H) → t v σ H Q
def SGs (X : Cx) (ts : List Nat) (es : List Expr) (f : List D → En → Option En) : Prop := ∃ t : TGs, PGs X es t ∧ ∀ vs ds F H σ ρ ρ' Q, J X.K F H σ ρ → RpA X.K F vs ds → f ds ρ = some ρ' →
  (∀ σ', J X.K F H σ' ρ' → Fr ts σ σ' → Ext (Own σ ρ) (Own σ' ρ') F H F H → Q σ' H) → t vs σ H Q
def gNm (i : Nat) : D → En → Option En := fun d ρ => some (ρ.set i (.sh d))
theorem Fr.refl : Fr ts σ σ := ⟨rfl, fun _ _ => rfl⟩
theorem sg_name {i : Nat} {x : Str} (hN : X.N.Nodup) (n : Ns X i x) (hi : i ∈ ts := by decide) : SG X ts (.Name x pos) (gNm i) := by
  refine ⟨_, pg_name hN n.hi n.hx n.hf, fun v d F H σ ρ ρ' Q j r e k => ?_⟩
  cases e
  obtain ⟨j2, x2⟩ := j.setSh r i
  exact k _ j2 ⟨by simp, fun k hk => List.getElem?_set_ne (fun z => hk (by rw [← z]; exact hi))⟩ x2
def gsNil : List D → En → Option En
  | [], ρ => some ρ
  | _, _ => none
def gsCons (f : D → En → Option En) (g : List D → En → Option En) : List D → En → Option En
  | d :: ds, ρ => (f d ρ).bind (g ds)
  | [], _ => none
theorem sgs_nil : SGs X ts [] gsNil := by
  refine ⟨_, pgs_nil, fun vs ds F H σ ρ ρ' Q j r e k => ?_⟩
  cases r with
  | nil =>
    cases e
    exact ⟨rfl, k σ j .refl .refl⟩
  | cons _ _ => cases e
theorem sgs_cons {es : List Expr} {f : D → En → Option En} {f' : List D → En → Option En} (h1 : SG X ts e f) (h2 : SGs X ts es f') (hs : (assignEach (e :: es) X.env).map (·.2) = assign e X.env :: (assignEach es X.env).map (·.2) := by rfl) : SGs X ts (e :: es) (gsCons f f') := by
  obtain ⟨t, p, q⟩ := h1
  obtain ⟨u, p', q'⟩ := h2
  refine ⟨_, pgs_cons p p' hs, fun vs ds F H σ ρ ρ' Q j r e k => ?_⟩
  cases r with
  | nil => cases e
  | cons r1 r2 =>
    rename_i v vs d ds
    have e : (f d ρ).bind (f' ds) = some ρ' := e
    cases e1 : f d ρ with
    | none => rw [e1] at e; cases e
    | some ρ1 =>
      rw [e1] at e
      have e : f' ds ρ1 = some ρ' := e
      refine ⟨v, vs, rfl, q v d F H σ ρ ρ1 _ j r1 e1 fun σ1 j1 fr1 x1 => ?_⟩
      exact q' vs ds F H σ1 ρ1 ρ' Q j1 r2 e fun σ2 j2 fr2 x2 => k σ2 j2 ⟨fr2.1.trans fr1.1, fun i hi => (fr2.2 i hi).trans (fr1.2 i hi)⟩ (x1.trans x2)
def gTp (n : Nat) (f : List D → En → Option En) : D → En → Option En
  | .tup ds, ρ => if ds.length = n then f ds ρ else none
  | _, _ => none
theorem sg_tup {es : List Expr} {k n : Nat} {f : List D → En → Option En} (hc : X.calm = true) (h : SGs X ts es f) (hn : (assignEach es X.env).length = n := by rfl) (hst : (assignEach es X.env).findIdx? (·.1) = none := by rfl) : SG X ts (.Tuple es k pos) (gTp n f) := by
  obtain ⟨t, p, q⟩ := h
  refine ⟨_, pg_tup hc p hn hst, fun v d F H σ ρ ρ' Q j r e k => ?_⟩
  cases d <;> first | (cases e; done) | skip
  rename_i ds
  cases r with
  | tup s r =>
    have e : (if ds.length = n then f ds ρ else none) = some ρ' := e
    by_cases hl : ds.length = n
    · rw [if_pos hl] at e
      exact ⟨_, _, rfl, seqT_mono j.sub s, r.length.trans hl, q _ _ F H σ ρ ρ' Q j r e k⟩
    · rw [if_neg hl] at e
      cases e
/-- a, b = e: any target -/
def sAsg (g : D → En → Option En) (f : En → R D) : En → RS := fun ρ => (f ρ).toS fun d ρ1 => match g d ρ1 with
  | some ρ2 => .nx ρ2
  | none => .bad
theorem fr_pin {σ' : St} (h : Fr ts σ σ') (hio : ∀ i ∈ io, i ∉ ts) : Pin io σ σ' := fun i hi => h.2 i (hio i hi)
theorem ss_asg {f : D → En → Option En} (he : SE X W e fa) (hg : SG X ts tgt f) (hio : ∀ i ∈ io, i ∉ ts := by decide) (hs : swapsWithSole [tgt] e pos.line X.env = pure false := by rfl) (hw : swappedStores [tgt] e X.env = pure none := by rfl)
    (h1 : (assignEach [tgt] X.env).map (·.2) = [assign tgt X.env] := by rfl) : SS X W io (.Assign [tgt] e pos) (sAsg f fa) := by
  obtain ⟨t, p, q⟩ := he
  obtain ⟨u, p', q'⟩ := hg
  refine ⟨_, ps_asg p p' hs hw h1, fun F H σ ρ D j h => ?_⟩
  show t σ H fun x H1 => u x σ H1 D.nx
  refine PostS.step q j h fun d ρ1 v F1 H1 j1 x1 r1 h1 => ?_
  cases e1 : f d ρ1 with
  | none => rw [e1] at h1; exact h1.elim
  | some ρ2 =>
    rw [e1] at h1
    exact q' v d F1 H1 σ ρ1 ρ2 D.nx j1 r1 e1 fun σ' j' fr x => h1 σ' F1 H1 j' (fr_pin fr hio) x

/-! ### what is walked -/
/-- from F0 on the walk gives these data, one by one -/
def ItOk (K : PySem.W.Frag) (Jt : It) (F0 : Hp) (ds : List D) : Prop := ∀ i F1 H1, Same F0 F1 → Same F1 H1 →
  (∀ d, ds[i]? = some d → Jt.go i H1 ∧ ∀ x H', Jt.yld i H1 x H' → ∃ F', Same F1 F' ∧ Same F' H' ∧ Same H1 H' ∧ (∀ a o, F' a = some o → F1 a = some o ∨ H1 a = none) ∧ Rp K F' x d) ∧ (ds.length ≤ i → Jt.stop i H1)
def PostI (K : PySem.W.Frag) (W : WX) (σ : St) (ρ : En) (F H : Hp) (r : R (List D)) (Rw : It → Hp → Prop) : Prop := match r with
  | .ok ds ρ' => ∀ Jt F' H', J K F' H' σ ρ' → Ext (Own σ ρ) (Own σ ρ') F H F' H' → ItOk K Jt F' ds → Rw Jt H'
  | .ex x ρ' => ∀ c dd F' H', J K F' H' σ ρ' → Ext (Own σ ρ) (Own σ ρ') F H F' H' → XRep K F' c dd x → W c dd σ H'
  | .bad => False
def SI (X : Cx) (W : WX) (tg iter : Expr) (f : En → R (List D)) : Prop := ∃ wi : TI, PI X tg iter wi ∧ ∀ F H σ ρ Rw, J X.K F H σ ρ → PostI X.K W σ ρ F H (f ρ) Rw → wi σ H Rw
theorem it_same {a : Addr} {F1 H1 : Hp} (x : V) (d : D) (S : Same F1 H1) (r : Rp K F1 x d) : ∃ F', Same F1 F' ∧ Same F' H1 ∧ Same H1 H1 ∧ (∀ a o, F' a = some o → F1 a = some o ∨ H1 a = none) ∧ Rp K F' x d := ⟨F1, Same.refl _, S, Same.refl _, fun _ _ e => .inl e, r⟩
theorem it_list {a : Addr} {xs : List V} {ds : List D} {F0 : Hp} (s : SqL K F0 a xs) (r : RpA K F0 xs ds) : ItOk K (Itl K a) F0 ds := fun i F1 H1 s1 s2 => by
  have sq : SqL K H1 a xs := s2.seq (s1.seq s)
  refine ⟨fun d e => ?_, fun hl => ⟨xs, sq, by rw [r.length]; exact hl⟩⟩
  obtain ⟨v, hv, rv⟩ := r.get e
  refine ⟨⟨xs, v, sq, hv⟩, fun x H' y => ?_⟩
  obtain ⟨rfl, y⟩ := y
  have e2 := y xs sq
  rw [hv] at e2
  cases e2
  exact it_same (a := a) v d s2 (rv.mono s1)
theorem it_tup {a : Addr} {xs : List V} {ds : List D} {F0 : Hp} (s : SqT K F0 a xs) (r : RpA K F0 xs ds) : ItOk K (Itt K a) F0 ds := fun i F1 H1 s1 s2 => by
  have sq : SqT K H1 a xs := seqT_mono s2 (seqT_mono s1 s)
  refine ⟨fun d e => ?_, fun hl => ⟨xs, sq, by rw [r.length]; exact hl⟩⟩
  obtain ⟨v, hv, rv⟩ := r.get e
  refine ⟨⟨xs, v, sq, hv⟩, fun x H' y => ?_⟩
  obtain ⟨rfl, y⟩ := y
  have e2 := y xs sq
  rw [hv] at e2
  cases e2
  exact it_same (a := a) v d s2 (rv.mono s1)
/-- the items of a list, a tuple -/
def itemsD : D → Option (List D)
  | .lst ds => some ds
  | .tup ds => some ds
  | .scr ns => some (ns.map D.int)
  | _ => none
def iSeq (f : En → R D) : En → R (List D) := fun ρ => (f ρ).bind fun d ρ1 => R.of (itemsD d) ρ1
/-- one of two ways to walk -/
theorem pi_or {wi wj : TI} (h1 : PI X tgt iter wi) (h2 : PI X tgt iter wj) : PI X tgt iter (fun σ H Rw => wi σ H Rw ∨ wj σ H Rw) := by
  refine ⟨fun pins s σ H Rw I h => ?_⟩
  rcases h with h | h
  · exact h1.run pins s σ H Rw I h
  · exact h2.run pins s σ H Rw I h
theorem si_seq (ha : SE X W iter fa) : SI X W tgt iter (iSeq fa) := by
  obtain ⟨t, p, q⟩ := ha
  refine ⟨_, pi_or (pi_list p) (pi_tup p), fun F H σ ρ Rw j h => ?_⟩
  show (t σ H fun x H1 => ∃ a, x = .ref a ∧ (∃ xs, SqL X.K H1 a xs) ∧ Rw (Itl X.K a) H1) ∨ (t σ H fun x H1 => ∃ a, x = .ref a ∧ (∃ xs, SqT X.K H1 a xs) ∧ Rw (Itt X.K a) H1)
  unfold iSeq at h
  cases e : fa ρ with
  | bad => rw [e] at h; exact h.elim
  | ex x ρ1 =>
    rw [e] at h
    refine .inl (q F H σ ρ _ j ?_)
    rw [e]
    exact h
  | ok d ρ1 =>
    rw [e] at h
    have h : PostI X.K W σ ρ F H (R.of (itemsD d) ρ1) Rw := h
    cases d <;> first | (exact h.elim; done) | skip
    · refine .inl (q F H σ ρ _ j ?_)
      rw [e]
      intro v F1 H1 j1 x1 r1
      cases r1 with
      | lst s r => exact ⟨_, rfl, ⟨_, SqL.of (j1.sub _ _ s)⟩, h _ F1 H1 j1 x1 (it_list (SqL.of s) r)⟩
    · refine .inr (q F H σ ρ _ j ?_)
      rw [e]
      intro v F1 H1 j1 x1 r1
      cases r1 with
      | tup s r => exact ⟨_, rfl, ⟨_, seqT_mono j1.sub s⟩, h _ F1 H1 j1 x1 (it_tup s r)⟩
    · refine .inl (q F H σ ρ _ j ?_)
      rw [e]
      intro v F1 H1 j1 x1 r1
      cases r1 with
      | scr s => exact ⟨_, rfl, ⟨_, j1.sub.seq s⟩, h _ F1 H1 j1 x1 (it_list s (.ofInts _))⟩
def rngD (lo : Int) (n : Nat) : List D := (List.range n).map fun (k : Nat) => D.int (lo + (k : Int))
theorem it_range (lo : Int) (n : Nat) (F0 : Hp) : ItOk K (Itr lo n) F0 (rngD lo n) := fun i F1 H1 s1 s2 => by
  have hl : (rngD lo n).length = n := by simp [rngD]
  refine ⟨fun d e => ?_, fun h => by rw [hl] at h; exact h⟩
  obtain ⟨hi, e2⟩ := List.getElem?_eq_some_iff.mp e
  rw [hl] at hi
  have e3 : d = .int (lo + (i : Int)) := by
    rw [← e2]
    simp [rngD]
  refine ⟨hi, fun x H' y => ?_⟩
  obtain ⟨rfl, rfl⟩ := y
  rw [e3]
  exact it_same (a := 0) _ _ s2 (.int _)
def rngOk (i : Int) : Bool := decide (-(2 ^ 62) ≤ i) && decide (i < 2 ^ 62)
def rng1 : List D → Option (List D)
  | [.int n] => if rngOk n then some (rngD 0 n.toNat) else none
  | _ => none
def rng2 : List D → Option (List D)
  | [.int a, .int b] => if rngOk a && rngOk b then some (rngD a (b - a).toNat) else none
  | _ => none
def iRg (g : List D → Option (List D)) (f : En → R (List D)) : En → R (List D) := fun ρ => (f ρ).bind fun ds ρ1 => R.of (g ds) ρ1
theorem PostI.step {f : En → R (List D)} {t : TA} {g : List D → Option (List D)} {Rw : It → Hp → Prop} {Q1 : List V → Hp → Prop} (q : Sd K W (relA K) t f) (j : J K F H σ ρ) (h : PostI K W σ ρ F H (iRg g f ρ) Rw)
    (k : ∀ ds es ρ1 vs F1 H1, J K F1 H1 σ ρ1 → RpA K F1 vs ds → g ds = some es → (∀ Jt, ItOk K Jt F1 es → Rw Jt H1) → Q1 vs H1) : t σ H Q1 := by
  refine q F H σ ρ Q1 j ?_
  unfold iRg at h
  cases e : f ρ with
  | ok ds ρ1 =>
    rw [e] at h
    have h : PostI K W σ ρ F H (R.of (g ds) ρ1) Rw := h
    cases eg : g ds with
    | none => rw [eg] at h; exact h.elim
    | some es =>
      rw [eg] at h
      exact fun v F1 H1 j1 x1 r1 => k ds es ρ1 v F1 H1 j1 r1 eg fun Jt it => h Jt F1 H1 j1 x1 it
  | ex x ρ1 =>
    rw [e] at h
    exact h
  | bad =>
    rw [e] at h
    exact h
theorem si_rng1 {x : Str} {p : Pos} {f : En → R (List D)} (hm : X.mg x = none) (ha : SA X W [a] f) (hx : x = ("range" : Str) := by rfl) (hg : Gl X x := by rfl) (hs : starEach [a] X.env = [(false, eval a X.env)] := by rfl) : SI X W tgt (.Call (.Name x p) [a] [] pos) (iRg rng1 f) := by
  subst hx
  obtain ⟨t, pa, qa⟩ := ha
  refine ⟨_, pi_range1 hg hm pa hs, fun F H σ ρ Rw j h => ?_⟩
  show t σ H fun vs H1 => ∃ j : Int, vs = [.int j] ∧ -(2 ^ 62) ≤ j ∧ j < 2 ^ 62 ∧ Rw (Itr 0 j.toNat) H1
  refine PostI.step qa j h fun ds es ρ1 vs F1 H1 j1 r1 e w => ?_
  match ds, r1, e with
  | [.int n], .cons (.int _) .nil, e =>
    have e : (if rngOk n then some (rngD 0 n.toNat) else none) = some es := e
    by_cases c : rngOk n = true
    · rw [if_pos c] at e
      cases e
      obtain ⟨c1, c2⟩ := Bool.and_eq_true_iff.mp c
      exact ⟨n, rfl, of_decide_eq_true c1, of_decide_eq_true c2, w _ (it_range 0 _ _)⟩
    · rw [if_neg c] at e
      cases e
theorem si_rng2 {x : Str} {p : Pos} {f : En → R (List D)} (hm : X.mg x = none) (ha : SA X W [a, b] f) (hx : x = ("range" : Str) := by rfl) (hg : Gl X x := by rfl) (hs : starEach [a, b] X.env = [(false, eval a X.env), (false, eval b X.env)] := by rfl) (hs2 : starEach [b] X.env = [(false, eval b X.env)] := by rfl) :
    SI X W tgt (.Call (.Name x p) [a, b] [] pos) (iRg rng2 f) := by
  subst hx
  obtain ⟨t, pa, qa⟩ := ha
  refine ⟨_, pi_range2 hg hm pa hs hs2, fun F H σ ρ Rw j h => ?_⟩
  show t σ H fun vs H1 => ∃ i j : Int, vs = [.int i, .int j] ∧ (-(2 ^ 62) ≤ i ∧ i < 2 ^ 62 ∧ -(2 ^ 62) ≤ j ∧ j < 2 ^ 62) ∧ Rw (Itr i (j - i).toNat) H1
  refine PostI.step qa j h fun ds es ρ1 vs F1 H1 j1 r1 e w => ?_
  match ds, r1, e with
  | [.int n, .int m], .cons (.int _) (.cons (.int _) .nil), e =>
    have e : (if rngOk n && rngOk m then some (rngD n (m - n).toNat) else none) = some es := e
    by_cases c : (rngOk n && rngOk m) = true
    · rw [if_pos c] at e
      cases e
      obtain ⟨c1, c2⟩ := Bool.and_eq_true_iff.mp c
      obtain ⟨c3, c4⟩ := Bool.and_eq_true_iff.mp c1
      obtain ⟨c5, c6⟩ := Bool.and_eq_true_iff.mp c2
      exact ⟨n, m, rfl, ⟨of_decide_eq_true c3, of_decide_eq_true c4, of_decide_eq_true c5, of_decide_eq_true c6⟩, w _ (it_range n _ _)⟩
    · rw [if_neg c] at e
      cases e

/-! ### for -/
def forD (tg : D → En → Option En) (b : En → RS) : List D → En → RS
  | [], ρ => .nx ρ
  | d :: ds, ρ => match tg d ρ with
    | none => .bad
    | some ρ1 => match b ρ1 with
      | .nx ρ2 => forD tg b ds ρ2
      | .ct ρ2 => forD tg b ds ρ2
      | .bk ρ2 => .nx ρ2
      | .rt d ρ2 => .rt d ρ2
      | .rf d ρ2 => .rf d ρ2
      | .ex d ρ2 => .ex d ρ2
      | .bad => .bad
def sFor (fi : En → R (List D)) (tg : D → En → Option En) (b : En → RS) : En → RS := fun ρ => (fi ρ).toS fun ds ρ1 => forD tg b ds ρ1
theorem ss_for {fi : En → R (List D)} {f : D → En → Option En} (hp : PassesOwn (model X.prog X.w) X.A X.env X.xe) (hc : X.calm = true) (hi : SI X W tgt iter fi) (hg : SG X ts tgt f) (hb : SSs X W io body g) (hio : ∀ i ∈ io, i ∉ ts := by decide)
    (hs : ∀ x, foldedSetIterable iter X.env x = pure x := by intro _; rfl) : SS X W io (.For tgt iter body [] pos) (sFor fi f g) := by
  obtain ⟨wi, pw, qw⟩ := hi
  obtain ⟨tg, pg, qg⟩ := hg
  obtain ⟨tb, pb, qb⟩ := hb
  refine ⟨_, ps_for hp hc pw pg pb hs, fun F H σ ρ D j h => ?_⟩
  refine qw F H σ ρ _ j ?_
  unfold sFor at h
  cases e : fi ρ with
  | bad => rw [e] at h; exact h.elim
  | ex x ρ1 =>
    rw [e] at h
    exact fun c dd F' H' j' y r => h σ c dd F' H' j' .refl y r
  | ok ds ρ1 =>
    rw [e] at h
    have h : PostS X.K W io σ ρ F H (forD f g ds ρ1) D := h
    intro Jt F0 H0 j0 x0 it
    refine ⟨fun i m σ' H' => m = ds.length - i ∧ i ≤ ds.length ∧ ∃ F' ρ', J X.K F' H' σ' ρ' ∧ Same F0 F' ∧ PostS X.K W io σ' ρ' F' H' (forD f g (ds.drop i) ρ') D,
      ⟨ds.length, by simp, Nat.zero_le _, F0, ρ1, j0, Same.refl _, h.shift .refl x0⟩, ?_⟩
    rintro i m σ1 H1 ⟨rfl, hi, F1, ρ2, j1, s1, h1⟩
    obtain ⟨i1, i2⟩ := it i F1 H1 s1 j1.sub
    by_cases hlt : i < ds.length
    · have ed : ds[i]? = some ds[i] := List.getElem?_eq_getElem hlt
      obtain ⟨go, yl⟩ := i1 _ ed
      rw [List.drop_eq_getElem_cons hlt] at h1
      refine .inr ⟨go, fun σ' H' => ∃ F' ρ', J X.K F' H' σ' ρ' ∧ Same F0 F' ∧ PostS X.K W io σ' ρ' F' H' (forD f g (ds.drop (i + 1)) ρ') D, fun σ' H' q => ⟨ds.length - (i + 1), by omega, rfl, hlt, q⟩, fun x H2 y => ?_⟩
      obtain ⟨F2, a1, a2, a3, a4, r2⟩ := yl x H2 y
      have j2 : J X.K F2 H2 σ1 ρ2 := j1.grow a1 a2 a3 a4
      have x2 : Ext (Own σ1 ρ2) (Own σ1 ρ2) F1 H1 F2 H2 := ⟨a1, fun b o q => (a4 b o q).elim .inl fun z => .inr (.inl z), fun b o q _ => a3 b o q, fun b q => .inl q⟩
      have h2 := h1.shift .refl x2
      cases e3 : f ds[i] ρ2 with
      | none =>
        unfold forD at h2
        rw [e3] at h2
        exact h2.elim
      | some ρ3 =>
        unfold forD at h2
        rw [e3] at h2
        refine qg x _ F2 H2 σ1 ρ2 ρ3 _ j2 r2 e3 fun σ3 j3 fr3 x3 => ?_
        refine qb F2 H2 σ3 ρ3 _ j3 ?_
        have h3 := h2.shift (fr_pin fr3 hio) x3
        have s2 : Same F0 F2 := s1.trans a1
        have h3 : PostS X.K W io σ3 ρ3 F2 H2 (match g ρ3 with
          | .nx ρ2 => forD f g (ds.drop (i + 1)) ρ2
          | .ct ρ2 => forD f g (ds.drop (i + 1)) ρ2
          | .bk ρ2 => .nx ρ2
          | .rt d ρ2 => .rt d ρ2
          | .rf d ρ2 => .rf d ρ2
          | .ex d ρ2 => .ex d ρ2
          | .bad => .bad) D := h3
        cases e4 : g ρ3 with
        | nx ρ4 => rw [e4] at h3; exact fun σ' F' H' j' p x => ⟨F', ρ4, j', s2.trans x.sub, h3.shift p x⟩
        | ct ρ4 => rw [e4] at h3; exact fun σ' F' H' j' p x => ⟨F', ρ4, j', s2.trans x.sub, h3.shift p x⟩
        | bk ρ4 => rw [e4] at h3; exact h3
        | rt d ρ4 => rw [e4] at h3; exact h3
        | rf d ρ4 => rw [e4] at h3; exact h3
        | ex d ρ4 => rw [e4] at h3; exact h3
        | bad => rw [e4] at h3; exact h3
    · have ei : i = ds.length := by omega
      subst ei
      rw [List.drop_length] at h1
      exact .inl ⟨i2 (Nat.le_refl _), h1 σ1 F1 H1 j1 .refl .refl⟩
end
end Pu
namespace Pu
open PySem PySem.Spec PyProof.Rows L2
set_option autoImplicit false
section
variable {X : Cx} {W : WX} {io ts : List Nat} {K : PySem.W.Frag} {F H : Hp} {σ : St} {ρ : En} {a b c e tgt iter elt : Expr} {fa fb fc : En → R D} {ff : En → R Ct} {ft : En → R Bool} {st : Stmt} {rest as bs body : List Stmt} {g h : En → RS} {pos : Pos}
/-! ### comprehensions -/
abbrev W0 : WX := fun _ _ _ _ => False
def wipeE (ρ : En) : List Nat → En
  | [] => ρ
  | v :: vs => (wipeE ρ vs).set v .em
theorem wipeE_len (ρ : En) : ∀ vs, (wipeE ρ vs).length = ρ.length
  | [] => rfl
  | v :: vs => by unfold wipeE; rw [List.length_set, wipeE_len ρ vs]
theorem wipeE_get {ρ : En} {j : Nat} {s : Slot} : ∀ {vs : List Nat}, (wipeE ρ vs)[j]? = some s → s = .em ∨ (ρ[j]? = some s ∧ j ∉ vs)
  | [], h => .inr ⟨h, by simp⟩
  | v :: vs, h => by
    unfold wipeE at h
    rcases get_set h with ⟨_, rfl, _⟩ | ⟨ne, h⟩
    · exact .inl rfl
    · rcases wipeE_get h with h | ⟨h1, h2⟩
      · exact .inl h
      · exact .inr ⟨h1, by simp only [List.mem_cons, not_or]; exact ⟨ne, h2⟩⟩
theorem wipe_get {σ : St} {j : Nat} : ∀ {vs : List Nat}, j ∉ vs → (wipe σ vs)[j]? = σ[j]?
  | [], _ => rfl
  | v :: vs, h => by
    simp only [List.mem_cons, not_or] at h
    unfold wipe
    rw [List.getElem?_set_ne (Ne.symm h.1)]
    exact wipe_get h.2
theorem wipe_at {σ : St} {j : Nat} : ∀ {vs : List Nat}, j ∈ vs → j < σ.length → (wipe σ vs)[j]? = some none
  | v :: vs, h, hl => by
    unfold wipe
    by_cases e : v = j
    · subst e
      rw [List.getElem?_set_self (by rw [wipe_length]; exact hl)]
    · rw [List.getElem?_set_ne e]
      rcases List.mem_cons.mp h with z | z
      · exact absurd z.symm e
      · exact wipe_at z hl
/-- slots that agree outside vs are wiped alike -/
theorem wipe_eq {σ σ' : St} {vs : List Nat} (hl : σ'.length = σ.length) (h : ∀ i, i ∉ vs → σ'[i]? = σ[i]?) : wipe σ' vs = wipe σ vs := by
  apply List.ext_getElem?
  intro i
  by_cases hi : i ∈ vs
  · by_cases hl' : i < σ.length
    · rw [wipe_at hi hl', wipe_at hi (by rw [hl]; exact hl')]
    · rw [List.getElem?_eq_none (by rw [wipe_length, hl]; omega), List.getElem?_eq_none (by rw [wipe_length]; omega)]
  · rw [wipe_get hi, wipe_get hi]
    exact h i hi
theorem wipe_wipe {σ : St} {vs : List Nat} : wipe (wipe σ vs) vs = wipe σ vs := wipe_eq (wipe_length σ vs) fun i hi => wipe_get hi
/-- no own object stands in these slots -/
def noOwn (ρ : En) (vs : List Nat) : Bool := vs.all fun i => match ρ[i]? with
  | some (.ow _) => false
  | _ => true
theorem noOwn_at {ρ : En} {vs : List Nat} (h : noOwn ρ vs = true) {i : Nat} {s : Slot} (hi : i ∈ vs) (e : ρ[i]? = some s) : s.own = false := by
  have q := List.all_eq_true.mp h i hi
  rw [e] at q
  cases s with
  | ow c => cases q
  | _ => rfl
/-- into the block -/
theorem j_wipe (j : J K F H σ ρ) {vs : List Nat} : J K F H (wipe σ vs) (wipeE ρ vs) where
  sub := j.sub
  len := by rw [wipe_length, wipeE_len]; exact j.len
  at_ := fun i s e => by
    rcases wipeE_get e with rfl | ⟨e, hi⟩
    · trivial
    · rw [wipe_get hi]
      exact j.at_ i s e
  inj := fun i k a s t hs ht os ot e1 e2 => by
    rcases wipeE_get hs with rfl | ⟨hs, hi⟩
    · cases os
    · rcases wipeE_get ht with rfl | ⟨ht, hk⟩
      · cases ot
      · rw [wipe_get hi] at e1
        rw [wipe_get hk] at e2
        exact j.inj i k a s t hs ht os ot e1 e2
theorem own_wipe {vs : List Nat} (no : noOwn ρ vs = true) (p : Addr) : Own (wipe σ vs) (wipeE ρ vs) p ↔ Own σ ρ p := by
  refine ⟨fun ⟨i, s, e1, e2, e3⟩ => ?_, fun ⟨i, s, e1, e2, e3⟩ => ?_⟩
  · rcases wipeE_get e1 with rfl | ⟨e1, hi⟩
    · cases e2
    · rw [wipe_get hi] at e3
      exact ⟨i, s, e1, e2, e3⟩
  · have hi : i ∉ vs := fun z => by
      rw [noOwn_at no z e1] at e2
      cases e2
    refine ⟨i, s, ?_, e2, by rw [wipe_get hi]; exact e3⟩
    have : ∀ {vs : List Nat}, i ∉ vs → (wipeE ρ vs)[i]? = ρ[i]? := fun {vs} => by
      induction vs with
      | nil => intro _; rfl
      | cons v vs ih =>
        intro h
        simp only [List.mem_cons, not_or] at h
        unfold wipeE
        rw [List.getElem?_set_ne (Ne.symm h.1)]
        exact ih h.2
    rw [this hi]
    exact e1
/-- out of the block: the slots vs as they were -/
def unwipe (ρ ρ' : En) (vs : List Nat) : En := ρ'.mapIdx fun i s => if i ∈ vs then ρ.getD i .em else s
theorem unwipe_get {ρ ρ' : En} {vs : List Nat} {i : Nat} {s : Slot} (h : (unwipe ρ ρ' vs)[i]? = some s) : (i ∈ vs ∧ (s = .em ∨ ρ[i]? = some s)) ∨ (i ∉ vs ∧ ρ'[i]? = some s) := by
  unfold unwipe at h
  rw [List.getElem?_mapIdx] at h
  cases e : ρ'[i]? with
  | none => rw [e] at h; cases h
  | some t =>
    rw [e] at h
    have h : (if i ∈ vs then ρ.getD i .em else t) = s := Option.some.inj h
    by_cases hi : i ∈ vs
    · rw [if_pos hi] at h
      refine .inl ⟨hi, ?_⟩
      cases q : ρ[i]? with
      | none =>
        rw [List.getD_eq_getElem?_getD, q] at h
        exact .inl h.symm
      | some u =>
        rw [List.getD_eq_getElem?_getD, q] at h
        exact .inr (congrArg some h)
    · rw [if_neg hi] at h
      exact .inr ⟨hi, congrArg some h⟩
def compA (tg : D → En → Option En) (ft : En → R Bool) (fe : En → R D) (vs : List Nat) : List D → List D → En → R (List D)
  | [], done, ρ => .ok done ρ
  | d :: ds, done, ρ => match tg d ρ with
    | none => .bad
    | some ρ1 => match ft ρ1 with
      | .ok true ρ2 => match fe ρ2 with
        | .ok y ρ3 => if done.length < sl then compA tg ft fe vs ds (done ++ [y]) (wipeE ρ3 vs) else .bad
        | _ => .bad
      | .ok false ρ2 => compA tg ft fe vs ds done (wipeE ρ2 vs)
      | _ => .bad
def cComp (fi : En → R (List D)) (tg : D → En → Option En) (ft : En → R Bool) (fe : En → R D) (vs : List Nat) : En → R Ct := fun ρ => match fi ρ with
  | .ok ds ρ1 => if noOwn ρ1 vs then match compA tg ft fe vs ds [] (wipeE ρ1 vs) with
      | .ok done ρ2 => if noOwn ρ2 vs then .ok (.l done) (unwipe ρ1 ρ2 vs) else .bad
      | _ => .bad
    else .bad
  | .ex x ρ1 => .ex x ρ1
  | .bad => .bad
/-- a clause's tests -/
def STs (X : Cx) (W : WX) (ifs : List Expr) (f : En → R Bool) : Prop := ∃ t : TT, PTs X ifs t ∧ Sd X.K W relB t f
def tTrue : En → R Bool := fun ρ => .ok true ρ
theorem sts_nil : STs X W [] tTrue := ⟨_, pts_nil, fun F H σ ρ Q j h => h true F H j .refl rfl⟩
theorem sts_one (h : ST X W c ft) : STs X W [c] ft := let ⟨t, p, q⟩ := h; ⟨t, pts_one p, q⟩
/-- the parts of a comprehension's block: one reading for every block -/
structure BlkG (X : Cx) (scope : Scope) (ts : List Nat) (tgt : Expr) (f : D → En → Option En) : Prop where
  ex : ∃ t : TG, (∀ (s : Shared) (H : Hp) (C : Addr) (cl : List (Str × Addr)) (fp : List Addr), PG (X.blk s H scope (compEnvC scope cl C X.env) fp) tgt t) ∧ ∀ v d F H σ ρ ρ' Q, J X.K F H σ ρ → Rp X.K F v d → f d ρ = some ρ' →
    (∀ σ', J X.K F H σ' ρ' → Fr ts σ σ' → Ext (Own σ ρ) (Own σ' ρ') F H F H → Q σ' H) → t v σ H Q
structure BlkT (X : Cx) (scope : Scope) (ifs : List Expr) (f : En → R Bool) : Prop where
  ex : ∃ t : TT, (∀ (s : Shared) (H : Hp) (C : Addr) (cl : List (Str × Addr)) (fp : List Addr), PTs (X.blk s H scope (compEnvC scope cl C X.env) fp) ifs t) ∧ Sd X.K W0 relB t f
structure BlkE (X : Cx) (scope : Scope) (elt : Expr) (f : En → R D) : Prop where
  ex : ∃ t : TE, (∀ (s : Shared) (H : Hp) (C : Addr) (cl : List (Str × Addr)) (fp : List Addr), PE (X.blk s H scope (compEnvC scope cl C X.env) fp) elt t) ∧ Sd X.K W0 (relD X.K) t f
/-- the weakest readings over all blocks -/
theorem BlkE.mk' {scope : Scope} {f : En → R D} (h : ∀ (s : Shared) (H : Hp) (C : Addr) (cl : List (Str × Addr)) (fp : List Addr), SE (X.blk s H scope (compEnvC scope cl C X.env) fp) W0 elt f) : BlkE X scope elt f := by
  refine ⟨fun σ H Q => ∀ (s0 : Shared) (H0 : Hp) (C : Addr) (cl : List (Str × Addr)) (fp : List Addr) (pins : List (Addr × Obj)) (s : Shared), Inv (X.blk s0 H0 scope (compEnvC scope cl C X.env) fp) pins σ H s →
    wpAny (model X.prog X.w) X.A (eval elt (X.blk s0 H0 scope (compEnvC scope cl C X.env) fp).env) (EP (X.blk s0 H0 scope (compEnvC scope cl C X.env) fp) pins σ Q) (X.blk s0 H0 scope (compEnvC scope cl C X.env) fp).xe s,
    fun s0 H0 C cl fp => ⟨fun pins s σ H Q I q => q s0 H0 C cl fp pins s I⟩, fun F H σ ρ Q j q s0 H0 C cl fp pins s I => ?_⟩
  obtain ⟨t, p, z⟩ := h s0 H0 C cl fp
  exact p.run pins s σ H Q I (z F H σ ρ Q j q)
theorem BlkT.mk' {scope : Scope} {ifs : List Expr} {f : En → R Bool} (h : ∀ (s : Shared) (H : Hp) (C : Addr) (cl : List (Str × Addr)) (fp : List Addr), STs (X.blk s H scope (compEnvC scope cl C X.env) fp) W0 ifs f) : BlkT X scope ifs f := by
  refine ⟨fun σ H Q => ∀ (s0 : Shared) (H0 : Hp) (C : Addr) (cl : List (Str × Addr)) (fp : List Addr) (pins : List (Addr × Obj)) (s : Shared), Inv (X.blk s0 H0 scope (compEnvC scope cl C X.env) fp) pins σ H s →
    wpAny (model X.prog X.w) X.A (forIn ifs true fun c r => if r = true then do let ok ← isTrue c (X.blk s0 H0 scope (compEnvC scope cl C X.env) fp).env (eval c (X.blk s0 H0 scope (compEnvC scope cl C X.env) fp).env); pure (ForInStep.yield ok) else pure (ForInStep.yield r)) (TP (X.blk s0 H0 scope (compEnvC scope cl C X.env) fp) pins σ Q) (X.blk s0 H0 scope (compEnvC scope cl C X.env) fp).xe s,
    fun s0 H0 C cl fp => ⟨fun pins s σ H Q I q => q s0 H0 C cl fp pins s I⟩, fun F H σ ρ Q j q s0 H0 C cl fp pins s I => ?_⟩
  obtain ⟨t, p, z⟩ := h s0 H0 C cl fp
  exact p.run pins s σ H Q I (z F H σ ρ Q j q)
theorem BlkG.mk' {scope : Scope} {f : D → En → Option En} (h : ∀ (s : Shared) (H : Hp) (C : Addr) (cl : List (Str × Addr)) (fp : List Addr), SG (X.blk s H scope (compEnvC scope cl C X.env) fp) ts tgt f) : BlkG X scope ts tgt f := by
  refine ⟨fun v σ H Q => ∀ (s0 : Shared) (H0 : Hp) (C : Addr) (cl : List (Str × Addr)) (fp : List Addr) (pins : List (Addr × Obj)) (s : Shared) (u : Value), Inv (X.blk s0 H0 scope (compEnvC scope cl C X.env) fp) pins σ H s → RelV v u →
    wpAny (model X.prog X.w) X.A (assign tgt (X.blk s0 H0 scope (compEnvC scope cl C X.env) fp).env u) (fun _ s' => ∃ σ' H', Inv (X.blk s0 H0 scope (compEnvC scope cl C X.env) fp) pins σ' H' s' ∧ Q σ' H') (X.blk s0 H0 scope (compEnvC scope cl C X.env) fp).xe s,
    fun s0 H0 C cl fp => ⟨fun pins s σ H v u Q I r q => q s0 H0 C cl fp pins s u I r⟩, fun v d F H σ ρ ρ' Q j r e k s0 H0 C cl fp pins s u I ru => ?_⟩
  obtain ⟨t, p, z⟩ := h s0 H0 C cl fp
  exact p.run pins s σ H v u Q I ru (z v d F H σ ρ ρ' Q j r e k)
theorem j_unwipe {σ : St} {ρ1 ρ2 : En} {F1 H1 F2 H2 : Hp} {vs : List Nat} (j1 : J K F1 H1 σ ρ1) (j2 : J K F2 H2 (wipe σ vs) ρ2) (s : Same F1 F2) (no : noOwn ρ1 vs = true) : J K F2 H2 σ (unwipe ρ1 ρ2 vs) ∧ ∀ p, Own σ (unwipe ρ1 ρ2 vs) p → Own (L2.wipe σ vs) ρ2 p := by
  have own : ∀ {i : Nat} {s : Slot}, (unwipe ρ1 ρ2 vs)[i]? = some s → s.own = true → i ∉ vs ∧ ρ2[i]? = some s := fun {i s} e os => by
    rcases unwipe_get e with ⟨hi, rfl | e⟩ | ⟨hi, e⟩
    · cases os
    · rw [noOwn_at no hi e] at os
      cases os
    · exact ⟨hi, e⟩
  refine ⟨⟨j2.sub, ?_, fun i s' e => ?_, fun i k a s t hs ht os ot e1 e2 => ?_⟩, fun p ⟨i, s, e1, e2, e3⟩ => ?_⟩
  · have q := j2.len
    rw [wipe_length] at q
    rw [q]
    simp [unwipe]
  · rcases unwipe_get e with ⟨hi, rfl | e⟩ | ⟨hi, e⟩
    · trivial
    · have q := noOwn_at no hi e
      have z := j1.at_ i s' e
      cases s' with
      | em => trivial
      | sh d => obtain ⟨v, z1, z2⟩ := z; exact ⟨v, z1, z2.mono s⟩
      | ow c => cases q
    · have z := j2.at_ i s' e
      rw [wipe_get hi] at z
      exact z
  · obtain ⟨hi, hs⟩ := own hs os
    obtain ⟨hk, ht⟩ := own ht ot
    exact j2.inj i k a s t hs ht os ot (by rw [wipe_get hi]; exact e1) (by rw [wipe_get hk]; exact e2)
  · obtain ⟨hi, e1⟩ := own e1 e2
    exact ⟨i, s, e1, e2, by rw [wipe_get hi]; exact e3⟩
theorem ext_D {O O' : Addr → Prop} {F1 H1 F2 H2 : Hp} {p : Addr} {o : HO} (x : Ext O O' F1 H1 F2 H2) (h : H1 p = some o) (f : F1 p = none) (no : ¬ O p) : H2 p = some o ∧ F2 p = none ∧ ¬ O' p := by
  refine ⟨x.keep p o h no, ?_, fun z => ?_⟩
  · cases q : F2 p with
    | none => rfl
    | some u =>
      rcases x.new p u q with z | z | z
      · rw [f] at z; cases z
      · rw [h] at z; cases z
      · exact absurd z no
  · rcases x.own p z with z | z
    · exact no z
    · rw [h] at z; cases z
theorem lc_sound {scope : Scope} {ifs : List Expr} {fi : En → R (List D)} {f : D → En → Option En} {fe : En → R D} {wi : TI} {tg : TG} {tt : TT} {te : TE} {vs : List Nat}
    (qw : ∀ F H σ ρ Rw, J K F H σ ρ → PostI K W σ ρ F H (fi ρ) Rw → wi σ H Rw)
    (qg : ∀ v d F H σ ρ ρ' Q, J K F H σ ρ → Rp K F v d → f d ρ = some ρ' → (∀ σ', J K F H σ' ρ' → Fr vs σ σ' → Ext (Own σ ρ) (Own σ' ρ') F H F H → Q σ' H) → tg v σ H Q)
    (qt : Sd K W0 relB tt ft) (qe : Sd K W0 (relD K) te fe) : ∀ F H σ ρ Q, J K F H σ ρ → PostF K W σ ρ F H (cComp fi f ft fe vs ρ) Q → tLc wi tg tt te vs σ H Q := by
  intro F H σ ρ Q j h
  refine qw F H σ ρ _ j ?_
  unfold cComp at h
  cases e : fi ρ with
  | bad => rw [e] at h; exact h.elim
  | ex x ρ1 => rw [e] at h; exact h
  | ok ds ρ1 =>
    rw [e] at h
    intro Jt F0 H0 j0 x0 it D hD
    by_cases no : noOwn ρ1 vs = true
    · have h : PostF K W σ ρ F H (if noOwn ρ1 vs then match compA f ft fe vs ds [] (wipeE ρ1 vs) with
          | .ok done ρ2 => if noOwn ρ2 vs then R.ok (Ct.l done) (unwipe ρ1 ρ2 vs) else .bad
          | _ => .bad
        else .bad) Q := h
      rw [if_pos no] at h
      have h : PostF K W σ ρ F H (match compA f ft fe vs ds [] (wipeE ρ1 vs) with
          | .ok done ρ2 => if noOwn ρ2 vs then R.ok (Ct.l done) (unwipe ρ1 ρ2 vs) else .bad
          | _ => .bad) Q := h
      have nD : Own σ ρ D ∨ H D = none := x0.lost hD
      have nD0 : ¬ Own σ ρ1 D := own_lt j0 hD
      refine ⟨fun i m H' => m = ds.length - i ∧ i ≤ ds.length ∧ ∃ F' ρ' acc done, J K F' H' (L2.wipe σ vs) ρ' ∧ Ext (Own σ ρ) (Own (L2.wipe σ vs) ρ') F H F' H' ∧ Same F0 F' ∧ F' D = none ∧ ¬ Own (L2.wipe σ vs) ρ' D ∧ H' D = some (.lst acc) ∧ RpA K F' acc done ∧
          PostF K W σ ρ F H (match compA f ft fe vs (ds.drop i) done ρ' with
          | .ok done ρ2 => if noOwn ρ2 vs then R.ok (Ct.l done) (unwipe ρ1 ρ2 vs) else .bad
          | _ => .bad) Q,
        ⟨ds.length, by simp, Nat.zero_le _, F0, wipeE ρ1 vs, [], [], j_wipe (j0.beside hD), ?_, Same.refl _, j0.free hD, fun z => nD0 ((own_wipe no D).mp z), upd_same, .nil, h⟩, ?_⟩
      · refine ⟨x0.sub, x0.new, fun b o q n => ?_, fun b z => x0.own b ((own_wipe no b).mp z)⟩
        have q1 := x0.keep b o q n
        rw [upd_ne (ne_of_none q1 hD)]
        exact q1
      rintro i m H1 ⟨rfl, hi, F1, ρ', acc, done, j1, x1, s1, fD, oD, hD1, rD, h1⟩
      obtain ⟨i1, i2⟩ := it i F1 H1 s1 j1.sub
      by_cases hlt : i < ds.length
      · have ed : ds[i]? = some ds[i] := List.getElem?_eq_getElem hlt
        obtain ⟨go, yl⟩ := i1 _ ed
        rw [List.drop_eq_getElem_cons hlt] at h1
        refine .inr ⟨go, fun H' => ∃ F' ρ' acc done, J K F' H' (L2.wipe σ vs) ρ' ∧ Ext (Own σ ρ) (Own (L2.wipe σ vs) ρ') F H F' H' ∧ Same F0 F' ∧ F' D = none ∧ ¬ Own (L2.wipe σ vs) ρ' D ∧ H' D = some (.lst acc) ∧ RpA K F' acc done ∧
          PostF K W σ ρ F H (match compA f ft fe vs (ds.drop (i + 1)) done ρ' with
          | .ok done ρ2 => if noOwn ρ2 vs then R.ok (Ct.l done) (unwipe ρ1 ρ2 vs) else .bad
          | _ => .bad) Q, fun H' q => ⟨ds.length - (i + 1), by omega, rfl, hlt, q⟩, fun x H2 y => ?_⟩
        obtain ⟨F2, a1, a2, a3, a4, r2⟩ := yl x H2 y
        have j2 : J K F2 H2 (L2.wipe σ vs) ρ' := j1.grow a1 a2 a3 a4
        have x2 : Ext (Own (L2.wipe σ vs) ρ') (Own (L2.wipe σ vs) ρ') F1 H1 F2 H2 := ⟨a1, fun b o q => (a4 b o q).elim .inl fun z => .inr (.inl z), fun b o q _ => a3 b o q, fun b q => .inl q⟩
        obtain ⟨hD2, fD2, oD2⟩ := ext_D x2 hD1 fD oD
        cases e3 : f ds[i] ρ' with
        | none =>
          unfold compA at h1
          rw [e3] at h1
          exact h1.elim
        | some ρ3 =>
          unfold compA at h1
          rw [e3] at h1
          refine qg x _ F2 H2 _ ρ' ρ3 _ j2 r2 e3 fun σ3 j3 fr3 x3 => ?_
          have hw : L2.wipe σ3 vs = L2.wipe σ vs := (wipe_eq fr3.1 fr3.2).trans wipe_wipe
          obtain ⟨hD3, fD3, oD3⟩ := ext_D x3 hD2 fD2 oD2
          refine ⟨hw, qt F2 H2 σ3 ρ3 _ j3 ?_⟩
          have x13 := x1.trans (x2.trans x3)
          have s3 : Same F0 F2 := s1.trans a1
          have h1 : PostF K W σ ρ F H (match (match ft ρ3 with
            | .ok true ρ2 => (match fe ρ2 with
              | .ok y ρ3 => if done.length < sl then compA f ft fe vs (ds.drop (i + 1)) (done ++ [y]) (wipeE ρ3 vs) else .bad
              | _ => .bad)
            | .ok false ρ2 => compA f ft fe vs (ds.drop (i + 1)) done (wipeE ρ2 vs)
            | _ => .bad) with
            | .ok done ρ2 => if noOwn ρ2 vs then R.ok (Ct.l done) (unwipe ρ1 ρ2 vs) else .bad
            | _ => .bad) Q := h1
          cases e4 : ft ρ3 with
          | bad => rw [e4] at h1; exact h1.elim
          | ex _ _ => rw [e4] at h1; exact h1.elim
          | ok b ρ4 =>
            rw [e4] at h1
            intro b' F4 H4 j4 x4 rb
            have rb : b' = b := rb
            subst rb
            obtain ⟨hD4, fD4, oD4⟩ := ext_D x4 hD3 fD3 oD3
            have x14 := x13.trans x4
            have s4 := s3.trans x4.sub
            have own_w : ∀ {ρx : En} {σx : St} {p : Addr}, Own (L2.wipe σx vs) (wipeE ρx vs) p → Own σx ρx p := fun {ρx σx p} ⟨i, s, q1, q2, q3⟩ => by
              rcases wipeE_get q1 with rfl | ⟨q1, hi⟩
              · cases q2
              · rw [wipe_get hi] at q3
                exact ⟨i, s, q1, q2, q3⟩
            cases b' with
            | false =>
              have h1 : PostF K W σ ρ F H (match compA f ft fe vs (ds.drop (i + 1)) done (wipeE ρ4 vs) with
                | .ok done ρ2 => if noOwn ρ2 vs then R.ok (Ct.l done) (unwipe ρ1 ρ2 vs) else .bad
                | _ => .bad) Q := h1
              have j5 := j_wipe (vs := vs) j4
              rw [if_neg Bool.false_ne_true]
              refine ⟨F4, wipeE ρ4 vs, acc, done, by rw [← hw]; exact j5, ⟨x14.sub, x14.new, x14.keep, fun p z => ?_⟩, s4, fD4, fun z => ?_, hD4, rD.mono (a1.trans x4.sub), h1⟩
              · rw [← hw] at z; exact x14.own p (own_w z)
              · rw [← hw] at z; exact oD4 (own_w z)
            | true =>
              rw [if_pos rfl]
              refine qe F4 H4 σ3 ρ4 _ j4 ?_
              have h1 : PostF K W σ ρ F H (match (match fe ρ4 with
                | .ok y ρ3 => if done.length < sl then compA f ft fe vs (ds.drop (i + 1)) (done ++ [y]) (wipeE ρ3 vs) else .bad
                | _ => .bad) with
                | .ok done ρ2 => if noOwn ρ2 vs then R.ok (Ct.l done) (unwipe ρ1 ρ2 vs) else .bad
                | _ => .bad) Q := h1
              cases e5 : fe ρ4 with
              | bad => rw [e5] at h1; exact h1.elim
              | ex _ _ => rw [e5] at h1; exact h1.elim
              | ok y ρ5 =>
                rw [e5] at h1
                intro v F5 H5 j5 x5 r5
                obtain ⟨hD5, fD5, oD5⟩ := ext_D x5 hD4 fD4 oD4
                have x15 := x14.trans x5
                by_cases hl : done.length < sl
                · have h1 : PostF K W σ ρ F H (match (if done.length < sl then compA f ft fe vs (ds.drop (i + 1)) (done ++ [y]) (wipeE ρ5 vs) else .bad) with
                    | .ok done ρ2 => if noOwn ρ2 vs then R.ok (Ct.l done) (unwipe ρ1 ρ2 vs) else .bad
                    | _ => .bad) Q := h1
                  rw [if_pos hl] at h1
                  have rA : RpA K F5 acc done := rD.mono ((a1.trans x4.sub).trans x5.sub)
                  refine ⟨acc, hD5, by rw [rA.length, ← sl_eq]; exact hl, ?_⟩
                  have j6 := j_wipe (vs := vs) (j5.other (o := .lst (acc ++ [v])) fD5 oD5)
                  refine ⟨F5, wipeE ρ5 vs, acc ++ [v], done ++ [y], by rw [← hw]; exact j6, ⟨x15.sub, x15.new, fun b o q n => ?_, fun p z => ?_⟩, s4.trans x5.sub, fD5, fun z => ?_, upd_same, rA.append (.cons r5 .nil), h1⟩
                  · have nb : b ≠ D := fun z => by
                      rw [z] at q n
                      rcases nD with z | z
                      · exact n z
                      · rw [z] at q; cases q
                    rw [upd_ne nb]
                    exact x15.keep b o q n
                  · rw [← hw] at z; exact x15.own p (own_w z)
                  · rw [← hw] at z; exact oD5 (own_w z)
                · have h1 : PostF K W σ ρ F H (match (if done.length < sl then compA f ft fe vs (ds.drop (i + 1)) (done ++ [y]) (wipeE ρ5 vs) else .bad) with
                    | .ok done ρ2 => if noOwn ρ2 vs then R.ok (Ct.l done) (unwipe ρ1 ρ2 vs) else .bad
                    | _ => .bad) Q := h1
                  rw [if_neg hl] at h1
                  exact h1.elim
      · have ei : i = ds.length := by omega
        subst ei
        rw [List.drop_length] at h1
        have h1 : PostF K W σ ρ F H (if noOwn ρ' vs then R.ok (Ct.l done) (unwipe ρ1 ρ' vs) else .bad) Q := h1
        by_cases no' : noOwn ρ' vs = true
        · rw [if_pos no'] at h1
          obtain ⟨j2, ow⟩ := j_unwipe j0 j1 s1 no
          exact .inl ⟨i2 (Nat.le_refl _), h1 D (.lst acc) F1 H1 j2 ⟨x1.sub, x1.new, x1.keep, fun p z => x1.own p (ow p z)⟩ nD fD hD1 rD fun z => oD (ow D z)⟩
        · rw [if_neg no'] at h1
          exact h1.elim
    · have h : PostF K W σ ρ F H (if noOwn ρ1 vs then match compA f ft fe vs ds [] (wipeE ρ1 vs) with
          | .ok done ρ2 => if noOwn ρ2 vs then R.ok (Ct.l done) (unwipe ρ1 ρ2 vs) else .bad
          | _ => .bad
        else .bad) Q := h
      rw [if_neg no] at h
      exact h.elim
section
variable {scope : Scope} {own : List (Str × Nat)} {ifs : List Expr} {fi : En → R (List D)} {f : D → En → Option En} {fe : En → R D}
theorem sf_lc (hc : X.calm = true) (hN : X.N.Nodup) (hi : SI X W tgt iter fi) (ok : BlkOk X.N X.env.scope scope own) (hg : BlkG X scope (own.map (·.2)) tgt f) (ht : BlkT X scope ifs ft) (he : BlkE X scope elt fe)
    (hs : ∀ x, foldedSetIterable iter X.env x = pure x := by intro _; rfl) : SF X W (.ListComp elt [⟨tgt, iter, ifs, 0⟩] scope pos) (cComp fi f ft fe (own.map (·.2))) := by
  obtain ⟨wi, pw, qw⟩ := hi
  obtain ⟨tg, pg, qg⟩ := hg.ex
  obtain ⟨tt, pt, qt⟩ := ht.ex
  obtain ⟨te, pe, qe⟩ := he.ex
  exact ⟨_, pe_lc hc hN pw ok pg pt pe hs, lc_sound (scope := scope) (ifs := ifs) qw qg qt qe⟩
/-- name = [..] on one line -/
theorem ss_setLcF {i : Nat} {x : Str} {px spos : Pos} (hc : X.calm = true) (hN : X.N.Nodup) (hy : X.N[i]? = some x) (hyl : X.env.scope.names.lookup x = some .local) (hio : i ∉ io)
    (hsw : swapsWith (.ListComp elt [⟨tgt, iter, ifs, 0⟩] scope pos) (some (.Name x px)) spos.line X.env = pure true) (hi : SI X W tgt iter fi) (ok : BlkOk X.N X.env.scope scope own) (hg : BlkG X scope (own.map (·.2)) tgt f) (ht : BlkT X scope ifs ft) (he : BlkE X scope elt fe)
    (hs : ∀ x, foldedSetIterable iter X.env x = pure x := by intro _; rfl) : SS X W io (.Assign [.Name x px] (.ListComp elt [⟨tgt, iter, ifs, 0⟩] scope pos) spos) (sSetF i (cComp fi f ft fe (own.map (·.2)))) := by
  obtain ⟨wi, pw, qw⟩ := hi
  obtain ⟨tg, pg, qg⟩ := hg.ex
  obtain ⟨tt, pt, qt⟩ := ht.ex
  obtain ⟨te, pe, qe⟩ := he.ex
  refine ⟨_, ps_setLc hc hN hy hyl hsw pw ok pg pt pe hs, fun F H σ ρ D j h => ?_⟩
  show tLc wi tg tt te (own.map (·.2)) σ H fun x H1 => D.nx (σ.set i (some x)) H1
  refine PostS.stepF (lc_sound (scope := scope) (ifs := ifs) qw qg qt qe) j h fun c ρ1 p o F1 H1 j1 x1 nw f1 e1 co no h1 => ?_
  obtain ⟨j2, ow⟩ := j1.setOw f1 e1 co no i
  refine h1 _ F1 H1 j2 (Pin.set hio) ⟨x1.sub, x1.new, x1.keep, fun b hb => ?_⟩
  rcases ow b hb with z | rfl
  · exact x1.own b z
  · exact nw
theorem ss_setLc {i : Nat} {x : Str} {px spos : Pos} (hc : X.calm = true) (hN : X.N.Nodup) (hy : X.N[i]? = some x) (hyl : X.env.scope.names.lookup x = some .local) (hio : i ∉ io)
    (hsw : swapsWith (.ListComp elt [⟨tgt, iter, ifs, 0⟩] scope pos) (some (.Name x px)) spos.line X.env = pure true) (hi : SI X W tgt iter fi) (ok : BlkOk X.N X.env.scope scope own) (hg : BlkG X scope (own.map (·.2)) tgt f) (ht : BlkT X scope ifs ft) (he : BlkE X scope elt fe)
    (hs : ∀ x, foldedSetIterable iter X.env x = pure x := by intro _; rfl) : SS X W io (.Assign [.Name x px] (.ListComp elt [⟨tgt, iter, ifs, 0⟩] scope pos) spos) (sSet i (eF (cComp fi f ft fe (own.map (·.2))))) := by
  obtain ⟨wi, pw, qw⟩ := hi
  obtain ⟨tg, pg, qg⟩ := hg.ex
  obtain ⟨tt, pt, qt⟩ := ht.ex
  obtain ⟨te, pe, qe⟩ := he.ex
  refine ⟨_, ps_setLc hc hN hy hyl hsw pw ok pg pt pe hs, fun F H σ ρ D j h => ?_⟩
  show tLc wi tg tt te (own.map (·.2)) σ H fun x H1 => D.nx (σ.set i (some x)) H1
  refine PostS.step (sd_F (lc_sound (scope := scope) (ifs := ifs) qw qg qt qe)) j h fun d ρ1 v F1 H1 j1 x1 r1 h1 => ?_
  obtain ⟨j2, x2⟩ := j1.setSh r1 i
  exact h1 _ F1 H1 j2 (Pin.set hio) x2
end
end
end Pu
namespace Pu
open PySem PySem.Spec PyProof.Rows L2
set_option autoImplicit false
/-! ### calls of own defs -/
/-- an argument: data, an own object handed over for the call, an own list that is only read -/
inductive AV where
  | d (d : D) | io (i : Nat) | pk (i : Nat)
inductive RC where
  | ok (d : D) (o : En) | fr (c : Ct) (o : En) | ex (x : Exn) (o : En) | bad
abbrev Den := En → RC
def relAV (K : PySem.W.Frag) (σ : St) (F : Hp) (v : V) : AV → Prop
  | .d d => Rp K F v d
  | .io i => σ[i]? = some (some v)
  | .pk i => σ[i]? = some (some v)
abbrev relG (K : PySem.W.Frag) : St → Hp → List V → List AV → Prop := fun σ F => Paired (relAV K σ F)
def SC (X : Cx) (W : WX) (es : List Expr) (f : En → R (List AV)) : Prop := ∃ t : TA, PA X es t ∧ Sd X.K W (relG X.K) t f
/-- the def's promise -/
def PostC (K : PySem.W.Frag) (vs : List V) (s : En) (F H : Hp) (r : RC) (Q : VK) (E : XK) : Prop := match r with
  | .ok d o => ∀ v F' H', J K F' H' (vs.map some) o → Ext (Own (vs.map some) s) (Own (vs.map some) o) F H F' H' → Rp K F' v d → Q v H'
  | .fr c o => ∀ p u F' H', J K F' H' (vs.map some) o → Ext (Own (vs.map some) s) (Own (vs.map some) o) F H F' H' → (Own (vs.map some) s p ∨ H p = none) → F' p = none → H' p = some u → CtOk K F' u c → ¬ Own (vs.map some) o p → Q (.ref p) H'
  | .ex x o => ∀ c dd F' H', J K F' H' (vs.map some) o → Ext (Own (vs.map some) s) (Own (vs.map some) o) F H F' H' → XRep K F' c dd x → E c dd H'
  | .bad => False
def spDen (K : PySem.W.Frag) (n : Nat) (g : Den) : Sp := fun vs H Q E => vs.length = n ∧ ∃ F s, J K F H (vs.map some) s ∧ PostC K vs s F H (g s) Q E
/-- a def of the text, callable: its name, level, number of parameters, what it computes -/
structure Fnc (P : Program) (w : World) (K : PySem.W.Frag) (mg : Str → Option Value) (base : Heap) (x : Str) (k n : Nat) (g : Den) : Prop where
  ex : ∃ f fd ps, FnOk P w K mg base (L2.CX P w) k f fd ps (spDen K n g) ∧ mg x = some (.ref f) ∧ PySem.W.keepIn K (.ref f) = true ∧ Binds K fd ps []
section
variable {X : Cx} {W : WX} {io ts : List Nat} {K : PySem.W.Frag} {F H : Hp} {σ : St} {ρ : En} {a b c e : Expr} {es : List Expr} {fa fb fc : En → R D} {pos : Pos} {g : Den} {fg : En → R (List AV)}
/-! ### argument lists -/
def gcNil : En → R (List AV) := fun ρ => .ok [] ρ
def gcV (f : En → R D) (g : En → R (List AV)) : En → R (List AV) := fun ρ => (f ρ).bind fun d ρ1 => (g ρ1).bind fun ds ρ2 => .ok (.d d :: ds) ρ2
def gcN (u : AV) (i : Nat) (g : En → R (List AV)) : En → R (List AV) := fun ρ => match hasV ρ[i]? with
  | true => (g ρ).bind fun ds ρ2 => .ok (u :: ds) ρ2
  | false => .bad
theorem sc_nil : SC X W [] gcNil := ⟨_, pa_nil, fun F H σ ρ Q j h => h [] F H j .refl .nil⟩
theorem sc_v (ha : SE X W a fa) (hb : SC X W es fg) (hs : starEach (a :: es) X.env = (false, eval a X.env) :: starEach es X.env := by rfl) : SC X W (a :: es) (gcV fa fg) := by
  obtain ⟨t, p, q⟩ := ha
  obtain ⟨u, p', q'⟩ := hb
  refine ⟨_, pa_cons p p' hs, fun F H σ ρ Q j h => ?_⟩
  show t σ H fun x H1 => u σ H1 fun xs H2 => Q (x :: xs) H2
  refine Post.step q j h fun d ρ1 x F1 H1 j1 e1 r1 h1 => ?_
  refine Post.step q' j1 h1 fun ds ρ2 xs F2 H2 j2 e2 r2 h2 => ?_
  exact h2 _ F2 H2 j2 .refl (.cons (show relAV X.K σ F2 x (.d d) from r1.mono e2.sub) r2)
theorem relAV_mono {F F' : Hp} (s : Same F F') {v : V} {u : AV} (h : relAV K σ F v u) : relAV K σ F' v u := by
  cases u with
  | d d => exact Rp.mono s h
  | io i => exact h
  | pk i => exact h
theorem sc_n (u : AV) (i : Nat) {x : Str} {p : Pos} (n : Nm X i x) (hb : SC X W es fg) (h1 : u = .io i ∨ u = .pk i) (hs : starEach (.Name x p :: es) X.env = (false, eval (.Name x p) X.env) :: starEach es X.env := by rfl) : SC X W (.Name x p :: es) (gcN u i fg) := by
  obtain ⟨t, p', q'⟩ := hb
  refine ⟨_, pa_cons n.pe p' hs, fun F H σ ρ Q j h => ?_⟩
  show ∃ v, σ[i]? = some (some v) ∧ t σ H fun xs H2 => Q (v :: xs) H2
  unfold gcN at h
  cases hh : hasV ρ[i]? with
  | false => rw [hh] at h; exact h.elim
  | true =>
    rw [hh] at h
    obtain ⟨v, hv⟩ := j.has hh
    refine ⟨v, hv, Post.step q' j h fun ds ρ2 xs F2 H2 j2 e2 r2 h2 => ?_⟩
    refine h2 _ F2 H2 j2 .refl (.cons ?_ r2)
    rcases h1 with rfl | rfl
    · exact hv
    · exact hv
theorem sc_io (i : Nat) {x : Str} {p : Pos} (n : Nm X i x) (hb : SC X W es fg) (hs : starEach (.Name x p :: es) X.env = (false, eval (.Name x p) X.env) :: starEach es X.env := by rfl) : SC X W (.Name x p :: es) (gcN (.io i) i fg) := sc_n (.io i) i n hb (.inl rfl) hs
theorem sc_pk (i : Nat) {x : Str} {p : Pos} (n : Nm X i x) (hb : SC X W es fg) (hs : starEach (.Name x p :: es) X.env = (false, eval (.Name x p) X.env) :: starEach es X.env := by rfl) : SC X W (.Name x p :: es) (gcN (.pk i) i fg) := sc_n (.pk i) i n hb (.inr rfl) hs

/-! ### the slots at a call -/
def slotOf (ρ : En) : AV → Option Slot
  | .d d => some (.sh d)
  | .io i => match ρ[i]? with
    | some (.ow c) => some (.ow c)
    | _ => none
  | .pk i => match ρ[i]? with
    | some (.sh d) => some (.sh d)
    | some (.ow (.l ds)) => some (.sh (.lst ds))
    | _ => none
def slotsOf (ρ : En) : List AV → Option En
  | [] => some []
  | u :: us => match slotOf ρ u, slotsOf ρ us with
    | some s, some r => some (s :: r)
    | _, _ => none
/-- no own object is handed over twice -/
def iosOk : List AV → Bool
  | [] => true
  | .io i :: us => (us.all fun u => match u with | .io k => i != k | .pk k => i != k | .d _ => true) && iosOk us
  | .pk i :: us => (us.all fun u => match u with | .io k => i != k | _ => true) && iosOk us
  | .d _ :: us => iosOk us
def frzAll (ρ : En) : List AV → En
  | [] => ρ
  | .pk i :: us => match ρ[i]? with
    | some (.ow (.l ds)) => frzAll (ρ.set i (.sh (.lst ds))) us
    | _ => frzAll ρ us
  | _ :: us => frzAll ρ us
/-- behind the call: the handed objects' new contents -/
def putO (ρ : En) : List AV → En → Option En
  | [], _ => some ρ
  | .io i :: us, s :: ss => match s with
    | .ow c => putO (ρ.set i (.ow c)) us ss
    | _ => none
  | _ :: us, _ :: ss => putO ρ us ss
  | _ :: _, [] => none
def flat : D → Bool
  | .non => true
  | .bl _ => true
  | .int _ => true
  | .str _ => true
  | _ => false
def noIo : List AV → Bool
  | [] => true
  | .io _ :: _ => false
  | _ :: us => noIo us
theorem Rp.flat {v : V} {d : D} (h : flat d = true) {F' : Hp} : Rp K F v d → Rp K F' v d
  | .non => .non
  | .bl b => .bl b
  | .int i => .int i
  | .str s => .str s
  | .lst _ _ => nomatch h
  | .tup _ _ => nomatch h
  | .scr _ => nomatch h
  | .obj _ _ => nomatch h
theorem frzAll_ok : ∀ (us : List AV) {F : Hp} {ρ : En}, J K F H σ ρ → ∃ F', Same F F' ∧ J K F' H σ (frzAll ρ us) ∧ Ext (Own σ ρ) (Own σ (frzAll ρ us)) F H F' H
  | [], F, ρ, j => ⟨F, Same.refl _, j, .refl⟩
  | .d _ :: us, F, ρ, j => frzAll_ok us j
  | .io _ :: us, F, ρ, j => frzAll_ok us j
  | .pk i :: us, F, ρ, j => by
    unfold frzAll
    cases e : ρ[i]? with
    | none => exact frzAll_ok us j
    | some s =>
      cases s with
      | em => exact frzAll_ok us j
      | sh d => exact frzAll_ok us j
      | ow c =>
        cases c with
        | d _ => exact frzAll_ok us j
        | l ds =>
          obtain ⟨a, xs, _, _, _, e2, j2, x2⟩ := j.freeze e
          obtain ⟨F', s', j', x'⟩ := frzAll_ok us j2
          exact ⟨F', (same_upd e2).trans s', j', x2.trans x'⟩
theorem slotsOf_at {ρ : En} : ∀ {us : List AV} {ss : En} {k : Nat} {s : Slot}, slotsOf ρ us = some ss → ss[k]? = some s → ∃ u, us[k]? = some u ∧ slotOf ρ u = some s
  | [], ss, k, s, h, e => by cases h; simp at e
  | u :: us, ss, k, s, h, e => by
    unfold slotsOf at h
    cases e1 : slotOf ρ u with
    | none => rw [e1] at h; cases h
    | some z =>
      rw [e1] at h
      cases e2 : slotsOf ρ us with
      | none => rw [e2] at h; cases h
      | some r =>
        rw [e2] at h
        cases h
        cases k with
        | zero => simp at e; subst e; exact ⟨u, rfl, e1⟩
        | succ k =>
          obtain ⟨v, h1, h2⟩ := slotsOf_at (k := k) e2 (by simpa using e)
          exact ⟨v, by simpa using h1, h2⟩
theorem slotsOf_len {ρ : En} : ∀ {us : List AV} {ss : En}, slotsOf ρ us = some ss → ss.length = us.length
  | [], ss, h => by cases h; rfl
  | u :: us, ss, h => by
    unfold slotsOf at h
    cases e1 : slotOf ρ u with
    | none => rw [e1] at h; cases h
    | some z =>
      rw [e1] at h
      cases e2 : slotsOf ρ us with
      | none => rw [e2] at h; cases h
      | some r =>
        rw [e2] at h
        cases h
        simp [slotsOf_len e2]
theorem paired_get {α β : Type} {Rr : α → β → Prop} : ∀ {xs : List α} {ys : List β} {k : Nat} {y : β}, Paired Rr xs ys → ys[k]? = some y → ∃ x, xs[k]? = some x ∧ Rr x y
  | _, _, _, _, .nil, e => by simp at e
  | _, _, 0, _, .cons r _, e => by simp at e; subst e; exact ⟨_, rfl, r⟩
  | _, _, k + 1, _, .cons _ t, e => by
    obtain ⟨x, h1, h2⟩ := paired_get (k := k) t (by simpa using e)
    exact ⟨x, by simpa using h1, h2⟩
theorem iosOk_at : ∀ {us : List AV} {k l i : Nat}, iosOk us = true → us[k]? = some (AV.io i) → us[l]? = some (.io i) → k = l
  | [], k, l, i, _, h, _ => by simp at h
  | u :: us, 0, 0, i, _, _, _ => rfl
  | u :: us, 0, l + 1, i, h, h1, h2 => by
    simp at h1 h2
    subst h1
    have q := (Bool.and_eq_true_iff.mp h).1
    have z := List.all_eq_true.mp q _ (List.mem_of_getElem? h2)
    simp at z
  | u :: us, k + 1, 0, i, h, h1, h2 => by
    simp at h1 h2
    subst h2
    have q := (Bool.and_eq_true_iff.mp h).1
    have z := List.all_eq_true.mp q _ (List.mem_of_getElem? h1)
    simp at z
  | u :: us, k + 1, l + 1, i, h, h1, h2 => by
    have h' : iosOk us = true := by
      cases u with
      | d _ => exact h
      | io _ => exact (Bool.and_eq_true_iff.mp h).2
      | pk _ => exact (Bool.and_eq_true_iff.mp h).2
    exact congrArg Nat.succ (iosOk_at h' (by simpa using h1) (by simpa using h2))
theorem slotOf_own {ρ : En} {u : AV} {s : Slot} (h : slotOf ρ u = some s) (o : s.own = true) : ∃ i, u = .io i ∧ ρ[i]? = some s := by
  cases u with
  | d d => cases h; cases o
  | io i =>
    refine ⟨i, rfl, ?_⟩
    have h : (match ρ[i]? with
      | some (.ow c) => some (Slot.ow c)
      | _ => none) = some s := h
    cases e : ρ[i]? with
    | none => rw [e] at h; cases h
    | some t =>
      rw [e] at h
      cases t with
      | ow c => exact h
      | em => cases h
      | sh d => cases h
  | pk i =>
    have h : (match ρ[i]? with
      | some (.sh d) => some (Slot.sh d)
      | some (.ow (.l ds)) => some (.sh (.lst ds))
      | _ => none) = some s := h
    cases e : ρ[i]? with
    | none => rw [e] at h; cases h
    | some t =>
      rw [e] at h
      cases t with
      | em => cases h
      | sh d => cases h; cases o
      | ow c =>
        cases c with
        | l ds => cases h; cases o
        | d kvs => cases h
/-- at the call -/
theorem J.args {us : List AV} {ss : En} {vs : List V} (j : J K F H σ ρ) (hs : slotsOf ρ us = some ss) (ok : iosOk us = true) (hpk : ∀ i, AV.pk i ∈ us → ∀ c, ρ[i]? ≠ some (.ow c)) (r : Paired (relAV K σ F) vs us) : J K F H (vs.map some) ss where
  sub := j.sub
  len := by rw [List.length_map, slotsOf_len hs]; exact r.length
  at_ := fun k s e => by
    obtain ⟨u, h1, h2⟩ := slotsOf_at hs e
    obtain ⟨v, h3, h4⟩ := paired_get r h1
    have e3 : (vs.map some)[k]? = some (some v) := by rw [List.getElem?_map, h3]; rfl
    rw [e3]
    cases u with
    | d d => cases h2; exact ⟨v, rfl, h4⟩
    | io i =>
      have h4 : σ[i]? = some (some v) := h4
      have h2 : (match ρ[i]? with
        | some (.ow c) => some (Slot.ow c)
        | _ => none) = some s := h2
      cases eq : ρ[i]? with
      | none => rw [eq] at h2; cases h2
      | some t =>
        rw [eq] at h2
        cases t with
        | ow c =>
          cases h2
          have z := j.at_ i _ eq
          rw [h4] at z
          exact z
        | em => cases h2
        | sh d => cases h2
    | pk i =>
      have h4 : σ[i]? = some (some v) := h4
      have h2 : (match ρ[i]? with
        | some (.sh d) => some (Slot.sh d)
        | some (.ow (.l ds)) => some (.sh (.lst ds))
        | _ => none) = some s := h2
      cases eq : ρ[i]? with
      | none => rw [eq] at h2; cases h2
      | some t =>
        rw [eq] at h2
        cases t with
        | em => cases h2
        | sh d =>
          cases h2
          have z := j.at_ i _ eq
          rw [h4] at z
          exact z
        | ow c => exact absurd eq (hpk i (List.mem_of_getElem? h1) c)
  inj := fun k l p s t hs' ht os ot e1 e2 => by
    obtain ⟨u, h1, h2⟩ := slotsOf_at hs hs'
    obtain ⟨u', h1', h2'⟩ := slotsOf_at hs ht
    obtain ⟨i, rfl, hi⟩ := slotOf_own h2 os
    obtain ⟨i', rfl, hi'⟩ := slotOf_own h2' ot
    obtain ⟨v, h3, h4⟩ := paired_get r h1
    obtain ⟨v', h3', h4'⟩ := paired_get r h1'
    have h4 : σ[i]? = some (some v) := h4
    have h4' : σ[i']? = some (some v') := h4'
    rw [List.getElem?_map, h3] at e1
    rw [List.getElem?_map, h3'] at e2
    have e1 : v = .ref p := Option.some.inj (Option.some.inj e1)
    have e2 : v' = .ref p := Option.some.inj (Option.some.inj e2)
    rw [e1] at h4
    rw [e2] at h4'
    have ei := j.inj i i' p s t hi hi' os ot h4 h4'
    subst ei
    exact iosOk_at ok h1 h1'
/-- an own object of the call is an own object of ours -/
theorem own_args {us : List AV} {ss : En} {vs : List V} (hs : slotsOf ρ us = some ss) (r : Paired (relAV K σ F) vs us) {p : Addr} (h : Own (vs.map some) ss p) : Own σ ρ p := by
  obtain ⟨k, s, e1, e2, e3⟩ := h
  obtain ⟨u, h1, h2⟩ := slotsOf_at hs e1
  obtain ⟨i, rfl, hi⟩ := slotOf_own h2 e2
  obtain ⟨v, h3, h4⟩ := paired_get r h1
  have h4 : σ[i]? = some (some v) := h4
  rw [List.getElem?_map, h3] at e3
  have e1 : v = .ref p := Option.some.inj (Option.some.inj e3)
  rw [e1] at h4
  exact ⟨i, s, hi, e2, h4⟩
/-- what putO does -/
theorem putO_get : ∀ {us : List AV} {o ρ ρ' : En} {i : Nat} {s : Slot}, putO ρ us o = some ρ' → ρ'[i]? = some s → ρ[i]? = some s ∨ (i < ρ.length ∧ s.own = true ∧ ∃ (k : Nat), us[k]? = some (AV.io i) ∧ o[k]? = some s)
  | [], o, ρ, ρ', i, s, h, e => by cases o <;> (cases h; exact .inl e)
  | u :: us, [], ρ, ρ', i, s, h, e => by cases u <;> cases h
  | .d d :: us, z :: o, ρ, ρ', i, s, h, e => by
    rcases putO_get (us := us) (o := o) h e with q | ⟨q0, q1, k, q2, q3⟩
    · exact .inl q
    · exact .inr ⟨q0, q1, k + 1, by simpa using q2, by simpa using q3⟩
  | .pk d :: us, z :: o, ρ, ρ', i, s, h, e => by
    rcases putO_get (us := us) (o := o) h e with q | ⟨q0, q1, k, q2, q3⟩
    · exact .inl q
    · exact .inr ⟨q0, q1, k + 1, by simpa using q2, by simpa using q3⟩
  | .io m :: us, z :: o, ρ, ρ', i, s, h, e => by
    cases z with
    | em => cases h
    | sh d => cases h
    | ow c =>
      have h : putO (ρ.set m (.ow c)) us o = some ρ' := h
      rcases putO_get (us := us) (o := o) h e with q | ⟨q0, q1, k, q2, q3⟩
      · rcases get_set q with ⟨rfl, rfl, hl⟩ | ⟨_, q⟩
        · exact .inr ⟨hl, rfl, 0, rfl, rfl⟩
        · exact .inl q
      · exact .inr ⟨by simpa using q0, q1, k + 1, by simpa using q2, by simpa using q3⟩
theorem putO_len : ∀ {us : List AV} {o ρ ρ' : En}, putO ρ us o = some ρ' → ρ'.length = ρ.length
  | [], o, ρ, ρ', h => by cases o <;> (cases h; rfl)
  | u :: us, [], ρ, ρ', h => by cases u <;> cases h
  | .d d :: us, z :: o, ρ, ρ', h => putO_len (us := us) (o := o) h
  | .pk d :: us, z :: o, ρ, ρ', h => putO_len (us := us) (o := o) h
  | .io m :: us, z :: o, ρ, ρ', h => by
    cases z with
    | em => cases h
    | sh d => cases h
    | ow c =>
      have h : putO (ρ.set m (.ow c)) us o = some ρ' := h
      rw [putO_len (us := us) (o := o) h, List.length_set]
theorem putO_io : ∀ {us : List AV} {o ρ ρ' : En} {i k : Nat}, putO ρ us o = some ρ' → iosOk us = true → us[k]? = some (AV.io i) → i < ρ.length → ∃ s, o[k]? = some s ∧ s.own = true ∧ ρ'[i]? = some s
  | [], o, ρ, ρ', i, k, h, _, e, _ => by simp at e
  | u :: us, [], ρ, ρ', i, k, h, _, e, _ => by cases u <;> cases h
  | .d d :: us, z :: o, ρ, ρ', i, 0, h, ok, e, hl => by simp at e
  | .pk d :: us, z :: o, ρ, ρ', i, 0, h, ok, e, hl => by simp at e
  | .d d :: us, z :: o, ρ, ρ', i, k + 1, h, ok, e, hl => by
    obtain ⟨s, h1, h2, h3⟩ := putO_io (us := us) (o := o) (k := k) h ok (by simpa using e) hl
    exact ⟨s, by simpa using h1, h2, h3⟩
  | .pk d :: us, z :: o, ρ, ρ', i, k + 1, h, ok, e, hl => by
    obtain ⟨s, h1, h2, h3⟩ := putO_io (us := us) (o := o) (k := k) h (Bool.and_eq_true_iff.mp ok).2 (by simpa using e) hl
    exact ⟨s, by simpa using h1, h2, h3⟩
  | .io m :: us, z :: o, ρ, ρ', i, k + 1, h, ok, e, hl => by
    cases z with
    | em => cases h
    | sh d => cases h
    | ow c =>
      have h : putO (ρ.set m (.ow c)) us o = some ρ' := h
      obtain ⟨s, h1, h2, h3⟩ := putO_io (us := us) (o := o) (k := k) h (Bool.and_eq_true_iff.mp ok).2 (by simpa using e) (by simpa using hl)
      exact ⟨s, by simpa using h1, h2, h3⟩
  | .io m :: us, z :: o, ρ, ρ', i, 0, h, ok, e, hl => by
    simp at e
    subst e
    cases z with
    | em => cases h
    | sh d => cases h
    | ow c =>
      have h : putO (ρ.set m (.ow c)) us o = some ρ' := h
      refine ⟨.ow c, rfl, rfl, ?_⟩
      cases q : ρ'[m]? with
      | none =>
        have := List.getElem?_eq_none_iff.mp q
        rw [putO_len (us := us) (o := o) h, List.length_set] at this
        omega
      | some s =>
        rcases putO_get (us := us) (o := o) h q with q' | ⟨_, _, k, q2, _⟩
        · rw [List.getElem?_set_self hl] at q'
          exact q'.symm
        · have z := List.all_eq_true.mp (Bool.and_eq_true_iff.mp ok).1 _ (List.mem_of_getElem? q2)
          simp at z
/-- behind the call -/
theorem J.behind {us : List AV} {ss o ρ' : En} {vs : List V} {F1 H1 : Hp} (j : J K F H σ ρ) (hs : slotsOf ρ us = some ss) (ok : iosOk us = true) (r : Paired (relAV K σ F) vs us) (hp : putO ρ us o = some ρ')
    (j1 : J K F1 H1 (vs.map some) o) (x : Ext (Own (vs.map some) ss) (Own (vs.map some) o) F H F1 H1) : J K F1 H1 σ ρ' ∧ Ext (Own σ ρ) (Own σ ρ') F H F1 H1 := by
  have was : ∀ {i : Nat} {s : Slot}, ρ'[i]? = some s → s.own = true → ∃ t, ρ[i]? = some t ∧ t.own = true := fun {i s} e os => by
    rcases putO_get hp e with q | ⟨hl, _, k, q2, q3⟩
    · exact ⟨s, q, os⟩
    · cases q4 : ss[k]? with
      | none =>
        have := List.getElem?_eq_none_iff.mp q4
        have h2 := (List.getElem?_eq_some_iff.mp q2).1
        rw [slotsOf_len hs] at this
        omega
      | some t =>
        obtain ⟨u, h1, h2⟩ := slotsOf_at hs q4
        rw [q2] at h1
        cases h1
        have h2 : (match ρ[i]? with
          | some (.ow c) => some (Slot.ow c)
          | _ => none) = some t := h2
        cases e : ρ[i]? with
        | none => rw [e] at h2; cases h2
        | some z =>
          rw [e] at h2
          cases z with
          | ow c => exact ⟨_, rfl, rfl⟩
          | em => cases h2
          | sh d => cases h2
  refine ⟨⟨j1.sub, by rw [putO_len hp]; exact j.len, fun i s e => ?_, fun i k p s t hs' ht os ot e1 e2 => ?_⟩, ⟨x.sub, fun p u e => ?_, fun p u e n => x.keep p u e fun z => n (own_args hs r z), fun p ⟨i, s, e1, e2, e3⟩ => ?_⟩⟩
  · rcases putO_get hp e with q | ⟨hl, os, k, q2, q3⟩
    · cases s with
      | em => trivial
      | sh d =>
        obtain ⟨v, z1, z2⟩ := j.at_ i _ q
        exact ⟨v, z1, z2.mono x.sub⟩
      | ow c =>
        obtain ⟨p, u, z1, z2, z3, z4⟩ := j.at_ i _ q
        by_cases hi : ∃ (k : Nat), us[k]? = some (AV.io i)
        · obtain ⟨k, hk⟩ := hi
          obtain ⟨s', h1, h2, h3⟩ := putO_io hp ok hk ((List.getElem?_eq_some_iff.mp q).1)
          rw [e] at h3
          cases h3
          have w := j1.at_ k _ h1
          obtain ⟨v, h3, h4⟩ := paired_get r hk
          have h4 : σ[i]? = some (some v) := h4
          rw [List.getElem?_map, h3] at w
          rw [h4]
          exact w
        · have no : ¬ Own (vs.map some) ss p := fun ⟨k, s, q1, q2, q3⟩ => by
            obtain ⟨u, h1, h2⟩ := slotsOf_at hs q1
            obtain ⟨i', rfl, hi'⟩ := slotOf_own h2 q2
            obtain ⟨v, h3, h4⟩ := paired_get r h1
            have h4 : σ[i']? = some (some v) := h4
            rw [List.getElem?_map, h3] at q3
            have e1 : v = .ref p := Option.some.inj (Option.some.inj q3)
            rw [e1] at h4
            have ei := j.inj i i' p _ _ q hi' rfl q2 z1 h4
            subst ei
            exact hi ⟨k, h1⟩
          obtain ⟨a1, a2, _⟩ := ext_D x z3 z2 no
          exact ⟨p, u, z1, a2, a1, z4.mono x.sub⟩
    · have w := j1.at_ k s q3
      obtain ⟨v, h3, h4⟩ := paired_get r q2
      have h4 : σ[i]? = some (some v) := h4
      rw [List.getElem?_map, h3] at w
      rw [h4]
      exact w
  · obtain ⟨s', a1, a2⟩ := was hs' os
    obtain ⟨t', b1, b2⟩ := was ht ot
    exact j.inj i k p s' t' a1 b1 a2 b2 e1 e2
  · rcases x.new p u e with z | z | z
    · exact .inl z
    · exact .inr (.inl z)
    · exact .inr (.inr (own_args hs r z))
  · obtain ⟨t, a1, a2⟩ := was e1 e2
    exact .inl ⟨i, t, a1, a2, e3⟩
/-- a def's call as a function of the slots -/
def callD (g : Den) (us : List AV) (ρ : En) : R D := match iosOk us, slotsOf (frzAll ρ us) us with
  | true, some ss => match g ss with
    | .ok d o => if noIo us && flat d then .ok d ρ else match putO (frzAll ρ us) us o with
      | some ρ' => .ok d ρ'
      | none => .bad
    | .ex x o => match putO (frzAll ρ us) us o with
      | some ρ' => .ex x ρ'
      | none => .bad
    | _ => .bad
  | _, _ => .bad
def callF (g : Den) (us : List AV) (ρ : En) : R Ct := match iosOk us, slotsOf (frzAll ρ us) us with
  | true, some ss => match g ss with
    | .fr c o => match putO (frzAll ρ us) us o with
      | some ρ' => .ok c ρ'
      | none => .bad
    | .ex x o => match putO (frzAll ρ us) us o with
      | some ρ' => .ex x ρ'
      | none => .bad
    | _ => .bad
  | _, _ => .bad
def eCall (n : Nat) (g : Den) (f : En → R (List AV)) : En → R D := fun ρ => (f ρ).bind fun us ρ1 => if us.length = n then callD g us ρ1 else .bad
def eCallF (n : Nat) (g : Den) (f : En → R (List AV)) : En → R Ct := fun ρ => (f ρ).bind fun us ρ1 => if us.length = n then callF g us ρ1 else .bad
theorem frzAll_pk : ∀ (us : List AV) (ρ : En) (i : Nat), (AV.pk i ∈ us ∨ ∀ c, ρ[i]? ≠ some (.ow (.l c))) → ∀ c, (frzAll ρ us)[i]? ≠ some (.ow (.l c))
  | [], ρ, i, h, c => by
    rcases h with h | h
    · cases h
    · exact h c
  | .d _ :: us, ρ, i, h, c => frzAll_pk us ρ i (h.imp (fun z => by simpa using z) _root_.id) c
  | .io _ :: us, ρ, i, h, c => frzAll_pk us ρ i (h.imp (fun z => by simpa using z) _root_.id) c
  | .pk m :: us, ρ, i, h, c => by
    unfold frzAll
    cases e : ρ[m]? with
    | none =>
      refine frzAll_pk us ρ i ?_ c
      rcases h with h | h
      · rcases List.mem_cons.mp h with z | z
        · cases z
          exact .inr fun c => by rw [e]; intro z; cases z
        · exact .inl z
      · exact .inr h
    | some s =>
      have old : (∀ c, s ≠ .ow (.l c)) → ∀ c, (frzAll ρ us)[i]? ≠ some (.ow (.l c)) := fun ns => by
        refine frzAll_pk us ρ i ?_
        rcases h with h | h
        · rcases List.mem_cons.mp h with z | z
          · cases z
            exact .inr fun c => by rw [e]; intro z; exact ns c (Option.some.inj z)
          · exact .inl z
        · exact .inr h
      cases s with
      | em => exact old (fun _ z => nomatch z) c
      | sh d => exact old (fun _ z => nomatch z) c
      | ow ct =>
        cases ct with
        | d _ => exact old (fun _ z => nomatch z) c
        | l ds =>
          refine frzAll_pk us _ i ?_ c
          rcases h with h | h
          · rcases List.mem_cons.mp h with z | z
            · cases z
              refine .inr fun c z => ?_
              rcases get_set z with ⟨_, z, _⟩ | ⟨ne, _⟩
              · cases z
              · exact ne rfl
            · exact .inl z
          · refine .inr fun c z => ?_
            rcases get_set z with ⟨_, z, _⟩ | ⟨_, z⟩
            · cases z
            · exact h c z
theorem slotsOf_pkd {ρ : En} {us : List AV} {ss : En} (h : slotsOf ρ us = some ss) {i : Nat} (hm : AV.pk i ∈ us) (kvs : List (Key × D)) : ρ[i]? ≠ some (.ow (.d kvs)) := fun e => by
  obtain ⟨k, hk⟩ := List.getElem?_of_mem hm
  have hl := (List.getElem?_eq_some_iff.mp hk).1
  have e2 : ss[k]? = some (ss[k]'(by rw [slotsOf_len h]; exact hl)) := List.getElem?_eq_getElem _
  obtain ⟨u, h1, h2⟩ := slotsOf_at h e2
  rw [hk] at h1
  cases h1
  have h2 : (match ρ[i]? with
    | some (.sh d) => some (Slot.sh d)
    | some (.ow (.l ds)) => some (.sh (.lst ds))
    | _ => none) = some _ := h2
  rw [e] at h2
  cases h2
theorem noIo_own {us : List AV} {ρ ss : En} (h : noIo us = true) (hs : slotsOf ρ us = some ss) (vs : List V) (p : Addr) : ¬ Own (vs.map some) ss p := fun ⟨k, s, e1, e2, _⟩ => by
  obtain ⟨u, h1, h2⟩ := slotsOf_at hs e1
  obtain ⟨i, rfl, _⟩ := slotOf_own h2 e2
  have : ∀ {us : List AV} {k : Nat}, noIo us = true → us[k]? ≠ some (.io i) := fun {us} => by
    induction us with
    | nil => intro k _ z; simp at z
    | cons u us ih =>
      intro k h z
      cases u with
      | io _ => cases h
      | d _ =>
        cases k with
        | zero => simp at z
        | succ k => exact ih (k := k) h (by simpa using z)
      | pk _ =>
        cases k with
        | zero => simp at z
        | succ k => exact ih (k := k) h (by simpa using z)
  exact this h h1
/-- the callee's promise gives the call -/
theorem call_sp {n : Nat} {us : List AV} {vs : List V} {Q : VK} (hn : vs.length = n) (j : J K F H σ ρ) (r : Paired (relAV K σ F) vs us) (h : Post K W (relD K σ) σ ρ F H (callD g us ρ) Q) : spDen K n g vs H Q (WE W σ) := by
  unfold callD at h
  cases ok : iosOk us with
  | false => rw [ok] at h; exact h.elim
  | true =>
    rw [ok] at h
    obtain ⟨F1, s1, j1, x1⟩ := frzAll_ok us j
    cases hs : slotsOf (frzAll ρ us) us with
    | none => rw [hs] at h; exact h.elim
    | some ss =>
      rw [hs] at h
      have r1 : Paired (relAV K σ F1) vs us := L2.Paired.mapP r fun _ _ z => relAV_mono s1 z
      have jc : J K F1 H (vs.map some) ss := j1.args hs ok (fun i hi c z => by
        cases c with
        | l ds => exact frzAll_pk us ρ i (.inl hi) ds z
        | d kvs => exact slotsOf_pkd hs hi kvs z) r1
      refine ⟨hn, F1, ss, jc, ?_⟩
      have h : Post K W (relD K σ) σ ρ F H (match g ss with
        | .ok d o => if noIo us && flat d then .ok d ρ else match putO (frzAll ρ us) us o with
          | some ρ' => .ok d ρ'
          | none => .bad
        | .ex x o => match putO (frzAll ρ us) us o with
          | some ρ' => .ex x ρ'
          | none => .bad
        | _ => .bad) Q := h
      cases e : g ss with
      | bad => rw [e] at h; exact h.elim
      | fr c o => rw [e] at h; exact h.elim
      | ok d o =>
        rw [e] at h
        have h : Post K W (relD K σ) σ ρ F H (if noIo us && flat d then .ok d ρ else match putO (frzAll ρ us) us o with
          | some ρ' => .ok d ρ'
          | none => .bad) Q := h
        intro v F' H' j' x' rd
        by_cases c : (noIo us && flat d) = true
        · rw [if_pos c] at h
          obtain ⟨c1, c2⟩ := Bool.and_eq_true_iff.mp c
          have keep : Same H H' := fun p o e => x'.keep p o e (noIo_own c1 hs vs p)
          refine h v F H' ⟨j.sub.trans keep, j.len, fun i s e => (j.at_ i s e).mono (Same.refl _) fun p o h f => ⟨f, keep _ _ h⟩, j.inj⟩ ⟨Same.refl _, fun _ _ e => .inl e, fun p o e _ => keep p o e, fun _ e => .inl e⟩ (rd.flat c2)
        · rw [if_neg c] at h
          cases ep : putO (frzAll ρ us) us o with
          | none => rw [ep] at h; exact h.elim
          | some ρ' =>
            rw [ep] at h
            obtain ⟨j2, x2⟩ := j1.behind hs ok r1 ep j' x'
            exact h v F' H' j2 (x1.trans x2) rd
      | ex x o =>
        rw [e] at h
        have h : Post K W (relD K σ) σ ρ F H (match putO (frzAll ρ us) us o with
          | some ρ' => .ex x ρ'
          | none => .bad) Q := h
        intro c dd F' H' j' x' rd
        cases ep : putO (frzAll ρ us) us o with
        | none => rw [ep] at h; exact h.elim
        | some ρ' =>
          rw [ep] at h
          obtain ⟨j2, x2⟩ := j1.behind hs ok r1 ep j' x'
          exact h c dd F' H' j2 (x1.trans x2) rd
theorem call_spF {n : Nat} {us : List AV} {vs : List V} {Q : VK} (hn : vs.length = n) (j : J K F H σ ρ) (r : Paired (relAV K σ F) vs us) (h : PostF K W σ ρ F H (callF g us ρ) Q) : spDen K n g vs H Q (WE W σ) := by
  unfold callF at h
  cases ok : iosOk us with
  | false => rw [ok] at h; exact h.elim
  | true =>
    rw [ok] at h
    obtain ⟨F1, s1, j1, x1⟩ := frzAll_ok us j
    cases hs : slotsOf (frzAll ρ us) us with
    | none => rw [hs] at h; exact h.elim
    | some ss =>
      rw [hs] at h
      have r1 : Paired (relAV K σ F1) vs us := L2.Paired.mapP r fun _ _ z => relAV_mono s1 z
      have jc : J K F1 H (vs.map some) ss := j1.args hs ok (fun i hi c z => by
        cases c with
        | l ds => exact frzAll_pk us ρ i (.inl hi) ds z
        | d kvs => exact slotsOf_pkd hs hi kvs z) r1
      refine ⟨hn, F1, ss, jc, ?_⟩
      have h : PostF K W σ ρ F H (match g ss with
        | .fr c o => match putO (frzAll ρ us) us o with
          | some ρ' => .ok c ρ'
          | none => .bad
        | .ex x o => match putO (frzAll ρ us) us o with
          | some ρ' => .ex x ρ'
          | none => .bad
        | _ => .bad) Q := h
      cases e : g ss with
      | bad => rw [e] at h; exact h.elim
      | ok c o => rw [e] at h; exact h.elim
      | fr c o =>
        rw [e] at h
        have h : PostF K W σ ρ F H (match putO (frzAll ρ us) us o with
          | some ρ' => .ok c ρ'
          | none => .bad) Q := h
        intro p u F' H' j' x' nw f' e' co no
        cases ep : putO (frzAll ρ us) us o with
        | none => rw [ep] at h; exact h.elim
        | some ρ' =>
          rw [ep] at h
          obtain ⟨j2, x2⟩ := j1.behind hs ok r1 ep j' x'
          have nw2 : Own σ ρ p ∨ H p = none := by
            rcases nw with z | z
            · rcases x1.own p (own_args hs r1 z) with z | z
              · exact .inl z
              · exact .inr z
            · exact .inr z
          refine h p u F' H' j2 (x1.trans x2) nw2 f' e' co fun z => ?_
          obtain ⟨i, s, e1, e2, e3⟩ := z
          rcases putO_get ep e1 with q | ⟨hl, _, k, q2, q3⟩
          · by_cases hi : ∃ (k : Nat), us[k]? = some (AV.io i)
            · obtain ⟨k, hk⟩ := hi
              obtain ⟨s', h1, h2, h3⟩ := putO_io ep ok hk ((List.getElem?_eq_some_iff.mp q).1)
              obtain ⟨v, h5, h4⟩ := paired_get r1 hk
              have h4 : σ[i]? = some (some v) := h4
              rw [e3] at h4
              cases h4
              exact no ⟨k, s', h1, h2, by rw [List.getElem?_map, h5]; rfl⟩
            · have z := j1.at_ i _ q
              cases s with
              | em => cases e2
              | sh _ => cases e2
              | ow cc =>
                obtain ⟨p', u', z1, z2, z3, z4⟩ := z
                rw [e3] at z1
                cases z1
                rcases nw with w | w
                · obtain ⟨k, s, q1, q2, q3⟩ := w
                  obtain ⟨uu, h1, h2⟩ := slotsOf_at hs q1
                  obtain ⟨i', rfl, hi'⟩ := slotOf_own h2 q2
                  obtain ⟨v, h3, h4⟩ := paired_get r1 h1
                  have h4 : σ[i']? = some (some v) := h4
                  rw [List.getElem?_map, h3] at q3
                  have e1 : v = .ref p := Option.some.inj (Option.some.inj q3)
                  rw [e1] at h4
                  have ei := j1.inj i i' p _ _ q hi' rfl q2 e3 h4
                  subst ei
                  exact hi ⟨k, h1⟩
                · rw [w] at z3; cases z3
          · obtain ⟨v, h5, h4⟩ := paired_get r1 q2
            have h4 : σ[i]? = some (some v) := h4
            rw [e3] at h4
            cases h4
            exact no ⟨k, s, q3, e2, by rw [List.getElem?_map, h5]; rfl⟩
      | ex x o =>
        rw [e] at h
        have h : PostF K W σ ρ F H (match putO (frzAll ρ us) us o with
          | some ρ' => .ex x ρ'
          | none => .bad) Q := h
        intro c dd F' H' j' x' rd
        cases ep : putO (frzAll ρ us) us o with
        | none => rw [ep] at h; exact h.elim
        | some ρ' =>
          rw [ep] at h
          obtain ⟨j2, x2⟩ := j1.behind hs ok r1 ep j' x'
          exact h c dd F' H' j2 (x1.trans x2) rd
variable {x : Str} {p : Pos} {k n : Nat} {sp : Sp} {f : Addr} {fd : FuncData} {ps : List Str} {E : St → XK}
/-- f() -/
theorem pe_callS0 {CX : CXT} (F : FnOk X.prog X.w X.K X.mg X.base CX k f fd ps sp) (hr : Room k X.A) (hg : Gl X x) (hm : X.mg x = some (.ref f)) (hk : PySem.W.keepIn X.K (.ref f) = true) (hb : Binds X.K fd ps []) (hx : ∀ σ, PassesAt CX X σ (E σ))
    (hdb : (x == ("__debug__" : Str)) = false := by decide) : PE X (.Call (.Name x p) [] [] pos) (tCallS sp E tNil) := by
  refine ⟨fun pins s σ H Q I h => ?_⟩
  refine wpAny_Call_Name_kw (ld_glob I hg hm ?_ hdb)
  exact PySem.W.callWith_K0 I.kIn hk (run_fnS (us := []) F hr hb (hx σ) I .nil h)
theorem sd_call {t : TA} (qa : Sd K W (relG K) t fg) : Sd K W (relD K) (tCallS (spDen K n g) (WE W) t) (eCall n g fg) := by
  intro F H σ ρ Q j h
  show t σ H fun vs H1 => spDen K n g vs H1 Q (WE W σ)
  refine Post.step qa j h fun us ρ1 vs F1 H1 j1 e1 r1 h1 => ?_
  by_cases c : us.length = n
  · rw [if_pos c] at h1
    exact call_sp ((_root_.PySem.Paired.length r1).trans c) j1 r1 h1
  · rw [if_neg c] at h1
    exact h1.elim
theorem sd_callF {t : TA} (qa : Sd K W (relG K) t fg) : ∀ F H σ ρ Q, J K F H σ ρ → PostF K W σ ρ F H (eCallF n g fg ρ) Q → tCallS (spDen K n g) (WE W) t σ H Q := by
  intro F H σ ρ Q j h
  show t σ H fun vs H1 => spDen K n g vs H1 Q (WE W σ)
  refine PostF.step qa j h fun us ρ1 vs F1 H1 j1 e1 r1 h1 => ?_
  by_cases c : us.length = n
  · rw [if_pos c] at h1
    exact call_spF ((_root_.PySem.Paired.length r1).trans c) j1 r1 h1
  · rw [if_neg c] at h1
    exact h1.elim
theorem se_call (F : Fnc X.prog X.w X.K X.mg X.base x k n g) (hr : Room k X.A) (tk : Takes X W) (ha : SC X W (e :: es) fg) (hg : Gl X x := by rfl) (hdb : (x == ("__debug__" : Str)) = false := by decide)
    (he : starEach (e :: es) X.env = (false, eval e X.env) :: starEach es X.env := by rfl) (hpl : (backTo pos (starEach es X.env)).any (·.1) = false := by rfl) : SE X W (.Call (.Name x p) (e :: es) [] pos) (eCall n g fg) := by
  obtain ⟨f, fd, ps, ok, hm, hk, hb⟩ := F.ex
  obtain ⟨t, pa, qa⟩ := ha
  exact ⟨_, pe_callS ok hr hg hm hk hb (fun σ => passAt tk σ) pa hdb he hpl, sd_call qa⟩
theorem se_call0 (F : Fnc X.prog X.w X.K X.mg X.base x k n g) (hr : Room k X.A) (tk : Takes X W) (hg : Gl X x := by rfl) (hdb : (x == ("__debug__" : Str)) = false := by decide) : SE X W (.Call (.Name x p) [] [] pos) (eCall n g gcNil) := by
  obtain ⟨f, fd, ps, ok, hm, hk, hb⟩ := F.ex
  exact ⟨_, pe_callS0 ok hr hg hm hk hb (fun σ => passAt tk σ) hdb, sd_call (fun F H σ ρ Q j h => h [] F H j .refl .nil)⟩
theorem sf_call (F : Fnc X.prog X.w X.K X.mg X.base x k n g) (hr : Room k X.A) (tk : Takes X W) (ha : SC X W (e :: es) fg) (hg : Gl X x := by rfl) (hdb : (x == ("__debug__" : Str)) = false := by decide)
    (he : starEach (e :: es) X.env = (false, eval e X.env) :: starEach es X.env := by rfl) (hpl : (backTo pos (starEach es X.env)).any (·.1) = false := by rfl) : SF X W (.Call (.Name x p) (e :: es) [] pos) (eCallF n g fg) := by
  obtain ⟨f, fd, ps, ok, hm, hk, hb⟩ := F.ex
  obtain ⟨t, pa, qa⟩ := ha
  exact ⟨_, pe_callS ok hr hg hm hk hb (fun σ => passAt tk σ) pa hdb he hpl, sd_callF qa⟩
end

/-! ### a def's own promise, by its body -/
def outs (np : Nat) (io : List Nat) (ρ : En) : En := (List.range np).map fun i => if i ∈ io then ρ.getD i .em else .em
/-- slots: the parameters first -/
def denOf (ns np : Nat) (io : List Nat) (g : En → RS) : Den := fun s => if s.length = np then match g (s ++ List.replicate (ns - np) .em) with
  | .nx ρ => .ok .non (outs np io ρ)
  | .rt d ρ => .ok d (outs np io ρ)
  | .rf c ρ => .fr c (outs np io ρ)
  | .ex x ρ => .ex x (outs np io ρ)
  | _ => .bad else .bad
section
variable {P : Program} {w : World} {K : PySem.W.Frag} {mg : Str → Option Value} {base : Heap} {F H : Hp} {σ : St} {ρ : En}
theorem outs_get {np : Nat} {io : List Nat} {ρ : En} {i : Nat} {s : Slot} (h : (outs np io ρ)[i]? = some s) : i < np ∧ (s = .em ∨ (i ∈ io ∧ ρ[i]? = some s)) := by
  unfold outs at h
  rw [List.getElem?_map] at h
  cases e : (List.range np)[i]? with
  | none => rw [e] at h; cases h
  | some k =>
    rw [e] at h
    obtain ⟨hi, ek⟩ := List.getElem?_eq_some_iff.mp e
    rw [List.length_range] at hi
    simp at ek
    subst ek
    have h : (if i ∈ io then ρ.getD i .em else .em) = s := Option.some.inj h
    refine ⟨hi, ?_⟩
    by_cases c : i ∈ io
    · rw [if_pos c] at h
      cases q : ρ[i]? with
      | none => rw [List.getD_eq_getElem?_getD, q] at h; exact .inl h.symm
      | some u => rw [List.getD_eq_getElem?_getD, q] at h; exact .inr ⟨c, congrArg some h⟩
    · rw [if_neg c] at h
      exact .inl h.symm
theorem start_get {N : List Str} {vs : List V} {i : Nat} (h : i < vs.length) : (start N vs)[i]? = (vs.map some)[i]? := by
  unfold L2.start
  rw [List.getElem?_append_left (by simpa using h)]
theorem J.start {N : List Str} {vs : List V} {s : En} (j : J K F H (vs.map some) s) (hl : vs.length ≤ N.length) : J K F H (start N vs) (s ++ List.replicate (N.length - vs.length) .em) ∧ ∀ p, Own (start N vs) (s ++ List.replicate (N.length - vs.length) .em) p ↔ Own (vs.map some) s p := by
  have l1 : vs.length = s.length := by have := j.len; rwa [List.length_map] at this
  have key : ∀ {i : Nat} {t : Slot}, (s ++ List.replicate (N.length - vs.length) Slot.em)[i]? = some t → t = .em ∨ (i < vs.length ∧ s[i]? = some t) := fun {i t} e => by
    by_cases hi : i < s.length
    · rw [List.getElem?_append_left hi] at e
      exact .inr ⟨by omega, e⟩
    · rw [List.getElem?_append_right (by omega), List.getElem?_replicate] at e
      split at e
      · cases e; exact .inl rfl
      · cases e
  refine ⟨⟨j.sub, by simp [L2.start, l1], fun i t e => ?_, fun i k a t u ht hu ot ou e1 e2 => ?_⟩, fun p => ⟨fun ⟨i, t, e1, e2, e3⟩ => ?_, fun ⟨i, t, e1, e2, e3⟩ => ?_⟩⟩
  · rcases key e with rfl | ⟨hi, e⟩
    · trivial
    · rw [start_get hi]
      exact j.at_ i t e
  · rcases key ht with rfl | ⟨hi, ht⟩
    · cases ot
    · rcases key hu with rfl | ⟨hk, hu⟩
      · cases ou
      · rw [start_get hi] at e1
        rw [start_get hk] at e2
        exact j.inj i k a t u ht hu ot ou e1 e2
  · rcases key e1 with rfl | ⟨hi, e1⟩
    · cases e2
    · rw [start_get hi] at e3
      exact ⟨i, t, e1, e2, e3⟩
  · have hi : i < s.length := (List.getElem?_eq_some_iff.mp e1).1
    exact ⟨i, t, by rw [List.getElem?_append_left hi]; exact e1, e2, by rw [start_get (by omega)]; exact e3⟩
theorem fn_den {x qual : Str} {params : Arguments} {body : List Stmt} {scope : Scope} {f : Addr} {fd : FuncData} {N ps : List Str} {k : Nat} {io : List Nat} {g : En → RS} (F : FunD K x qual params body scope [] [] f fd) (S : FnScope N ps scope) (hio : ∀ i ∈ io, i < ps.length)
    (hb : ∀ (cdv : Value) (A : Around) (outer : List Env) (s : Shared) (H : Hp) (E : XK), Room k (A.deeper (envOfC qual scope s.heap.objs.size f cdv)) → SSs (cxOf (L2.CX P w) P w K mg base N qual scope f cdv A outer s H E) (fun cls d _ H => E cls d H) io body g) :
    FnOk P w K mg base (L2.CX P w) (k + 1) f fd ps (spDen K ps.length (denOf N.length ps.length io g)) := by
  have hpl : ps.length ≤ N.length := by have := congrArg List.length S.pre; rw [List.length_take] at this; omega
  refine F.ok S (fun vs H Q E h => h.1) fun cdv A outer s H vs Q E hr h => ?_
  obtain ⟨hl, F0, sl, j, hc⟩ := h
  obtain ⟨t, ht, q⟩ := hb cdv A outer s H E hr
  refine ⟨t, ht, ?_⟩
  have l1 : sl.length = ps.length := by have := j.len; rw [List.length_map] at this; omega
  obtain ⟨j0, o0⟩ := j.start (N := N) (by omega)
  refine q F0 H _ _ _ j0 ?_
  unfold denOf at hc
  rw [if_pos l1] at hc
  rw [hl] at j0 o0 ⊢
  -- behind the body
  have fin : ∀ {σ' : St} {F' H' : Hp} {ρ' : En}, J K F' H' σ' ρ' → Pin io (start N vs) σ' → Ext (Own (start N vs) (sl ++ List.replicate (N.length - ps.length) .em)) (Own σ' ρ') F0 H F' H' →
      J K F' H' (vs.map some) (outs ps.length io ρ') ∧ Ext (Own (vs.map some) sl) (Own (vs.map some) (outs ps.length io ρ')) F0 H F' H' ∧ ∀ p, Own (vs.map some) (outs ps.length io ρ') p → Own σ' ρ' p := fun {σ' F' H' ρ'} j' pn x => by
    have at_ : ∀ {i : Nat}, i ∈ io → (vs.map some)[i]? = σ'[i]? := fun {i} hi => by
      rw [pn i hi, start_get (by rw [hl]; exact hio i hi)]
    have ow : ∀ p, Own (vs.map some) (outs ps.length io ρ') p → Own σ' ρ' p := fun p ⟨i, s, e1, e2, e3⟩ => by
      rcases (outs_get e1).2 with rfl | ⟨hi, e1⟩
      · cases e2
      · rw [at_ hi] at e3
        exact ⟨i, s, e1, e2, e3⟩
    refine ⟨⟨j'.sub, by simp [outs, hl], fun i s e => ?_, fun i k a s u hs hu os ou e1 e2 => ?_⟩, ⟨x.sub, fun p o e => ?_, fun p o e n => x.keep p o e fun z => n ((o0 p).mp z), fun p e => ?_⟩, ow⟩
    · rcases (outs_get e).2 with rfl | ⟨hi, e⟩
      · trivial
      · rw [at_ hi]
        exact j'.at_ i s e
    · rcases (outs_get hs).2 with rfl | ⟨hi, hs⟩
      · cases os
      · rcases (outs_get hu).2 with rfl | ⟨hk, hu⟩
        · cases ou
        · rw [at_ hi] at e1
          rw [at_ hk] at e2
          exact j'.inj i k a s u hs hu os ou e1 e2
    · rcases x.new p o e with z | z | z
      · exact .inl z
      · exact .inr (.inl z)
      · exact .inr (.inr ((o0 p).mp z))
    · rcases x.own p (ow p e) with z | z
      · exact .inl ((o0 p).mp z)
      · exact .inr z
  cases e : g (sl ++ List.replicate (N.length - ps.length) .em) with
  | bad => rw [e] at hc; exact hc
  | bk ρ' => rw [e] at hc; exact hc.elim
  | ct ρ' => rw [e] at hc; exact hc.elim
  | nx ρ' =>
    rw [e] at hc
    intro σ' F' H' j' pn x
    obtain ⟨a1, a2, _⟩ := fin j' pn x
    exact hc .non F' H' a1 a2 .non
  | rt d ρ' =>
    rw [e] at hc
    intro σ' v F' H' j' pn x r
    obtain ⟨a1, a2, _⟩ := fin j' pn x
    exact hc v F' H' a1 a2 r
  | rf c ρ' =>
    rw [e] at hc
    intro σ' p o F' H' j' pn x nw f' e' co no
    obtain ⟨a1, a2, a3⟩ := fin j' pn x
    refine hc p o F' H' a1 a2 ?_ f' e' co fun z => no (a3 p z)
    rcases nw with z | z
    · exact .inl ((o0 p).mp z)
    · exact .inr z
  | ex y ρ' =>
    rw [e] at hc
    intro σ' c dd F' H' j' pn x r
    obtain ⟨a1, a2, _⟩ := fin j' pn x
    exact hc c dd F' H' a1 a2 r
end
end Pu
namespace Pu
open PySem PySem.Spec PyProof.Rows L2
set_option autoImplicit false
section
variable {X : Cx} {W : WX} {io ts : List Nat} {K : PySem.W.Frag} {F H : Hp} {σ : St} {ρ : En} {a b c e : Expr} {es : List Expr} {fa fb fc : En → R D} {pos : Pos} {g : Den} {fg : En → R (List AV)}
/-! ### calls with keywords: the keywords in the parameters' order, behind the positional ones -/
structure FncK (P : Program) (w : World) (K : PySem.W.Frag) (mg : Str → Option Value) (base : Heap) (x : Str) (k n : Nat) (n0 : Nat) (ks : List Str) (g : Den) : Prop where
  ex : ∃ f fd ps, FnOk P w K mg base (L2.CX P w) k f fd ps (spDen K n g) ∧ mg x = some (.ref f) ∧ PySem.W.keepIn K (.ref f) = true ∧ KBn K fd ps n0 ks (fun us ws => us ++ ws) (fun vs zs => vs ++ zs)
def SCK (X : Cx) (W : WX) (kws : List Keyword) (f : En → R (List AV)) : Prop := ∃ t : TA, PK X kws t ∧ Sd X.K W (relG X.K) t f
theorem sck_nil : SCK X W [] gcNil := ⟨_, pk_nil, fun F H σ ρ Q j h => h [] F H j .refl .nil⟩
theorem sck_v {nm : Option Str} {kpos : Pos} {kws : List Keyword} (ha : SE X W a fa) (hb : SCK X W kws fg) : SCK X W (⟨nm, a, kpos⟩ :: kws) (gcV fa fg) := by
  obtain ⟨t, p, q⟩ := ha
  obtain ⟨u, p', q'⟩ := hb
  refine ⟨_, pk_cons p p', fun F H σ ρ Q j h => ?_⟩
  show t σ H fun x H1 => u σ H1 fun xs H2 => Q (x :: xs) H2
  refine Post.step q j h fun d ρ1 x F1 H1 j1 e1 r1 h1 => ?_
  refine Post.step q' j1 h1 fun ds ρ2 xs F2 H2 j2 e2 r2 h2 => ?_
  exact h2 _ F2 H2 j2 .refl (.cons (show relAV X.K σ F2 x (.d d) from r1.mono e2.sub) r2)
variable {k n n0 : Nat} {f : Addr} {fd : FuncData} {ps ks : List Str} {sp : Sp} {E : St → XK} {x : Str} {p : Pos} {kws : List Keyword} {t tk : TA} {gg : List Value → List Value → List Value} {gV : List V → List V → List V}
def tCallNS (n m : Nat) (sp : Sp) (gV : List V → List V → List V) (E : St → XK) (t tk : TA) : TE := fun σ H Q => t σ H fun vs H1 => tk σ H1 fun zs H2 => vs.length = n ∧ zs.length = m ∧ sp (gV vs zs) H2 Q (E σ)
theorem run_fnNS {pins : List (Addr × Obj)} {s : Shared} {Q : VK} {us ws : List Value} {vs zs : List V} (F : FnOk X.prog X.w X.K X.mg X.base (L2.CX X.prog X.w) k f fd ps sp) (hr : Room k X.A) (hb : KBn X.K fd ps n ks gg gV) (hx : ∀ σ, PassesAt (L2.CX X.prog X.w) X σ (E σ))
    (I : Inv X pins σ H s) (r : Vals vs us) (rz : Vals zs ws) (l1 : vs.length = n) (l2 : zs.length = ks.length) (h : sp (gV vs zs) H Q (E σ)) : wpAny (model X.prog X.w) X.A (call (.ref f) us (ks.zip ws)) (EP X pins σ Q) X.xe s := by
  have r2 := hb.rel r rz
  refine wpAny_call (codeAny_mono (F.run X.A X.stack s H ⟨us, ks.zip ws⟩ (gg us ws) (gV vs zs) Q (E σ) hr I.env0 (hb.to s us ws I.kIn (r.length.symm.trans l1) (rz.length.symm.trans l2)) r2 h) fun r s' hq => ?_)
  cases r with
  | error e => exact hx σ pins H s e s' I hq
  | ok fl =>
    cases fl with
    | ret u => exact I.after hq
    | next => exact False.elim hq
    | brk => exact False.elim hq
    | cont => exact False.elim hq
theorem pe_callNS0 (F : FnOk X.prog X.w X.K X.mg X.base (L2.CX X.prog X.w) k f fd ps sp) (hr : Room k X.A) (hg : Gl X x) (hm : X.mg x = some (.ref f)) (hk : PySem.W.keepIn X.K (.ref f) = true) (hb : KBn X.K fd ps 0 ks gg gV) (hx : ∀ σ, PassesAt (L2.CX X.prog X.w) X σ (E σ))
    (hkw : PK X kws tk) (hall : (backToKw pos (keywordEach kws X.env)).all (·.1.isSome) = true) (hks : (backToKw pos (keywordEach kws X.env)).filterMap (·.1) = ks)
    (hdb : (x == ("__debug__" : Str)) = false)
    (hpl : ((backTo pos (starEach [] X.env)).any (·.1) || (backToKw pos (keywordEach kws X.env)).any (·.1.isNone)) = false) :
    PE X (.Call (.Name x p) [] kws pos) (tCallNS 0 ks.length sp gV E tNil tk) := by
  refine ⟨fun pins s σ H Q I h => ?_⟩
  refine wpAny_Call_Name_kw (ld_glob I hg hm ?_ hdb)
  refine PySem.W.callWith_KW0 (h₀ := X.base) I.ok.mod.kin hk hall ?_ hpl
  refine thn (hkw.run pos pins s σ H _ I h) fun ws s2 ⟨zs, H2, I2, rz, l1, l2, q2⟩ => ⟨I2.kIn, ?_⟩
  rw [hks]
  exact run_fnNS F hr hb hx I2 .nil rz l1 l2 q2
theorem pe_callNS (F : FnOk X.prog X.w X.K X.mg X.base (L2.CX X.prog X.w) k f fd ps sp) (hr : Room k X.A) (hg : Gl X x) (hm : X.mg x = some (.ref f)) (hk : PySem.W.keepIn X.K (.ref f) = true) (hb : KBn X.K fd ps n ks gg gV) (hx : ∀ σ, PassesAt (L2.CX X.prog X.w) X σ (E σ))
    (ha : PA X (e :: es) t) (hkw : PK X kws tk) (hall : (backToKw pos (keywordEach kws X.env)).all (·.1.isSome) = true) (hks : (backToKw pos (keywordEach kws X.env)).filterMap (·.1) = ks)
    (hdb : (x == ("__debug__" : Str)) = false) (he : starEach (e :: es) X.env = (false, eval e X.env) :: starEach es X.env)
    (hpl : ((backTo pos (starEach (e :: es) X.env)).any (·.1) || (backToKw pos (keywordEach kws X.env)).any (·.1.isNone)) = false) :
    PE X (.Call (.Name x p) (e :: es) kws pos) (tCallNS n ks.length sp gV E t tk) := by
  refine ⟨fun pins s σ H Q I h => ?_⟩
  refine wpAny_Call_Name_kw (ld_glob I hg hm ?_ hdb)
  refine PySem.W.callWith_KW (h₀ := X.base) I.ok.mod.kin hk hall (thn (ha.run pos pins s σ H _ I h) fun us s1 ⟨vs, H1, I1, r, q⟩ => ?_) hpl he
  refine thn (hkw.run pos pins s1 σ H1 _ I1 q) fun ws s2 ⟨zs, H2, I2, rz, l1, l2, q2⟩ => ⟨I2.kIn, ?_⟩
  rw [hks]
  exact run_fnNS F hr hb hx I2 r rz l1 l2 q2
def gcApp (n m : Nat) (f h : En → R (List AV)) : En → R (List AV) := fun ρ => (f ρ).bind fun us ρ1 => (h ρ1).bind fun vs ρ2 => if us.length = n ∧ vs.length = m then .ok (us ++ vs) ρ2 else .bad
theorem paired_app {α β : Type} {Rr : α → β → Prop} : ∀ {xs xs' : List α} {ys ys' : List β}, Paired Rr xs ys → Paired Rr xs' ys' → Paired Rr (xs ++ xs') (ys ++ ys')
  | _, _, _, _, .nil, h => h
  | _, _, _, _, .cons r t, h => .cons r (paired_app t h)
theorem paired_mono {α β : Type} {Rr Rs : α → β → Prop} (m : ∀ a b, Rr a b → Rs a b) : ∀ {xs : List α} {ys : List β}, Paired Rr xs ys → Paired Rs xs ys
  | _, _, .nil => .nil
  | _, _, .cons r t => .cons (m _ _ r) (paired_mono m t)
theorem sd_callNS {m : Nat} {fk : En → R (List AV)} (qa : Sd K W (relG K) t fg) (qk : Sd K W (relG K) tk fk) : Sd K W (relD K) (tCallNS n0 m (spDen K n g) (fun vs zs => vs ++ zs) (WE W) t tk) (eCall n g (gcApp n0 m fg fk)) := by
  intro F H σ ρ Q j h
  show t σ H fun vs H1 => tk σ H1 fun zs H2 => vs.length = n0 ∧ zs.length = m ∧ spDen K n g (vs ++ zs) H2 Q (WE W σ)
  unfold eCall gcApp at h
  have key : ∀ {α β γ : Type} (r : R α) (f : α → En → R β) (g : β → En → R γ), (r.bind f).bind g = r.bind fun a ρ => (f a ρ).bind g := fun r f g => by cases r <;> rfl
  rw [key] at h
  refine Post.step qa j h fun us ρ1 vs F1 H1 j1 e1 r1 h1 => ?_
  rw [key] at h1
  refine Post.step qk j1 h1 fun us2 ρ2 zs F2 H2 j2 e2 r2 h2 => ?_
  by_cases c : us.length = n0 ∧ us2.length = m
  · rw [if_pos c] at h2
    refine ⟨(_root_.PySem.Paired.length r1).trans c.1, (_root_.PySem.Paired.length r2).trans c.2, ?_⟩
    have h2 : Post K W (relD K σ) σ ρ2 F2 H2 (if (us ++ us2).length = n then callD g (us ++ us2) ρ2 else .bad) Q := h2
    by_cases c2 : (us ++ us2).length = n
    · rw [if_pos c2] at h2
      have r3 : Paired (relAV K σ F2) (vs ++ zs) (us ++ us2) := paired_app (paired_mono (fun _ _ => relAV_mono e2.sub) r1) r2
      exact call_sp ((_root_.PySem.Paired.length r3).trans c2) j2 r3 h2
    · rw [if_neg c2] at h2
      exact h2.elim
  · rw [if_neg c] at h2
    exact h2.elim
theorem se_callK0 {fk : En → R (List AV)} (F : FncK X.prog X.w X.K X.mg X.base x k n 0 ks g) (hr : Room k X.A) (tk : Takes X W) (hkw : SCK X W kws fk) (hg : Gl X x := by rfl)
    (hall : (backToKw pos (keywordEach kws X.env)).all (·.1.isSome) = true := by rfl) (hks : (backToKw pos (keywordEach kws X.env)).filterMap (·.1) = ks := by rfl)
    (hdb : (x == ("__debug__" : Str)) = false := by decide)
    (hpl : ((backTo pos (starEach [] X.env)).any (·.1) || (backToKw pos (keywordEach kws X.env)).any (·.1.isNone)) = false := by rfl) : SE X W (.Call (.Name x p) [] kws pos) (eCall n g (gcApp 0 ks.length gcNil fk)) := by
  obtain ⟨f, fd, ps, ok, hm, hk, hb⟩ := F.ex
  obtain ⟨t, pa, qa⟩ := hkw
  exact ⟨_, pe_callNS0 ok hr hg hm hk hb (fun σ => passAt tk σ) pa hall hks hdb hpl, sd_callNS (fun F H σ ρ Q j h => h [] F H j .refl .nil) qa⟩
theorem se_callK {fk : En → R (List AV)} (F : FncK X.prog X.w X.K X.mg X.base x k n n0 ks g) (hr : Room k X.A) (tk : Takes X W) (ha : SC X W (e :: es) fg) (hkw : SCK X W kws fk) (hg : Gl X x := by rfl)
    (hall : (backToKw pos (keywordEach kws X.env)).all (·.1.isSome) = true := by rfl) (hks : (backToKw pos (keywordEach kws X.env)).filterMap (·.1) = ks := by rfl)
    (hdb : (x == ("__debug__" : Str)) = false := by decide) (he : starEach (e :: es) X.env = (false, eval e X.env) :: starEach es X.env := by rfl)
    (hpl : ((backTo pos (starEach (e :: es) X.env)).any (·.1) || (backToKw pos (keywordEach kws X.env)).any (·.1.isNone)) = false := by rfl) : SE X W (.Call (.Name x p) (e :: es) kws pos) (eCall n g (gcApp n0 ks.length fg fk)) := by
  obtain ⟨f, fd, ps, ok, hm, hk, hb⟩ := F.ex
  obtain ⟨t, pa, qa⟩ := hkw
  obtain ⟨t', pa', qa'⟩ := ha
  exact ⟨_, pe_callNS ok hr hg hm hk hb (fun σ => passAt tk σ) pa' pa hall hks hdb he hpl, sd_callNS qa' qa⟩
end
/-! ### the defs of a text -/
structure FunE (K : PySem.W.Frag) (mg : Str → Option Value) (x : Str) (params : Arguments) (body : List Stmt) (scope : Scope) : Prop where
  ex : ∃ f fd, FunD K x x params body scope [] [] f fd ∧ mg x = some (.ref f)
section
variable {P : Program} {w : World} {K : PySem.W.Frag} {mg : Str → Option Value} {base : Heap} {x : Str} {params : Arguments} {body : List Stmt} {scope : Scope} {N ps : List Str} {k : Nat} {io : List Nat} {g : En → RS}
/-- the context of a def's body -/
abbrev BX (P : Program) (w : World) (K : PySem.W.Frag) (mg : Str → Option Value) (base : Heap) (N : List Str) (x : Str) (scope : Scope) (f : Addr) (cdv : Value) (A : Around) (outer : List Env) (s : Shared) (H : Hp) (E : XK) : Cx := cxOf (L2.CX P w) P w K mg base N x scope f cdv A outer s H E
abbrev WB (E : XK) : WX := fun cls d _ H => E cls d H
/-- reading of a def's body, in each of its contexts -/
def Body (P : Program) (w : World) (K : PySem.W.Frag) (mg : Str → Option Value) (base : Heap) (x : Str) (N : List Str) (scope : Scope) (k : Nat) (io : List Nat) (body : List Stmt) (g : En → RS) : Prop :=
  ∀ (f : Addr) (cdv : Value) (A : Around) (outer : List Env) (s : Shared) (H : Hp) (E : XK), Room k (A.deeper (envOfC x scope s.heap.objs.size f cdv)) → Takes (BX P w K mg base N x scope f cdv A outer s H E) (WB E) → SSs (BX P w K mg base N x scope f cdv A outer s H E) (WB E) io body g
theorem fnOk_of {f : Addr} {fd : FuncData} (F : FunD K x x params body scope [] [] f fd) (S : FnScope N ps scope) (hio : ∀ i ∈ io, i < ps.length) (hb : Body P w K mg base x N scope k io body g) :
    FnOk P w K mg base (L2.CX P w) (k + 1) f fd ps (spDen K ps.length (denOf N.length ps.length io g)) :=
  fn_den F S hio fun cdv A outer s H E hr => hb f cdv A outer s H E hr (takes_of rfl rfl rfl rfl)
theorem fnc_of {n ns : Nat} (F : FunE K mg x params body scope) (S : FnScope N ps scope) (hio : ∀ i ∈ io, i < ps.length) (hn : ps.length = n) (hN : N.length = ns)
    (h : ∀ (kV doc pm : Value) (an : Option Addr) (cdv ct : Value) (us : List Value), us.length = ps.length → bindArgs (PySem.W.fnOf x x params body scope .none kV doc pm an cdv ct) ⟨us, []⟩ = pure (ps.zip us))
    (hb : Body P w K mg base x N scope k io body g) : Fnc P w K mg base x (k + 1) n (denOf ns n io g) := by
  subst hn
  subst hN
  obtain ⟨f, fd, D, hm⟩ := F.ex
  exact ⟨f, fd, ps, fnOk_of D S hio hb, hm, D.kp, D.bindsN h⟩
theorem fncK_of {n ns n0 : Nat} {ks : List Str} (F : FunE K mg x params body scope) (S : FnScope N ps scope) (hio : ∀ i ∈ io, i < ps.length) (hn : ps.length = n) (hN : N.length = ns)
    (h : ∀ (kV doc pm : Value) (an : Option Addr) (cdv ct : Value) (us ws : List Value), us.length = n0 → ws.length = ks.length → bindArgs (PySem.W.fnOf x x params body scope .none kV doc pm an cdv ct) ⟨us, ks.zip ws⟩ = pure (ps.zip (us ++ ws)))
    (hb : Body P w K mg base x N scope k io body g) : FncK P w K mg base x (k + 1) n n0 ks (denOf ns n io g) := by
  subst hn
  subst hN
  obtain ⟨f, fd, D, hm⟩ := F.ex
  refine ⟨f, fd, ps, fnOk_of D S hio hb, hm, D.kp, ?_⟩
  obtain ⟨oc, od, dV, kV, doc, pm, an, cdv, ct, osl, rfl, lk, hcd, hD, hK⟩ := D.ex
  rcases hD with ⟨_, rfl⟩ | ⟨e, _⟩
  · exact ⟨fun s us ws X l1 l2 => .of_eq (h kV doc pm an cdv ct us ws l1 l2), fun r1 r2 => r1.append r2⟩
  · exact absurd rfl e
/-- a def that is never run further: anything is promised -/
theorem fnc_bad {n : Nat} (F : FunE K mg x params body scope) (S : FnScope N ps scope) (hn : ps.length = n)
    (h : ∀ (kV doc pm : Value) (an : Option Addr) (cdv ct : Value) (us : List Value), us.length = ps.length → bindArgs (PySem.W.fnOf x x params body scope .none kV doc pm an cdv ct) ⟨us, []⟩ = pure (ps.zip us)) : Fnc P w K mg base x 1 n (fun _ => .bad) := by
  subst hn
  obtain ⟨f, fd, D, hm⟩ := F.ex
  refine ⟨f, fd, ps, D.ok S (fun vs H Q E h => h.1) fun cdv A outer s H vs Q E hr h => ?_, hm, D.kp, D.bindsN h⟩
  obtain ⟨_, F0, sl, j, hc⟩ := h
  exact hc.elim
theorem Fnc.mono {n : Nat} {g : Den} {j : Nat} (F : Fnc P w K mg base x k n g) (h : k ≤ j) : Fnc P w K mg base x j n g := by
  obtain ⟨f, fd, ps, ok, hm, hk, hb⟩ := F.ex
  exact ⟨f, fd, ps, ⟨ok.len, fun A st s H args us vs Q E hr => ok.run A st s H args us vs Q E (hr.mono h)⟩, hm, hk, hb⟩
end
end Pu
namespace Pu
open PySem PySem.Spec PyProof.Rows L2
set_option autoImplicit false
/-! ### the law's own promise -/
section
variable {K : PySem.W.Frag} {H : Hp}
theorem law_sp {g : En → RS} {n : Nat} {a : Addr} {ns : List Int} (hS : SqL K H a (ns.map V.int)) (h : ∃ o, denOf n 1 [] g [.sh (.scr ns)] = .ok (.bl true) o) : spDen K 1 (denOf n 1 [] g) [.ref a] H (fun v _ => v = .bl true) fun _ _ _ => False := by
  obtain ⟨o, h⟩ := h
  refine ⟨rfl, H, [.sh (.scr ns)], ⟨Same.refl _, rfl, fun i s e => ?_, fun i k p s t e1 e2 os ot => ?_⟩, ?_⟩
  · match i, e with
    | 0, e =>
      have e : some (Slot.sh (.scr ns)) = some s := e
      cases e
      exact ⟨.ref a, rfl, .scr hS⟩
    | i + 1, e => simp at e
  · match i, e1 with
    | 0, e1 =>
      have e1 : some (Slot.sh (.scr ns)) = some s := e1
      cases e1
      cases os
    | i + 1, e1 => simp at e1
  · rw [h]
    intro v F' H' j x r
    cases r
    rfl
theorem no_exc {P : Program} {w : World} (H : Hp) (s : Shared) (e : Value) (s' : Shared) (h : L2.CX P w [] H s (fun _ _ _ => False) e s') : False := by
  obtain ⟨_, _, _, _, _, _, _, _, _, _, _, _, z⟩ := h
  exact z.elim
/-- a law that lets nothing out -/
theorem fn_calm {P : Program} {w : World} {K : PySem.W.Frag} {mg : Str → Option Value} {base : Heap} {k : Nat} {f : Addr} {fd : FuncData} {ps : List Str} {sp : Sp} (F : FnOk P w K mg base (L2.CX P w) k f fd ps sp) :
    FnOk P w K mg base L2.CX0 k f fd ps (fun vs H Q _ => sp vs H Q fun _ _ _ => False) where
  len := fun vs H Q E h => F.len vs H Q _ h
  run := fun A outer s H args us vs Q E hr I b r h => codeAny_mono (F.run A outer s H args us vs Q _ hr I b r h) fun r s' hq => by
    cases r with
    | error e =>
      obtain ⟨_, _, _, _, _, _, _, _, _, _, _, _, z⟩ := hq
      exact z.elim
    | ok fl => cases fl with
      | ret u => exact hq
      | next => exact hq
      | brk => exact hq
      | cont => exact hq
end
end Pu
namespace Pu
open PySem PySem.Spec PyProof.Rows L2
set_option autoImplicit false
/-! ### evaluating -/
section
variable {α β : Type} {a : α} {ρ : En} {x : Exn} {k : α → En → R β} {kk : α → En → RS} {h : En → RS}
@[simp] theorem bind_ok : (R.ok a ρ).bind k = k a ρ := rfl
@[simp] theorem bind_ex : (R.ex x ρ : R α).bind k = .ex x ρ := rfl
@[simp] theorem bind_bad : (R.bad : R α).bind k = .bad := rfl
@[simp] theorem of_some : R.of (some a) ρ = .ok a ρ := rfl
@[simp] theorem toS_ok : (R.ok a ρ).toS kk = kk a ρ := rfl
@[simp] theorem toS_ex : (R.ex x ρ : R α).toS kk = .ex x ρ := rfl
@[simp] theorem seq_nx : (RS.nx ρ).seq h = h ρ := rfl
@[simp] theorem seq_rt {d : D} : (RS.rt d ρ).seq h = .rt d ρ := rfl
@[simp] theorem seq_rf {d : Ct} : (RS.rf d ρ).seq h = .rf d ρ := rfl
@[simp] theorem seq_bk : (RS.bk ρ).seq h = .bk ρ := rfl
@[simp] theorem seq_ct : (RS.ct ρ).seq h = .ct ρ := rfl
@[simp] theorem seq_ex : (RS.ex x ρ).seq h = .ex x ρ := rfl
end
section
variable {ρ : En} {fa fb fc : En → R D} {ft fu : En → R Bool} {g h : En → RS} {ff : En → R Ct} {fas : En → R (List D)} {d : D}
@[simp] theorem eC_eq : eC d ρ = .ok d ρ := rfl
@[simp] theorem eBin_eq {g} : eBin g fa fb ρ = (fa ρ).bind fun a ρ1 => (fb ρ1).bind fun b ρ2 => R.of (g a b) ρ2 := rfl
@[simp] theorem eUn_eq {g} : eUn g fa ρ = (fa ρ).bind fun a ρ1 => R.of (g a) ρ1 := rfl
@[simp] theorem eA_eq {g} : eA g fas ρ = (fas ρ).bind fun ds ρ1 => R.of (g ds) ρ1 := rfl
@[simp] theorem aNil_eq : aNil ρ = .ok [] ρ := rfl
@[simp] theorem aCons_eq {g} : aCons fa g ρ = (fa ρ).bind fun d ρ1 => (g ρ1).bind fun ds ρ2 => .ok (d :: ds) ρ2 := rfl
@[simp] theorem tOf_eq : tOf fa ρ = (fa ρ).bind fun d ρ1 => R.of (asB d) ρ1 := rfl
@[simp] theorem tTru_eq : tTru fa ρ = (fa ρ).bind fun d ρ1 => R.of (truD d) ρ1 := rfl
@[simp] theorem tNo_eq : tNo ft ρ = (ft ρ).bind fun b ρ1 => .ok (!b) ρ1 := rfl
@[simp] theorem tTrue_eq : tTrue ρ = .ok true ρ := rfl
@[simp] theorem asB_bl {b : Bool} : asB (.bl b) = some b := rfl
@[simp] theorem truD_bl {b : Bool} : truD (.bl b) = some b := rfl
@[simp] theorem sSeq_eq : sSeq g h ρ = (g ρ).seq h := rfl
@[simp] theorem sSet_eq {i} : sSet i fa ρ = (fa ρ).toS fun d ρ1 => .nx (ρ1.set i (.sh d)) := rfl
@[simp] theorem sSetF_eq {i} : sSetF i ff ρ = (ff ρ).toS fun c ρ1 => .nx (ρ1.set i (.ow c)) := rfl
@[simp] theorem sRet_eq : sRet fa ρ = (fa ρ).toS fun d ρ1 => .rt d ρ1 := rfl
@[simp] theorem sRetF_eq : sRetF ff ρ = (ff ρ).toS fun d ρ1 => .rf d ρ1 := rfl
@[simp] theorem sDrop_eq : sDrop fa ρ = (fa ρ).toS fun _ ρ1 => .nx ρ1 := rfl
@[simp] theorem iSeq_eq : iSeq fa ρ = (fa ρ).bind fun d ρ1 => R.of (itemsD d) ρ1 := rfl
@[simp] theorem iRg_eq {g} : iRg g fas ρ = (fas ρ).bind fun ds ρ1 => R.of (g ds) ρ1 := rfl
@[simp] theorem eF_eq : eF ff ρ = (ff ρ).bind fun c ρ1 => R.of (frzC c) ρ1 := rfl
@[simp] theorem RC_of_eq {α : Type} {g : α → Option Ct} {f : En → R α} : RC_of g f ρ = (f ρ).bind fun a ρ1 => R.of (g a) ρ1 := rfl
@[simp] theorem eBinF_eq {g} : eBinF g fa fb ρ = (fa ρ).bind fun a ρ1 => (fb ρ1).bind fun b ρ2 => R.of (g a b) ρ2 := rfl
@[simp] theorem frzC_l {ds : List D} : frzC (.l ds) = some (.lst ds) := rfl
@[simp] theorem itemsD_l {ds : List D} : itemsD (.lst ds) = some ds := rfl
@[simp] theorem itemsD_t {ds : List D} : itemsD (.tup ds) = some ds := rfl
@[simp] theorem sFor_eq {fi tg} : sFor fi tg g ρ = (fi ρ).toS fun ds ρ1 => forD tg g ds ρ1 := rfl
@[simp] theorem gNm_eq {i : Nat} : gNm i d ρ = some (ρ.set i (.sh d)) := rfl
/-- the branch -/
@[simp] theorem sIf_eq : sIf ft g h ρ = (ft ρ).toS fun b ρ1 => if b then g ρ1 else h ρ1 := by
  unfold sIf; congr 1; funext b ρ1; cases b <;> rfl
@[simp] theorem eIf_eq : eIf ft fa fb ρ = (ft ρ).bind fun b ρ1 => if b then fa ρ1 else fb ρ1 := by
  unfold eIf; congr 1; funext b ρ1; cases b <;> rfl
@[simp] theorem tAn_eq : tAn ft fu ρ = (ft ρ).bind fun b ρ1 => if b then fu ρ1 else .ok false ρ1 := by
  unfold tAn; congr 1; funext b ρ1; cases b <;> rfl
@[simp] theorem tOu_eq : tOu ft fu ρ = (ft ρ).bind fun b ρ1 => if b then .ok true ρ1 else fu ρ1 := by
  unfold tOu; congr 1; funext b ρ1; cases b <;> rfl
@[simp] theorem gNot_bl {b : Bool} : gNot (.bl b) = some (.bl (!b)) := rfl
end
section
variable {i j : Int} {ds es : List D}
@[simp] theorem gAdd_int : gAdd (.int i) (.int j) = some (.int (i + j)) := rfl
@[simp] theorem gSub_int : gSub (.int i) (.int j) = some (.int (i - j)) := rfl
@[simp] theorem gLt_int : gLt (.int i) (.int j) = some (.bl (decide (i < j))) := rfl
@[simp] theorem gLe_int : gLe (.int i) (.int j) = some (.bl (decide (i ≤ j))) := rfl
@[simp] theorem gGt_int : gGt (.int i) (.int j) = some (.bl (decide (j < i))) := rfl
@[simp] theorem gGe_int : gGe (.int i) (.int j) = some (.bl (decide (j ≤ i))) := rfl
@[simp] theorem gNeg_int : gNeg (.int i) = some (.int (-i)) := rfl
theorem gMul_l (h : i.natAbs < 2 ^ 64) : gMulI (.int i) (.int j) = some (.int (i * j)) := by
  unfold gMulI gI cMul; simp [h]
theorem gMul_r (h : j.natAbs < 2 ^ 64) : gMulI (.int i) (.int j) = some (.int (i * j)) := by
  unfold gMulI gI cMul; simp [h]
theorem gMod_pos (h : 0 < j) : gMod (.int i) (.int j) = some (.int (i % j)) := by
  unfold gMod gI; simp [h]
theorem gFdiv_pos (h : 0 < j) (h2 : j.natAbs.log2 < 9000) : gFdiv (.int i) (.int j) = some (.int (i / j)) := by
  unfold gFdiv gI; simp [h, h2]
@[simp] theorem shp_int : shp (.int i) = true := rfl
@[simp] theorem gEq_int : gEq (.int i) (.int j) = some (.bl (i == j)) := rfl
@[simp] theorem gNe_int : gNe (.int i) (.int j) = some (.bl (!(i == j))) := rfl
@[simp] theorem gLen_l : gLen [.lst ds] = some (.int ds.length) := rfl
@[simp] theorem gLen_t : gLen [.tup ds] = some (.int ds.length) := rfl
@[simp] theorem gIx_l : gIx (.lst ds) (.int i) = atI ds i := rfl
@[simp] theorem gIx_t : gIx (.tup ds) (.int i) = atI ds i := rfl
@[simp] theorem atI_0 {α : Type} {x : α} {xs : List α} : atI (x :: xs) 0 = some x := by simp [atI, ixN]
@[simp] theorem atI_1 {α : Type} {x y : α} {xs : List α} : atI (x :: y :: xs) 1 = some y := by
  have h : (1 : Int) < ((x :: y :: xs).length : Int) := by simp; omega
  simp only [atI, ixN, h, if_true]; rfl
@[simp] theorem atI_2 {α : Type} {x y z : α} {xs : List α} : atI (x :: y :: z :: xs) 2 = some z := by
  have h : (2 : Int) < ((x :: y :: z :: xs).length : Int) := by simp; omega
  simp only [atI, ixN, h, if_true]; rfl
end
@[simp] theorem eVar_0 {d : D} {ρ : En} : eVar 0 (.sh d :: ρ) = .ok d (.sh d :: ρ) := rfl
@[simp] theorem eVar_1 {s : Slot} {d : D} {ρ : En} : eVar 1 (s :: .sh d :: ρ) = .ok d (s :: .sh d :: ρ) := rfl
@[simp] theorem eVar_2 {s s1 : Slot} {d : D} {ρ : En} : eVar 2 (s :: s1 :: .sh d :: ρ) = .ok d (s :: s1 :: .sh d :: ρ) := rfl
@[simp] theorem eVar_3 {s s1 s2 : Slot} {d : D} {ρ : En} : eVar 3 (s :: s1 :: s2 :: .sh d :: ρ) = .ok d (s :: s1 :: s2 :: .sh d :: ρ) := rfl
@[simp] theorem eVar_4 {s s1 s2 s3 : Slot} {d : D} {ρ : En} : eVar 4 (s :: s1 :: s2 :: s3 :: .sh d :: ρ) = .ok d (s :: s1 :: s2 :: s3 :: .sh d :: ρ) := rfl
@[simp] theorem eVar_5 {s s1 s2 s3 s4 : Slot} {d : D} {ρ : En} : eVar 5 (s :: s1 :: s2 :: s3 :: s4 :: .sh d :: ρ) = .ok d (s :: s1 :: s2 :: s3 :: s4 :: .sh d :: ρ) := rfl
@[simp] theorem eVar_6 {s s1 s2 s3 s4 s5 : Slot} {d : D} {ρ : En} : eVar 6 (s :: s1 :: s2 :: s3 :: s4 :: s5 :: .sh d :: ρ) = .ok d (s :: s1 :: s2 :: s3 :: s4 :: s5 :: .sh d :: ρ) := rfl
@[simp] theorem eVar_7 {s s1 s2 s3 s4 s5 s6 : Slot} {d : D} {ρ : En} : eVar 7 (s :: s1 :: s2 :: s3 :: s4 :: s5 :: s6 :: .sh d :: ρ) = .ok d (s :: s1 :: s2 :: s3 :: s4 :: s5 :: s6 :: .sh d :: ρ) := rfl
@[simp] theorem eVar_8 {s s1 s2 s3 s4 s5 s6 s7 : Slot} {d : D} {ρ : En} : eVar 8 (s :: s1 :: s2 :: s3 :: s4 :: s5 :: s6 :: s7 :: .sh d :: ρ) = .ok d (s :: s1 :: s2 :: s3 :: s4 :: s5 :: s6 :: s7 :: .sh d :: ρ) := rfl
/-! ### lists by comprehension: the elements are only read -/
theorem wipe_set1 {ρ : En} {i : Nat} {s : Slot} (h : ρ[i]? = some .em) : wipeE (ρ.set i s) [i] = ρ := by
  show (ρ.set i s).set i .em = ρ
  rw [List.set_set]
  apply List.ext_getElem?
  intro k
  rw [List.getElem?_set]
  split
  · rename_i e
    subst e
    split
    · exact h.symm
    · rename_i hl
      rw [List.getElem?_eq_none (by omega)] at h
      cases h
  · rfl
theorem compA_map {i : Nat} {fe : En → R D} {h : D → D} {ρ : En} (e0 : ρ[i]? = some .em) : ∀ (ds done : List D), (∀ d ∈ ds, fe (ρ.set i (.sh d)) = .ok (h d) (ρ.set i (.sh d))) → done.length + ds.length ≤ sl → compA (gNm i) tTrue fe [i] ds done ρ = .ok (done ++ ds.map h) ρ
  | [], done, _, _ => by simp [compA]
  | d :: ds, done, hd, hl => by
    simp only [List.length_cons] at hl
    unfold compA
    simp only [gNm_eq, tTrue_eq, hd d List.mem_cons_self]
    rw [if_pos (by omega), wipe_set1 e0, compA_map e0 ds _ (fun d hd' => hd d (List.mem_cons_of_mem _ hd')) (by simp; omega)]
    simp
theorem compA_filter {i : Nat} {ft : En → R Bool} {fe : En → R D} {h : D → D} {p : D → Bool} {ρ : En} (e0 : ρ[i]? = some .em) : ∀ (ds done : List D), (∀ d ∈ ds, ft (ρ.set i (.sh d)) = .ok (p d) (ρ.set i (.sh d))) → (∀ d ∈ ds, p d = true → fe (ρ.set i (.sh d)) = .ok (h d) (ρ.set i (.sh d))) → done.length + ds.length ≤ sl →
    compA (gNm i) ft fe [i] ds done ρ = .ok (done ++ (ds.filter p).map h) ρ
  | [], done, _, _, _ => by simp [compA]
  | d :: ds, done, ht, hd, hl => by
    simp only [List.length_cons] at hl
    have ih := fun done' => compA_filter e0 ds done' (fun d hd' => ht d (List.mem_cons_of_mem _ hd')) (fun d hd' => hd d (List.mem_cons_of_mem _ hd'))
    unfold compA
    simp only [gNm_eq, ht d List.mem_cons_self]
    cases q : p d with
    | true =>
      simp only [hd d List.mem_cons_self q]
      rw [if_pos (by omega), wipe_set1 e0, ih _ (by simp; omega)]
      simp [q]
    | false =>
      show compA (gNm i) ft fe [i] ds done (wipeE (ρ.set i (.sh d)) [i]) = _
      rw [wipe_set1 e0, ih _ (by omega)]
      simp [q]
end Pu
namespace Pu
open PySem PySem.Spec PyProof.Rows L2
theorem outs_nil {n : Nat} {ρ : En} : outs n [] ρ = List.replicate n .em := by
  unfold outs
  simp [List.map_const']
@[simp] theorem outs_1 {ρ : En} : outs 1 [] ρ = [.em] := outs_nil
@[simp] theorem outs_2 {ρ : En} : outs 2 [] ρ = [.em, .em] := outs_nil
@[simp] theorem outs_3 {ρ : En} : outs 3 [] ρ = [.em, .em, .em] := outs_nil
@[simp] theorem outs_4 {ρ : En} : outs 4 [] ρ = [.em, .em, .em, .em] := outs_nil
@[simp] theorem outs_bag1 {s : Slot} {ρ : En} : outs 1 [0] (s :: ρ) = [s] := rfl
@[simp] theorem outs_bag2 {s : Slot} {ρ : En} : outs 2 [0] (s :: ρ) = [s, .em] := rfl
@[simp] theorem outs_bag3 {s : Slot} {ρ : En} : outs 3 [0] (s :: ρ) = [s, .em, .em] := rfl
section
variable {ρ : En} {g : Den} {a b c d : D} {fa : En → R D} {fg fh : En → R (List AV)}
@[simp] theorem eCall_eq {n : Nat} : eCall n g fg ρ = (fg ρ).bind fun us ρ1 => if us.length = n then callD g us ρ1 else .bad := rfl
@[simp] theorem gcNil_eq : gcNil ρ = .ok [] ρ := rfl
@[simp] theorem gcV_eq : gcV fa fg ρ = (fa ρ).bind fun d ρ1 => (fg ρ1).bind fun ds ρ2 => .ok (.d d :: ds) ρ2 := rfl
theorem call1 (h : g [.sh a] = .ok d [.em]) : callD g [.d a] ρ = .ok d ρ := by
  simp [callD, iosOk, slotsOf, slotOf, frzAll, h, putO, noIo]
theorem call2 (h : g [.sh a, .sh b] = .ok d [.em, .em]) : callD g [.d a, .d b] ρ = .ok d ρ := by
  simp [callD, iosOk, slotsOf, slotOf, frzAll, h, putO, noIo]
theorem call3 (h : g [.sh a, .sh b, .sh c] = .ok d [.em, .em, .em]) : callD g [.d a, .d b, .d c] ρ = .ok d ρ := by
  simp [callD, iosOk, slotsOf, slotOf, frzAll, h, putO, noIo]
end
end Pu
namespace Pu
open PySem PySem.Spec PyProof.Rows L2
section
variable {tg : D → En → Option En} {b : En → RS} {d : D} {ds : List D} {ρ ρ1 ρ2 : En}
@[simp] theorem forD_nil : forD tg b [] ρ = .nx ρ := rfl
theorem forD_nx (h1 : tg d ρ = some ρ1) (h2 : b ρ1 = .nx ρ2) : forD tg b (d :: ds) ρ = forD tg b ds ρ2 := by
  unfold forD; rw [h1]; simp only [h2]; cases ds <;> rfl
theorem forD_ct (h1 : tg d ρ = some ρ1) (h2 : b ρ1 = .ct ρ2) : forD tg b (d :: ds) ρ = forD tg b ds ρ2 := by
  unfold forD; rw [h1]; simp only [h2]; cases ds <;> rfl
theorem forD_bk (h1 : tg d ρ = some ρ1) (h2 : b ρ1 = .bk ρ2) : forD tg b (d :: ds) ρ = .nx ρ2 := by
  unfold forD; rw [h1]; simp only [h2]
theorem forD_rt {e : D} (h1 : tg d ρ = some ρ1) (h2 : b ρ1 = .rt e ρ2) : forD tg b (d :: ds) ρ = .rt e ρ2 := by
  unfold forD; rw [h1]; simp only [h2]
@[simp] theorem forD_cons : forD tg b (d :: ds) ρ = match tg d ρ with
    | none => .bad
    | some ρ1 => match b ρ1 with
      | .nx ρ2 => forD tg b ds ρ2
      | .ct ρ2 => forD tg b ds ρ2
      | .bk ρ2 => .nx ρ2
      | .rt d ρ2 => .rt d ρ2
      | .rf d ρ2 => .rf d ρ2
      | .ex d ρ2 => .ex d ρ2
      | .bad => .bad := by first | (rw [forD]; done) | (rw [forD]; rfl)
/-- by an invariant: no turn ends the loop -/
theorem forD_inv (I : List D → En → Prop) (st : ∀ d ds ρ, I (d :: ds) ρ → ∃ ρ1 ρ2, tg d ρ = some ρ1 ∧ b ρ1 = .nx ρ2 ∧ I ds ρ2) : ∀ {ds ρ}, I ds ρ → ∃ ρ', forD tg b ds ρ = .nx ρ' ∧ I [] ρ'
  | [], ρ, h => ⟨ρ, rfl, h⟩
  | d :: ds, ρ, h => by
    obtain ⟨ρ1, ρ2, h1, h2, h3⟩ := st d ds ρ h
    obtain ⟨ρ', h4, h5⟩ := forD_inv I st h3
    exact ⟨ρ', by rw [forD_nx h1 h2]; exact h4, h5⟩
end
section
variable {ρ ρ1 : En} {i : Nat} {s t : Slot}
theorem wipe1 : wipeE ρ [i] = ρ.set i .em := rfl
theorem unwipe_self (hl : i < ρ.length) : unwipe ρ (ρ.set i s) [i] = ρ := by
  apply List.ext_getElem?
  intro k
  unfold unwipe
  rw [List.getElem?_mapIdx, List.getElem?_set]
  by_cases e : i = k
  · subst e
    simp [hl]
  · rw [if_neg e]
    cases q : ρ[k]? with
    | none => rfl
    | some u => simp [Ne.symm e]
theorem compA_map2 {fe : En → R D} {h : D → D} : ∀ (ds done : List D), (∀ d ∈ ds, fe (ρ.set i (.sh d)) = .ok (h d) (ρ.set i (.sh d))) → done.length + ds.length ≤ sl → compA (gNm i) tTrue fe [i] ds done (ρ.set i .em) = .ok (done ++ ds.map h) (ρ.set i .em)
  | [], done, _, _ => by simp [compA]
  | d :: ds, done, hd, hl => by
    simp only [List.length_cons] at hl
    unfold compA
    simp only [gNm_eq, tTrue_eq, List.set_set, hd d List.mem_cons_self]
    rw [if_pos (by omega), wipe1, List.set_set, compA_map2 ds _ (fun d hd' => hd d (List.mem_cons_of_mem _ hd')) (by simp; omega)]
    simp
theorem compA_filter2 {ft : En → R Bool} {fe : En → R D} {h : D → D} {p : D → Bool} : ∀ (ds done : List D), (∀ d ∈ ds, ft (ρ.set i (.sh d)) = .ok (p d) (ρ.set i (.sh d))) → (∀ d ∈ ds, p d = true → fe (ρ.set i (.sh d)) = .ok (h d) (ρ.set i (.sh d))) → done.length + ds.length ≤ sl →
    compA (gNm i) ft fe [i] ds done (ρ.set i .em) = .ok (done ++ (ds.filter p).map h) (ρ.set i .em)
  | [], done, _, _, _ => by simp [compA]
  | d :: ds, done, ht, hd, hl => by
    simp only [List.length_cons] at hl
    have ih := fun done' => compA_filter2 ds done' (fun d hd' => ht d (List.mem_cons_of_mem _ hd')) (fun d hd' => hd d (List.mem_cons_of_mem _ hd'))
    unfold compA
    simp only [gNm_eq, List.set_set, ht d List.mem_cons_self]
    cases q : p d with
    | true =>
      simp only [hd d List.mem_cons_self q]
      rw [if_pos (by omega), wipe1, List.set_set, ih _ (by simp; omega)]
      simp [q]
    | false =>
      show compA (gNm i) ft fe [i] ds done (wipeE (ρ.set i (.sh d)) [i]) = _
      rw [wipe1, List.set_set, ih _ (by omega)]
      simp [q]
theorem noOwn1 (h : ρ[i]? = some s) (hs : s.own = false) : noOwn ρ [i] = true := by
  unfold noOwn
  simp only [List.all_cons, List.all_nil, Bool.and_true, h]
  cases s <;> first | rfl | cases hs
theorem cComp_map {fi : En → R (List D)} {fe : En → R D} {h : D → D} {ds : List D} (hi : fi ρ = .ok ds ρ1) (e0 : ρ1[i]? = some s) (hs : s.own = false) (hd : ∀ d ∈ ds, fe (ρ1.set i (.sh d)) = .ok (h d) (ρ1.set i (.sh d))) (hl : ds.length ≤ sl) :
    cComp fi (gNm i) tTrue fe [i] ρ = .ok (.l (ds.map h)) ρ1 := by
  have li : i < ρ1.length := (List.getElem?_eq_some_iff.mp e0).1
  unfold cComp
  rw [hi]
  simp only
  rw [if_pos (noOwn1 e0 hs), wipe1, compA_map2 ds [] hd (by simpa using hl)]
  simp only
  rw [if_pos (noOwn1 (s := .em) (by rw [List.getElem?_set_self li]) rfl), unwipe_self li]
  simp
theorem cComp_filter {fi : En → R (List D)} {ft : En → R Bool} {p : D → Bool} {fe : En → R D} {h : D → D} {ds : List D} (hi : fi ρ = .ok ds ρ1) (e0 : ρ1[i]? = some s) (hs : s.own = false) (ht : ∀ d ∈ ds, ft (ρ1.set i (.sh d)) = .ok (p d) (ρ1.set i (.sh d)))
    (hd : ∀ d ∈ ds, p d = true → fe (ρ1.set i (.sh d)) = .ok (h d) (ρ1.set i (.sh d))) (hl : ds.length ≤ sl) : cComp fi (gNm i) ft fe [i] ρ = .ok (.l ((ds.filter p).map h)) ρ1 := by
  have li : i < ρ1.length := (List.getElem?_eq_some_iff.mp e0).1
  unfold cComp
  rw [hi]
  simp only
  rw [if_pos (noOwn1 e0 hs), wipe1, compA_filter2 ds [] ht hd (by simpa using hl)]
  simp only
  rw [if_pos (noOwn1 (s := .em) (by rw [List.getElem?_set_self li]) rfl), unwipe_self li]
  simp
end
section
@[simp] theorem itemsD_s {ns : List Int} : itemsD (.scr ns) = some (ns.map D.int) := rfl
@[simp] theorem gTup_l {ds : List D} : gTup [.lst ds] = some (.tup ds) := rfl
@[simp] theorem gTup_t {ds : List D} : gTup [.tup ds] = some (.tup ds) := rfl
@[simp] theorem gList_l {ds : List D} : gList [.lst ds] = some (.lst ds) := rfl
@[simp] theorem gList_t {ds : List D} : gList [.tup ds] = some (.lst ds) := rfl
@[simp] theorem gListF_l {ds : List D} : gListF [.lst ds] = some (.l ds) := rfl
@[simp] theorem gListF_t {ds : List D} : gListF [.tup ds] = some (.l ds) := rfl
@[simp] theorem gInt_i {i : Int} : gInt [.int i] = some (.int i) := rfl
@[simp] theorem gInt_b {b : Bool} : gInt [.bl b] = some (.int (if b then 1 else 0)) := rfl
theorem gL_bl {g : List Bool → D} {bs : List Bool} : gL allB g [.lst (bs.map D.bl)] = some (g bs) := by
  show (allB (bs.map D.bl)).map g = _; rw [allB_map]; rfl
theorem gL_int {g : List Int → D} {bs : List Int} : gL allI g [.lst (bs.map D.int)] = some (g bs) := by
  show (allI (bs.map D.int)).map g = _; rw [allI_map]; rfl
@[simp] theorem g1I_int {g : Int → D} {i : Int} : g1I g [.int i] = some (g i) := rfl
@[simp] theorem g2I_int {g : Int → Int → D} {i j : Int} : g2I g [.int i, .int j] = some (g i j) := rfl
end
end Pu
namespace K06
open PySem PySem.Spec PyProof.Rows L2 Pu
set_option autoImplicit false
abbrev ROW := PySem.Challenge.rw_crossededges_k06_worth_counts_points
def top (i : Nat) : Stmt := PySem.Challenge.pw_crossededges_k06_worth_counts_points.main.body.getD i (.Pass ⟨0, 0, 0, 0⟩)
theorem units1 {A : Around} {k : Nat} (hr : Room k A) : A.units + 1 < cLine := by have := hr.un; omega
/-- what the text holds -/
structure Txt (K : PySem.W.Frag) (mg : Str → Option Value) : Prop where
  f_inner : FunE K mg "inner" (defArgs (top 5)) (defBody (top 5)) (defScope (top 5))
  f_crossed : FunE K mg "crossed" (defArgs (top 6)) (defBody (top 6)) (defScope (top 6))
  f_common_factor : FunE K mg "common_factor" (defArgs (top 7)) (defBody (top 7)) (defScope (top 7))
  f_determinant : FunE K mg "determinant" (defArgs (top 8)) (defBody (top 8)) (defScope (top 8))
  f_is_free : FunE K mg "is_free" (defArgs (top 9)) (defBody (top 9)) (defScope (top 9))
  f_basis_of : FunE K mg "basis_of" (defArgs (top 10)) (defBody (top 10)) (defScope (top 10))
  f_rank_of : FunE K mg "rank_of" (defArgs (top 11)) (defBody (top 11)) (defScope (top 11))
  f_worth_of : FunE K mg "worth_of" (defArgs (top 12)) (defBody (top 12)) (defScope (top 12))
  f_vectors_in : FunE K mg "vectors_in" (defArgs (top 14)) (defBody (top 14)) (defScope (top 14))
  f_alike_vectors : FunE K mg "alike_vectors" (defArgs (top 15)) (defBody (top 15)) (defScope (top 15))
  f_rank : FunE K mg "rank" (defArgs (top 17)) (defBody (top 17)) (defScope (top 17))
  f_worth : FunE K mg "worth" (defArgs (top 18)) (defBody (top 18)) (defScope (top 18))
  f__law_bag : FunE K mg "_law_bag" (defArgs (top 20)) (defBody (top 20)) (defScope (top 20))
  f__law_take : FunE K mg "_law_take" (defArgs (top 21)) (defBody (top 21)) (defScope (top 21))
  f__law_entry : FunE K mg "_law_entry" (defArgs (top 22)) (defBody (top 22)) (defScope (top 22))
  f__law_vec : FunE K mg "_law_vec" (defArgs (top 23)) (defBody (top 23)) (defScope (top 23))
  f__law_unit : FunE K mg "_law_unit" (defArgs (top 24)) (defBody (top 24)) (defScope (top 24))
  f__law_same : FunE K mg "_law_same" (defArgs (top 25)) (defBody (top 25)) (defScope (top 25))
  f__law_gcd : FunE K mg "_law_gcd" (defArgs (top 26)) (defBody (top 26)) (defScope (top 26))
  f__law_dot : FunE K mg "_law_dot" (defArgs (top 27)) (defBody (top 27)) (defScope (top 27))
  f__law_plus : FunE K mg "_law_plus" (defArgs (top 28)) (defBody (top 28)) (defScope (top 28))
  f__law_fold : FunE K mg "_law_fold" (defArgs (top 29)) (defBody (top 29)) (defScope (top 29))
  f__law_up : FunE K mg "_law_up" (defArgs (top 30)) (defBody (top 30)) (defScope (top 30))
  f__law_square : FunE K mg "_law_square" (defArgs (top 31)) (defBody (top 31)) (defScope (top 31))
  f__law_rank : FunE K mg "_law_rank" (defArgs (top 32)) (defBody (top 32)) (defScope (top 32))
  f__law_det : FunE K mg "_law_det" (defArgs (top 33)) (defBody (top 33)) (defScope (top 33))
  f__law_lead : FunE K mg "_law_lead" (defArgs (top 34)) (defBody (top 34)) (defScope (top 34))
  f__law_worth : FunE K mg "_law_worth" (defArgs (top 35)) (defBody (top 35)) (defScope (top 35))
  f__law_ones : FunE K mg "_law_ones" (defArgs (top 36)) (defBody (top 36)) (defScope (top 36))
  f__law_inside : FunE K mg "_law_inside" (defArgs (top 37)) (defBody (top 37)) (defScope (top 37))
  f__law_count : FunE K mg "_law_count" (defArgs (top 38)) (defBody (top 38)) (defScope (top 38))
  f__law_drawn : FunE K mg "_law_drawn" (defArgs (top 39)) (defBody (top 39)) (defScope (top 39))
  f_law : FunE K mg "law" (defArgs (top 40)) (defBody (top 40)) (defScope (top 40))
  n_abs : mg "abs" = none
  n_all : mg "all" = none
  n_any : mg "any" = none
  n_bool : mg "bool" = none
  n_gcd : mg "gcd" = some (.builtin "math.gcd")
  n_int : mg "int" = none
  n_isinstance : mg "isinstance" = none
  n_len : mg "len" = none
  n_list : mg "list" = none
  n_max : mg "max" = none
  n_min : mg "min" = none
  n_range : mg "range" = none
  n_str : mg "str" = none
  n_sum : mg "sum" = none
  n_tuple : mg "tuple" = none
variable {P : Program} {w : World} {K : PySem.W.Frag} {mg : Str → Option Value} {base : Heap}

theorem sc_inner : FnScope ["one", "two"] ["one", "two"] (defScope (top 5)) := ⟨rfl, rfl, rfl, by decide +kernel, rfl, by decide +kernel, by decide +kernel⟩
def b_inner : En → RS := sSeq (sIf (tOf (eBin gEq (eA gLen (aCons (eVar 0) (aNil))) (eC (.int 2)))) (sRet (eBin gAdd (eBin gMulI (eBin gIx (eVar 0) (eC (.int 0))) (eBin gIx (eVar 1) (eC (.int 0)))) (eBin gMulI (eBin gIx (eVar 0) (eC (.int 1))) (eBin gIx (eVar 1) (eC (.int 1)))))) (.nx))
  (sRet (eBin gAdd (eBin gAdd (eBin gMulI (eBin gIx (eVar 0) (eC (.int 0))) (eBin gIx (eVar 1) (eC (.int 0)))) (eBin gMulI (eBin gIx (eVar 0) (eC (.int 1))) (eBin gIx (eVar 1) (eC (.int 1))))) (eBin gMulI (eBin gIx (eVar 0) (eC (.int 2))) (eBin gIx (eVar 1) (eC (.int 2))))))
def d_inner : Den := denOf 2 2 [] b_inner
theorem body_inner (T : Txt K mg) : Body P w K mg base "inner" ["one", "two"] (defScope (top 5)) 0 [] (defBody (top 5)) b_inner := fun f cdv A outer s H E hr tk => (sss_cons (ss_if (st_cmp (c_eq hr) (se_b b_len T.n_len (sa_cons (se_var 0) sa_nil)) se_int) (sss_one (ss_ret (se_add (se_mul (se_ix (se_var 0) se_int) (se_ix (se_var 1) se_int)) (se_mul (se_ix (se_var 0) se_int) (se_ix (se_var 1) se_int))))) sss_nil)
  (sss_one (ss_ret (se_add (se_add (se_mul (se_ix (se_var 0) se_int) (se_ix (se_var 1) se_int)) (se_mul (se_ix (se_var 0) se_int) (se_ix (se_var 1) se_int))) (se_mul (se_ix (se_var 0) se_int) (se_ix (se_var 1) se_int))))))
theorem ok_inner (T : Txt K mg) : Fnc P w K mg base "inner" 1 2 d_inner := fnc_of T.f_inner sc_inner (by decide) rfl rfl (fun _ _ _ _ _ _ us hl => match us, hl with | [_, _], _ => rfl) (body_inner T)

theorem sc_crossed : FnScope ["one", "two"] ["one", "two"] (defScope (top 6)) := ⟨rfl, rfl, rfl, by decide +kernel, rfl, by decide +kernel, by decide +kernel⟩
def b_crossed : En → RS := sRet (eA mkT (aCons (eBin gSub (eBin gMulI (eBin gIx (eVar 0) (eC (.int 1))) (eBin gIx (eVar 1) (eC (.int 2)))) (eBin gMulI (eBin gIx (eVar 0) (eC (.int 2))) (eBin gIx (eVar 1) (eC (.int 1))))) (aCons (eBin gSub (eBin gMulI (eBin gIx (eVar 0) (eC (.int 2))) (eBin gIx (eVar 1) (eC (.int 0)))) (eBin gMulI (eBin gIx (eVar 0) (eC (.int 0))) (eBin gIx (eVar 1) (eC (.int 2))))) (aCons (eBin gSub (eBin gMulI (eBin gIx (eVar 0) (eC (.int 0))) (eBin gIx (eVar 1) (eC (.int 1)))) (eBin gMulI (eBin gIx (eVar 0) (eC (.int 1))) (eBin gIx (eVar 1) (eC (.int 0))))) (aNil)))))
def d_crossed : Den := denOf 2 2 [] b_crossed
theorem body_crossed (T : Txt K mg) : Body P w K mg base "crossed" ["one", "two"] (defScope (top 6)) 0 [] (defBody (top 6)) b_crossed := fun f cdv A outer s H E hr tk => (sss_one (ss_ret (se_tup (sa_cons (se_sub (se_mul (se_ix (se_var 0) se_int) (se_ix (se_var 1) se_int)) (se_mul (se_ix (se_var 0) se_int) (se_ix (se_var 1) se_int))) (sa_cons (se_sub (se_mul (se_ix (se_var 0) se_int) (se_ix (se_var 1) se_int)) (se_mul (se_ix (se_var 0) se_int) (se_ix (se_var 1) se_int))) (sa_cons (se_sub (se_mul (se_ix (se_var 0) se_int) (se_ix (se_var 1) se_int)) (se_mul (se_ix (se_var 0) se_int) (se_ix (se_var 1) se_int))) sa_nil))))))
theorem ok_crossed (T : Txt K mg) : Fnc P w K mg base "crossed" 1 2 d_crossed := fnc_of T.f_crossed sc_crossed (by decide) rfl rfl (fun _ _ _ _ _ _ us hl => match us, hl with | [_, _], _ => rfl) (body_crossed T)

theorem sc_common_factor : FnScope ["numbers", "found", "number"] ["numbers"] (defScope (top 7)) := ⟨rfl, rfl, rfl, by decide +kernel, rfl, by decide +kernel, by decide +kernel⟩
def b_common_factor : En → RS := sSeq (sSet 1 (eC (.int 0)))
  (sSeq (sFor (iSeq (eVar 0)) (gNm 2) (sSet 1 (eA (g2I fun i k => .int (Nat.gcd i.natAbs k.natAbs : Nat)) (aCons (eVar 1) (aCons (eVar 2) (aNil))))))
  (sRet (eVar 1)))
def d_common_factor : Den := denOf 3 1 [] b_common_factor
theorem body_common_factor (T : Txt K mg) : Body P w K mg base "common_factor" ["numbers", "found", "number"] (defScope (top 7)) 0 [] (defBody (top 7)) b_common_factor := fun f cdv A outer s H E hr tk => (sss_cons (ss_set sc_common_factor.nd (ns 1) se_int)
  (sss_cons (ss_for (ts := [2]) (passes_of rfl) rfl (si_seq (se_var 0)) (sg_name sc_common_factor.nd (ns 2)) (sss_one (ss_set sc_common_factor.nd (ns 1) (se_bI b_gcd T.n_gcd (sa_cons (se_var 1) (sa_cons (se_var 2) sa_nil))))))
  (sss_one (ss_ret (se_var 1)))))
theorem ok_common_factor (T : Txt K mg) : Fnc P w K mg base "common_factor" 1 1 d_common_factor := fnc_of T.f_common_factor sc_common_factor (by decide) rfl rfl (fun _ _ _ _ _ _ us hl => match us, hl with | [_], _ => rfl) (body_common_factor T)

theorem sc_determinant : FnScope ["rows"] ["rows"] (defScope (top 8)) := ⟨rfl, rfl, rfl, by decide +kernel, rfl, by decide +kernel, by decide +kernel⟩
def b_determinant : En → RS := sSeq (sIf (tOf (eBin gEq (eA gLen (aCons (eVar 0) (aNil))) (eC (.int 2)))) (sRet (eBin gSub (eBin gMulI (eBin gIx (eBin gIx (eVar 0) (eC (.int 0))) (eC (.int 0))) (eBin gIx (eBin gIx (eVar 0) (eC (.int 1))) (eC (.int 1)))) (eBin gMulI (eBin gIx (eBin gIx (eVar 0) (eC (.int 0))) (eC (.int 1))) (eBin gIx (eBin gIx (eVar 0) (eC (.int 1))) (eC (.int 0)))))) (.nx))
  (sRet (eCall 2 d_inner (gcV (eBin gIx (eVar 0) (eC (.int 0))) (gcV (eCall 2 d_crossed (gcV (eBin gIx (eVar 0) (eC (.int 1))) (gcV (eBin gIx (eVar 0) (eC (.int 2))) (gcNil)))) (gcNil)))))
def d_determinant : Den := denOf 1 1 [] b_determinant
theorem body_determinant (T : Txt K mg) : Body P w K mg base "determinant" ["rows"] (defScope (top 8)) 1 [] (defBody (top 8)) b_determinant := fun f cdv A outer s H E hr tk => (sss_cons (ss_if (st_cmp (c_eq hr) (se_b b_len T.n_len (sa_cons (se_var 0) sa_nil)) se_int) (sss_one (ss_ret (se_sub (se_mul (se_ix (se_ix (se_var 0) se_int) se_int) (se_ix (se_ix (se_var 0) se_int) se_int)) (se_mul (se_ix (se_ix (se_var 0) se_int) se_int) (se_ix (se_ix (se_var 0) se_int) se_int))))) sss_nil)
  (sss_one (ss_ret (se_call (ok_inner T) (hr.mono (by decide)) tk (sc_v (se_ix (se_var 0) se_int) (sc_v (se_call (ok_crossed T) (hr.mono (by decide)) tk (sc_v (se_ix (se_var 0) se_int) (sc_v (se_ix (se_var 0) se_int) sc_nil))) sc_nil))))))
theorem ok_determinant (T : Txt K mg) : Fnc P w K mg base "determinant" 2 1 d_determinant := fnc_of T.f_determinant sc_determinant (by decide) rfl rfl (fun _ _ _ _ _ _ us hl => match us, hl with | [_], _ => rfl) (body_determinant T)

theorem sc_is_free : FnScope ["found", "vector", "normal", "x"] ["found", "vector"] (defScope (top 9)) := ⟨rfl, rfl, rfl, by decide +kernel, rfl, by decide +kernel, by decide +kernel⟩
def b_is_free : En → RS := sSeq (sIf (tOf (eBin gEq (eA gLen (aCons (eVar 0) (aNil))) (eC (.int 0)))) (sRet (eA (gL allB fun bs => .bl (bs.any _root_.id)) (aCons (eF (cComp (iSeq (eVar 1)) (gNm 3) (tTrue) (eBin gNe (eVar 3) (eC (.int 0))) [3])) (aNil)))) (.nx))
  (sSeq (sIf (tOf (eBin gGe (eA gLen (aCons (eVar 0) (aNil))) (eA gLen (aCons (eVar 1) (aNil))))) (sRet (eC (.bl false))) (.nx))
  (sSeq (sIf (tOf (eBin gEq (eA gLen (aCons (eVar 1) (aNil))) (eC (.int 2)))) (sRet (eBin gNe (eBin gSub (eBin gMulI (eBin gIx (eBin gIx (eVar 0) (eC (.int 0))) (eC (.int 0))) (eBin gIx (eVar 1) (eC (.int 1)))) (eBin gMulI (eBin gIx (eBin gIx (eVar 0) (eC (.int 0))) (eC (.int 1))) (eBin gIx (eVar 1) (eC (.int 0))))) (eC (.int 0)))) (.nx))
  (sSeq (sSet 2 (eCall 2 d_crossed (gcV (eBin gIx (eVar 0) (eC (.int 0))) (gcV (eIf (tOf (eBin gEq (eA gLen (aCons (eVar 0) (aNil))) (eC (.int 2)))) (eBin gIx (eVar 0) (eC (.int 1))) (eVar 1)) (gcNil)))))
  (sSeq (sIf (tOf (eBin gEq (eA gLen (aCons (eVar 0) (aNil))) (eC (.int 2)))) (sRet (eBin gNe (eCall 2 d_inner (gcV (eVar 2) (gcV (eVar 1) (gcNil)))) (eC (.int 0)))) (.nx))
  (sRet (eA (gL allB fun bs => .bl (bs.any _root_.id)) (aCons (eF (cComp (iSeq (eVar 2)) (gNm 3) (tTrue) (eBin gNe (eVar 3) (eC (.int 0))) [3])) (aNil))))))))
def d_is_free : Den := denOf 4 2 [] b_is_free
theorem body_is_free (T : Txt K mg) : Body P w K mg base "is_free" ["found", "vector", "normal", "x"] (defScope (top 9)) 1 [] (defBody (top 9)) b_is_free := fun f cdv A outer s H E hr tk => (sss_cons (ss_if (st_cmp (c_eq hr) (se_b b_len T.n_len (sa_cons (se_var 0) sa_nil)) se_int) (sss_one (ss_ret (se_b (b_any rfl) T.n_any (sa_cons (sf_lc rfl sc_is_free.nd (si_seq (se_var 1)) (own := [("x", 3)]) (blkOk_by (by kernel_rfl)) (.mk' fun _ _ _ _ _ => (sg_name sc_is_free.nd (ns 3))) (.mk' fun _ _ _ _ _ => sts_nil) (.mk' fun _ _ _ _ _ => (se_cmp (c_ne hr) (se_var 3) se_int))).se sa_nil)))) sss_nil)
  (sss_cons (ss_if (st_cmp c_ge (se_b b_len T.n_len (sa_cons (se_var 0) sa_nil)) (se_b b_len T.n_len (sa_cons (se_var 1) sa_nil))) (sss_one (ss_ret se_bl)) sss_nil)
  (sss_cons (ss_if (st_cmp (c_eq hr) (se_b b_len T.n_len (sa_cons (se_var 1) sa_nil)) se_int) (sss_one (ss_ret (se_cmp (c_ne hr) (se_sub (se_mul (se_ix (se_ix (se_var 0) se_int) se_int) (se_ix (se_var 1) se_int)) (se_mul (se_ix (se_ix (se_var 0) se_int) se_int) (se_ix (se_var 1) se_int))) se_int))) sss_nil)
  (sss_cons (ss_set sc_is_free.nd (ns 2) (se_call (ok_crossed T) (hr.mono (by decide)) tk (sc_v (se_ix (se_var 0) se_int) (sc_v (se_ifx (st_cmp (c_eq hr) (se_b b_len T.n_len (sa_cons (se_var 0) sa_nil)) se_int) (se_ix (se_var 0) se_int) (se_var 1)) sc_nil))))
  (sss_cons (ss_if (st_cmp (c_eq hr) (se_b b_len T.n_len (sa_cons (se_var 0) sa_nil)) se_int) (sss_one (ss_ret (se_cmp (c_ne hr) (se_call (ok_inner T) (hr.mono (by decide)) tk (sc_v (se_var 2) (sc_v (se_var 1) sc_nil))) se_int))) sss_nil)
  (sss_one (ss_ret (se_b (b_any rfl) T.n_any (sa_cons (sf_lc rfl sc_is_free.nd (si_seq (se_var 2)) (own := [("x", 3)]) (blkOk_by (by kernel_rfl)) (.mk' fun _ _ _ _ _ => (sg_name sc_is_free.nd (ns 3))) (.mk' fun _ _ _ _ _ => sts_nil) (.mk' fun _ _ _ _ _ => (se_cmp (c_ne hr) (se_var 3) se_int))).se sa_nil)))))))))
theorem ok_is_free (T : Txt K mg) : Fnc P w K mg base "is_free" 2 2 d_is_free := fnc_of T.f_is_free sc_is_free (by decide) rfl rfl (fun _ _ _ _ _ _ us hl => match us, hl with | [_, _], _ => rfl) (body_is_free T)

theorem sc_basis_of : FnScope ["vectors", "found", "vector"] ["vectors"] (defScope (top 10)) := ⟨rfl, rfl, rfl, by decide +kernel, rfl, by decide +kernel, by decide +kernel⟩
def b_basis_of : En → RS := sSeq (sSetF 1 (RC_of cL (aNil)))
  (sSeq (sFor (iSeq (eVar 0)) (gNm 2) (sIf (tTru (eCall 2 d_is_free (gcN (.pk 1) 1 (gcV (eVar 2) (gcNil))))) (sApp 1 (eVar 2)) (.nx)))
  (sRet (eVar 1)))
def d_basis_of : Den := denOf 3 1 [] b_basis_of
theorem body_basis_of (T : Txt K mg) : Body P w K mg base "basis_of" ["vectors", "found", "vector"] (defScope (top 10)) 2 [] (defBody (top 10)) b_basis_of := fun f cdv A outer s H E hr tk => (sss_cons (ss_setF sc_basis_of.nd (ns 1) (sf_lst sa_nil))
  (sss_cons (ss_for (ts := [2]) (passes_of rfl) rfl (si_seq (se_var 0)) (sg_name sc_basis_of.nd (ns 2)) (sss_one (ss_if (st_tru (se_call (ok_is_free T) (hr.mono (by decide)) tk (sc_pk 1 (nm 1) (sc_v (se_var 2) sc_nil)))) (sss_one (ss_app 1 (nm 1) (se_var 2))) sss_nil)))
  (sss_one (ss_ret (se_var 1)))))
theorem ok_basis_of (T : Txt K mg) : Fnc P w K mg base "basis_of" 3 1 d_basis_of := fnc_of T.f_basis_of sc_basis_of (by decide) rfl rfl (fun _ _ _ _ _ _ us hl => match us, hl with | [_], _ => rfl) (body_basis_of T)

theorem sc_rank_of : FnScope ["vectors"] ["vectors"] (defScope (top 11)) := ⟨rfl, rfl, rfl, by decide +kernel, rfl, by decide +kernel, by decide +kernel⟩
def b_rank_of : En → RS := sRet (eA gLen (aCons (eCall 1 d_basis_of (gcV (eVar 0) (gcNil))) (aNil)))
def d_rank_of : Den := denOf 1 1 [] b_rank_of
theorem body_rank_of (T : Txt K mg) : Body P w K mg base "rank_of" ["vectors"] (defScope (top 11)) 3 [] (defBody (top 11)) b_rank_of := fun f cdv A outer s H E hr tk => (sss_one (ss_ret (se_b b_len T.n_len (sa_cons (se_call (ok_basis_of T) (hr.mono (by decide)) tk (sc_v (se_var 0) sc_nil)) sa_nil))))
theorem ok_rank_of (T : Txt K mg) : Fnc P w K mg base "rank_of" 4 1 d_rank_of := fnc_of T.f_rank_of sc_rank_of (by decide) rfl rfl (fun _ _ _ _ _ _ us hl => match us, hl with | [_], _ => rfl) (body_rank_of T)

theorem sc_worth_of : FnScope ["vectors", "many"] ["vectors"] (defScope (top 12)) := ⟨rfl, rfl, rfl, by decide +kernel, rfl, by decide +kernel, by decide +kernel⟩
def b_worth_of : En → RS := sSeq (sSet 1 (eA gLen (aCons (eVar 0) (aNil))))
  (sSeq (sIf (tOf (eBin gEq (eVar 1) (eC (.int 0)))) (sRet (eC (.int 1))) (.nx))
  (sSeq (sIf (tOf (eBin gLt (eCall 1 d_rank_of (gcV (eVar 0) (gcNil))) (eVar 1))) (sRet (eC (.int 0))) (.nx))
  (sSeq (sIf (tOf (eBin gEq (eVar 1) (eC (.int 1)))) (sRet (eCall 1 d_common_factor (gcV (eBin gIx (eVar 0) (eC (.int 0))) (gcNil)))) (.nx))
  (sSeq (sIf (tOf (eBin gEq (eVar 1) (eA gLen (aCons (eBin gIx (eVar 0) (eC (.int 0))) (aNil))))) (sRet (eA (g1I fun i => .int (if i < 0 then -i else i)) (aCons (eCall 1 d_determinant (gcV (eVar 0) (gcNil))) (aNil)))) (.nx))
  (sRet (eCall 1 d_common_factor (gcV (eCall 2 d_crossed (gcV (eBin gIx (eVar 0) (eC (.int 0))) (gcV (eBin gIx (eVar 0) (eC (.int 1))) (gcNil)))) (gcNil))))))))
def d_worth_of : Den := denOf 2 1 [] b_worth_of
theorem body_worth_of (T : Txt K mg) : Body P w K mg base "worth_of" ["vectors", "many"] (defScope (top 12)) 4 [] (defBody (top 12)) b_worth_of := fun f cdv A outer s H E hr tk => (sss_cons (ss_set sc_worth_of.nd (ns 1) (se_b b_len T.n_len (sa_cons (se_var 0) sa_nil)))
  (sss_cons (ss_if (st_cmp (c_eq hr) (se_var 1) se_int) (sss_one (ss_ret se_int)) sss_nil)
  (sss_cons (ss_if (st_cmp c_lt (se_call (ok_rank_of T) (hr.mono (by decide)) tk (sc_v (se_var 0) sc_nil)) (se_var 1)) (sss_one (ss_ret se_int)) sss_nil)
  (sss_cons (ss_if (st_cmp (c_eq hr) (se_var 1) se_int) (sss_one (ss_ret (se_call (ok_common_factor T) (hr.mono (by decide)) tk (sc_v (se_ix (se_var 0) se_int) sc_nil)))) sss_nil)
  (sss_cons (ss_if (st_cmp (c_eq hr) (se_var 1) (se_b b_len T.n_len (sa_cons (se_ix (se_var 0) se_int) sa_nil))) (sss_one (ss_ret (se_b b_abs T.n_abs (sa_cons (se_call (ok_determinant T) (hr.mono (by decide)) tk (sc_v (se_var 0) sc_nil)) sa_nil)))) sss_nil)
  (sss_one (ss_ret (se_call (ok_common_factor T) (hr.mono (by decide)) tk (sc_v (se_call (ok_crossed T) (hr.mono (by decide)) tk (sc_v (se_ix (se_var 0) se_int) (sc_v (se_ix (se_var 0) se_int) sc_nil))) sc_nil)))))))))
theorem ok_worth_of (T : Txt K mg) : Fnc P w K mg base "worth_of" 5 1 d_worth_of := fnc_of T.f_worth_of sc_worth_of (by decide) rfl rfl (fun _ _ _ _ _ _ us hl => match us, hl with | [_], _ => rfl) (body_worth_of T)

theorem sc_vectors_in : FnScope ["dim", "vectors", "found", "vector"] ["dim", "vectors"] (defScope (top 14)) := ⟨rfl, rfl, rfl, by decide +kernel, rfl, by decide +kernel, by decide +kernel⟩
def b_vectors_in : En → RS := sSeq (sSet 2 (eF (cComp (iSeq (eVar 1)) (gNm 3) (tTrue) (eA gTup (aCons (eVar 3) (aNil))) [3])))
  (sSeq (sFor (iSeq (eVar 2)) (gNm 3) (sIf (tOf (eBin gNe (eA gLen (aCons (eVar 3) (aNil))) (eVar 0))) ((fun _ => .bad)) (.nx)))
  (sRet (eVar 2)))
def d_vectors_in : Den := denOf 4 2 [] b_vectors_in
theorem body_vectors_in (T : Txt K mg) : Body P w K mg base "vectors_in" ["dim", "vectors", "found", "vector"] (defScope (top 14)) 0 [] (defBody (top 14)) b_vectors_in := fun f cdv A outer s H E hr tk => (sss_cons (ss_setLc (i := 2) rfl sc_vectors_in.nd rfl rfl (by decide) (sw_true rfl rfl rfl (by decide +kernel))  (si_seq (se_var 1)) (own := [("vector", 3)]) (blkOk_by (by kernel_rfl)) (.mk' fun _ _ _ _ _ => (sg_name sc_vectors_in.nd (ns 3))) (.mk' fun _ _ _ _ _ => sts_nil) (.mk' fun _ _ _ _ _ => (se_bT b_tup T.n_tuple (sa_cons (se_var 3) sa_nil))))
  (sss_cons (ss_for (ts := [3]) (passes_of rfl) rfl (si_seq (se_var 2)) (sg_name sc_vectors_in.nd (ns 3)) (sss_one (ss_if (st_cmp (c_ne hr) (se_b b_len T.n_len (sa_cons (se_var 3) sa_nil)) (se_var 0)) (sss_one ss_never) sss_nil)))
  (sss_one (ss_ret (se_var 2)))))
theorem ok_vectors_in (T : Txt K mg) : Fnc P w K mg base "vectors_in" 1 2 d_vectors_in := fnc_of T.f_vectors_in sc_vectors_in (by decide) rfl rfl (fun _ _ _ _ _ _ us hl => match us, hl with | [_, _], _ => rfl) (body_vectors_in T)

theorem sc_alike_vectors : FnScope ["vectors"] ["vectors"] (defScope (top 15)) := ⟨rfl, rfl, rfl, by decide +kernel, rfl, by decide +kernel, by decide +kernel⟩
def b_alike_vectors : En → RS := sSeq (sIf (tOf (eBin gEq (eA gLen (aCons (eVar 0) (aNil))) (eC (.int 0)))) (sRet (eA mkL (aNil))) (.nx))
  (sRet (eCall 2 d_vectors_in (gcV (eA gLen (aCons (eBin gIx (eVar 0) (eC (.int 0))) (aNil))) (gcV (eVar 0) (gcNil)))))
def d_alike_vectors : Den := denOf 1 1 [] b_alike_vectors
theorem body_alike_vectors (T : Txt K mg) : Body P w K mg base "alike_vectors" ["vectors"] (defScope (top 15)) 1 [] (defBody (top 15)) b_alike_vectors := fun f cdv A outer s H E hr tk => (sss_cons (ss_if (st_cmp (c_eq hr) (se_b b_len T.n_len (sa_cons (se_var 0) sa_nil)) se_int) (sss_one (ss_ret (se_lst sa_nil))) sss_nil)
  (sss_one (ss_ret (se_call (ok_vectors_in T) (hr.mono (by decide)) tk (sc_v (se_b b_len T.n_len (sa_cons (se_ix (se_var 0) se_int) sa_nil)) (sc_v (se_var 0) sc_nil))))))
theorem ok_alike_vectors (T : Txt K mg) : Fnc P w K mg base "alike_vectors" 2 1 d_alike_vectors := fnc_of T.f_alike_vectors sc_alike_vectors (by decide) rfl rfl (fun _ _ _ _ _ _ us hl => match us, hl with | [_], _ => rfl) (body_alike_vectors T)

theorem sc_rank : FnScope ["vectors"] ["vectors"] (defScope (top 17)) := ⟨rfl, rfl, rfl, by decide +kernel, rfl, by decide +kernel, by decide +kernel⟩
def b_rank : En → RS := sRet (eCall 1 d_rank_of (gcV (eCall 1 d_alike_vectors (gcV (eVar 0) (gcNil))) (gcNil)))
def d_rank : Den := denOf 1 1 [] b_rank
theorem body_rank (T : Txt K mg) : Body P w K mg base "rank" ["vectors"] (defScope (top 17)) 4 [] (defBody (top 17)) b_rank := fun f cdv A outer s H E hr tk => (sss_one (ss_ret (se_call (ok_rank_of T) (hr.mono (by decide)) tk (sc_v (se_call (ok_alike_vectors T) (hr.mono (by decide)) tk (sc_v (se_var 0) sc_nil)) sc_nil))))
theorem ok_rank (T : Txt K mg) : Fnc P w K mg base "rank" 5 1 d_rank := fnc_of T.f_rank sc_rank (by decide) rfl rfl (fun _ _ _ _ _ _ us hl => match us, hl with | [_], _ => rfl) (body_rank T)

theorem sc_worth : FnScope ["vectors"] ["vectors"] (defScope (top 18)) := ⟨rfl, rfl, rfl, by decide +kernel, rfl, by decide +kernel, by decide +kernel⟩
def b_worth : En → RS := sRet (eCall 1 d_worth_of (gcV (eCall 1 d_alike_vectors (gcV (eVar 0) (gcNil))) (gcNil)))
def d_worth : Den := denOf 1 1 [] b_worth
theorem body_worth (T : Txt K mg) : Body P w K mg base "worth" ["vectors"] (defScope (top 18)) 5 [] (defBody (top 18)) b_worth := fun f cdv A outer s H E hr tk => (sss_one (ss_ret (se_call (ok_worth_of T) (hr.mono (by decide)) tk (sc_v (se_call (ok_alike_vectors T) (hr.mono (by decide)) tk (sc_v (se_var 0) sc_nil)) sc_nil))))
theorem ok_worth (T : Txt K mg) : Fnc P w K mg base "worth" 6 1 d_worth := fnc_of T.f_worth sc_worth (by decide) rfl rfl (fun _ _ _ _ _ _ us hl => match us, hl with | [_], _ => rfl) (body_worth T)
theorem okK0_worth (T : Txt K mg) : FncK P w K mg base "worth" 6 1 0 ["vectors"] d_worth := fncK_of T.f_worth sc_worth (by decide) rfl rfl (fun _ _ _ _ _ _ us ws h1 h2 => match us, ws, h1, h2 with | [], [_], _, _ => rfl) (body_worth T)

theorem sc__law_bag : FnScope ["script", "cells", "fold", "cell"] ["script"] (defScope (top 20)) := ⟨rfl, rfl, rfl, by decide +kernel, rfl, by decide +kernel, by decide +kernel⟩
def b__law_bag : En → RS := sSeq (sSet 1 (eF (cComp (iSeq (eSl (eVar 0) (oNo) (oSo (eC (.int 63))))) (gNm 3) (tTrue) (eA gInt (aCons (eVar 3) (aNil))) [3])))
  (sSeq (sSet 2 (eC (.int 1)))
  (sSeq (sFor (iSeq (eVar 1)) (gNm 3) (sSet 2 (eBin gMod (eA gInt (aCons (eBin gAdd (eBin gMulI (eVar 2) (eC (.int 69621))) (eVar 3)) (aNil))) (eC (.int 2147483647)))))
  (sRetF (RC_of cD (pCons (eC (.str "cells")) (eVar 1) (pCons (eC (.str "fold")) (eVar 2) (pCons (eC (.str "at")) (eC (.int 0)) (pCons (eC (.str "turn")) (eC (.int 0)) (pCons (eC (.str "left")) (eC (.int 0)) (pNil))))))))))
def d__law_bag : Den := denOf 4 1 [] b__law_bag
theorem body__law_bag (T : Txt K mg) : Body P w K mg base "_law_bag" ["script", "cells", "fold", "cell"] (defScope (top 20)) 0 [] (defBody (top 20)) b__law_bag := fun f cdv A outer s H E hr tk => (sss_cons (ss_setLc (i := 1) rfl sc__law_bag.nd rfl rfl (by decide) (sw_true rfl rfl rfl (by decide +kernel))  (si_seq (se_sl (se_var 0) so_none (so_some se_int))) (own := [("cell", 3)]) (blkOk_by (by kernel_rfl)) (.mk' fun _ _ _ _ _ => (sg_name sc__law_bag.nd (ns 3))) (.mk' fun _ _ _ _ _ => sts_nil) (.mk' fun _ _ _ _ _ => (se_bT b_int T.n_int (sa_cons (se_var 3) sa_nil))))
  (sss_cons (ss_set sc__law_bag.nd (ns 2) se_int)
  (sss_cons (ss_for (ts := [3]) (passes_of rfl) rfl (si_seq (se_var 1)) (sg_name sc__law_bag.nd (ns 3)) (sss_one (ss_set sc__law_bag.nd (ns 2) (se_mod (se_bT b_int T.n_int (sa_cons (se_add (se_mul (se_var 2) se_int) (se_var 3)) sa_nil)) se_int))))
  (sss_one (ss_retF (sf_dict (sp_cons se_str (se_var 1) (sp_cons se_str (se_var 2) (sp_cons se_str se_int (sp_cons se_str se_int (sp_cons se_str se_int sp_nil))))) rfl rfl (by simp) (by decide)))))))
theorem ok__law_bag (T : Txt K mg) : Fnc P w K mg base "_law_bag" 1 1 d__law_bag := fnc_of T.f__law_bag sc__law_bag (by decide) rfl rfl (fun _ _ _ _ _ _ us hl => match us, hl with | [_], _ => rfl) (body__law_bag T)

theorem sc__law_take : FnScope ["bag", "size", "pick", "cell", "one"] ["bag", "size"] (defScope (top 21)) := ⟨rfl, rfl, rfl, by decide +kernel, rfl, by decide +kernel, by decide +kernel⟩
def b__law_take : En → RS := sSeq (sDp 0 (eC (.str "turn")) (eBin gAdd (eDg 0 (eC (.str "turn"))) (eC (.int 1))))
  (sSeq (sIf (tOf (eBin gGt (eDg 0 (eC (.str "left"))) (eC (.int 0)))) (sSeq (sSet 2 (eBin gMod (eA gInt (aCons (eDg 0 (eC (.str "left"))) (aNil))) (eVar 1)))
  (sSeq (sDp 0 (eC (.str "left")) (eBin gFdiv (eDg 0 (eC (.str "left"))) (eVar 1)))
  (sRet (eVar 2)))) (.nx))
  (sSeq (sSet 3 (eDg 0 (eC (.str "fold"))))
  (sSeq (sIf (tOf (eBin gLt (eDg 0 (eC (.str "at"))) (eA gLen (aCons (eDg 0 (eC (.str "cells"))) (aNil))))) (sSeq (sSet 3 (eBin gIx (eDg 0 (eC (.str "cells"))) (eDg 0 (eC (.str "at")))))
  (sSeq (sDp 0 (eC (.str "at")) (eBin gAdd (eDg 0 (eC (.str "at"))) (eC (.int 1))))
  (sIf (tOf (eBin gGe (eVar 3) (eC (.int 1000000000000000000)))) (sSeq (sDp 0 (eC (.str "left")) (eBin gFdiv (eVar 3) (eVar 1)))
  (sRet (eBin gMod (eA gInt (aCons (eVar 3) (aNil))) (eVar 1)))) (.nx)))) (.nx))
  (sSeq (sSet 4 (eBin gMod (eA gInt (aCons (eBin gAdd (eBin gAdd (eBin gMulI (eVar 3) (eC (.int 48271))) (eBin gMulI (eDg 0 (eC (.str "turn"))) (eC (.int 7368787)))) (eC (.int 11))) (aNil))) (eC (.int 2147483647))))
  (sSeq (sSet 4 (eBin gMod (eA gInt (aCons (eBin gAdd (eBin gAdd (eBin gPow (eVar 4) (eC (.int 5))) (eBin gMulI (eDg 0 (eC (.str "turn"))) (eC (.int 104729)))) (eDg 0 (eC (.str "fold")))) (aNil))) (eC (.int 2147483629))))
  (sRet (eBin gMod (eBin gFdiv (eBin gMod (eA gInt (aCons (eBin gPow (eVar 4) (eC (.int 3))) (aNil))) (eC (.int 2147483549))) (eC (.int 4))) (eVar 1))))))))
def d__law_take : Den := denOf 5 2 [0] b__law_take
theorem body__law_take (T : Txt K mg) : Body P w K mg base "_law_take" ["bag", "size", "pick", "cell", "one"] (defScope (top 21)) 0 [0] (defBody (top 21)) b__law_take := fun f cdv A outer s H E hr tk => (sss_cons (ss_dp 0 (units1 hr) (nm 0) se_str (se_add (se_dg 0 (units1 hr) (nm 0) se_str) se_int))
  (sss_cons (ss_if (st_cmp c_gt (se_dg 0 (units1 hr) (nm 0) se_str) se_int) (sss_cons (ss_set sc__law_take.nd (ns 2) (se_mod (se_bT b_int T.n_int (sa_cons (se_dg 0 (units1 hr) (nm 0) se_str) sa_nil)) (se_var 1)))
  (sss_cons (ss_dp 0 (units1 hr) (nm 0) se_str (se_fdiv (se_dg 0 (units1 hr) (nm 0) se_str) (se_var 1)))
  (sss_one (ss_ret (se_var 2))))) sss_nil)
  (sss_cons (ss_set sc__law_take.nd (ns 3) (se_dg 0 (units1 hr) (nm 0) se_str))
  (sss_cons (ss_if (st_cmp c_lt (se_dg 0 (units1 hr) (nm 0) se_str) (se_b b_len T.n_len (sa_cons (se_dg 0 (units1 hr) (nm 0) se_str) sa_nil))) (sss_cons (ss_set sc__law_take.nd (ns 3) (se_ix (se_dg 0 (units1 hr) (nm 0) se_str) (se_dg 0 (units1 hr) (nm 0) se_str)))
  (sss_cons (ss_dp 0 (units1 hr) (nm 0) se_str (se_add (se_dg 0 (units1 hr) (nm 0) se_str) se_int))
  (sss_one (ss_if (st_cmp c_ge (se_var 3) se_int) (sss_cons (ss_dp 0 (units1 hr) (nm 0) se_str (se_fdiv (se_var 3) (se_var 1)))
  (sss_one (ss_ret (se_mod (se_bT b_int T.n_int (sa_cons (se_var 3) sa_nil)) (se_var 1))))) sss_nil)))) sss_nil)
  (sss_cons (ss_set sc__law_take.nd (ns 4) (se_mod (se_bT b_int T.n_int (sa_cons (se_add (se_add (se_mul (se_var 3) se_int) (se_mul (se_dg 0 (units1 hr) (nm 0) se_str) se_int)) se_int) sa_nil)) se_int))
  (sss_cons (ss_set sc__law_take.nd (ns 4) (se_mod (se_bT b_int T.n_int (sa_cons (se_add (se_add (se_pow (se_var 4) se_int) (se_mul (se_dg 0 (units1 hr) (nm 0) se_str) se_int)) (se_dg 0 (units1 hr) (nm 0) se_str)) sa_nil)) se_int))
  (sss_one (ss_ret (se_mod (se_fdiv (se_mod (se_bT b_int T.n_int (sa_cons (se_pow (se_var 4) se_int) sa_nil)) se_int) se_int) (se_var 1))))))))))
theorem ok__law_take (T : Txt K mg) : Fnc P w K mg base "_law_take" 1 2 d__law_take := fnc_of T.f__law_take sc__law_take (by decide) rfl rfl (fun _ _ _ _ _ _ us hl => match us, hl with | [_, _], _ => rfl) (body__law_take T)

theorem sc__law_entry : FnScope ["bag", "size", "pick"] ["bag", "size"] (defScope (top 22)) := ⟨rfl, rfl, rfl, by decide +kernel, rfl, by decide +kernel, by decide +kernel⟩
def b__law_entry : En → RS := sSeq (sSet 2 (eCall 2 d__law_take (gcN (.io 0) 0 (gcV (eBin gAdd (eBin gMulI (eC (.int 2)) (eVar 1)) (eC (.int 1))) (gcNil)))))
  (sSeq (sIf (tOf (eBin gEq (eBin gMod (eA gInt (aCons (eVar 2) (aNil))) (eC (.int 2))) (eC (.int 1)))) (sRet (eBin gFdiv (eBin gAdd (eVar 2) (eC (.int 1))) (eC (.int 2)))) (.nx))
  (sRet (eBin gSub (eC (.int 0)) (eBin gFdiv (eVar 2) (eC (.int 2))))))
def d__law_entry : Den := denOf 3 2 [0] b__law_entry
theorem body__law_entry (T : Txt K mg) : Body P w K mg base "_law_entry" ["bag", "size", "pick"] (defScope (top 22)) 1 [0] (defBody (top 22)) b__law_entry := fun f cdv A outer s H E hr tk => (sss_cons (ss_set sc__law_entry.nd (ns 2) (se_call (ok__law_take T) (hr.mono (by decide)) tk (sc_io 0 (nm 0) (sc_v (se_add (se_mul se_int (se_var 1)) se_int) sc_nil))))
  (sss_cons (ss_if (st_cmp (c_eq hr) (se_mod (se_bT b_int T.n_int (sa_cons (se_var 2) sa_nil)) se_int) se_int) (sss_one (ss_ret (se_fdiv (se_add (se_var 2) se_int) se_int))) sss_nil)
  (sss_one (ss_ret (se_sub se_int (se_fdiv (se_var 2) se_int))))))
theorem ok__law_entry (T : Txt K mg) : Fnc P w K mg base "_law_entry" 2 2 d__law_entry := fnc_of T.f__law_entry sc__law_entry (by decide) rfl rfl (fun _ _ _ _ _ _ us hl => match us, hl with | [_, _], _ => rfl) (body__law_entry T)

theorem sc__law_vec : FnScope ["bag", "dim", "size", "k"] ["bag", "dim", "size"] (defScope (top 23)) := ⟨rfl, rfl, rfl, by decide +kernel, rfl, by decide +kernel, by decide +kernel⟩
def b__law_vec : En → RS := sRet (eA gTup (aCons (eF (cComp (iRg rng1 (aCons (eVar 1) (aNil))) (gNm 3) (tTrue) (eCall 2 d__law_entry (gcN (.io 0) 0 (gcV (eVar 2) (gcNil)))) [3])) (aNil)))
def d__law_vec : Den := denOf 4 3 [0] b__law_vec
theorem body__law_vec (T : Txt K mg) : Body P w K mg base "_law_vec" ["bag", "dim", "size", "k"] (defScope (top 23)) 2 [0] (defBody (top 23)) b__law_vec := fun f cdv A outer s H E hr tk => (sss_one (ss_ret (se_bT b_tup T.n_tuple (sa_cons (sf_lc rfl sc__law_vec.nd (si_rng1 T.n_range (sa_cons (se_var 1) sa_nil)) (own := [("k", 3)]) (blkOk_by (by kernel_rfl)) (.mk' fun _ _ _ _ _ => (sg_name sc__law_vec.nd (ns 3))) (.mk' fun _ _ _ _ _ => sts_nil) (.mk' fun _ _ _ _ _ => (se_call (ok__law_entry T) (hr.mono (by decide)) takes0 (sc_io 0 (nm 0) (sc_v (se_var 2) sc_nil))))).se sa_nil))))
theorem ok__law_vec (T : Txt K mg) : Fnc P w K mg base "_law_vec" 3 3 d__law_vec := fnc_of T.f__law_vec sc__law_vec (by decide) rfl rfl (fun _ _ _ _ _ _ us hl => match us, hl with | [_, _, _], _ => rfl) (body__law_vec T)

theorem sc__law_unit : FnScope ["dim", "k", "j"] ["dim", "k"] (defScope (top 24)) := ⟨rfl, rfl, rfl, by decide +kernel, rfl, by decide +kernel, by decide +kernel⟩
def b__law_unit : En → RS := sRet (eA gTup (aCons (eF (cComp (iRg rng1 (aCons (eVar 0) (aNil))) (gNm 2) (tTrue) (eA gInt (aCons (eBin gEq (eVar 2) (eVar 1)) (aNil))) [2])) (aNil)))
def d__law_unit : Den := denOf 3 2 [] b__law_unit
theorem body__law_unit (T : Txt K mg) : Body P w K mg base "_law_unit" ["dim", "k", "j"] (defScope (top 24)) 0 [] (defBody (top 24)) b__law_unit := fun f cdv A outer s H E hr tk => (sss_one (ss_ret (se_bT b_tup T.n_tuple (sa_cons (sf_lc rfl sc__law_unit.nd (si_rng1 T.n_range (sa_cons (se_var 0) sa_nil)) (own := [("j", 2)]) (blkOk_by (by kernel_rfl)) (.mk' fun _ _ _ _ _ => (sg_name sc__law_unit.nd (ns 2))) (.mk' fun _ _ _ _ _ => sts_nil) (.mk' fun _ _ _ _ _ => (se_bT b_int T.n_int (sa_cons (se_cmp (c_eq hr) (se_var 2) (se_var 1)) sa_nil)))).se sa_nil))))
theorem ok__law_unit (T : Txt K mg) : Fnc P w K mg base "_law_unit" 1 2 d__law_unit := fnc_of T.f__law_unit sc__law_unit (by decide) rfl rfl (fun _ _ _ _ _ _ us hl => match us, hl with | [_, _], _ => rfl) (body__law_unit T)

theorem sc__law_same : FnScope ["told", "due", "k"] ["told", "due"] (defScope (top 25)) := ⟨rfl, rfl, rfl, by decide +kernel, rfl, by decide +kernel, by decide +kernel⟩
def b__law_same (g : Den) : En → RS := sSeq (sIf (tTru (eIsi "bool" (eVar 1))) (sRet (eAn (eIsi "bool" (eVar 0)) (eBin gEq (eVar 0) (eVar 1)))) (.nx))
  (sSeq (sIf (tTru (eIsi "int" (eVar 1))) (sRet (eAn (eIsi "int" (eVar 0)) (eAn (eUn gNot (eIsi "bool" (eVar 0))) (eBin gEq (eVar 0) (eVar 1))))) (.nx))
  (sSeq (sIf (tTru (eIsi "str" (eVar 1))) (sRet (eAn (eIsi "str" (eVar 0)) (eBin gEq (eVar 0) (eVar 1)))) (.nx))
  (sSeq (sIf (tOf (eBin gIsN (eVar 1) (eC .non))) (sRet (eBin gIsN (eVar 0) (eC .non))) (.nx))
  (sSeq (sIf (tTru (eIsi "tuple" (eVar 1))) (sIf (tNo (tTru (eIsi "tuple" (eVar 0)))) (sRet (eC (.bl false))) (.nx)) (sIf (tNo (tTru (eIsi "list" (eVar 0)))) (sRet (eC (.bl false))) (.nx)))
  (sSeq (sIf (tOf (eBin gNe (eA gLen (aCons (eVar 0) (aNil))) (eA gLen (aCons (eVar 1) (aNil))))) (sRet (eC (.bl false))) (.nx))
  (sRet (eA (gL allB fun bs => .bl (bs.all _root_.id)) (aCons (eF (cComp (iRg rng1 (aCons (eA gLen (aCons (eVar 1) (aNil))) (aNil))) (gNm 2) (tTrue) (eCall 2 g (gcV (eBin gIx (eVar 0) (eVar 2)) (gcV (eBin gIx (eVar 1) (eVar 2)) (gcNil)))) [2])) (aNil)))))))))
def d__law_same : Nat → Den
  | 0 => fun _ => .bad
  | r + 1 => denOf 3 2 [] (b__law_same (d__law_same r))
theorem step__law_same (T : Txt K mg) {k : Nat} {g : Den} (F : Fnc P w K mg base "_law_same" (k + 1) 2 g) : Fnc P w K mg base "_law_same" (k + 1 + 1) 2 (denOf 3 2 [] (b__law_same g)) :=
  fnc_of T.f__law_same sc__law_same (by decide) rfl rfl (fun _ _ _ _ _ _ us hl => match us, hl with | [_, _], _ => rfl) fun f cdv A outer s H E hr tk => (sss_cons (ss_if (st_tru (se_isi T.n_isinstance T.n_bool (se_var 1))) (sss_one (ss_ret (se_and (se_isi T.n_isinstance T.n_bool (se_var 0)) (se_one (se_cmp (c_eq hr) (se_var 0) (se_var 1)))))) sss_nil)
  (sss_cons (ss_if (st_tru (se_isi T.n_isinstance T.n_int (se_var 1))) (sss_one (ss_ret (se_and (se_isi T.n_isinstance T.n_int (se_var 0)) (se_and (se_not (se_isi T.n_isinstance T.n_bool (se_var 0))) (se_one (se_cmp (c_eq hr) (se_var 0) (se_var 1))))))) sss_nil)
  (sss_cons (ss_if (st_tru (se_isi T.n_isinstance T.n_str (se_var 1))) (sss_one (ss_ret (se_and (se_isi T.n_isinstance T.n_str (se_var 0)) (se_one (se_cmp (c_eq hr) (se_var 0) (se_var 1)))))) sss_nil)
  (sss_cons (ss_if (st_cmp c_isN (se_var 1) se_non) (sss_one (ss_ret (se_cmp c_isN (se_var 0) se_non))) sss_nil)
  (sss_cons (ss_if (st_tru (se_isi T.n_isinstance T.n_tuple (se_var 1))) (sss_one (ss_if (st_not (st_tru (se_isi T.n_isinstance T.n_tuple (se_var 0)))) (sss_one (ss_ret se_bl)) sss_nil)) (sss_one (ss_if (st_not (st_tru (se_isi T.n_isinstance T.n_list (se_var 0)))) (sss_one (ss_ret se_bl)) sss_nil)))
  (sss_cons (ss_if (st_cmp (c_ne hr) (se_b b_len T.n_len (sa_cons (se_var 0) sa_nil)) (se_b b_len T.n_len (sa_cons (se_var 1) sa_nil))) (sss_one (ss_ret se_bl)) sss_nil)
  (sss_one (ss_ret (se_b (b_all rfl) T.n_all (sa_cons (sf_lc rfl sc__law_same.nd (si_rng1 T.n_range (sa_cons (se_b b_len T.n_len (sa_cons (se_var 1) sa_nil)) sa_nil)) (own := [("k", 2)]) (blkOk_by (by kernel_rfl)) (.mk' fun _ _ _ _ _ => (sg_name sc__law_same.nd (ns 2))) (.mk' fun _ _ _ _ _ => sts_nil) (.mk' fun _ _ _ _ _ => (se_call F hr takes0 (sc_v (se_ix (se_var 0) (se_var 2)) (sc_v (se_ix (se_var 1) (se_var 2)) sc_nil))))).se sa_nil))))))))))
theorem ok__law_same (T : Txt K mg) : ∀ r : Nat, Fnc P w K mg base "_law_same" (r + 1) 2 (d__law_same r)
  | 0 => (fnc_bad T.f__law_same sc__law_same rfl (fun _ _ _ _ _ _ us hl => match us, hl with | [_, _], _ => rfl)).mono (by decide)
  | r + 1 => by have h := step__law_same (k := r) T (ok__law_same T r); rw [Nat.add_right_comm]; exact h

theorem sc__law_gcd : FnScope ["a", "b", "turn"] ["a", "b"] (defScope (top 26)) := ⟨rfl, rfl, rfl, by decide +kernel, rfl, by decide +kernel, by decide +kernel⟩
def b__law_gcd : En → RS := sSeq (sSet 0 (eA (g1I fun i => .int (if i < 0 then -i else i)) (aCons (eVar 0) (aNil))))
  (sSeq (sSet 1 (eA (g1I fun i => .int (if i < 0 then -i else i)) (aCons (eVar 1) (aNil))))
  (sSeq (sFor (iRg rng1 (aCons (eC (.int 700)) (aNil))) (gNm 2) (sSeq (sIf (tOf (eBin gEq (eVar 1) (eC (.int 0)))) (.bk) (.nx))
  (sPar 0 1 (aCons (eVar 1) (aCons (eBin gMod (eA gInt (aCons (eVar 0) (aNil))) (eVar 1)) (aNil))))))
  (sRet (eVar 0))))
def d__law_gcd : Den := denOf 3 2 [] b__law_gcd
theorem body__law_gcd (T : Txt K mg) : Body P w K mg base "_law_gcd" ["a", "b", "turn"] (defScope (top 26)) 0 [] (defBody (top 26)) b__law_gcd := fun f cdv A outer s H E hr tk => (sss_cons (ss_set sc__law_gcd.nd (ns 0) (se_b b_abs T.n_abs (sa_cons (se_var 0) sa_nil)))
  (sss_cons (ss_set sc__law_gcd.nd (ns 1) (se_b b_abs T.n_abs (sa_cons (se_var 1) sa_nil)))
  (sss_cons (ss_for (ts := [2]) (passes_of rfl) rfl (si_rng1 T.n_range (sa_cons se_int sa_nil)) (sg_name sc__law_gcd.nd (ns 2)) (sss_cons (ss_if (st_cmp (c_eq hr) (se_var 1) se_int) (sss_one ss_break) sss_nil)
  (sss_one (ss_par (i := 0) (k := 1) rfl sc__law_gcd.nd rfl rfl (by decide) rfl rfl (sa_cons (se_var 1) (sa_cons (se_mod (se_bT b_int T.n_int (sa_cons (se_var 0) sa_nil)) (se_var 1)) sa_nil)) (by decide) (by decide) (by with_unfolding_all rfl)))))
  (sss_one (ss_ret (se_var 0))))))
theorem ok__law_gcd (T : Txt K mg) : Fnc P w K mg base "_law_gcd" 1 2 d__law_gcd := fnc_of T.f__law_gcd sc__law_gcd (by decide) rfl rfl (fun _ _ _ _ _ _ us hl => match us, hl with | [_, _], _ => rfl) (body__law_gcd T)

theorem sc__law_dot : FnScope ["a", "b", "k"] ["a", "b"] (defScope (top 27)) := ⟨rfl, rfl, rfl, by decide +kernel, rfl, by decide +kernel, by decide +kernel⟩
def b__law_dot : En → RS := sRet (eA (gL allI fun ns => .int ns.sum) (aCons (eF (cComp (iRg rng1 (aCons (eA gLen (aCons (eVar 0) (aNil))) (aNil))) (gNm 2) (tTrue) (eBin gMulI (eBin gIx (eVar 0) (eVar 2)) (eBin gIx (eVar 1) (eVar 2))) [2])) (aNil)))
def d__law_dot : Den := denOf 3 2 [] b__law_dot
theorem body__law_dot (T : Txt K mg) : Body P w K mg base "_law_dot" ["a", "b", "k"] (defScope (top 27)) 0 [] (defBody (top 27)) b__law_dot := fun f cdv A outer s H E hr tk => (sss_one (ss_ret (se_b (b_sum rfl) T.n_sum (sa_cons (sf_lc rfl sc__law_dot.nd (si_rng1 T.n_range (sa_cons (se_b b_len T.n_len (sa_cons (se_var 0) sa_nil)) sa_nil)) (own := [("k", 2)]) (blkOk_by (by kernel_rfl)) (.mk' fun _ _ _ _ _ => (sg_name sc__law_dot.nd (ns 2))) (.mk' fun _ _ _ _ _ => sts_nil) (.mk' fun _ _ _ _ _ => (se_mul (se_ix (se_var 0) (se_var 2)) (se_ix (se_var 1) (se_var 2))))).se sa_nil))))
theorem ok__law_dot (T : Txt K mg) : Fnc P w K mg base "_law_dot" 1 2 d__law_dot := fnc_of T.f__law_dot sc__law_dot (by decide) rfl rfl (fun _ _ _ _ _ _ us hl => match us, hl with | [_, _], _ => rfl) (body__law_dot T)

theorem sc__law_plus : FnScope ["a", "b", "k"] ["a", "b"] (defScope (top 28)) := ⟨rfl, rfl, rfl, by decide +kernel, rfl, by decide +kernel, by decide +kernel⟩
def b__law_plus : En → RS := sRet (eA gTup (aCons (eF (cComp (iRg rng1 (aCons (eA gLen (aCons (eVar 0) (aNil))) (aNil))) (gNm 2) (tTrue) (eBin gAdd (eBin gIx (eVar 0) (eVar 2)) (eBin gIx (eVar 1) (eVar 2))) [2])) (aNil)))
def d__law_plus : Den := denOf 3 2 [] b__law_plus
theorem body__law_plus (T : Txt K mg) : Body P w K mg base "_law_plus" ["a", "b", "k"] (defScope (top 28)) 0 [] (defBody (top 28)) b__law_plus := fun f cdv A outer s H E hr tk => (sss_one (ss_ret (se_bT b_tup T.n_tuple (sa_cons (sf_lc rfl sc__law_plus.nd (si_rng1 T.n_range (sa_cons (se_b b_len T.n_len (sa_cons (se_var 0) sa_nil)) sa_nil)) (own := [("k", 2)]) (blkOk_by (by kernel_rfl)) (.mk' fun _ _ _ _ _ => (sg_name sc__law_plus.nd (ns 2))) (.mk' fun _ _ _ _ _ => sts_nil) (.mk' fun _ _ _ _ _ => (se_add (se_ix (se_var 0) (se_var 2)) (se_ix (se_var 1) (se_var 2))))).se sa_nil))))
theorem ok__law_plus (T : Txt K mg) : Fnc P w K mg base "_law_plus" 1 2 d__law_plus := fnc_of T.f__law_plus sc__law_plus (by decide) rfl rfl (fun _ _ _ _ _ _ us hl => match us, hl with | [_, _], _ => rfl) (body__law_plus T)

theorem sc__law_fold : FnScope ["n", "a", "x"] ["n", "a"] (defScope (top 29)) := ⟨rfl, rfl, rfl, by decide +kernel, rfl, by decide +kernel, by decide +kernel⟩
def b__law_fold : En → RS := sRet (eA gTup (aCons (eF (cComp (iSeq (eVar 1)) (gNm 2) (tTrue) (eBin gMulI (eVar 0) (eVar 2)) [2])) (aNil)))
def d__law_fold : Den := denOf 3 2 [] b__law_fold
theorem body__law_fold (T : Txt K mg) : Body P w K mg base "_law_fold" ["n", "a", "x"] (defScope (top 29)) 0 [] (defBody (top 29)) b__law_fold := fun f cdv A outer s H E hr tk => (sss_one (ss_ret (se_bT b_tup T.n_tuple (sa_cons (sf_lc rfl sc__law_fold.nd (si_seq (se_var 1)) (own := [("x", 2)]) (blkOk_by (by kernel_rfl)) (.mk' fun _ _ _ _ _ => (sg_name sc__law_fold.nd (ns 2))) (.mk' fun _ _ _ _ _ => sts_nil) (.mk' fun _ _ _ _ _ => (se_mul (se_var 0) (se_var 2)))).se sa_nil))))
theorem ok__law_fold (T : Txt K mg) : Fnc P w K mg base "_law_fold" 1 2 d__law_fold := fnc_of T.f__law_fold sc__law_fold (by decide) rfl rfl (fun _ _ _ _ _ _ us hl => match us, hl with | [_, _], _ => rfl) (body__law_fold T)

theorem sc__law_up : FnScope ["a"] ["a"] (defScope (top 30)) := ⟨rfl, rfl, rfl, by decide +kernel, rfl, by decide +kernel, by decide +kernel⟩
def b__law_up : En → RS := sSeq (sIf (tOf (eBin gEq (eA gLen (aCons (eVar 0) (aNil))) (eC (.int 2)))) (sRet (eA mkT (aCons (eBin gIx (eVar 0) (eC (.int 0))) (aCons (eBin gIx (eVar 0) (eC (.int 1))) (aCons (eC (.int 0)) (aNil)))))) (.nx))
  (sRet (eA gTup (aCons (eVar 0) (aNil))))
def d__law_up : Den := denOf 1 1 [] b__law_up
theorem body__law_up (T : Txt K mg) : Body P w K mg base "_law_up" ["a"] (defScope (top 30)) 0 [] (defBody (top 30)) b__law_up := fun f cdv A outer s H E hr tk => (sss_cons (ss_if (st_cmp (c_eq hr) (se_b b_len T.n_len (sa_cons (se_var 0) sa_nil)) se_int) (sss_one (ss_ret (se_tup (sa_cons (se_ix (se_var 0) se_int) (sa_cons (se_ix (se_var 0) se_int) (sa_cons se_int sa_nil)))))) sss_nil)
  (sss_one (ss_ret (se_bT b_tup T.n_tuple (sa_cons (se_var 0) sa_nil)))))
theorem ok__law_up (T : Txt K mg) : Fnc P w K mg base "_law_up" 1 1 d__law_up := fnc_of T.f__law_up sc__law_up (by decide) rfl rfl (fun _ _ _ _ _ _ us hl => match us, hl with | [_], _ => rfl) (body__law_up T)

theorem sc__law_square : FnScope ["a", "b"] ["a", "b"] (defScope (top 31)) := ⟨rfl, rfl, rfl, by decide +kernel, rfl, by decide +kernel, by decide +kernel⟩
def b__law_square : En → RS := sRet (eA mkT (aCons (eBin gSub (eBin gMulI (eBin gIx (eVar 0) (eC (.int 1))) (eBin gIx (eVar 1) (eC (.int 2)))) (eBin gMulI (eBin gIx (eVar 0) (eC (.int 2))) (eBin gIx (eVar 1) (eC (.int 1))))) (aCons (eBin gSub (eBin gMulI (eBin gIx (eVar 0) (eC (.int 2))) (eBin gIx (eVar 1) (eC (.int 0)))) (eBin gMulI (eBin gIx (eVar 0) (eC (.int 0))) (eBin gIx (eVar 1) (eC (.int 2))))) (aCons (eBin gSub (eBin gMulI (eBin gIx (eVar 0) (eC (.int 0))) (eBin gIx (eVar 1) (eC (.int 1)))) (eBin gMulI (eBin gIx (eVar 0) (eC (.int 1))) (eBin gIx (eVar 1) (eC (.int 0))))) (aNil)))))
def d__law_square : Den := denOf 2 2 [] b__law_square
theorem body__law_square (T : Txt K mg) : Body P w K mg base "_law_square" ["a", "b"] (defScope (top 31)) 0 [] (defBody (top 31)) b__law_square := fun f cdv A outer s H E hr tk => (sss_one (ss_ret (se_tup (sa_cons (se_sub (se_mul (se_ix (se_var 0) se_int) (se_ix (se_var 1) se_int)) (se_mul (se_ix (se_var 0) se_int) (se_ix (se_var 1) se_int))) (sa_cons (se_sub (se_mul (se_ix (se_var 0) se_int) (se_ix (se_var 1) se_int)) (se_mul (se_ix (se_var 0) se_int) (se_ix (se_var 1) se_int))) (sa_cons (se_sub (se_mul (se_ix (se_var 0) se_int) (se_ix (se_var 1) se_int)) (se_mul (se_ix (se_var 0) se_int) (se_ix (se_var 1) se_int))) sa_nil))))))
theorem ok__law_square (T : Txt K mg) : Fnc P w K mg base "_law_square" 1 2 d__law_square := fnc_of T.f__law_square sc__law_square (by decide) rfl rfl (fun _ _ _ _ _ _ us hl => match us, hl with | [_, _], _ => rfl) (body__law_square T)

theorem sc__law_rank : FnScope ["vecs", "ups", "a", "normal", "x", "b"] ["vecs"] (defScope (top 32)) := ⟨rfl, rfl, rfl, by decide +kernel, rfl, by decide +kernel, by decide +kernel⟩
def b__law_rank : En → RS := sSeq (sSet 1 (eF (cComp (iSeq (eVar 0)) (gNm 2) (tTru (eA (gL allB fun bs => .bl (bs.any _root_.id)) (aCons (eF (cComp (iSeq (eVar 2)) (gNm 4) (tTrue) (eBin gNe (eVar 4) (eC (.int 0))) [4])) (aNil)))) (eCall 1 d__law_up (gcV (eVar 2) (gcNil))) [2])))
  (sSeq (sIf (tOf (eBin gEq (eVar 1) (eA mkL (aNil)))) (sRet (eC (.int 0))) (.nx))
  (sSeq (sFor (iSeq (eVar 1)) (gNm 2) (sSeq (sSet 3 (eCall 2 d__law_square (gcV (eBin gIx (eVar 1) (eC (.int 0))) (gcV (eVar 2) (gcNil)))))
  (sIf (tOf (eBin gNe (eVar 3) (eA mkT (aCons (eC (.int 0)) (aCons (eC (.int 0)) (aCons (eC (.int 0)) (aNil))))))) (sSeq (sIf (tTru (eA (gL allB fun bs => .bl (bs.any _root_.id)) (aCons (eF (cComp (iSeq (eVar 1)) (gNm 5) (tTrue) (eBin gNe (eCall 2 d__law_dot (gcV (eVar 3) (gcV (eVar 5) (gcNil)))) (eC (.int 0))) [5])) (aNil)))) (sRet (eC (.int 3))) (.nx))
  (sRet (eC (.int 2)))) (.nx))))
  (sRet (eC (.int 1)))))
def d__law_rank : Den := denOf 6 1 [] b__law_rank
theorem body__law_rank (T : Txt K mg) : Body P w K mg base "_law_rank" ["vecs", "ups", "a", "normal", "x", "b"] (defScope (top 32)) 1 [] (defBody (top 32)) b__law_rank := fun f cdv A outer s H E hr tk => (sss_cons (ss_setLc (i := 1) rfl sc__law_rank.nd rfl rfl (by decide) (sw_true rfl rfl rfl (by decide +kernel))  (si_seq (se_var 0)) (own := [("a", 2)]) (blkOk_by (by kernel_rfl)) (.mk' fun _ _ _ _ _ => (sg_name sc__law_rank.nd (ns 2))) (.mk' fun _ _ _ _ _ => (sts_one (st_tru (se_b (b_any rfl) T.n_any (sa_cons (sf_lc rfl sc__law_rank.nd (si_seq (se_var 2)) (own := [("x", 4)]) (blkOk_by (by kernel_rfl)) (.mk' fun _ _ _ _ _ => (sg_name sc__law_rank.nd (ns 4))) (.mk' fun _ _ _ _ _ => sts_nil) (.mk' fun _ _ _ _ _ => (se_cmp (c_ne hr) (se_var 4) se_int))).se sa_nil))))) (.mk' fun _ _ _ _ _ => (se_call (ok__law_up T) (hr.mono (by decide)) takes0 (sc_v (se_var 2) sc_nil))))
  (sss_cons (ss_if (st_cmp (c_eq hr) (se_var 1) (se_lst sa_nil)) (sss_one (ss_ret se_int)) sss_nil)
  (sss_cons (ss_for (ts := [2]) (passes_of rfl) rfl (si_seq (se_var 1)) (sg_name sc__law_rank.nd (ns 2)) (sss_cons (ss_set sc__law_rank.nd (ns 3) (se_call (ok__law_square T) (hr.mono (by decide)) tk (sc_v (se_ix (se_var 1) se_int) (sc_v (se_var 2) sc_nil))))
  (sss_one (ss_if (st_cmp (c_ne hr) (se_var 3) (se_tup (sa_cons se_int (sa_cons se_int (sa_cons se_int sa_nil))))) (sss_cons (ss_if (st_tru (se_b (b_any rfl) T.n_any (sa_cons (sf_lc rfl sc__law_rank.nd (si_seq (se_var 1)) (own := [("b", 5)]) (blkOk_by (by kernel_rfl)) (.mk' fun _ _ _ _ _ => (sg_name sc__law_rank.nd (ns 5))) (.mk' fun _ _ _ _ _ => sts_nil) (.mk' fun _ _ _ _ _ => (se_cmp (c_ne hr) (se_call (ok__law_dot T) (hr.mono (by decide)) takes0 (sc_v (se_var 3) (sc_v (se_var 5) sc_nil))) se_int))).se sa_nil))) (sss_one (ss_ret se_int)) sss_nil)
  (sss_one (ss_ret se_int))) sss_nil))))
  (sss_one (ss_ret se_int)))))
theorem ok__law_rank (T : Txt K mg) : Fnc P w K mg base "_law_rank" 2 1 d__law_rank := fnc_of T.f__law_rank sc__law_rank (by decide) rfl rfl (fun _ _ _ _ _ _ us hl => match us, hl with | [_], _ => rfl) (body__law_rank T)

theorem sc__law_det : FnScope ["rows"] ["rows"] (defScope (top 33)) := ⟨rfl, rfl, rfl, by decide +kernel, rfl, by decide +kernel, by decide +kernel⟩
def b__law_det : En → RS := sSeq (sIf (tOf (eBin gEq (eA gLen (aCons (eVar 0) (aNil))) (eC (.int 2)))) (sRet (eBin gSub (eBin gMulI (eBin gIx (eBin gIx (eVar 0) (eC (.int 0))) (eC (.int 0))) (eBin gIx (eBin gIx (eVar 0) (eC (.int 1))) (eC (.int 1)))) (eBin gMulI (eBin gIx (eBin gIx (eVar 0) (eC (.int 0))) (eC (.int 1))) (eBin gIx (eBin gIx (eVar 0) (eC (.int 1))) (eC (.int 0)))))) (.nx))
  (sRet (eCall 2 d__law_dot (gcV (eCall 2 d__law_square (gcV (eBin gIx (eVar 0) (eC (.int 0))) (gcV (eBin gIx (eVar 0) (eC (.int 1))) (gcNil)))) (gcV (eBin gIx (eVar 0) (eC (.int 2))) (gcNil)))))
def d__law_det : Den := denOf 1 1 [] b__law_det
theorem body__law_det (T : Txt K mg) : Body P w K mg base "_law_det" ["rows"] (defScope (top 33)) 1 [] (defBody (top 33)) b__law_det := fun f cdv A outer s H E hr tk => (sss_cons (ss_if (st_cmp (c_eq hr) (se_b b_len T.n_len (sa_cons (se_var 0) sa_nil)) se_int) (sss_one (ss_ret (se_sub (se_mul (se_ix (se_ix (se_var 0) se_int) se_int) (se_ix (se_ix (se_var 0) se_int) se_int)) (se_mul (se_ix (se_ix (se_var 0) se_int) se_int) (se_ix (se_ix (se_var 0) se_int) se_int))))) sss_nil)
  (sss_one (ss_ret (se_call (ok__law_dot T) (hr.mono (by decide)) tk (sc_v (se_call (ok__law_square T) (hr.mono (by decide)) tk (sc_v (se_ix (se_var 0) se_int) (sc_v (se_ix (se_var 0) se_int) sc_nil))) (sc_v (se_ix (se_var 0) se_int) sc_nil))))))
theorem ok__law_det (T : Txt K mg) : Fnc P w K mg base "_law_det" 2 1 d__law_det := fnc_of T.f__law_det sc__law_det (by decide) rfl rfl (fun _ _ _ _ _ _ us hl => match us, hl with | [_], _ => rfl) (body__law_det T)

theorem sc__law_lead : FnScope ["rows", "a", "row"] ["rows", "a"] (defScope (top 34)) := ⟨rfl, rfl, rfl, by decide +kernel, rfl, by decide +kernel, by decide +kernel⟩
def b__law_lead : En → RS := sRet (eA gTup (aCons (eF (cComp (iSeq (eVar 0)) (gNm 2) (tTrue) (eCall 2 d__law_dot (gcV (eVar 2) (gcV (eVar 1) (gcNil)))) [2])) (aNil)))
def d__law_lead : Den := denOf 3 2 [] b__law_lead
theorem body__law_lead (T : Txt K mg) : Body P w K mg base "_law_lead" ["rows", "a", "row"] (defScope (top 34)) 1 [] (defBody (top 34)) b__law_lead := fun f cdv A outer s H E hr tk => (sss_one (ss_ret (se_bT b_tup T.n_tuple (sa_cons (sf_lc rfl sc__law_lead.nd (si_seq (se_var 0)) (own := [("row", 2)]) (blkOk_by (by kernel_rfl)) (.mk' fun _ _ _ _ _ => (sg_name sc__law_lead.nd (ns 2))) (.mk' fun _ _ _ _ _ => sts_nil) (.mk' fun _ _ _ _ _ => (se_call (ok__law_dot T) (hr.mono (by decide)) takes0 (sc_v (se_var 2) (sc_v (se_var 1) sc_nil))))).se sa_nil))))
theorem ok__law_lead (T : Txt K mg) : Fnc P w K mg base "_law_lead" 2 2 d__law_lead := fnc_of T.f__law_lead sc__law_lead (by decide) rfl rfl (fun _ _ _ _ _ _ us hl => match us, hl with | [_, _], _ => rfl) (body__law_lead T)

theorem sc__law_worth : FnScope ["vecs", "ups", "normal", "a"] ["vecs"] (defScope (top 35)) := ⟨rfl, rfl, rfl, by decide +kernel, rfl, by decide +kernel, by decide +kernel⟩
def b__law_worth : En → RS := sSeq (sIf (tOf (eBin gEq (eA gLen (aCons (eVar 0) (aNil))) (eC (.int 0)))) (sRet (eC (.int 1))) (.nx))
  (sSeq (sIf (tOf (eBin gGt (eA gLen (aCons (eVar 0) (aNil))) (eA gLen (aCons (eBin gIx (eVar 0) (eC (.int 0))) (aNil))))) (sRet (eC (.int 0))) (.nx))
  (sSeq (sIf (tOf (eBin gEq (eA gLen (aCons (eVar 0) (aNil))) (eC (.int 3)))) (sRet (eA (g1I fun i => .int (if i < 0 then -i else i)) (aCons (eCall 1 d__law_det (gcV (eVar 0) (gcNil))) (aNil)))) (.nx))
  (sSeq (sSet 1 (eF (cComp (iSeq (eVar 0)) (gNm 3) (tTrue) (eCall 1 d__law_up (gcV (eVar 3) (gcNil))) [3])))
  (sSeq (sSet 2 (eBin gIx (eVar 1) (eC (.int 0))))
  (sSeq (sIf (tOf (eBin gEq (eA gLen (aCons (eVar 0) (aNil))) (eC (.int 2)))) (sSet 2 (eCall 2 d__law_square (gcV (eBin gIx (eVar 1) (eC (.int 0))) (gcV (eBin gIx (eVar 1) (eC (.int 1))) (gcNil))))) (.nx))
  (sRet (eCall 2 d__law_gcd (gcV (eBin gIx (eVar 2) (eC (.int 0))) (gcV (eCall 2 d__law_gcd (gcV (eBin gIx (eVar 2) (eC (.int 1))) (gcV (eBin gIx (eVar 2) (eC (.int 2))) (gcNil)))) (gcNil))))))))))
def d__law_worth : Den := denOf 4 1 [] b__law_worth
theorem body__law_worth (T : Txt K mg) : Body P w K mg base "_law_worth" ["vecs", "ups", "normal", "a"] (defScope (top 35)) 2 [] (defBody (top 35)) b__law_worth := fun f cdv A outer s H E hr tk => (sss_cons (ss_if (st_cmp (c_eq hr) (se_b b_len T.n_len (sa_cons (se_var 0) sa_nil)) se_int) (sss_one (ss_ret se_int)) sss_nil)
  (sss_cons (ss_if (st_cmp c_gt (se_b b_len T.n_len (sa_cons (se_var 0) sa_nil)) (se_b b_len T.n_len (sa_cons (se_ix (se_var 0) se_int) sa_nil))) (sss_one (ss_ret se_int)) sss_nil)
  (sss_cons (ss_if (st_cmp (c_eq hr) (se_b b_len T.n_len (sa_cons (se_var 0) sa_nil)) se_int) (sss_one (ss_ret (se_b b_abs T.n_abs (sa_cons (se_call (ok__law_det T) (hr.mono (by decide)) tk (sc_v (se_var 0) sc_nil)) sa_nil)))) sss_nil)
  (sss_cons (ss_setLc (i := 1) rfl sc__law_worth.nd rfl rfl (by decide) (sw_true rfl rfl rfl (by decide +kernel))  (si_seq (se_var 0)) (own := [("a", 3)]) (blkOk_by (by kernel_rfl)) (.mk' fun _ _ _ _ _ => (sg_name sc__law_worth.nd (ns 3))) (.mk' fun _ _ _ _ _ => sts_nil) (.mk' fun _ _ _ _ _ => (se_call (ok__law_up T) (hr.mono (by decide)) takes0 (sc_v (se_var 3) sc_nil))))
  (sss_cons (ss_set sc__law_worth.nd (ns 2) (se_ix (se_var 1) se_int))
  (sss_cons (ss_if (st_cmp (c_eq hr) (se_b b_len T.n_len (sa_cons (se_var 0) sa_nil)) se_int) (sss_one (ss_set sc__law_worth.nd (ns 2) (se_call (ok__law_square T) (hr.mono (by decide)) tk (sc_v (se_ix (se_var 1) se_int) (sc_v (se_ix (se_var 1) se_int) sc_nil))))) sss_nil)
  (sss_one (ss_ret (se_call (ok__law_gcd T) (hr.mono (by decide)) tk (sc_v (se_ix (se_var 2) se_int) (sc_v (se_call (ok__law_gcd T) (hr.mono (by decide)) tk (sc_v (se_ix (se_var 2) se_int) (sc_v (se_ix (se_var 2) se_int) sc_nil))) sc_nil)))))))))))
theorem ok__law_worth (T : Txt K mg) : Fnc P w K mg base "_law_worth" 3 1 d__law_worth := fnc_of T.f__law_worth sc__law_worth (by decide) rfl rfl (fun _ _ _ _ _ _ us hl => match us, hl with | [_], _ => rfl) (body__law_worth T)

theorem sc__law_ones : FnScope ["bag", "dim", "rows", "turn", "a", "b", "n", "k", "row"] ["bag", "dim"] (defScope (top 36)) := ⟨rfl, rfl, rfl, by decide +kernel, rfl, by decide +kernel, by decide +kernel⟩
def b__law_ones : En → RS := sSeq (sSetF 2 (cComp (iRg rng1 (aCons (eVar 1) (aNil))) (gNm 7) (tTrue) (eA gList (aCons (eCall 2 d__law_unit (gcV (eVar 1) (gcV (eVar 7) (gcNil)))) (aNil))) [7]))
  (sSeq (sFor (iRg rng1 (aCons (eCall 2 d__law_take (gcN (.io 0) 0 (gcV (eC (.int 4)) (gcNil)))) (aNil))) (gNm 3) (sSeq (sSet 4 (eCall 2 d__law_take (gcN (.io 0) 0 (gcV (eVar 1) (gcNil)))))
  (sSeq (sSet 5 (eBin gMod (eA gInt (aCons (eBin gAdd (eBin gAdd (eVar 4) (eC (.int 1))) (eCall 2 d__law_take (gcN (.io 0) 0 (gcV (eBin gSub (eVar 1) (eC (.int 1))) (gcNil))))) (aNil))) (eVar 1)))
  (sSeq (sSet 6 (eCall 2 d__law_entry (gcN (.io 0) 0 (gcV (eC (.int 2)) (gcNil)))))
  (sSto 2 (eVar 4) (eF (cComp (iRg rng1 (aCons (eVar 1) (aNil))) (gNm 7) (tTrue) (eBin gAdd (eBin gIx (eIxP 2 (eVar 4)) (eVar 7)) (eBin gMulI (eVar 6) (eBin gIx (eIxP 2 (eVar 5)) (eVar 7)))) [7])))))))
  (sSeq (sIf (tOf (eBin gEq (eCall 2 d__law_take (gcN (.io 0) 0 (gcV (eC (.int 3)) (gcNil)))) (eC (.int 1)))) (sSeq (sSet 4 (eCall 2 d__law_take (gcN (.io 0) 0 (gcV (eVar 1) (gcNil)))))
  (sSto 2 (eVar 4) (eF (cComp (iSeq (eIxP 2 (eVar 4))) (gNm 6) (tTrue) (eBin gSub (eC (.int 0)) (eVar 6)) [6])))) (.nx))
  (sRet (eA gTup (aCons (eF (cComp (iSeq (eVar 2)) (gNm 8) (tTrue) (eA gTup (aCons (eVar 8) (aNil))) [8])) (aNil))))))
def d__law_ones : Den := denOf 9 2 [0] b__law_ones
theorem body__law_ones (T : Txt K mg) : Body P w K mg base "_law_ones" ["bag", "dim", "rows", "turn", "a", "b", "n", "k", "row"] (defScope (top 36)) 2 [0] (defBody (top 36)) b__law_ones := fun f cdv A outer s H E hr tk => (sss_cons (ss_setF sc__law_ones.nd (ns 2) (sf_lc rfl sc__law_ones.nd (si_rng1 T.n_range (sa_cons (se_var 1) sa_nil)) (own := [("k", 7)]) (blkOk_by (by kernel_rfl)) (.mk' fun _ _ _ _ _ => (sg_name sc__law_ones.nd (ns 7))) (.mk' fun _ _ _ _ _ => sts_nil) (.mk' fun _ _ _ _ _ => (se_bT b_list T.n_list (sa_cons (se_call (ok__law_unit T) (hr.mono (by decide)) takes0 (sc_v (se_var 1) (sc_v (se_var 7) sc_nil))) sa_nil)))))
  (sss_cons (ss_for (ts := [3]) (passes_of rfl) rfl (si_rng1 T.n_range (sa_cons (se_call (ok__law_take T) (hr.mono (by decide)) tk (sc_io 0 (nm 0) (sc_v se_int sc_nil))) sa_nil)) (sg_name sc__law_ones.nd (ns 3)) (sss_cons (ss_set sc__law_ones.nd (ns 4) (se_call (ok__law_take T) (hr.mono (by decide)) tk (sc_io 0 (nm 0) (sc_v (se_var 1) sc_nil))))
  (sss_cons (ss_set sc__law_ones.nd (ns 5) (se_mod (se_bT b_int T.n_int (sa_cons (se_add (se_add (se_var 4) se_int) (se_call (ok__law_take T) (hr.mono (by decide)) tk (sc_io 0 (nm 0) (sc_v (se_sub (se_var 1) se_int) sc_nil)))) sa_nil)) (se_var 1)))
  (sss_cons (ss_set sc__law_ones.nd (ns 6) (se_call (ok__law_entry T) (hr.mono (by decide)) tk (sc_io 0 (nm 0) (sc_v se_int sc_nil))))
  (sss_one (ss_sto 2 (nm 2) (se_var 4) (sf_lc rfl sc__law_ones.nd (si_rng1 T.n_range (sa_cons (se_var 1) sa_nil)) (own := [("k", 7)]) (blkOk_by (by kernel_rfl)) (.mk' fun _ _ _ _ _ => (sg_name sc__law_ones.nd (ns 7))) (.mk' fun _ _ _ _ _ => sts_nil) (.mk' fun _ _ _ _ _ => (se_add (se_ix (se_ixP 2 (nm 2) (se_var 4)) (se_var 7)) (se_mul (se_var 6) (se_ix (se_ixP 2 (nm 2) (se_var 5)) (se_var 7)))))).se))))))
  (sss_cons (ss_if (st_cmp (c_eq hr) (se_call (ok__law_take T) (hr.mono (by decide)) tk (sc_io 0 (nm 0) (sc_v se_int sc_nil))) se_int) (sss_cons (ss_set sc__law_ones.nd (ns 4) (se_call (ok__law_take T) (hr.mono (by decide)) tk (sc_io 0 (nm 0) (sc_v (se_var 1) sc_nil))))
  (sss_one (ss_sto 2 (nm 2) (se_var 4) (sf_lc rfl sc__law_ones.nd (si_seq (se_ixP 2 (nm 2) (se_var 4))) (own := [("n", 6)]) (blkOk_by (by kernel_rfl)) (.mk' fun _ _ _ _ _ => (sg_name sc__law_ones.nd (ns 6))) (.mk' fun _ _ _ _ _ => sts_nil) (.mk' fun _ _ _ _ _ => (se_sub se_int (se_var 6)))).se))) sss_nil)
  (sss_one (ss_ret (se_bT b_tup T.n_tuple (sa_cons (sf_lc rfl sc__law_ones.nd (si_seq (se_var 2)) (own := [("row", 8)]) (blkOk_by (by kernel_rfl)) (.mk' fun _ _ _ _ _ => (sg_name sc__law_ones.nd (ns 8))) (.mk' fun _ _ _ _ _ => sts_nil) (.mk' fun _ _ _ _ _ => (se_bT b_tup T.n_tuple (sa_cons (se_var 8) sa_nil)))).se sa_nil)))))))
theorem ok__law_ones (T : Txt K mg) : Fnc P w K mg base "_law_ones" 3 2 d__law_ones := fnc_of T.f__law_ones sc__law_ones (by decide) rfl rfl (fun _ _ _ _ _ _ us hl => match us, hl with | [_, _], _ => rfl) (body__law_ones T)

theorem sc__law_inside : FnScope ["vecs", "spot", "many", "normal", "sign", "k", "rows"] ["vecs", "spot"] (defScope (top 37)) := ⟨rfl, rfl, rfl, by decide +kernel, rfl, by decide +kernel, by decide +kernel⟩
def b__law_inside : En → RS := sSeq (sIf (tOf (eBin gEq (eA gLen (aCons (eVar 0) (aNil))) (eC (.int 1)))) (sSeq (sSet 2 (eCall 2 d__law_dot (gcV (eBin gIx (eVar 0) (eC (.int 0))) (gcV (eBin gIx (eVar 0) (eC (.int 0))) (gcNil)))))
  (sRet (eAn (eBin gEq (eCall 2 d__law_square (gcV (eBin gIx (eVar 0) (eC (.int 0))) (gcV (eVar 1) (gcNil)))) (eA mkT (aCons (eC (.int 0)) (aCons (eC (.int 0)) (aCons (eC (.int 0)) (aNil)))))) (eChn gLe gLt (eC (.int 0)) (eCall 2 d__law_dot (gcV (eBin gIx (eVar 0) (eC (.int 0))) (gcV (eVar 1) (gcNil)))) (eVar 2))))) (.nx))
  (sSeq (sIf (tOf (eBin gEq (eA gLen (aCons (eVar 0) (aNil))) (eC (.int 2)))) (sSeq (sSet 3 (eCall 2 d__law_square (gcV (eBin gIx (eVar 0) (eC (.int 0))) (gcV (eBin gIx (eVar 0) (eC (.int 1))) (gcNil)))))
  (sSeq (sSet 2 (eCall 2 d__law_dot (gcV (eVar 3) (gcV (eVar 3) (gcNil)))))
  (sSeq (sIf (tOu (tOf (eBin gNe (eCall 2 d__law_dot (gcV (eVar 3) (gcV (eVar 1) (gcNil)))) (eC (.int 0)))) (tNo (tOf (eChn gLe gLt (eC (.int 0)) (eCall 2 d__law_dot (gcV (eCall 2 d__law_square (gcV (eVar 1) (gcV (eBin gIx (eVar 0) (eC (.int 1))) (gcNil)))) (gcV (eVar 3) (gcNil)))) (eVar 2))))) (sRet (eC (.bl false))) (.nx))
  (sRet (eChn gLe gLt (eC (.int 0)) (eCall 2 d__law_dot (gcV (eCall 2 d__law_square (gcV (eBin gIx (eVar 0) (eC (.int 0))) (gcV (eVar 1) (gcNil)))) (gcV (eVar 3) (gcNil)))) (eVar 2)))))) (.nx))
  (sSeq (sSet 2 (eCall 1 d__law_det (gcV (eVar 0) (gcNil))))
  (sSeq (sSet 4 (eIf (tOf (eBin gGt (eVar 2) (eC (.int 0)))) (eC (.int 1)) (eUn gNeg (eC (.int 1)))))
  (sSeq (sFor (iRg rng1 (aCons (eC (.int 3)) (aNil))) (gNm 5) (sSeq (sSet 6 (eBin gAdd (eBin gAdd (eA gList (aCons (eSl (eVar 0) (oNo) (oSo (eVar 5))) (aNil))) (eA mkL (aCons (eVar 1) (aNil)))) (eA gList (aCons (eSl (eVar 0) (oSo (eBin gAdd (eVar 5) (eC (.int 1)))) (oNo)) (aNil)))))
  (sIf (tNo (tOf (eChn gLe gLt (eC (.int 0)) (eBin gMulI (eVar 4) (eCall 1 d__law_det (gcV (eVar 6) (gcNil)))) (eBin gMulI (eVar 4) (eVar 2))))) (sRet (eC (.bl false))) (.nx))))
  (sRet (eC (.bl true)))))))
def d__law_inside : Den := denOf 7 2 [] b__law_inside
theorem body__law_inside (T : Txt K mg) : Body P w K mg base "_law_inside" ["vecs", "spot", "many", "normal", "sign", "k", "rows"] (defScope (top 37)) 2 [] (defBody (top 37)) b__law_inside := fun f cdv A outer s H E hr tk => (sss_cons (ss_if (st_cmp (c_eq hr) (se_b b_len T.n_len (sa_cons (se_var 0) sa_nil)) se_int) (sss_cons (ss_set sc__law_inside.nd (ns 2) (se_call (ok__law_dot T) (hr.mono (by decide)) tk (sc_v (se_ix (se_var 0) se_int) (sc_v (se_ix (se_var 0) se_int) sc_nil))))
  (sss_one (ss_ret (se_and (se_cmp (c_eq hr) (se_call (ok__law_square T) (hr.mono (by decide)) tk (sc_v (se_ix (se_var 0) se_int) (sc_v (se_var 1) sc_nil))) (se_tup (sa_cons se_int (sa_cons se_int (sa_cons se_int sa_nil))))) (se_one (se_chn c_le c_lt se_int (se_call (ok__law_dot T) (hr.mono (by decide)) tk (sc_v (se_ix (se_var 0) se_int) (sc_v (se_var 1) sc_nil))) (se_var 2))))))) sss_nil)
  (sss_cons (ss_if (st_cmp (c_eq hr) (se_b b_len T.n_len (sa_cons (se_var 0) sa_nil)) se_int) (sss_cons (ss_set sc__law_inside.nd (ns 3) (se_call (ok__law_square T) (hr.mono (by decide)) tk (sc_v (se_ix (se_var 0) se_int) (sc_v (se_ix (se_var 0) se_int) sc_nil))))
  (sss_cons (ss_set sc__law_inside.nd (ns 2) (se_call (ok__law_dot T) (hr.mono (by decide)) tk (sc_v (se_var 3) (sc_v (se_var 3) sc_nil))))
  (sss_cons (ss_if (sw_or (st_cmp (c_ne hr) (se_call (ok__law_dot T) (hr.mono (by decide)) tk (sc_v (se_var 3) (sc_v (se_var 1) sc_nil))) se_int) (sw_or1 (st_not (st_chn c_le c_lt se_int (se_call (ok__law_dot T) (hr.mono (by decide)) tk (sc_v (se_call (ok__law_square T) (hr.mono (by decide)) tk (sc_v (se_var 1) (sc_v (se_ix (se_var 0) se_int) sc_nil))) (sc_v (se_var 3) sc_nil))) (se_var 2))))).st (sss_one (ss_ret se_bl)) sss_nil)
  (sss_one (ss_ret (se_chn c_le c_lt se_int (se_call (ok__law_dot T) (hr.mono (by decide)) tk (sc_v (se_call (ok__law_square T) (hr.mono (by decide)) tk (sc_v (se_ix (se_var 0) se_int) (sc_v (se_var 1) sc_nil))) (sc_v (se_var 3) sc_nil))) (se_var 2))))))) sss_nil)
  (sss_cons (ss_set sc__law_inside.nd (ns 2) (se_call (ok__law_det T) (hr.mono (by decide)) tk (sc_v (se_var 0) sc_nil)))
  (sss_cons (ss_set sc__law_inside.nd (ns 4) (se_ifx (st_cmp c_gt (se_var 2) se_int) se_int (se_neg se_int)))
  (sss_cons (ss_for (ts := [5]) (passes_of rfl) rfl (si_rng1 T.n_range (sa_cons se_int sa_nil)) (sg_name sc__law_inside.nd (ns 5)) (sss_cons (ss_set sc__law_inside.nd (ns 6) (se_add (se_add (se_bT b_list T.n_list (sa_cons (se_sl (se_var 0) so_none (so_some (se_var 5))) sa_nil)) (se_lst (sa_cons (se_var 1) sa_nil))) (se_bT b_list T.n_list (sa_cons (se_sl (se_var 0) (so_some (se_add (se_var 5) se_int)) so_none) sa_nil))))
  (sss_one (ss_if (st_not (st_chn c_le c_lt se_int (se_mul (se_var 4) (se_call (ok__law_det T) (hr.mono (by decide)) tk (sc_v (se_var 6) sc_nil))) (se_mul (se_var 4) (se_var 2)))) (sss_one (ss_ret se_bl)) sss_nil))))
  (sss_one (ss_ret se_bl)))))))
theorem ok__law_inside (T : Txt K mg) : Fnc P w K mg base "_law_inside" 3 2 d__law_inside := fnc_of T.f__law_inside sc__law_inside (by decide) rfl rfl (fun _ _ _ _ _ _ us hl => match us, hl with | [_, _], _ => rfl) (body__law_inside T)

theorem sc__law_count : FnScope ["vecs", "ups", "low_end", "top_end", "found", "x", "y", "z", "a", "k"] ["vecs"] (defScope (top 38)) := ⟨rfl, rfl, rfl, by decide +kernel, rfl, by decide +kernel, by decide +kernel⟩
def b__law_count : En → RS := sSeq (sSet 1 (eF (cComp (iSeq (eVar 0)) (gNm 8) (tTrue) (eCall 1 d__law_up (gcV (eVar 8) (gcNil))) [8])))
  (sSeq (sSet 2 (eF (cComp (iRg rng1 (aCons (eC (.int 3)) (aNil))) (gNm 9) (tTrue) (eA (gL allI fun ns => .int ns.sum) (aCons (eF (cComp (iSeq (eVar 1)) (gNm 8) (tTrue) (eA (g2I fun i k => .int (if k < i then k else i)) (aCons (eC (.int 0)) (aCons (eBin gIx (eVar 8) (eVar 9)) (aNil)))) [8])) (aNil))) [9])))
  (sSeq (sSet 3 (eF (cComp (iRg rng1 (aCons (eC (.int 3)) (aNil))) (gNm 9) (tTrue) (eA (gL allI fun ns => .int ns.sum) (aCons (eF (cComp (iSeq (eVar 1)) (gNm 8) (tTrue) (eA (g2I fun i k => .int (if k > i then k else i)) (aCons (eC (.int 0)) (aCons (eBin gIx (eVar 8) (eVar 9)) (aNil)))) [8])) (aNil))) [9])))
  (sSeq (sSet 4 (eC (.int 0)))
  (sSeq (sFor (iRg rng2 (aCons (eBin gIx (eVar 2) (eC (.int 0))) (aCons (eBin gAdd (eBin gIx (eVar 3) (eC (.int 0))) (eC (.int 1))) (aNil)))) (gNm 5) (sFor (iRg rng2 (aCons (eBin gIx (eVar 2) (eC (.int 1))) (aCons (eBin gAdd (eBin gIx (eVar 3) (eC (.int 1))) (eC (.int 1))) (aNil)))) (gNm 6) (sFor (iRg rng2 (aCons (eBin gIx (eVar 2) (eC (.int 2))) (aCons (eBin gAdd (eBin gIx (eVar 3) (eC (.int 2))) (eC (.int 1))) (aNil)))) (gNm 7) (sIf (tTru (eCall 2 d__law_inside (gcV (eVar 1) (gcV (eA mkT (aCons (eVar 5) (aCons (eVar 6) (aCons (eVar 7) (aNil))))) (gcNil))))) (sSet 4 (eBin gAdd (eVar 4) (eC (.int 1)))) (.nx)))))
  (sRet (eVar 4))))))
def d__law_count : Den := denOf 10 1 [] b__law_count
theorem body__law_count (T : Txt K mg) : Body P w K mg base "_law_count" ["vecs", "ups", "low_end", "top_end", "found", "x", "y", "z", "a", "k"] (defScope (top 38)) 3 [] (defBody (top 38)) b__law_count := fun f cdv A outer s H E hr tk => (sss_cons (ss_set sc__law_count.nd (ns 1) (sf_lc rfl sc__law_count.nd (si_seq (se_var 0)) (own := [("a", 8)]) (blkOk_by (by kernel_rfl)) (.mk' fun _ _ _ _ _ => (sg_name sc__law_count.nd (ns 8))) (.mk' fun _ _ _ _ _ => sts_nil) (.mk' fun _ _ _ _ _ => (se_call (ok__law_up T) (hr.mono (by decide)) takes0 (sc_v (se_var 8) sc_nil)))).se)
  (sss_cons (ss_setLc (i := 2) rfl sc__law_count.nd rfl rfl (by decide) (sw_true rfl rfl rfl (by decide +kernel))  (si_rng1 T.n_range (sa_cons se_int sa_nil)) (own := [("k", 9)]) (blkOk_by (by kernel_rfl)) (.mk' fun _ _ _ _ _ => (sg_name sc__law_count.nd (ns 9))) (.mk' fun _ _ _ _ _ => sts_nil) (.mk' fun _ _ _ _ _ => (se_b (b_sum rfl) T.n_sum (sa_cons (sf_lc rfl sc__law_count.nd (si_seq (se_var 1)) (own := [("a", 8)]) (blkOk_by (by kernel_rfl)) (.mk' fun _ _ _ _ _ => (sg_name sc__law_count.nd (ns 8))) (.mk' fun _ _ _ _ _ => sts_nil) (.mk' fun _ _ _ _ _ => (se_b (b_min2 rfl) T.n_min (sa_cons se_int (sa_cons (se_ix (se_var 8) (se_var 9)) sa_nil))))).se sa_nil))))
  (sss_cons (ss_setLc (i := 3) rfl sc__law_count.nd rfl rfl (by decide) (sw_true rfl rfl rfl (by decide +kernel))  (si_rng1 T.n_range (sa_cons se_int sa_nil)) (own := [("k", 9)]) (blkOk_by (by kernel_rfl)) (.mk' fun _ _ _ _ _ => (sg_name sc__law_count.nd (ns 9))) (.mk' fun _ _ _ _ _ => sts_nil) (.mk' fun _ _ _ _ _ => (se_b (b_sum rfl) T.n_sum (sa_cons (sf_lc rfl sc__law_count.nd (si_seq (se_var 1)) (own := [("a", 8)]) (blkOk_by (by kernel_rfl)) (.mk' fun _ _ _ _ _ => (sg_name sc__law_count.nd (ns 8))) (.mk' fun _ _ _ _ _ => sts_nil) (.mk' fun _ _ _ _ _ => (se_b (b_max2 rfl) T.n_max (sa_cons se_int (sa_cons (se_ix (se_var 8) (se_var 9)) sa_nil))))).se sa_nil))))
  (sss_cons (ss_set sc__law_count.nd (ns 4) se_int)
  (sss_cons (ss_for (ts := [5]) (passes_of rfl) rfl (si_rng2 T.n_range (sa_cons (se_ix (se_var 2) se_int) (sa_cons (se_add (se_ix (se_var 3) se_int) se_int) sa_nil))) (sg_name sc__law_count.nd (ns 5)) (sss_one (ss_for (ts := [6]) (passes_of rfl) rfl (si_rng2 T.n_range (sa_cons (se_ix (se_var 2) se_int) (sa_cons (se_add (se_ix (se_var 3) se_int) se_int) sa_nil))) (sg_name sc__law_count.nd (ns 6)) (sss_one (ss_for (ts := [7]) (passes_of rfl) rfl (si_rng2 T.n_range (sa_cons (se_ix (se_var 2) se_int) (sa_cons (se_add (se_ix (se_var 3) se_int) se_int) sa_nil))) (sg_name sc__law_count.nd (ns 7)) (sss_one (ss_if (st_tru (se_call (ok__law_inside T) (hr.mono (by decide)) tk (sc_v (se_var 1) (sc_v (se_tup (sa_cons (se_var 5) (sa_cons (se_var 6) (sa_cons (se_var 7) sa_nil)))) sc_nil)))) (sss_one (ss_set sc__law_count.nd (ns 4) (se_add (se_var 4) se_int))) sss_nil)))))))
  (sss_one (ss_ret (se_var 4))))))))
theorem ok__law_count (T : Txt K mg) : Fnc P w K mg base "_law_count" 4 1 d__law_count := fnc_of T.f__law_count sc__law_count (by decide) rfl rfl (fun _ _ _ _ _ _ us hl => match us, hl with | [_], _ => rfl) (body__law_count T)

theorem sc__law_drawn : FnScope ["bag", "dim", "vecs", "shape", "k"] ["bag", "dim"] (defScope (top 39)) := ⟨rfl, rfl, rfl, by decide +kernel, rfl, by decide +kernel, by decide +kernel⟩
def b__law_drawn : En → RS := sSeq (sSetF 2 (cComp (iRg rng1 (aCons (eBin gAdd (eC (.int 1)) (eCall 2 d__law_take (gcN (.io 0) 0 (gcV (eVar 1) (gcNil))))) (aNil))) (gNm 4) (tTrue) (eCall 3 d__law_vec (gcN (.io 0) 0 (gcV (eVar 1) (gcV (eC (.int 2)) (gcNil))))) [4]))
  (sSeq (sSet 3 (eCall 2 d__law_take (gcN (.io 0) 0 (gcV (eC (.int 6)) (gcNil)))))
  (sSeq (sIf (tOf (eBin gEq (eVar 3) (eC (.int 1)))) (sSto 2 (eC (.int 0)) (eCall 3 d__law_vec (gcN (.io 0) 0 (gcV (eVar 1) (gcV (eC (.int 4)) (gcNil)))))) (.nx))
  (sSeq (sIf (tAn (tOf (eBin gEq (eVar 3) (eC (.int 2)))) (tOf (eBin gGt (eLenP 2) (eC (.int 1))))) (sSto 2 (eC (.int 1)) (eCall 2 d__law_fold (gcV (eCall 2 d__law_entry (gcN (.io 0) 0 (gcV (eC (.int 2)) (gcNil)))) (gcV (eIxP 2 (eC (.int 0))) (gcNil))))) (.nx))
  (sSeq (sIf (tAn (tOf (eBin gEq (eVar 3) (eC (.int 3)))) (tOf (eBin gEq (eLenP 2) (eC (.int 3))))) (sSto 2 (eC (.int 2)) (eCall 2 d__law_plus (gcV (eIxP 2 (eC (.int 0))) (gcV (eIxP 2 (eC (.int 1))) (gcNil))))) (.nx))
  (sRet (eVar 2))))))
def d__law_drawn : Den := denOf 5 2 [0] b__law_drawn
theorem body__law_drawn (T : Txt K mg) : Body P w K mg base "_law_drawn" ["bag", "dim", "vecs", "shape", "k"] (defScope (top 39)) 3 [0] (defBody (top 39)) b__law_drawn := fun f cdv A outer s H E hr tk => (sss_cons (ss_setLcF (i := 2) rfl sc__law_drawn.nd rfl rfl (by decide) (sw_true rfl rfl rfl (by decide +kernel))  (si_rng1 T.n_range (sa_cons (se_add se_int (se_call (ok__law_take T) (hr.mono (by decide)) tk (sc_io 0 (nm 0) (sc_v (se_var 1) sc_nil)))) sa_nil)) (own := [("k", 4)]) (blkOk_by (by kernel_rfl)) (.mk' fun _ _ _ _ _ => (sg_name sc__law_drawn.nd (ns 4))) (.mk' fun _ _ _ _ _ => sts_nil) (.mk' fun _ _ _ _ _ => (se_call (ok__law_vec T) (hr.mono (by decide)) takes0 (sc_io 0 (nm 0) (sc_v (se_var 1) (sc_v se_int sc_nil))))))
  (sss_cons (ss_set sc__law_drawn.nd (ns 3) (se_call (ok__law_take T) (hr.mono (by decide)) tk (sc_io 0 (nm 0) (sc_v se_int sc_nil))))
  (sss_cons (ss_if (st_cmp (c_eq hr) (se_var 3) se_int) (sss_one (ss_sto 2 (nm 2) se_int (se_call (ok__law_vec T) (hr.mono (by decide)) tk (sc_io 0 (nm 0) (sc_v (se_var 1) (sc_v se_int sc_nil)))))) sss_nil)
  (sss_cons (ss_if (sw_and (st_cmp (c_eq hr) (se_var 3) se_int) (sw_and1 (st_cmp c_gt (se_lenP 2 (nm 2) T.n_len) se_int))).st (sss_one (ss_sto 2 (nm 2) se_int (se_call (ok__law_fold T) (hr.mono (by decide)) tk (sc_v (se_call (ok__law_entry T) (hr.mono (by decide)) tk (sc_io 0 (nm 0) (sc_v se_int sc_nil))) (sc_v (se_ixP 2 (nm 2) se_int) sc_nil))))) sss_nil)
  (sss_cons (ss_if (sw_and (st_cmp (c_eq hr) (se_var 3) se_int) (sw_and1 (st_cmp (c_eq hr) (se_lenP 2 (nm 2) T.n_len) se_int))).st (sss_one (ss_sto 2 (nm 2) se_int (se_call (ok__law_plus T) (hr.mono (by decide)) tk (sc_v (se_ixP 2 (nm 2) se_int) (sc_v (se_ixP 2 (nm 2) se_int) sc_nil))))) sss_nil)
  (sss_one (ss_ret (se_var 2))))))))
theorem ok__law_drawn (T : Txt K mg) : Fnc P w K mg base "_law_drawn" 4 2 d__law_drawn := fnc_of T.f__law_drawn sc__law_drawn (by decide) rfl rfl (fun _ _ _ _ _ _ us hl => match us, hl with | [_, _], _ => rfl) (body__law_drawn T)

theorem sc_law : FnScope ["script", "bag", "dim", "vecs", "due", "free", "rows", "more", "a", "k"] ["script"] (defScope (top 40)) := ⟨rfl, rfl, rfl, by decide +kernel, rfl, by decide +kernel, by decide +kernel⟩
def b_law : En → RS := sSeq (sSetF 1 (eCallF 1 d__law_bag (gcV (eVar 0) (gcNil))))
  (sSeq (sSet 2 (eBin gAdd (eC (.int 2)) (eCall 2 d__law_take (gcN (.io 1) 1 (gcV (eC (.int 2)) (gcNil))))))
  (sSeq (sSet 3 (eCall 2 d__law_drawn (gcN (.io 1) 1 (gcV (eVar 2) (gcNil)))))
  (sSeq (sSet 4 (eCall 1 d__law_worth (gcV (eVar 3) (gcNil))))
  (sSeq (sSet 5 (eBin gEq (eCall 1 d__law_rank (gcV (eVar 3) (gcNil))) (eA gLen (aCons (eVar 3) (aNil)))))
  (sSeq (sIf (tOf (eBin gNe (eBin gGt (eVar 4) (eC (.int 0))) (eVar 5))) (sRet (eC (.bl false))) (.nx))
  (sSeq (sIf (tOu (tNo (tTru (eCall 2 (d__law_same 6) (gcV (eCall 1 d_worth (gcV (eF (cComp (iSeq (eVar 3)) (gNm 8) (tTrue) (eA gList (aCons (eVar 8) (aNil))) [8])) (gcNil))) (gcV (eVar 4) (gcNil)))))) (tNo (tTru (eCall 2 (d__law_same 6) (gcV (eCall 1 d_worth (gcApp 0 1 (gcNil) (gcV (eA gTup (aCons (eUn gRev (eVar 3)) (aNil))) (gcNil)))) (gcV (eVar 4) (gcNil))))))) (sRet (eC (.bl false))) (.nx))
  (sSeq (sIf (tNo (tTru (eCall 2 (d__law_same 6) (gcV (eCall 1 d_rank (gcV (eVar 3) (gcNil))) (gcV (eCall 1 d__law_rank (gcV (eVar 3) (gcNil))) (gcNil)))))) (sRet (eC (.bl false))) (.nx))
  (sSeq (sIf (tAn (tTru (eVar 5)) (tNo (tTru (eCall 2 (d__law_same 6) (gcV (eCall 1 d_worth (gcV (eA gList (aCons (eVar 3) (aNil))) (gcNil))) (gcV (eCall 1 d__law_count (gcV (eVar 3) (gcNil))) (gcNil))))))) (sRet (eC (.bl false))) (.nx))
  (sSeq (sSet 6 (eCall 2 d__law_ones (gcN (.io 1) 1 (gcV (eVar 2) (gcNil)))))
  (sSeq (sIf (tNo (tTru (eCall 2 (d__law_same 6) (gcV (eCall 1 d_worth (gcV (eF (cComp (iSeq (eVar 3)) (gNm 8) (tTrue) (eCall 2 d__law_lead (gcV (eVar 6) (gcV (eVar 8) (gcNil)))) [8])) (gcNil))) (gcV (eVar 4) (gcNil)))))) (sRet (eC (.bl false))) (.nx))
  (sSeq (sIf (tNo (tTru (eCall 2 (d__law_same 6) (gcV (eCall 1 d_worth (gcV (eF (cComp (iSeq (eVar 3)) (gNm 8) (tTrue) (eCall 2 d__law_fold (gcV (eUn gNeg (eC (.int 1))) (gcV (eVar 8) (gcNil)))) [8])) (gcNil))) (gcV (eVar 4) (gcNil)))))) (sRet (eC (.bl false))) (.nx))
  (sSeq (sIf (tNo (tTru (eCall 2 (d__law_same 6) (gcV (eCall 1 d_worth (gcV (eBin gAdd (eA mkL (aCons (eCall 2 d__law_fold (gcV (eC (.int 2)) (gcV (eBin gIx (eVar 3) (eC (.int 0))) (gcNil)))) (aNil))) (eA gList (aCons (eSl (eVar 3) (oSo (eC (.int 1))) (oNo)) (aNil)))) (gcNil))) (gcV (eBin gMulI (eC (.int 2)) (eVar 4)) (gcNil)))))) (sRet (eC (.bl false))) (.nx))
  (sSeq (sSet 7 (eBin gAdd (eA gList (aCons (eVar 3) (aNil))) (eF (cComp (iRg rng1 (aCons (eBin gSub (eBin gAdd (eVar 2) (eC (.int 1))) (eA gLen (aCons (eVar 3) (aNil)))) (aNil))) (gNm 9) (tTrue) (eCall 3 d__law_vec (gcN (.io 1) 1 (gcV (eVar 2) (gcV (eC (.int 3)) (gcNil))))) [9]))))
  (sSeq (sIf (tOu (tNo (tTru (eCall 2 (d__law_same 6) (gcV (eCall 1 d_worth (gcV (eVar 7) (gcNil))) (gcV (eC (.int 0)) (gcNil)))))) (tNo (tTru (eCall 2 (d__law_same 6) (gcV (eCall 1 d_worth (gcV (eBin gAdd (eVar 3) (eA mkL (aCons (eBin gIx (eVar 3) (eC (.int 0))) (aNil)))) (gcNil))) (gcV (eC (.int 0)) (gcNil))))))) (sRet (eC (.bl false))) (.nx))
  (sSeq (sIf (tOu (tNo (tTru (eCall 2 (d__law_same 6) (gcV (eCall 1 d_worth (gcV (eA mkL (aNil)) (gcNil))) (gcV (eC (.int 1)) (gcNil)))))) (tOu (tNo (tTru (eCall 2 (d__law_same 6) (gcV (eCall 1 d_worth (gcV (eA mkT (aNil)) (gcNil))) (gcV (eC (.int 1)) (gcNil)))))) (tNo (tTru (eCall 2 (d__law_same 6) (gcV (eCall 1 d_worth (gcV (eA mkL (aCons (eA mkT (aCons (eC (.int 0)) (aCons (eC (.int 0)) (aCons (eC (.int 0)) (aNil))))) (aNil))) (gcNil))) (gcV (eC (.int 0)) (gcNil)))))))) (sRet (eC (.bl false))) (.nx))
  (sRet (eAn (eCall 2 (d__law_same 6) (gcV (eCall 1 d_worth (gcV (eA mkL (aCons (eA mkT (aCons (eC (.int 1)) (aCons (eC (.int 1)) (aCons (eC (.int 0)) (aNil))))) (aCons (eA mkT (aCons (eC (.int 1)) (aCons (eUn gNeg (eC (.int 1))) (aCons (eC (.int 0)) (aNil))))) (aNil)))) (gcNil))) (gcV (eC (.int 2)) (gcNil)))) (eCall 2 (d__law_same 6) (gcV (eCall 1 d_worth (gcV (eA mkL (aCons (eA mkT (aCons (eC (.int 2)) (aCons (eC (.int 4)) (aCons (eC (.int 6)) (aNil))))) (aNil))) (gcNil))) (gcV (eC (.int 2)) (gcNil)))))))))))))))))))))
def d_law : Den := denOf 10 1 [] b_law
theorem ok_law (T : Txt K mg) : Body P w K mg base "law" ["script", "bag", "dim", "vecs", "due", "free", "rows", "more", "a", "k"] (defScope (top 40)) 7 [] (defBody (top 40)) b_law := fun f cdv A outer s H E hr tk => (sss_cons (ss_setF sc_law.nd (ns 1) (sf_call (ok__law_bag T) (hr.mono (by decide)) tk (sc_v (se_var 0) sc_nil)))
  (sss_cons (ss_set sc_law.nd (ns 2) (se_add se_int (se_call (ok__law_take T) (hr.mono (by decide)) tk (sc_io 1 (nm 1) (sc_v se_int sc_nil)))))
  (sss_cons (ss_set sc_law.nd (ns 3) (se_call (ok__law_drawn T) (hr.mono (by decide)) tk (sc_io 1 (nm 1) (sc_v (se_var 2) sc_nil))))
  (sss_cons (ss_set sc_law.nd (ns 4) (se_call (ok__law_worth T) (hr.mono (by decide)) tk (sc_v (se_var 3) sc_nil)))
  (sss_cons (ss_set sc_law.nd (ns 5) (se_cmp (c_eq hr) (se_call (ok__law_rank T) (hr.mono (by decide)) tk (sc_v (se_var 3) sc_nil)) (se_b b_len T.n_len (sa_cons (se_var 3) sa_nil))))
  (sss_cons (ss_if (st_cmp (c_ne hr) (se_cmp c_gt (se_var 4) se_int) (se_var 5)) (sss_one (ss_ret se_bl)) sss_nil)
  (sss_cons (ss_if (sw_or (st_not (st_tru (se_call (ok__law_same T 6) (hr.mono (by decide)) tk (sc_v (se_call (ok_worth T) (hr.mono (by decide)) tk (sc_v (sf_lc rfl sc_law.nd (si_seq (se_var 3)) (own := [("a", 8)]) (blkOk_by (by kernel_rfl)) (.mk' fun _ _ _ _ _ => (sg_name sc_law.nd (ns 8))) (.mk' fun _ _ _ _ _ => sts_nil) (.mk' fun _ _ _ _ _ => (se_bT b_list T.n_list (sa_cons (se_var 8) sa_nil)))).se sc_nil)) (sc_v (se_var 4) sc_nil))))) (sw_or1 (st_not (st_tru (se_call (ok__law_same T 6) (hr.mono (by decide)) tk (sc_v (se_callK0 (okK0_worth T) (hr.mono (by decide)) tk (sck_v (se_bT b_tup T.n_tuple (sa_cons (se_rev (se_var 3)) sa_nil)) sck_nil)) (sc_v (se_var 4) sc_nil))))))).st (sss_one (ss_ret se_bl)) sss_nil)
  (sss_cons (ss_if (st_not (st_tru (se_call (ok__law_same T 6) (hr.mono (by decide)) tk (sc_v (se_call (ok_rank T) (hr.mono (by decide)) tk (sc_v (se_var 3) sc_nil)) (sc_v (se_call (ok__law_rank T) (hr.mono (by decide)) tk (sc_v (se_var 3) sc_nil)) sc_nil))))) (sss_one (ss_ret se_bl)) sss_nil)
  (sss_cons (ss_if (sw_and (st_tru (se_var 5)) (sw_and1 (st_not (st_tru (se_call (ok__law_same T 6) (hr.mono (by decide)) tk (sc_v (se_call (ok_worth T) (hr.mono (by decide)) tk (sc_v (se_bT b_list T.n_list (sa_cons (se_var 3) sa_nil)) sc_nil)) (sc_v (se_call (ok__law_count T) (hr.mono (by decide)) tk (sc_v (se_var 3) sc_nil)) sc_nil))))))).st (sss_one (ss_ret se_bl)) sss_nil)
  (sss_cons (ss_set sc_law.nd (ns 6) (se_call (ok__law_ones T) (hr.mono (by decide)) tk (sc_io 1 (nm 1) (sc_v (se_var 2) sc_nil))))
  (sss_cons (ss_if (st_not (st_tru (se_call (ok__law_same T 6) (hr.mono (by decide)) tk (sc_v (se_call (ok_worth T) (hr.mono (by decide)) tk (sc_v (sf_lc rfl sc_law.nd (si_seq (se_var 3)) (own := [("a", 8)]) (blkOk_by (by kernel_rfl)) (.mk' fun _ _ _ _ _ => (sg_name sc_law.nd (ns 8))) (.mk' fun _ _ _ _ _ => sts_nil) (.mk' fun _ _ _ _ _ => (se_call (ok__law_lead T) (hr.mono (by decide)) takes0 (sc_v (se_var 6) (sc_v (se_var 8) sc_nil))))).se sc_nil)) (sc_v (se_var 4) sc_nil))))) (sss_one (ss_ret se_bl)) sss_nil)
  (sss_cons (ss_if (st_not (st_tru (se_call (ok__law_same T 6) (hr.mono (by decide)) tk (sc_v (se_call (ok_worth T) (hr.mono (by decide)) tk (sc_v (sf_lc rfl sc_law.nd (si_seq (se_var 3)) (own := [("a", 8)]) (blkOk_by (by kernel_rfl)) (.mk' fun _ _ _ _ _ => (sg_name sc_law.nd (ns 8))) (.mk' fun _ _ _ _ _ => sts_nil) (.mk' fun _ _ _ _ _ => (se_call (ok__law_fold T) (hr.mono (by decide)) takes0 (sc_v (se_neg se_int) (sc_v (se_var 8) sc_nil))))).se sc_nil)) (sc_v (se_var 4) sc_nil))))) (sss_one (ss_ret se_bl)) sss_nil)
  (sss_cons (ss_if (st_not (st_tru (se_call (ok__law_same T 6) (hr.mono (by decide)) tk (sc_v (se_call (ok_worth T) (hr.mono (by decide)) tk (sc_v (se_add (se_lst (sa_cons (se_call (ok__law_fold T) (hr.mono (by decide)) tk (sc_v se_int (sc_v (se_ix (se_var 3) se_int) sc_nil))) sa_nil)) (se_bT b_list T.n_list (sa_cons (se_sl (se_var 3) (so_some se_int) so_none) sa_nil))) sc_nil)) (sc_v (se_mul se_int (se_var 4)) sc_nil))))) (sss_one (ss_ret se_bl)) sss_nil)
  (sss_cons (ss_set sc_law.nd (ns 7) (se_add (se_bT b_list T.n_list (sa_cons (se_var 3) sa_nil)) (sf_lc rfl sc_law.nd (si_rng1 T.n_range (sa_cons (se_sub (se_add (se_var 2) se_int) (se_b b_len T.n_len (sa_cons (se_var 3) sa_nil))) sa_nil)) (own := [("k", 9)]) (blkOk_by (by kernel_rfl)) (.mk' fun _ _ _ _ _ => (sg_name sc_law.nd (ns 9))) (.mk' fun _ _ _ _ _ => sts_nil) (.mk' fun _ _ _ _ _ => (se_call (ok__law_vec T) (hr.mono (by decide)) takes0 (sc_io 1 (nm 1) (sc_v (se_var 2) (sc_v se_int sc_nil)))))).se))
  (sss_cons (ss_if (sw_or (st_not (st_tru (se_call (ok__law_same T 6) (hr.mono (by decide)) tk (sc_v (se_call (ok_worth T) (hr.mono (by decide)) tk (sc_v (se_var 7) sc_nil)) (sc_v se_int sc_nil))))) (sw_or1 (st_not (st_tru (se_call (ok__law_same T 6) (hr.mono (by decide)) tk (sc_v (se_call (ok_worth T) (hr.mono (by decide)) tk (sc_v (se_add (se_var 3) (se_lst (sa_cons (se_ix (se_var 3) se_int) sa_nil))) sc_nil)) (sc_v se_int sc_nil))))))).st (sss_one (ss_ret se_bl)) sss_nil)
  (sss_cons (ss_if (sw_or (st_not (st_tru (se_call (ok__law_same T 6) (hr.mono (by decide)) tk (sc_v (se_call (ok_worth T) (hr.mono (by decide)) tk (sc_v (se_lst sa_nil) sc_nil)) (sc_v se_int sc_nil))))) (sw_or (st_not (st_tru (se_call (ok__law_same T 6) (hr.mono (by decide)) tk (sc_v (se_call (ok_worth T) (hr.mono (by decide)) tk (sc_v (se_tup sa_nil) sc_nil)) (sc_v se_int sc_nil))))) (sw_or1 (st_not (st_tru (se_call (ok__law_same T 6) (hr.mono (by decide)) tk (sc_v (se_call (ok_worth T) (hr.mono (by decide)) tk (sc_v (se_lst (sa_cons (se_tup (sa_cons se_int (sa_cons se_int (sa_cons se_int sa_nil)))) sa_nil)) sc_nil)) (sc_v se_int sc_nil)))))))).st (sss_one (ss_ret se_bl)) sss_nil)
  (sss_one (ss_ret (se_and (se_call (ok__law_same T 6) (hr.mono (by decide)) tk (sc_v (se_call (ok_worth T) (hr.mono (by decide)) tk (sc_v (se_lst (sa_cons (se_tup (sa_cons se_int (sa_cons se_int (sa_cons se_int sa_nil)))) (sa_cons (se_tup (sa_cons se_int (sa_cons (se_neg se_int) (sa_cons se_int sa_nil)))) sa_nil))) sc_nil)) (sc_v se_int sc_nil))) (se_one (se_call (ok__law_same T 6) (hr.mono (by decide)) tk (sc_v (se_call (ok_worth T) (hr.mono (by decide)) tk (sc_v (se_lst (sa_cons (se_tup (sa_cons se_int (sa_cons se_int (sa_cons se_int sa_nil)))) sa_nil)) sc_nil)) (sc_v se_int sc_nil)))))))))))))))))))))))
end K06
namespace K06
open PySem PySem.Spec PyProof.Rows L2 Pu
set_option autoImplicit false
def dD (x : Str) (i : Nat) : He.DefD := ⟨(x, none), x, x, defArgs (top i), defBody (top i), defScope (top i), [], []⟩
def fn0 : List He.DefD := [dD "inner" 5, dD "crossed" 6, dD "common_factor" 7, dD "determinant" 8, dD "is_free" 9, dD "basis_of" 10, dD "rank_of" 11, dD "worth_of" 12, dD "vectors_in" 14, dD "alike_vectors" 15]
def fn1 : List He.DefD := [dD "rank" 17, dD "worth" 18, dD "_law_bag" 20, dD "_law_take" 21, dD "_law_entry" 22, dD "_law_vec" 23, dD "_law_unit" 24, dD "_law_same" 25, dD "_law_gcd" 26, dD "_law_dot" 27]
def fn2 : List He.DefD := [dD "_law_plus" 28, dD "_law_fold" 29, dD "_law_up" 30, dD "_law_square" 31, dD "_law_rank" 32, dD "_law_det" 33, dD "_law_lead" 34, dD "_law_worth" 35, dD "_law_ones" 36, dD "_law_inside" 37]
def fn3 : List He.DefD := [dD "_law_count" 38, dD "_law_drawn" 39, dD "law" 40]
def fn : List He.DefD := fn0 ++ fn1 ++ fn2 ++ fn3
def fa0 : List He.Fa := [.glo "inner", .glo "crossed", .glo "common_factor", .glo "determinant", .glo "is_free", .glo "basis_of", .glo "rank_of", .glo "worth_of", .glo "vectors_in", .glo "alike_vectors"]
def fa1 : List He.Fa := [.glo "rank", .glo "worth", .glo "_law_bag", .glo "_law_take", .glo "_law_entry", .glo "_law_vec", .glo "_law_unit", .glo "_law_same", .glo "_law_gcd", .glo "_law_dot"]
def fa2 : List He.Fa := [.glo "_law_plus", .glo "_law_fold", .glo "_law_up", .glo "_law_square", .glo "_law_rank", .glo "_law_det", .glo "_law_lead", .glo "_law_worth", .glo "_law_ones", .glo "_law_inside"]
def fa3 : List He.Fa := [.glo "_law_count", .glo "_law_drawn", .glo "law", .free "abs", .free "all", .free "any", .free "bool", .free "int", .free "isinstance", .free "len"]
def fa4 : List He.Fa := [.free "list", .free "max", .free "min", .free "range", .free "str", .free "sum", .free "tuple"]
def fa : List He.Fa := fa0 ++ fa1 ++ fa2 ++ fa3 ++ fa4
def loose0 : List PySem.Str := ["EdgeError", "Unlike", "inner", "crossed", "common_factor", "determinant", "is_free", "basis_of", "rank_of", "worth_of"]
def loose1 : List PySem.Str := ["vectors_in", "alike_vectors", "rank", "worth", "_law_bag", "_law_take", "_law_entry", "_law_vec", "_law_unit", "_law_same"]
def loose2 : List PySem.Str := ["_law_gcd", "_law_dot", "_law_plus", "_law_fold", "_law_up", "_law_square", "_law_rank", "_law_det", "_law_lead", "_law_worth"]
def loose3 : List PySem.Str := ["_law_ones", "_law_inside", "_law_count", "_law_drawn"]
def loose : List PySem.Str := loose0 ++ loose1 ++ loose2 ++ loose3
def ex : PySem.W.Frag → Bool := fun K => He.eqO (PySem.W.nsIn K mainGlobals "gcd") (some (some (.builtin "math.gcd")))
abbrev RR : PySem.W.OpenRow := PySem.W.OpenLaw.row ROW
abbrev hk : PySem.W.Hook := He.hookX 4 fa fn [] [] ex
def ob (s : PySem.W.SharedT) : He.AlX := He.obsX 4 fa fn [] [] ex (HandSHeadRun.getT s)
theorem ob_eq (s : PySem.W.SharedT) : ob s = hk.obs s.abs := He.obsX_eq (HandSHeadRun.getT_eq s)
theorem run (w : World) : HandSHeadRun.RunEqI RR (PySem.W.view RR.prog [0, 40]) hk ob 4000 loose w := by
  unfold HandSHeadRun.RunEqI
  kernel_rfl
theorem txt_of {w : World} {K : PySem.W.Frag} {h : Heap} {mg : Str → Option Value} (X : K.In h) (G : h.Ns mainGlobals mg) (c : He.SaysX fa fn [] [] ex w h K) : Txt K mg where
  f_inner := let ⟨fd, F⟩ := c.t.d.def_ 0 (d := dD "inner" 5) rfl; ⟨⟨_, fd, F, He.glo_ok X G (c.t.d.fact 0 (f := .glo "inner") rfl)⟩⟩
  f_crossed := let ⟨fd, F⟩ := c.t.d.def_ 1 (d := dD "crossed" 6) rfl; ⟨⟨_, fd, F, He.glo_ok X G (c.t.d.fact 1 (f := .glo "crossed") rfl)⟩⟩
  f_common_factor := let ⟨fd, F⟩ := c.t.d.def_ 2 (d := dD "common_factor" 7) rfl; ⟨⟨_, fd, F, He.glo_ok X G (c.t.d.fact 2 (f := .glo "common_factor") rfl)⟩⟩
  f_determinant := let ⟨fd, F⟩ := c.t.d.def_ 3 (d := dD "determinant" 8) rfl; ⟨⟨_, fd, F, He.glo_ok X G (c.t.d.fact 3 (f := .glo "determinant") rfl)⟩⟩
  f_is_free := let ⟨fd, F⟩ := c.t.d.def_ 4 (d := dD "is_free" 9) rfl; ⟨⟨_, fd, F, He.glo_ok X G (c.t.d.fact 4 (f := .glo "is_free") rfl)⟩⟩
  f_basis_of := let ⟨fd, F⟩ := c.t.d.def_ 5 (d := dD "basis_of" 10) rfl; ⟨⟨_, fd, F, He.glo_ok X G (c.t.d.fact 5 (f := .glo "basis_of") rfl)⟩⟩
  f_rank_of := let ⟨fd, F⟩ := c.t.d.def_ 6 (d := dD "rank_of" 11) rfl; ⟨⟨_, fd, F, He.glo_ok X G (c.t.d.fact 6 (f := .glo "rank_of") rfl)⟩⟩
  f_worth_of := let ⟨fd, F⟩ := c.t.d.def_ 7 (d := dD "worth_of" 12) rfl; ⟨⟨_, fd, F, He.glo_ok X G (c.t.d.fact 7 (f := .glo "worth_of") rfl)⟩⟩
  f_vectors_in := let ⟨fd, F⟩ := c.t.d.def_ 8 (d := dD "vectors_in" 14) rfl; ⟨⟨_, fd, F, He.glo_ok X G (c.t.d.fact 8 (f := .glo "vectors_in") rfl)⟩⟩
  f_alike_vectors := let ⟨fd, F⟩ := c.t.d.def_ 9 (d := dD "alike_vectors" 15) rfl; ⟨⟨_, fd, F, He.glo_ok X G (c.t.d.fact 9 (f := .glo "alike_vectors") rfl)⟩⟩
  f_rank := let ⟨fd, F⟩ := c.t.d.def_ 10 (d := dD "rank" 17) rfl; ⟨⟨_, fd, F, He.glo_ok X G (c.t.d.fact 10 (f := .glo "rank") rfl)⟩⟩
  f_worth := let ⟨fd, F⟩ := c.t.d.def_ 11 (d := dD "worth" 18) rfl; ⟨⟨_, fd, F, He.glo_ok X G (c.t.d.fact 11 (f := .glo "worth") rfl)⟩⟩
  f__law_bag := let ⟨fd, F⟩ := c.t.d.def_ 12 (d := dD "_law_bag" 20) rfl; ⟨⟨_, fd, F, He.glo_ok X G (c.t.d.fact 12 (f := .glo "_law_bag") rfl)⟩⟩
  f__law_take := let ⟨fd, F⟩ := c.t.d.def_ 13 (d := dD "_law_take" 21) rfl; ⟨⟨_, fd, F, He.glo_ok X G (c.t.d.fact 13 (f := .glo "_law_take") rfl)⟩⟩
  f__law_entry := let ⟨fd, F⟩ := c.t.d.def_ 14 (d := dD "_law_entry" 22) rfl; ⟨⟨_, fd, F, He.glo_ok X G (c.t.d.fact 14 (f := .glo "_law_entry") rfl)⟩⟩
  f__law_vec := let ⟨fd, F⟩ := c.t.d.def_ 15 (d := dD "_law_vec" 23) rfl; ⟨⟨_, fd, F, He.glo_ok X G (c.t.d.fact 15 (f := .glo "_law_vec") rfl)⟩⟩
  f__law_unit := let ⟨fd, F⟩ := c.t.d.def_ 16 (d := dD "_law_unit" 24) rfl; ⟨⟨_, fd, F, He.glo_ok X G (c.t.d.fact 16 (f := .glo "_law_unit") rfl)⟩⟩
  f__law_same := let ⟨fd, F⟩ := c.t.d.def_ 17 (d := dD "_law_same" 25) rfl; ⟨⟨_, fd, F, He.glo_ok X G (c.t.d.fact 17 (f := .glo "_law_same") rfl)⟩⟩
  f__law_gcd := let ⟨fd, F⟩ := c.t.d.def_ 18 (d := dD "_law_gcd" 26) rfl; ⟨⟨_, fd, F, He.glo_ok X G (c.t.d.fact 18 (f := .glo "_law_gcd") rfl)⟩⟩
  f__law_dot := let ⟨fd, F⟩ := c.t.d.def_ 19 (d := dD "_law_dot" 27) rfl; ⟨⟨_, fd, F, He.glo_ok X G (c.t.d.fact 19 (f := .glo "_law_dot") rfl)⟩⟩
  f__law_plus := let ⟨fd, F⟩ := c.t.d.def_ 20 (d := dD "_law_plus" 28) rfl; ⟨⟨_, fd, F, He.glo_ok X G (c.t.d.fact 20 (f := .glo "_law_plus") rfl)⟩⟩
  f__law_fold := let ⟨fd, F⟩ := c.t.d.def_ 21 (d := dD "_law_fold" 29) rfl; ⟨⟨_, fd, F, He.glo_ok X G (c.t.d.fact 21 (f := .glo "_law_fold") rfl)⟩⟩
  f__law_up := let ⟨fd, F⟩ := c.t.d.def_ 22 (d := dD "_law_up" 30) rfl; ⟨⟨_, fd, F, He.glo_ok X G (c.t.d.fact 22 (f := .glo "_law_up") rfl)⟩⟩
  f__law_square := let ⟨fd, F⟩ := c.t.d.def_ 23 (d := dD "_law_square" 31) rfl; ⟨⟨_, fd, F, He.glo_ok X G (c.t.d.fact 23 (f := .glo "_law_square") rfl)⟩⟩
  f__law_rank := let ⟨fd, F⟩ := c.t.d.def_ 24 (d := dD "_law_rank" 32) rfl; ⟨⟨_, fd, F, He.glo_ok X G (c.t.d.fact 24 (f := .glo "_law_rank") rfl)⟩⟩
  f__law_det := let ⟨fd, F⟩ := c.t.d.def_ 25 (d := dD "_law_det" 33) rfl; ⟨⟨_, fd, F, He.glo_ok X G (c.t.d.fact 25 (f := .glo "_law_det") rfl)⟩⟩
  f__law_lead := let ⟨fd, F⟩ := c.t.d.def_ 26 (d := dD "_law_lead" 34) rfl; ⟨⟨_, fd, F, He.glo_ok X G (c.t.d.fact 26 (f := .glo "_law_lead") rfl)⟩⟩
  f__law_worth := let ⟨fd, F⟩ := c.t.d.def_ 27 (d := dD "_law_worth" 35) rfl; ⟨⟨_, fd, F, He.glo_ok X G (c.t.d.fact 27 (f := .glo "_law_worth") rfl)⟩⟩
  f__law_ones := let ⟨fd, F⟩ := c.t.d.def_ 28 (d := dD "_law_ones" 36) rfl; ⟨⟨_, fd, F, He.glo_ok X G (c.t.d.fact 28 (f := .glo "_law_ones") rfl)⟩⟩
  f__law_inside := let ⟨fd, F⟩ := c.t.d.def_ 29 (d := dD "_law_inside" 37) rfl; ⟨⟨_, fd, F, He.glo_ok X G (c.t.d.fact 29 (f := .glo "_law_inside") rfl)⟩⟩
  f__law_count := let ⟨fd, F⟩ := c.t.d.def_ 30 (d := dD "_law_count" 38) rfl; ⟨⟨_, fd, F, He.glo_ok X G (c.t.d.fact 30 (f := .glo "_law_count") rfl)⟩⟩
  f__law_drawn := let ⟨fd, F⟩ := c.t.d.def_ 31 (d := dD "_law_drawn" 39) rfl; ⟨⟨_, fd, F, He.glo_ok X G (c.t.d.fact 31 (f := .glo "_law_drawn") rfl)⟩⟩
  f_law := let ⟨fd, F⟩ := c.t.d.def_ 32 (d := dD "law" 40) rfl; ⟨⟨_, fd, F, He.glo_ok X G (c.t.d.fact 32 (f := .glo "law") rfl)⟩⟩
  n_abs := He.free_ok X G (c.t.d.fact 33 (f := .free "abs") rfl)
  n_all := He.free_ok X G (c.t.d.fact 34 (f := .free "all") rfl)
  n_any := He.free_ok X G (c.t.d.fact 35 (f := .free "any") rfl)
  n_bool := He.free_ok X G (c.t.d.fact 36 (f := .free "bool") rfl)
  n_int := He.free_ok X G (c.t.d.fact 37 (f := .free "int") rfl)
  n_isinstance := He.free_ok X G (c.t.d.fact 38 (f := .free "isinstance") rfl)
  n_len := He.free_ok X G (c.t.d.fact 39 (f := .free "len") rfl)
  n_list := He.free_ok X G (c.t.d.fact 40 (f := .free "list") rfl)
  n_max := He.free_ok X G (c.t.d.fact 41 (f := .free "max") rfl)
  n_min := He.free_ok X G (c.t.d.fact 42 (f := .free "min") rfl)
  n_range := He.free_ok X G (c.t.d.fact 43 (f := .free "range") rfl)
  n_str := He.free_ok X G (c.t.d.fact 44 (f := .free "str") rfl)
  n_sum := He.free_ok X G (c.t.d.fact 45 (f := .free "sum") rfl)
  n_tuple := He.free_ok X G (c.t.d.fact 46 (f := .free "tuple") rfl)
  n_gcd := PySem.W.mg_of X G (He.eqO_ok c.more)
theorem law_fn {P : Program} {w : World} {K : PySem.W.Frag} {mg : Str → Option Value} {base : Heap} {f : Addr} {fd : FuncData} (T : Txt K mg) (F : FunD K "law" "law" (defArgs (top 40)) (defBody (top 40)) (defScope (top 40)) [] [] f fd) :
    FnOk P w K mg base L2.CX0 8 f fd ["script"] (fun vs H Q _ => spDen K 1 d_law vs H Q fun _ _ _ => False) := fn_calm (fnOk_of F sc_law (by decide) (ok_law T))
theorem law_bind {K : PySem.W.Frag} {f : Addr} {fd : FuncData} (F : FunD K "law" "law" (defArgs (top 40)) (defBody (top 40)) (defScope (top 40)) [] [] f fd) (s : Shared) (u : Value) : BindsTo s fd ⟨[u], []⟩ [("script", u)] :=
  FunD.bindsA (ps := ["script"]) F (fun _ _ _ _ _ _ us hl => match us, hl with | [_], _ => rfl) s [u] rfl
theorem law_spw (hl : ∀ ns : List Int, ns.length ≤ 63 → ∃ o, d_law [.sh (.scr ns)] = .ok (.bl true) o) {K : PySem.W.Frag} (H : Hp) (a : Addr) (ns : List Int) (hlen : ns.length ≤ 63) (hS : SqL K H a (ns.map V.int)) : spDen K 1 d_law [.ref a] H (fun v _ => v = .bl true) fun _ _ _ => False := law_sp hS (hl ns hlen)
theorem law_name : (HandSHeadRun.topDef (PySem.W.OpenLaw.row ROW).prog 40).name = ("law" : PySem.Str) := by kernel_rfl
theorem law_dfl : (HandSHeadRun.topDef (PySem.W.OpenLaw.row ROW).prog 40).params.defaults = [] := by kernel_rfl
theorem law_get {K : PySem.W.Frag} {mg : Str → Option Value} {f : Addr} (T : Txt K mg) (h : mg ("law" : PySem.Str) = some (.ref f)) : ∃ fd, FunD K "law" "law" (defArgs (top 40)) (defBody (top 40)) (defScope (top 40)) [] [] f fd := by
  obtain ⟨⟨g, fd, F, hf⟩⟩ := T.f_law
  have e := hf.symm.trans h
  injection e with e
  injection e with e
  subst e
  exact ⟨fd, F⟩
theorem law_most : ROW.most = some 63 := rfl
theorem law_room : Room 8 callerA := ⟨rfl, by decide, by decide⟩

theorem holds_of (hl : ∀ ns : List Int, ns.length ≤ 63 → ∃ o, d_law [.sh (.scr ns)] = .ok (.bl true) o) : ROW.Holds := by
  open PySem PySem.W PySem.Calls PyProof.Rows in
  w_on; o_law
  refine HandSHeadRun.head_imp (r := OpenLaw.row ROW) (q := view (OpenLaw.row ROW).prog [0, 40]) (H := hk) (ob := ob) (M := 4000) (loose := loose) (d := HandSHeadRun.topDef (OpenLaw.row ROW).prog 40) (kwd := []) ob_eq
    run (by kernel_rfl) (by kernel_rfl) (by kernel_rfl) (by rfl) (by first | assumption | decide +kernel) (by decide +kernel) ⟨rfl, rfl, rfl, rfl, rfl, by decide +kernel⟩ ?hw ?hc
  case hw => w_witness2
  case hc =>
    refine L2.walk_ofE (l := ROW) (n := 63) (k := 8) (x := "script") (CX := L2.CX0) law_most (by decide) law_dfl law_room ?F (fun _ _ _ _ z => z)
    intro w mg fa' h Y G hmg0
    obtain ⟨K, KX, c⟩ := Y
    have T := txt_of KX G c
    obtain ⟨fd, F⟩ := law_get T ((congrArg mg law_name).symm.trans hmg0)
    exact ⟨K, fd, fun vs H Q _ => spDen K 1 d_law vs H Q fun _ _ _ => False, KX, law_bind F, fun H a ns hlen _ hS => law_spw hl H a ns hlen hS, fun base _ _ => law_fn T F⟩
end K06
/-! Plain math of k06: whole points in half-open boxes spanned by whole vectors. No program in sight. -/
namespace K06
set_option autoImplicit false
@[ext] structure P where
  x : Int
  y : Int
  z : Int
deriving DecidableEq
def dot (u v : P) : Int := u.x * v.x + u.y * v.y + u.z * v.z
def cross (u v : P) : P := ⟨u.y * v.z - u.z * v.y, u.z * v.x - u.x * v.z, u.x * v.y - u.y * v.x⟩
def det (u v w : P) : Int := dot u (cross v w)
def g3 (u : P) : Int := ((Nat.gcd u.x.natAbs (Nat.gcd u.y.natAbs u.z.natAbs) : Nat) : Int)
def zero : P := ⟨0, 0, 0⟩
def smul (n : Int) (u : P) : P := ⟨n * u.x, n * u.y, n * u.z⟩
def add (u v : P) : P := ⟨u.x + v.x, u.y + v.y, u.z + v.z⟩
/-- the worth -/
def wo : List P → Int
  | [] => 1
  | [u] => g3 u
  | [u, v] => g3 (cross u v)
  | [u, v, w] => (det u v w).natAbs
  | _ => 0
/-- a table -/
structure M where
  a : P
  b : P
  c : P
def M.ap (m : M) (v : P) : P := ⟨dot m.a v, dot m.b v, dot m.c v⟩
def M.det (m : M) : Int := K06.det m.a m.b m.c
/-- the rows of the table of minors (turned: the inverse times det) -/
def M.cof (m : M) : M := ⟨cross m.b m.c, cross m.c m.a, cross m.a m.b⟩
def M.tr (m : M) : M := ⟨⟨m.a.x, m.b.x, m.c.x⟩, ⟨m.a.y, m.b.y, m.c.y⟩, ⟨m.a.z, m.b.z, m.c.z⟩⟩
theorem adj_ap (m : M) (v : P) : m.cof.tr.ap (m.ap v) = smul m.det v := by
  simp only [M.cof, M.tr, M.ap, M.det, det, dot, cross, smul]
  ext <;> dsimp only <;> grind
theorem ap_adj (m : M) (v : P) : m.ap (m.cof.tr.ap v) = smul m.det v := by
  simp only [M.cof, M.tr, M.ap, M.det, det, dot, cross, smul]
  ext <;> dsimp only <;> grind
theorem cross_ap (m : M) (u v : P) : cross (m.ap u) (m.ap v) = m.cof.ap (cross u v) := by
  simp only [M.cof, M.ap, dot, cross]
  ext <;> dsimp only <;> grind
theorem det_ap (m : M) (u v w : P) : det (m.ap u) (m.ap v) (m.ap w) = m.det * det u v w := by
  simp only [M.det, det, M.ap, dot, cross]
  grind
theorem det_cof (m : M) : m.cof.det = m.det * m.det := by
  simp only [M.det, M.cof, det, dot, cross]
  grind
theorem det_tr (m : M) : m.tr.det = m.det := by
  simp only [M.det, M.tr, det, dot, cross]
  grind
def One (m : M) : Prop := m.det = 1 ∨ m.det = -1
theorem One.cof {m : M} (h : One m) : One m.cof := by
  unfold One; rw [det_cof]; rcases h with h | h <;> (rw [h]; exact .inl rfl)
theorem One.tr {m : M} (h : One m) : One m.tr := by
  unfold One; rw [det_tr]; exact h
/-! ### gcd of three -/
theorem dvd_g3 {d : Int} {u : P} : d ∣ g3 u ↔ d ∣ u.x ∧ d ∣ u.y ∧ d ∣ u.z := by
  unfold g3
  rw [← Int.natAbs_dvd_natAbs, Int.natAbs_natCast, Nat.dvd_gcd_iff, Nat.dvd_gcd_iff, Int.natAbs_dvd_natAbs, Int.natAbs_dvd_natAbs, Int.natAbs_dvd_natAbs]
theorem g3_nonneg (u : P) : 0 ≤ g3 u := Int.natCast_nonneg _
theorem dvd_ap {d : Int} {m : M} {v : P} (h : d ∣ g3 v) : d ∣ g3 (m.ap v) := by
  obtain ⟨⟨a, ha⟩, ⟨b, hb⟩, ⟨c, hc⟩⟩ := dvd_g3.mp h
  refine dvd_g3.mpr ⟨⟨m.a.x * a + m.a.y * b + m.a.z * c, ?_⟩, ⟨m.b.x * a + m.b.y * b + m.b.z * c, ?_⟩, ⟨m.c.x * a + m.c.y * b + m.c.z * c, ?_⟩⟩ <;>
    (simp only [M.ap, dot, ha, hb, hc]; grind)
theorem g3_smul1 {d : Int} {v : P} (h : d = 1 ∨ d = -1) : g3 (smul d v) = g3 v := by
  rcases h with rfl | rfl <;> simp [g3, smul]
theorem g3_ap {m : M} (h : One m) (v : P) : g3 (m.ap v) = g3 v := by
  apply Int.dvd_antisymm (g3_nonneg _) (g3_nonneg _)
  · have := dvd_ap (m := m.cof.tr) (v := m.ap v) (Int.dvd_refl _)
    rwa [adj_ap, g3_smul1 h] at this
  · exact dvd_ap (Int.dvd_refl _)
/-- a table of determinant 1 or -1 changes no worth -/
theorem wo_ap {m : M} (h : One m) : ∀ vs : List P, wo (vs.map m.ap) = wo vs
  | [] => rfl
  | [u] => g3_ap h u
  | [u, v] => by show g3 (cross (m.ap u) (m.ap v)) = _; rw [cross_ap, g3_ap h.cof]; rfl
  | [u, v, w] => by
    show ((det (m.ap u) (m.ap v) (m.ap w)).natAbs : Int) = ((det u v w).natAbs : Int)
    rw [det_ap, Int.natAbs_mul]
    rcases h with h | h <;> rw [h] <;> simp
  | _ :: _ :: _ :: _ :: _ => rfl
/-! ### inside -/
def comb : List Int → List P → P
  | k :: ks, v :: vs => add (smul k v) (comb ks vs)
  | _, _ => zero
/-- a sum of multiples with factors from 0 to less than 1 -/
def In (vs : List P) (p : P) : Prop := ∃ (m : Int) (ks : List Int), 0 < m ∧ ks.length = vs.length ∧ (∀ k ∈ ks, 0 ≤ k ∧ k < m) ∧ smul m p = comb ks vs
theorem ap_zero (m : M) : m.ap zero = zero := by simp [M.ap, dot, zero]
theorem ap_add (m : M) (u v : P) : m.ap (add u v) = add (m.ap u) (m.ap v) := by
  simp only [M.ap, dot, add]; ext <;> dsimp only <;> grind
theorem ap_smul (m : M) (k : Int) (u : P) : m.ap (smul k u) = smul k (m.ap u) := by
  simp only [M.ap, dot, smul]; ext <;> dsimp only <;> grind
theorem ap_comb (m : M) : ∀ (ks : List Int) (vs : List P), m.ap (comb ks vs) = comb ks (vs.map m.ap)
  | [], vs => ap_zero m
  | k :: ks, [] => ap_zero m
  | k :: ks, v :: vs => by
    show m.ap (add (smul k v) (comb ks vs)) = add (smul k (m.ap v)) (comb ks (vs.map m.ap))
    rw [ap_add, ap_smul, ap_comb m ks vs]
theorem In.ap (m : M) {vs : List P} {p : P} (h : In vs p) : In (vs.map m.ap) (m.ap p) := by
  obtain ⟨n, ks, h1, h2, h3, h4⟩ := h
  exact ⟨n, ks, h1, by simpa using h2, h3, by rw [← ap_smul, h4, ap_comb]⟩
/-- the inverse of a table of determinant 1 or -1 -/
def M.sc (d : Int) (m : M) : M := ⟨smul d m.a, smul d m.b, smul d m.c⟩
def M.inv (m : M) : M := m.cof.tr.sc m.det
theorem sc_ap (d : Int) (m : M) (v : P) : (m.sc d).ap v = smul d (m.ap v) := by
  simp only [M.sc, M.ap, dot, smul]; ext <;> dsimp only <;> grind
theorem smul_smul (a b : Int) (v : P) : smul a (smul b v) = smul (a * b) v := by
  simp only [smul]; ext <;> dsimp only <;> grind
theorem smul_one (v : P) : smul 1 v = v := by simp [smul]
theorem One.sq {m : M} (h : One m) : m.det * m.det = 1 := by rcases h with h | h <;> rw [h] <;> rfl
theorem inv_ap {m : M} (h : One m) (v : P) : m.inv.ap (m.ap v) = v := by
  unfold M.inv; rw [sc_ap, adj_ap, smul_smul, h.sq, smul_one]
theorem ap_inv {m : M} (h : One m) (v : P) : m.ap (m.inv.ap v) = v := by
  unfold M.inv; rw [sc_ap, ap_smul, ap_adj, smul_smul, h.sq, smul_one]
theorem map_inv {m : M} (h : One m) (vs : List P) : (vs.map m.ap).map m.inv.ap = vs := by
  rw [List.map_map]
  have : m.inv.ap ∘ m.ap = id := funext fun v => inv_ap h v
  rw [this, List.map_id]
theorem in_ap {m : M} (h : One m) {vs : List P} {p : P} : In (vs.map m.ap) (m.ap p) ↔ In vs p :=
  ⟨fun q => by have := q.ap m.inv; rwa [map_inv h, inv_ap h] at this, fun q => q.ap m⟩
/-! ### how many -/
def Card (I : P → Prop) (n : Nat) : Prop := ∃ L : List P, L.Nodup ∧ (∀ p, p ∈ L ↔ I p) ∧ L.length = n
theorem card_ap {m : M} (h : One m) {vs : List P} {n : Nat} (c : Card (In (vs.map m.ap)) n) : Card (In vs) n := by
  obtain ⟨L, h1, h2, h3⟩ := c
  refine ⟨L.map m.inv.ap, ?_, fun p => ?_, by simpa using h3⟩
  · refine List.Pairwise.map _ (fun a b hab e => hab ?_) h1
    have := congrArg m.ap e
    rwa [ap_inv h, ap_inv h] at this
  · rw [List.mem_map]
    constructor
    · rintro ⟨q, hq, rfl⟩
      have := ((h2 q).mp hq).ap m.inv
      rwa [map_inv h] at this
    · intro hp
      exact ⟨m.ap p, (h2 _).mpr (hp.ap m), inv_ap h p⟩
/-! ### to the stairs -/
/-- two numbers: one goes -/
theorem bez (n : Nat) : ∀ y z : Int, z.natAbs ≤ n → ∃ s t p q : Int, (s * q - t * p = 1 ∨ s * q - t * p = -1) ∧ p * y + q * z = 0 := by
  induction n with
  | zero =>
    intro y z h
    have : z = 0 := by omega
    subst this
    exact ⟨1, 0, 0, 1, .inl (by decide), by simp⟩
  | succ n ih =>
    intro y z h
    by_cases hz : z = 0
    · subst hz
      exact ⟨1, 0, 0, 1, .inl (by decide), by simp⟩
    · obtain ⟨s, t, p, q, h1, h2⟩ := ih z (y % z) (by
        have a1 := Int.emod_nonneg y hz
        have a2 := Int.emod_lt y hz
        omega)
      refine ⟨t, s - t * (y / z), q, p - q * (y / z), ?_, ?_⟩
      · rcases h1 with h1 | h1
        · right; grind
        · left; grind
      · have e := Int.emod_def y z
        rw [e] at h2
        grind
def Good (vs : List P) : Prop := Card (In vs) (wo vs).natAbs
theorem good_ap {m : M} (h : One m) {vs : List P} (g : Good (vs.map m.ap)) : Good vs := by
  unfold Good at g ⊢
  rw [wo_ap h] at g
  exact card_ap h g
theorem card_congr {I I' : P → Prop} {n n' : Nat} (h : ∀ p, I p ↔ I' p) (e : n = n') (c : Card I n) : Card I' n' := by
  obtain ⟨L, h1, h2, h3⟩ := c
  exact ⟨L, h1, fun p => (h2 p).trans (h p), h3.trans e⟩
/-- whole numbers from T/g on -/
theorem steps {g T x : Int} {n : Nat} (hg : 0 < g) : (T ≤ g * x ∧ g * x < T + n * g) ↔ (-((-T) / g) ≤ x ∧ x < -((-T) / g) + n) := by
  have e := Int.mul_ediv_add_emod (-T) g
  have r0 := Int.emod_nonneg (-T) (by omega : g ≠ 0)
  have r1 := Int.emod_lt_of_pos (-T) hg
  generalize (-T) / g = q at *
  generalize (-T) % g = r at *
  have eT : T = -(g * q) - r := by omega
  subst eT
  have k : g * x + g * q = g * (x + q) := by grind
  have k2 : g * x + g * q - n * g = g * (x + q - n) := by grind
  constructor
  · rintro ⟨h1, h2⟩
    constructor
    · have : -g < g * (x + q) := by omega
      have : 0 ≤ x + q := by
        by_cases c : 0 ≤ x + q
        · exact c
        · have : g * (x + q) ≤ g * (-1) := Int.mul_le_mul_of_nonneg_left (by omega) (by omega)
          omega
      omega
    · have : g * (x + q - n) < 0 := by omega
      have : x + q - n < 0 := by
        by_cases c : 0 ≤ x + q - n
        · have := Int.mul_nonneg (Int.le_of_lt hg) c
          omega
        · omega
      omega
  · rintro ⟨h1, h2⟩
    constructor
    · have : 0 ≤ g * (x + q) := Int.mul_nonneg (Int.le_of_lt hg) (by omega)
      omega
    · have : g * (x + q - n) ≤ g * (-1) := Int.mul_le_mul_of_nonneg_left (by omega) (by omega)
      omega
def tri (a b c d e f : Int) : List P := [⟨a, 0, 0⟩, ⟨b, c, 0⟩, ⟨d, e, f⟩]
theorem in_tri {a b c d e f : Int} (ha : 0 < a) (hc : 0 < c) (hf : 0 < f) (p : P) : In (tri a b c d e f) p ↔
    (0 ≤ p.z ∧ p.z < f) ∧ (p.z * e ≤ f * p.y ∧ f * p.y < p.z * e + c * f) ∧ (b * f * p.y - (b * e - c * d) * p.z ≤ c * f * p.x ∧ c * f * p.x < b * f * p.y - (b * e - c * d) * p.z + a * (c * f)) := by
  obtain ⟨x, y, z⟩ := p
  have hcf : 0 < c * f := Int.mul_pos hc hf
  have hac : 0 < a * c := Int.mul_pos ha hc
  have haf : 0 < a * f := Int.mul_pos ha hf
  have hm : 0 < a * c * f := Int.mul_pos hac hf
  constructor
  · rintro ⟨m, ks, h1, h2, h3, h4⟩
    match ks, h2, h3, h4 with
    | [k1, k2, k3], _, h3, h4 =>
      have b1 := h3 k1 (by simp)
      have b2 := h3 k2 (by simp)
      have b3 := h3 k3 (by simp)
      simp only [tri, comb, smul, add, zero, P.mk.injEq] at h4
      obtain ⟨ex, ey, ez⟩ := h4
      have nn : ∀ {t u g : Int}, 0 < g → m * t = u * g → 0 ≤ u → 0 ≤ t := fun {t u g} hg e hu => by
        by_cases c : 0 ≤ t
        · exact c
        · have q1 : m * t ≤ m * (-1) := Int.mul_le_mul_of_nonneg_left (by omega) (by omega)
          have q2 := Int.mul_nonneg hu (Int.le_of_lt hg)
          omega
      have ll : ∀ {t u g : Int}, 0 < g → m * t = u * g → u < m → t < g := fun {t u g} hg e hu => by
        by_cases c : t < g
        · exact c
        · have q1 : m * g ≤ m * t := Int.mul_le_mul_of_nonneg_left (by omega) (by omega)
          have q2 := Int.mul_lt_mul_of_pos_right hu hg
          omega
      have z1 : m * z = k3 * f := by omega
      have y1 : m * (f * y - z * e) = k2 * (c * f) := by grind
      have x1 : m * (c * f * x - (b * f * y - (b * e - c * d) * z)) = k1 * (a * (c * f)) := by grind
      have hacf : 0 < a * (c * f) := Int.mul_pos ha hcf
      refine ⟨⟨nn hf z1 b3.1, ll hf z1 b3.2⟩, ⟨?_, ?_⟩, ⟨?_, ?_⟩⟩ <;> dsimp only
      · have := nn hcf y1 b2.1; omega
      · have := ll hcf y1 b2.2; omega
      · have := nn hacf x1 b1.1; omega
      · have := ll hacf x1 b1.2; omega
  · rintro ⟨⟨z0, z1⟩, ⟨y0, y1⟩, ⟨x0, x1⟩⟩
    dsimp only at z0 z1 y0 y1 x0 x1
    refine ⟨a * c * f, [c * f * x - (b * f * y - (b * e - c * d) * z), a * (f * y - z * e), a * c * z], hm, rfl, ?_, ?_⟩
    · have k : a * (c * f) = a * c * f := by grind
      intro k hk
      simp only [List.mem_cons, List.not_mem_nil, or_false] at hk
      rcases hk with rfl | rfl | rfl
      · omega
      · refine ⟨Int.mul_nonneg (by omega) (by omega), ?_⟩
        have := Int.mul_lt_mul_of_pos_left (show f * y - z * e < c * f by omega) ha
        omega
      · refine ⟨Int.mul_nonneg (by omega) z0, ?_⟩
        have := Int.mul_lt_mul_of_pos_left z1 hac
        omega
    · simp only [tri, comb, smul, add, zero, P.mk.injEq]
      refine ⟨?_, ?_, ?_⟩ <;> grind
/-- the points of the stairs -/
def triL (a : Nat) (b : Int) (c : Nat) (d e : Int) (f : Nat) : List P := (List.range f).flatMap fun (z : Nat) => (List.range c).flatMap fun (j : Nat) =>
  let y : Int := -((-((z : Int) * e)) / f) + (j : Int)
  (List.range a).map fun (i : Nat) => ⟨-((-(b * f * y - (b * e - c * d) * z)) / ((c : Int) * f)) + (i : Int), y, z⟩
theorem triL_len {a c f : Nat} {b d e : Int} : (triL a b c d e f).length = a * c * f := by
  have sc : ∀ {α : Type} (n : Nat) (l : List α), (l.map fun _ => n).sum = l.length * n := fun n l => by
    rw [List.map_const', List.sum_replicate_nat]
  unfold triL
  rw [List.length_flatMap]
  simp only [List.length_flatMap, List.length_map, List.length_range, sc]
  rw [Nat.mul_comm f, Nat.mul_comm c]
theorem triL_nodup {a c f : Nat} {b d e : Int} : (triL a b c d e f).Nodup := by
  unfold triL
  refine List.pairwise_flatMap.mpr ⟨fun z _ => List.pairwise_flatMap.mpr ⟨fun j _ => ?_, ?_⟩, ?_⟩
  · refine List.Pairwise.map _ (R := (· ≠ ·)) (fun i k h e => h ?_) List.nodup_range
    have := congrArg P.x e
    dsimp only at this
    omega
  · refine List.Pairwise.imp (R := (· ≠ ·)) (fun {j k} h p hp q hq e => h ?_) List.nodup_range
    simp only [List.mem_map] at hp hq
    obtain ⟨_, _, rfl⟩ := hp
    obtain ⟨_, _, rfl⟩ := hq
    have := congrArg P.y e
    dsimp only at this
    omega
  · refine List.Pairwise.imp (R := (· ≠ ·)) (fun {j k} h p hp q hq e => h ?_) List.nodup_range
    simp only [List.mem_flatMap, List.mem_map] at hp hq
    obtain ⟨_, _, _, _, rfl⟩ := hp
    obtain ⟨_, _, _, _, rfl⟩ := hq
    have := congrArg P.z e
    dsimp only at this
    omega
theorem mem_range_add {y0 y : Int} {n : Nat} : (∃ j, j ∈ List.range n ∧ y0 + (j : Int) = y) ↔ y0 ≤ y ∧ y < y0 + n := by
  constructor
  · rintro ⟨j, hj, rfl⟩
    have := List.mem_range.mp hj
    omega
  · rintro ⟨h1, h2⟩
    exact ⟨(y - y0).toNat, List.mem_range.mpr (by omega), by omega⟩
theorem good_tri {a b c d e f : Int} (ha : 0 < a) (hc : 0 < c) (hf : 0 < f) : Card (In (tri a b c d e f)) (a * c * f).natAbs := by
  obtain ⟨a, rfl⟩ := Int.eq_ofNat_of_zero_le (Int.le_of_lt ha)
  obtain ⟨c, rfl⟩ := Int.eq_ofNat_of_zero_le (Int.le_of_lt hc)
  obtain ⟨f, rfl⟩ := Int.eq_ofNat_of_zero_le (Int.le_of_lt hf)
  refine ⟨triL a b c d e f, triL_nodup, fun p => ?_, by rw [triL_len, ← Int.natCast_mul, ← Int.natCast_mul, Int.natAbs_natCast]⟩
  rw [in_tri ha hc hf, steps hf, steps (Int.mul_pos hc hf)]
  unfold triL
  simp only [List.mem_flatMap, List.mem_map]
  constructor
  · rintro ⟨z, hz, j, hj, i, hi, rfl⟩
    have hz := List.mem_range.mp hz
    have hj := List.mem_range.mp hj
    have hi := List.mem_range.mp hi
    refine ⟨⟨?_, ?_⟩, ⟨?_, ?_⟩, ⟨?_, ?_⟩⟩ <;> dsimp only <;> omega
  · obtain ⟨x, y, z⟩ := p
    rintro ⟨⟨z0, z1⟩, ⟨y0, y1⟩, ⟨x0, x1⟩⟩
    dsimp only at z0 z1 y0 y1 x0 x1
    obtain ⟨z, rfl⟩ := Int.eq_ofNat_of_zero_le z0
    obtain ⟨j, hj, ej⟩ := mem_range_add.mpr ⟨y0, y1⟩
    refine ⟨z, List.mem_range.mpr (by omega), j, hj, ?_⟩
    rw [ej]
    obtain ⟨i, hi, ei⟩ := mem_range_add.mpr ⟨x0, x1⟩
    exact ⟨i, hi, by rw [ei]⟩
theorem natAbs_sign {a : Int} (h : a ≠ 0) : ∃ s : Int, (s = 1 ∨ s = -1) ∧ 0 < s * a := by
  by_cases c : 0 < a
  · exact ⟨1, .inl rfl, by omega⟩
  · exact ⟨-1, .inr rfl, by omega⟩
theorem det_tri {a b c d e f : Int} : det ⟨a, 0, 0⟩ ⟨b, c, 0⟩ ⟨d, e, f⟩ = a * c * f := by
  simp only [det, dot, cross]; grind
theorem good_tri1 {a b c d e f : Int} (ha : a ≠ 0) (hc : c ≠ 0) (hf : f ≠ 0) : Good (tri a b c d e f) := by
  obtain ⟨s, hs, h1⟩ := natAbs_sign ha
  obtain ⟨t, ht, h2⟩ := natAbs_sign hc
  obtain ⟨u, hu, h3⟩ := natAbs_sign hf
  let m : M := ⟨⟨s, 0, 0⟩, ⟨0, t, 0⟩, ⟨0, 0, u⟩⟩
  have hm : One m := by
    show m.det = 1 ∨ m.det = -1
    have : m.det = s * t * u := det_tri
    rw [this]
    rcases hs with rfl | rfl <;> rcases ht with rfl | rfl <;> rcases hu with rfl | rfl <;> decide
  have e : (tri a b c d e f).map m.ap = tri (s * a) (s * b) (t * c) (s * d) (t * e) (u * f) := by
    simp only [tri, List.map_cons, List.map_nil, M.ap, dot, m, List.cons.injEq, P.mk.injEq, and_true]
    refine ⟨⟨?_, ?_, ?_⟩, ⟨?_, ?_, ?_⟩, ?_, ?_, ?_⟩ <;> grind
  refine good_ap hm ?_
  rw [e]
  unfold Good
  show Card _ ((det _ _ _).natAbs : Int).natAbs
  rw [det_tri, Int.natAbs_natCast]
  exact good_tri h1 h2 h3
def Myz (s t p q : Int) : M := ⟨⟨1, 0, 0⟩, ⟨0, s, t⟩, ⟨0, p, q⟩⟩
def Mxy (s t p q : Int) : M := ⟨⟨s, t, 0⟩, ⟨p, q, 0⟩, ⟨0, 0, 1⟩⟩
theorem myz_one {s t p q : Int} (h : s * q - t * p = 1 ∨ s * q - t * p = -1) : One (Myz s t p q) := by
  have : (Myz s t p q).det = s * q - t * p := by simp only [M.det, Myz, det, dot, cross]; grind
  unfold One; rw [this]; exact h
theorem mxy_one {s t p q : Int} (h : s * q - t * p = 1 ∨ s * q - t * p = -1) : One (Mxy s t p q) := by
  have : (Mxy s t p q).det = s * q - t * p := by simp only [M.det, Mxy, det, dot, cross]; grind
  unfold One; rw [this]; exact h
theorem good_col {v : P} {vs : List P} (h : ∀ (m : M), One m → ∀ a : Int, m.ap v = ⟨a, 0, 0⟩ → Good (⟨a, 0, 0⟩ :: vs.map m.ap)) : Good (v :: vs) := by
  obtain ⟨s, t, p, q, h1, h2⟩ := bez _ v.y v.z (Nat.le_refl _)
  obtain ⟨s', t', p', q', h1', h2'⟩ := bez _ v.x (s * v.y + t * v.z) (Nat.le_refl _)
  let m : M := ⟨⟨s', t' * s, t' * t⟩, ⟨p', q' * s, q' * t⟩, ⟨0, p, q⟩⟩
  have hd : m.det = (s' * q' - t' * p') * (s * q - t * p) := by
    simp only [m, M.det, det, dot, cross]; grind
  have hm : One m := by
    show m.det = 1 ∨ m.det = -1
    rw [hd]
    rcases h1 with h1 | h1 <;> rcases h1' with h1' | h1' <;> rw [h1, h1'] <;> decide
  have e : m.ap v = ⟨s' * v.x + t' * (s * v.y + t * v.z), 0, 0⟩ := by
    simp only [m, M.ap, dot, P.mk.injEq]
    refine ⟨?_, ?_, ?_⟩ <;> grind
  refine good_ap hm ?_
  show Good (m.ap v :: vs.map m.ap)
  rw [e]
  exact h m hm _ e
theorem good3 {v w u : P} (h : det v w u ≠ 0) : Good [v, w, u] := by
  refine good_col fun m hm a e => ?_
  show Good [⟨a, 0, 0⟩, m.ap w, m.ap u]
  have hd : det ⟨a, 0, 0⟩ (m.ap w) (m.ap u) ≠ 0 := by
    rw [← e, det_ap]
    exact Int.mul_ne_zero (by rcases hm with z | z <;> rw [z] <;> decide) h
  generalize m.ap w = w' at *
  generalize m.ap u = u' at *
  obtain ⟨s, t, p, q, h1, h2⟩ := bez _ w'.y w'.z (Nat.le_refl _)
  refine good_ap (myz_one h1) ?_
  have e1 : [⟨a, 0, 0⟩, w', u'].map (Myz s t p q).ap = tri a w'.x (s * w'.y + t * w'.z) u'.x (s * u'.y + t * u'.z) (p * u'.y + q * u'.z) := by
    simp only [tri, List.map_cons, List.map_nil, M.ap, dot, Myz, List.cons.injEq, P.mk.injEq, and_true]
    refine ⟨⟨?_, ?_, ?_⟩, ⟨?_, ?_, ?_⟩, ?_, ?_, ?_⟩ <;> grind
  have e2 : det ((Myz s t p q).ap ⟨a, 0, 0⟩) ((Myz s t p q).ap w') ((Myz s t p q).ap u') ≠ 0 := by
    rw [det_ap]
    exact Int.mul_ne_zero (by rcases myz_one h1 with z | z <;> rw [z] <;> decide) hd
  rw [e1]
  simp only [tri, List.map_cons, List.map_nil, List.cons.injEq, and_true] at e1
  rw [e1.1, e1.2.1, e1.2.2, det_tri] at e2
  refine good_tri1 ?_ ?_ ?_
  · intro z; rw [z] at e2; simp at e2
  · intro z; rw [z] at e2; simp at e2
  · intro z; rw [z] at e2; simp at e2
theorem in_low {ks : List Int} {m : Int} {n : Nat} (h : ks.length = n) (h2 : ∀ k ∈ ks, 0 ≤ k ∧ k < m) : True := trivial
theorem zero_of {m z k : Int} (hm : 0 < m) (h : m * z = k) (h0 : 0 ≤ k) (h1 : k < m) : z = 0 := by
  by_cases c : z = 0
  · exact c
  · by_cases c2 : 0 < z
    · have := Int.mul_le_mul_of_nonneg_left (show 1 ≤ z by omega) (Int.le_of_lt hm)
      omega
    · have := Int.mul_le_mul_of_nonneg_left (show z ≤ -1 by omega) (Int.le_of_lt hm)
      omega
theorem good2 {v w : P} (h : g3 (cross v w) ≠ 0) : Good [v, w] := by
  refine good_col fun m hm a e => ?_
  show Good [⟨a, 0, 0⟩, m.ap w]
  have hd : g3 (cross ⟨a, 0, 0⟩ (m.ap w)) ≠ 0 := by
    rw [← e, cross_ap, g3_ap hm.cof]
    exact h
  generalize m.ap w = w' at *
  obtain ⟨s, t, p, q, h1, h2⟩ := bez _ w'.y w'.z (Nat.le_refl _)
  refine good_ap (myz_one h1) ?_
  have e1 : [⟨a, 0, 0⟩, w'].map (Myz s t p q).ap = [⟨a, 0, 0⟩, ⟨w'.x, s * w'.y + t * w'.z, 0⟩] := by
    simp only [List.map_cons, List.map_nil, M.ap, dot, Myz, List.cons.injEq, P.mk.injEq, and_true]
    refine ⟨⟨?_, ?_, ?_⟩, ?_, ?_, ?_⟩ <;> grind
  have e2 : g3 (cross ((Myz s t p q).ap ⟨a, 0, 0⟩) ((Myz s t p q).ap w')) ≠ 0 := by
    rw [cross_ap, g3_ap (myz_one h1).cof]
    exact hd
  rw [e1]
  simp only [List.map_cons, List.map_nil, List.cons.injEq, and_true] at e1
  rw [e1.1, e1.2] at e2
  generalize s * w'.y + t * w'.z = c at *
  generalize w'.x = b at *
  have ew : g3 (cross ⟨a, 0, 0⟩ ⟨b, c, 0⟩) = ((a * c).natAbs : Int) := by
    simp [g3, cross]
  rw [ew] at e2
  have ha : a ≠ 0 := fun z => by rw [z] at e2; simp at e2
  have hc : c ≠ 0 := fun z => by rw [z] at e2; simp at e2
  refine card_congr (fun p => ?_) ?_ (good_tri1 (a := a) (b := b) (c := c) (d := 0) (e := 0) (f := 1) ha hc (by decide))
  · obtain ⟨x, y, z⟩ := p
    constructor
    · rintro ⟨m, ks, g1, g2, g3, g4⟩
      match ks, g2, g3, g4 with
      | [k1, k2, k3], _, g3, g4 =>
        simp only [tri, comb, smul, add, zero, P.mk.injEq] at g4
        have b3 := g3 k3 (by simp)
        have hz : z = 0 := zero_of g1 (by omega : m * z = k3) b3.1 b3.2
        refine ⟨m, [k1, k2], g1, rfl, fun k hk => g3 k (by simp only [List.mem_cons, List.not_mem_nil, or_false] at hk ⊢; omega), ?_⟩
        simp only [comb, smul, add, zero, P.mk.injEq]
        subst hz
        refine ⟨?_, ?_, ?_⟩ <;> omega
    · rintro ⟨m, ks, g1, g2, g3, g4⟩
      match ks, g2, g3, g4 with
      | [k1, k2], _, g3, g4 =>
        refine ⟨m, [k1, k2, 0], g1, rfl, fun k hk => ?_, ?_⟩
        · simp only [List.mem_cons, List.not_mem_nil, or_false] at hk
          rcases hk with rfl | rfl | rfl
          · exact g3 _ (by simp)
          · exact g3 _ (by simp)
          · omega
        · simp only [tri, comb, smul, add, zero, P.mk.injEq] at g4 ⊢
          refine ⟨?_, ?_, ?_⟩ <;> omega
  · show ((det _ _ _).natAbs : Int).natAbs = (g3 _).natAbs
    rw [det_tri, ew]
    simp
theorem good1 {v : P} (h : g3 v ≠ 0) : Good [v] := by
  refine good_col fun m hm a e => ?_
  show Good [⟨a, 0, 0⟩]
  have ew : g3 ⟨a, 0, 0⟩ = (a.natAbs : Int) := by simp [g3]
  have ha : a ≠ 0 := fun z => by
    have q : g3 (m.ap v) ≠ 0 := by rw [g3_ap hm]; exact h
    rw [e, ew, z] at q
    simp at q
  refine card_congr (fun p => ?_) ?_ (good_tri1 (a := a) (b := 0) (c := 1) (d := 0) (e := 0) (f := 1) ha (by decide) (by decide))
  · obtain ⟨x, y, z⟩ := p
    constructor
    · rintro ⟨m, ks, g1, g2, g3, g4⟩
      match ks, g2, g3, g4 with
      | [k1, k2, k3], _, g3, g4 =>
        simp only [tri, comb, smul, add, zero, P.mk.injEq] at g4
        have b3 := g3 k3 (by simp)
        have b2 := g3 k2 (by simp)
        have hz : z = 0 := zero_of g1 (by omega : m * z = k3) b3.1 b3.2
        have hy : y = 0 := zero_of g1 (by omega : m * y = k2) b2.1 b2.2
        refine ⟨m, [k1], g1, rfl, fun k hk => g3 k (by simp only [List.mem_cons, List.not_mem_nil, or_false] at hk ⊢; omega), ?_⟩
        simp only [comb, smul, add, zero, P.mk.injEq]
        subst hz hy
        refine ⟨?_, ?_, ?_⟩ <;> omega
    · rintro ⟨m, ks, g1, g2, g3, g4⟩
      match ks, g2, g3, g4 with
      | [k1], _, g3, g4 =>
        refine ⟨m, [k1, 0, 0], g1, rfl, fun k hk => ?_, ?_⟩
        · simp only [List.mem_cons, List.not_mem_nil, or_false] at hk
          rcases hk with rfl | rfl | rfl
          · exact g3 _ (by simp)
          · omega
          · omega
        · simp only [tri, comb, smul, add, zero, P.mk.injEq] at g4 ⊢
          refine ⟨?_, ?_, ?_⟩ <;> omega
  · show ((det _ _ _).natAbs : Int).natAbs = (g3 _).natAbs
    rw [det_tri, ew]
    simp
end K06
/-! Plain math of k06: the law's look at a point. -/
namespace K06
set_option autoImplicit false
theorem pos_of_mul {m t : Int} (hm : 0 < m) (h : 0 ≤ m * t) : 0 ≤ t := by
  by_cases c : 0 ≤ t
  · exact c
  · have := Int.mul_le_mul_of_nonneg_left (show t ≤ -1 by omega) (Int.le_of_lt hm)
    omega
theorem lt_of_mul {m t u : Int} (hm : 0 < m) (h : m * t < m * u) : t < u := Int.lt_of_mul_lt_mul_left h (Int.le_of_lt hm)
theorem zero_of_mul {m t : Int} (hm : 0 < m) (h : m * t = 0) : t = 0 := by
  rcases Int.mul_eq_zero.mp h with h | h
  · omega
  · exact h
theorem sq_nonneg (a : Int) : 0 ≤ a * a := by
  by_cases c : 0 ≤ a
  · exact Int.mul_nonneg c c
  · have := Int.mul_nonneg (show 0 ≤ -a by omega) (show 0 ≤ -a by omega)
    rwa [Int.neg_mul_neg] at this
theorem sq_pos {a : Int} (h : a ≠ 0) : 0 < a * a := by
  have := sq_nonneg a
  have q : a * a ≠ 0 := Int.mul_ne_zero h h
  omega
theorem dot_pos {v : P} (h : v ≠ zero) : 0 < dot v v := by
  obtain ⟨x, y, z⟩ := v
  have a := sq_nonneg x
  have b := sq_nonneg y
  have c := sq_nonneg z
  simp only [dot]
  simp only [zero, ne_eq, P.mk.injEq] at h
  by_cases hx : x = 0
  · by_cases hy : y = 0
    · have := sq_pos (show z ≠ 0 from fun e => h ⟨hx, hy, e⟩); omega
    · have := sq_pos hy; omega
  · have := sq_pos hx; omega
theorem ext_zero {v : P} : v = zero ↔ v.x = 0 ∧ v.y = 0 ∧ v.z = 0 := by
  obtain ⟨x, y, z⟩ := v
  simp [zero]
theorem in1 {v p : P} (h : v ≠ zero) : (cross v p = zero ∧ 0 ≤ dot v p ∧ dot v p < dot v v) ↔ In [v] p := by
  have hp := dot_pos h
  constructor
  · rintro ⟨h1, h2, h3⟩
    refine ⟨dot v v, [dot v p], hp, rfl, by simpa using ⟨h2, h3⟩, ?_⟩
    obtain ⟨e1, e2, e3⟩ := ext_zero.mp h1
    simp only [cross] at e1 e2 e3
    simp only [comb, smul, add, zero, dot, P.mk.injEq]
    refine ⟨?_, ?_, ?_⟩ <;> grind
  · rintro ⟨m, ks, g1, g2, g3, g4⟩
    match ks, g2, g3, g4 with
    | [k], _, g3, g4 =>
      have b := g3 k (by simp)
      simp only [comb, smul, add, zero, P.mk.injEq] at g4
      obtain ⟨ex, ey, ez⟩ := g4
      have c1 : m * (cross v p).x = 0 := by simp only [cross]; grind
      have c2 : m * (cross v p).y = 0 := by simp only [cross]; grind
      have c3 : m * (cross v p).z = 0 := by simp only [cross]; grind
      have d : m * dot v p = k * dot v v := by simp only [dot]; grind
      refine ⟨ext_zero.mpr ⟨zero_of_mul g1 c1, zero_of_mul g1 c2, zero_of_mul g1 c3⟩, pos_of_mul g1 ?_, lt_of_mul g1 ?_⟩
      · rw [d]; exact Int.mul_nonneg b.1 (Int.le_of_lt hp)
      · rw [d]; exact Int.mul_lt_mul_of_pos_right b.2 hp
theorem in2 {v w p : P} (h : cross v w ≠ zero) : (dot (cross v w) p = 0 ∧ (0 ≤ dot (cross p w) (cross v w) ∧ dot (cross p w) (cross v w) < dot (cross v w) (cross v w)) ∧ (0 ≤ dot (cross v p) (cross v w) ∧ dot (cross v p) (cross v w) < dot (cross v w) (cross v w))) ↔ In [v, w] p := by
  have hp := dot_pos h
  constructor
  · rintro ⟨h0, h1, h2⟩
    refine ⟨dot (cross v w) (cross v w), [dot (cross p w) (cross v w), dot (cross v p) (cross v w)], hp, rfl, ?_, ?_⟩
    · intro k hk
      simp only [List.mem_cons, List.not_mem_nil, or_false] at hk
      rcases hk with rfl | rfl
      · exact h1
      · exact h2
    · simp only [dot, cross] at h0
      simp only [comb, smul, add, zero, dot, cross, P.mk.injEq]
      refine ⟨?_, ?_, ?_⟩ <;> grind
  · rintro ⟨m, ks, g1, g2, g3, g4⟩
    match ks, g2, g3, g4 with
    | [k, l], _, g3, g4 =>
      have b := g3 k (by simp)
      have c := g3 l (by simp)
      simp only [comb, smul, add, zero, P.mk.injEq] at g4
      obtain ⟨ex, ey, ez⟩ := g4
      have d0 : m * dot (cross v w) p = 0 := by simp only [dot, cross]; grind
      have d1 : m * dot (cross p w) (cross v w) = k * dot (cross v w) (cross v w) := by simp only [dot, cross]; grind
      have d2 : m * dot (cross v p) (cross v w) = l * dot (cross v w) (cross v w) := by simp only [dot, cross]; grind
      refine ⟨zero_of_mul g1 d0, ⟨pos_of_mul g1 ?_, lt_of_mul g1 ?_⟩, ⟨pos_of_mul g1 ?_, lt_of_mul g1 ?_⟩⟩
      · rw [d1]; exact Int.mul_nonneg b.1 (Int.le_of_lt hp)
      · rw [d1]; exact Int.mul_lt_mul_of_pos_right b.2 hp
      · rw [d2]; exact Int.mul_nonneg c.1 (Int.le_of_lt hp)
      · rw [d2]; exact Int.mul_lt_mul_of_pos_right c.2 hp
theorem cr3 {m k l n : Int} {v w u p : P} (ex : m * p.x = k * v.x + (l * w.x + (n * u.x + 0))) (ey : m * p.y = k * v.y + (l * w.y + (n * u.y + 0))) (ez : m * p.z = k * v.z + (l * w.z + (n * u.z + 0))) :
    m * det p w u = k * det v w u ∧ m * det v p u = l * det v w u ∧ m * det v w p = n * det v w u := by
  obtain ⟨a, b, c⟩ := v
  obtain ⟨d, e, f⟩ := w
  obtain ⟨g, h, i⟩ := u
  obtain ⟨x, y, z⟩ := p
  simp only [det, dot, cross] at *
  have e1 : m * (x * (e * i - f * h) + y * (f * g - d * i) + z * (d * h - e * g)) = (m * x) * (e * i - f * h) + (m * y) * (f * g - d * i) + (m * z) * (d * h - e * g) := by grind
  have e2 : m * (a * (y * i - z * h) + b * (z * g - x * i) + c * (x * h - y * g)) = (m * x) * (c * h - b * i) + (m * y) * (a * i - c * g) + (m * z) * (b * g - a * h) := by grind
  have e3 : m * (a * (e * z - f * y) + b * (f * x - d * z) + c * (d * y - e * x)) = (m * x) * (b * f - c * e) + (m * y) * (c * d - a * f) + (m * z) * (a * e - b * d) := by grind
  rw [e1, e2, e3, ex, ey, ez]
  clear e1 e2 e3 ex ey ez
  refine ⟨?_, ?_, ?_⟩ <;> grind
theorem in3 {v w u p : P} {s : Int} (hs : s = 1 ∨ s = -1) (hp : 0 < s * det v w u) :
    ((0 ≤ s * det p w u ∧ s * det p w u < s * det v w u) ∧ (0 ≤ s * det v p u ∧ s * det v p u < s * det v w u) ∧ (0 ≤ s * det v w p ∧ s * det v w p < s * det v w u)) ↔ In [v, w, u] p := by
  constructor
  · rintro ⟨h0, h1, h2⟩
    refine ⟨s * det v w u, [s * det p w u, s * det v p u, s * det v w p], hp, rfl, ?_, ?_⟩
    · intro k hk
      simp only [List.mem_cons, List.not_mem_nil, or_false] at hk
      rcases hk with rfl | rfl | rfl
      · exact h0
      · exact h1
      · exact h2
    · simp only [comb, smul, add, zero, det, dot, cross, P.mk.injEq]
      refine ⟨?_, ?_, ?_⟩ <;> grind
  · rintro ⟨m, ks, g1, g2, g3, g4⟩
    match ks, g2, g3, g4 with
    | [k, l, n], _, g3, g4 =>
      have b := g3 k (by simp)
      have c := g3 l (by simp)
      have d := g3 n (by simp)
      simp only [comb, smul, add, zero, P.mk.injEq] at g4
      obtain ⟨ex, ey, ez⟩ := g4
      obtain ⟨f0, f1, f2⟩ := cr3 ex ey ez
      have mv : ∀ {X Y n : Int}, m * X = n * Y → m * (s * X) = n * (s * Y) := fun {X Y n} h => by
        rw [Int.mul_left_comm m s X, h, Int.mul_left_comm]
      have d0 := mv f0
      have d1 := mv f1
      have d2 := mv f2
      refine ⟨⟨pos_of_mul g1 ?_, lt_of_mul g1 ?_⟩, ⟨pos_of_mul g1 ?_, lt_of_mul g1 ?_⟩, ⟨pos_of_mul g1 ?_, lt_of_mul g1 ?_⟩⟩
      · rw [d0]; exact Int.mul_nonneg b.1 (Int.le_of_lt hp)
      · rw [d0]; exact Int.mul_lt_mul_of_pos_right b.2 hp
      · rw [d1]; exact Int.mul_nonneg c.1 (Int.le_of_lt hp)
      · rw [d1]; exact Int.mul_lt_mul_of_pos_right c.2 hp
      · rw [d2]; exact Int.mul_nonneg d.1 (Int.le_of_lt hp)
      · rw [d2]; exact Int.mul_lt_mul_of_pos_right d.2 hp
/-! ### the box around them -/
def lows (l : List Int) : Int := (l.map fun x => if x < 0 then x else 0).sum
def tops (l : List Int) : Int := (l.map fun x => if x > 0 then x else 0).sum
theorem comb_box (f : P → Int) (hf : ∀ u v, f (add u v) = f u + f v) (hs : ∀ k u, f (smul k u) = k * f u) (h0 : f zero = 0) {m : Int} (hm : 0 < m) : ∀ (ks : List Int) (vs : List P), ks.length = vs.length → (∀ k ∈ ks, 0 ≤ k ∧ k < m) →
    m * lows (vs.map f) ≤ f (comb ks vs) ∧ f (comb ks vs) ≤ m * tops (vs.map f)
  | [], [], _, _ => by simp [comb, h0, lows, tops]
  | k :: ks, v :: vs, hl, hk => by
    obtain ⟨h1, h2⟩ := comb_box f hf hs h0 hm ks vs (by simpa using hl) (fun k h => hk k (List.mem_cons_of_mem _ h))
    have b := hk k (by simp)
    have e1 : lows ((v :: vs).map f) = (if f v < 0 then f v else 0) + lows (vs.map f) := by simp [lows]
    have e2 : tops ((v :: vs).map f) = (if f v > 0 then f v else 0) + tops (vs.map f) := by simp [tops]
    rw [e1, e2]
    simp only [comb, hf, hs]
    generalize f v = t at *
    have m1 : m * (if t < 0 then t else 0) ≤ k * t := by
      split
      · rename_i c
        have := Int.mul_le_mul_of_nonneg_right (show k ≤ m by omega) (show 0 ≤ -t by omega)
        simp only [Int.mul_neg] at this
        omega
      · rename_i c
        have := Int.mul_nonneg b.1 (show 0 ≤ t by omega)
        omega
    have m2 : k * t ≤ m * (if t > 0 then t else 0) := by
      split
      · rename_i c
        exact Int.mul_le_mul_of_nonneg_right (by omega) (by omega)
      · rename_i c
        have := Int.mul_nonneg b.1 (show 0 ≤ -t by omega)
        simp only [Int.mul_neg] at this
        omega
    rw [Int.mul_add, Int.mul_add]
    omega
  | [], _ :: _, h, _ => by simp at h
  | _ :: _, [], h, _ => by simp at h
theorem box {vs : List P} {p : P} (h : In vs p) (f : P → Int) (hf : ∀ u v, f (add u v) = f u + f v) (hs : ∀ k u, f (smul k u) = k * f u) (h0 : f zero = 0) : lows (vs.map f) ≤ f p ∧ f p ≤ tops (vs.map f) := by
  obtain ⟨m, ks, h1, h2, h3, h4⟩ := h
  obtain ⟨b1, b2⟩ := comb_box f hf hs h0 h1 ks vs h2 h3
  rw [← h4, hs] at b1 b2
  exact ⟨Int.le_of_mul_le_mul_left b1 h1, Int.le_of_mul_le_mul_left b2 h1⟩
theorem card_unique {I : P → Prop} {n : Nat} {L : List P} (c : Card I n) (h1 : L.Nodup) (h2 : ∀ p, p ∈ L ↔ I p) : L.length = n := by
  obtain ⟨L', g1, g2, rfl⟩ := c
  exact ((List.perm_ext_iff_of_nodup h1 g1).mpr fun p => (h2 p).trans (g2 p).symm).length_eq
end K06
namespace K06
open PySem PySem.Spec PyProof.Rows L2 Pu
set_option autoImplicit false
/-- small: one factor of each product -/
def Sm (x : Int) : Prop := x.natAbs < 2 ^ 64
theorem mul_l {i j : Int} (h : Sm i) : gMulI (.int i) (.int j) = some (.int (i * j)) := gMul_l h
theorem mul_r {i j : Int} (h : Sm j) : gMulI (.int i) (.int j) = some (.int (i * j)) := gMul_r h
abbrev t2 (a b : Int) : D := .tup [.int a, .int b]
abbrev t3 (a b c : Int) : D := .tup [.int a, .int b, .int c]
/-- a vector of the plane or of space -/
def rv (b : Bool) (v : P) : D := if b then t3 v.x v.y v.z else t2 v.x v.y
@[simp] theorem rv_t (v : P) : rv true v = t3 v.x v.y v.z := rfl
@[simp] theorem rv_f (v : P) : rv false v = t2 v.x v.y := rfl
structure OkV (b : Bool) (v : P) : Prop where
  flat : b = false → v.z = 0
  x : Sm v.x
  y : Sm v.y
  z : Sm v.z
theorem inner_r {b : Bool} {u v : P} (hu : b = false → u.z = 0) (hv : OkV b v) : d_inner [.sh (rv b u), .sh (rv b v)] = .ok (.int (dot u v)) [.em, .em] := by
  cases b with
  | false =>
    have e : dot u v = u.x * v.x + u.y * v.y := by simp [dot, hu rfl]
    rw [e]
    simp [d_inner, denOf, b_inner, mul_r hv.x, mul_r hv.y]
  | true => simp [d_inner, denOf, b_inner, mul_r hv.x, mul_r hv.y, mul_r hv.z, dot]
theorem inner_l {b : Bool} {u v : P} (hu : OkV b u) : d_inner [.sh (rv b u), .sh (rv b v)] = .ok (.int (dot u v)) [.em, .em] := by
  cases b with
  | false =>
    have e : dot u v = u.x * v.x + u.y * v.y := by simp [dot, hu.flat rfl]
    rw [e]
    simp [d_inner, denOf, b_inner, mul_l hu.x, mul_l hu.y]
  | true => simp [d_inner, denOf, b_inner, mul_l hu.x, mul_l hu.y, mul_l hu.z, dot]
theorem crossed_r {u v : P} (hv : OkV true v) : d_crossed [.sh (rv true u), .sh (rv true v)] = .ok (rv true (cross u v)) [.em, .em] := by
  simp [d_crossed, denOf, b_crossed, mul_r hv.x, mul_r hv.y, mul_r hv.z, mkT, sl, cross]
theorem common_ok {b : Bool} {u : P} (hu : b = false → u.z = 0) : d_common_factor [.sh (rv b u)] = .ok (.int (g3 u)) [.em] := by
  cases b with
  | false =>
    have e : g3 u = ((Nat.gcd (Nat.gcd 0 u.x.natAbs) u.y.natAbs : Nat) : Int) := by simp [g3, hu rfl]
    rw [e]
    simp [d_common_factor, denOf, b_common_factor]
  | true =>
    have e : g3 u = ((Nat.gcd (Nat.gcd (Nat.gcd 0 u.x.natAbs) u.y.natAbs) u.z.natAbs : Nat) : Int) := by simp [g3, Nat.gcd_assoc]
    rw [e]
    simp [d_common_factor, denOf, b_common_factor]
def vs (b : Bool) (us : List P) : D := .lst (us.map (rv b))
theorem determinant2 {u v : P} (hu : OkV false u) : d_determinant [.sh (vs false [u, v])] = .ok (.int (cross u v).z) [.em] := by
  simp [d_determinant, denOf, b_determinant, vs, mul_l hu.x, mul_l hu.y, cross]
theorem determinant3 {u v w : P} (hu : OkV true u) (hw : OkV true w) : d_determinant [.sh (vs true [u, v, w])] = .ok (.int (det u v w)) [.em] := by
  have h1 := crossed_r (u := v) hw
  have h2 := inner_l (v := cross v w) hu
  simp only [rv_t] at h1 h2
  simp [d_determinant, denOf, b_determinant, vs, call2 h1, call2 h2, det]
/-- the next one is free -/
def free (us : List P) (v : P) : Bool := match us with
  | [] => decide (v ≠ zero)
  | [u] => decide (cross u v ≠ zero)
  | [u, w] => decide (dot (cross u w) v ≠ 0)
  | _ => false
theorem dec_zero {v : P} : decide (v = zero) = ((v.x == 0) && ((v.y == 0) && (v.z == 0))) := by
  obtain ⟨x, y, z⟩ := v
  simp only [zero, P.mk.injEq]
  by_cases h1 : x = 0 <;> by_cases h2 : y = 0 <;> by_cases h3 : z = 0 <;> simp [h1, h2, h3]
theorem int_beq (i j : Int) : (i == j) = decide (i = j) := rfl
theorem gAny {bs : List D} {cs : List Bool} {g : List Bool → D} (h : Pu.allB bs = some cs) : gL Pu.allB g [.lst bs] = some (g cs) := by
  show (Pu.allB bs).map g = _; rw [h]; rfl
@[simp] theorem allB_nil : Pu.allB [] = some [] := rfl
@[simp] theorem allB_cons {b : Bool} {ds : List D} : Pu.allB (.bl b :: ds) = (Pu.allB ds).map (b :: ·) := rfl
@[simp] theorem gL_eq {α : Type} {al : List D → Option α} {g : α → D} {ds : List D} : gL al g [.lst ds] = (al ds).map g := rfl
theorem free_ok {b : Bool} {us : List P} {v : P} (hu : ∀ u ∈ us, OkV b u) (hv : OkV b v) (hl : us.length ≤ 3) : d_is_free [.sh (vs b us), .sh (rv b v)] = .ok (.bl (free us v)) [.em, .em] := by
  match us, hl with
  | [], _ =>
    cases b with
    | false => simp [d_is_free, denOf, b_is_free, vs, free, cComp, compA, noOwn, wipeE, unwipe, sl, dec_zero, hv.flat rfl]
    | true => simp [d_is_free, denOf, b_is_free, vs, free, cComp, compA, noOwn, wipeE, unwipe, sl, dec_zero]
  | [u], _ =>
    cases b with
    | false =>
      have h1 := hu u (by simp)
      simp [d_is_free, denOf, b_is_free, vs, free, mul_r hv.x, mul_r hv.y, dec_zero, cross, h1.flat rfl, hv.flat rfl]
    | true =>
      have h1 := hu u (by simp)
      have hc := crossed_r (u := u) hv
      simp only [rv_t] at hc
      simp [d_is_free, denOf, b_is_free, vs, free, call2 hc, cComp, compA, noOwn, wipeE, unwipe, sl, dec_zero]
  | [u, w], _ =>
    cases b with
    | false =>
      have h1 := hu u (by simp)
      have h2 := hu w (by simp)
      have e : dot (cross u w) v = 0 := by simp [dot, cross, h1.flat rfl, h2.flat rfl, hv.flat rfl]
      simp [d_is_free, denOf, b_is_free, vs, free, e]
    | true =>
      have hw := hu w (by simp)
      have hc := crossed_r (u := u) hw
      have hi := inner_r (b := true) (u := cross u w) nofun hv
      simp only [rv_t] at hc hi
      simp [d_is_free, denOf, b_is_free, vs, free, call2 hc, call2 hi, int_beq]
  | [u, w, t], _ =>
    cases b <;> simp [d_is_free, denOf, b_is_free, vs, free]
/-! ### the basis -/
theorem den_rt {ns np : Nat} {g : En → RS} {s ρ : En} {d : D} (hl : s.length = np) (h : g (s ++ List.replicate (ns - np) .em) = .rt d ρ) : denOf ns np [] g s = .ok d (List.replicate np .em) := by
  unfold denOf
  rw [if_pos hl, h]
  simp only [outs_nil]
def grow (fs : List P) (v : P) : List P := if free fs v then fs ++ [v] else fs
def basis (us : List P) : List P := us.foldl grow []
theorem grow_len {fs : List P} {v : P} (h : fs.length ≤ 3) : (grow fs v).length ≤ 3 := by
  unfold grow
  split
  · rename_i q
    match fs, q with
    | [], _ => simp
    | [_], _ => simp
    | [_, _], _ => simp
    | _ :: _ :: _ :: _, q => cases q
  · exact h
theorem basis_len (us : List P) : ∀ fs : List P, fs.length ≤ 3 → (us.foldl grow fs).length ≤ 3 := by
  induction us with
  | nil => exact fun _ h => h
  | cons v vs ih => exact fun fs h => ih _ (grow_len h)
theorem callPk {g : Den} {ρ : En} {i : Nat} {ds : List D} {b d : D} (hi : ρ[i]? = some (.ow (.l ds))) (h : g [.sh (.lst ds), .sh b] = .ok d [.em, .em]) (hd : flat d = true) : callD g [.pk i, .d b] ρ = .ok d ρ := by
  simp [callD, iosOk, slotsOf, slotOf, frzAll, hi, h, putO, noIo, hd, List.getElem?_set_self (List.getElem?_eq_some_iff.mp hi).1]
theorem basis_ok {b : Bool} {us : List P} (hu : ∀ u ∈ us, OkV b u) (hl : us.length < 1000) : d_basis_of [.sh (vs b us)] = .ok (vs b (basis us)) [.em] := by
  have key : ∀ (ws fs : List P) (s : Slot), (∀ u ∈ ws, OkV b u) → (∀ u ∈ fs, OkV b u) → fs.length ≤ 3 → fs.length + ws.length < 1000 →
      ∃ s', forD (gNm 2) (sIf (tTru (eCall 2 d_is_free (gcN (.pk 1) 1 (gcV (eVar 2) (gcNil))))) (sApp 1 (eVar 2)) (.nx)) (ws.map (rv b)) [.sh (vs b us), .ow (.l (fs.map (rv b))), s] = .nx [.sh (vs b us), .ow (.l ((ws.foldl grow fs).map (rv b))), s'] := by
    intro ws
    induction ws with
    | nil => exact fun fs s _ _ _ _ => ⟨s, rfl⟩
    | cons w ws ih =>
      intro fs s hw hf h3 hlen
      have hfr := free_ok hf (hw w (by simp)) h3
      have hc := callPk (ρ := [.sh (vs b us), .ow (.l (fs.map (rv b))), .sh (rv b w)]) (i := 1) rfl hfr rfl
      have e2 : (sIf (tTru (eCall 2 d_is_free (gcN (.pk 1) 1 (gcV (eVar 2) (gcNil))))) (sApp 1 (eVar 2)) (.nx)) [.sh (vs b us), .ow (.l (fs.map (rv b))), .sh (rv b w)] = .nx [.sh (vs b us), .ow (.l ((grow fs w).map (rv b))), .sh (rv b w)] := by
        simp [gcN, hasV, hc, grow]
        cases free fs w with
        | true =>
          simp only [List.length_cons] at hlen
          simp [sApp, sl]
          omega
        | false => simp
      rw [List.map_cons, forD_nx (ρ1 := [.sh (vs b us), .ow (.l (fs.map (rv b))), .sh (rv b w)]) rfl e2]
      refine ih (grow fs w) _ (fun u h => hw u (List.mem_cons_of_mem _ h)) (fun u h => ?_) (grow_len h3) ?_
      · unfold grow at h
        split at h
        · rcases List.mem_append.mp h with h | h
          · exact hf u h
          · rw [List.mem_singleton.mp h]; exact hw w (by simp)
        · exact hf u h
      · simp only [List.length_cons] at hlen
        have : (grow fs w).length ≤ fs.length + 1 := by unfold grow; split <;> simp
        omega
  obtain ⟨s', h⟩ := key us [] .em hu (by simp) (by simp) (by simpa using hl)
  have h : forD (gNm 2) (sIf (tTru (eCall 2 d_is_free (gcN (.pk 1) 1 (gcV (eVar 2) (gcNil))))) (sApp 1 (eVar 2)) (.nx)) (us.map (rv b)) [.sh (vs b us), .ow (.l []), .em] = .nx [.sh (vs b us), .ow (.l ((basis us).map (rv b))), s'] := h
  have e0 : (sSetF 1 (RC_of cL (aNil))) [.sh (vs b us), .em, .em] = .nx [.sh (vs b us), .ow (.l []), .em] := rfl
  have e1 : (sFor (iSeq (eVar 0)) (gNm 2) (sIf (tTru (eCall 2 d_is_free (gcN (.pk 1) 1 (gcV (eVar 2) (gcNil))))) (sApp 1 (eVar 2)) (.nx))) [.sh (vs b us), .ow (.l []), .em] = .nx [.sh (vs b us), .ow (.l ((basis us).map (rv b))), s'] := by
    rw [← h]; rfl
  have eb : b_basis_of [.sh (vs b us), .em, .em] = .rt (vs b (basis us)) [.sh (vs b us), .sh (vs b (basis us)), s'] := by
    unfold b_basis_of
    rw [sSeq_eq, e0, seq_nx, sSeq_eq, e1, seq_nx]
    rfl
  exact den_rt rfl eb
@[simp] theorem len_vs {b : Bool} {us : List P} : gLen [vs b us] = some (.int us.length) := by simp [vs]
@[simp] theorem items_vs {b : Bool} {us : List P} : itemsD (vs b us) = some (us.map (rv b)) := rfl
theorem rank_of_ok {b : Bool} {us : List P} (hu : ∀ u ∈ us, OkV b u) (hl : us.length < 1000) : d_rank_of [.sh (vs b us)] = .ok (.int (basis us).length) [.em] := by
  simp [d_rank_of, denOf, b_rank_of, call1 (basis_ok hu hl)]
/-! ### the worth -/
theorem cross_self (u : P) : cross u u = zero := by
  simp only [cross, zero, P.mk.injEq]; refine ⟨?_, ?_, ?_⟩ <;> grind
theorem cross_zero (v : P) : cross zero v = zero := by simp [cross, zero]
theorem g3_zero : g3 zero = 0 := by simp [g3, zero]
theorem g3_eq0 {u : P} : g3 u = 0 ↔ u = zero := by
  obtain ⟨x, y, z⟩ := u
  constructor
  · intro h
    have h : ((Nat.gcd x.natAbs (Nat.gcd y.natAbs z.natAbs) : Nat) : Int) = 0 := h
    have h := Int.natCast_eq_zero.mp h
    rw [Nat.gcd_eq_zero_iff, Nat.gcd_eq_zero_iff] at h
    simp only [zero, P.mk.injEq]
    omega
  · intro h; rw [h]; exact g3_zero
theorem basis_wo : ∀ us : List P, (basis us).length < us.length → wo us = 0
  | [], h => by simp at h
  | [u], h => by
    by_cases c : u = zero
    · rw [c]; exact g3_zero
    · simp [basis, grow, free, c] at h
  | [u, v], h => by
    show g3 (cross u v) = 0
    rw [g3_eq0]
    by_cases c : u = zero
    · rw [c]; exact cross_zero v
    · by_cases c2 : cross u v = zero
      · exact c2
      · simp [basis, grow, free, c, c2] at h
  | [u, v, w], h => by
    show ((det u v w).natAbs : Int) = 0
    have k : dot (cross u v) w = det u v w := by simp only [det, dot, cross]; grind
    by_cases c : u = zero
    · rw [← k, c, cross_zero]; simp [dot, zero]
    · by_cases c2 : cross u v = zero
      · rw [← k, c2]; simp [dot, zero]
      · by_cases c3 : det u v w = 0
        · rw [c3]; rfl
        · simp [basis, grow, free, c, c2, k, c3] at h
  | _ :: _ :: _ :: _ :: _, h => rfl
theorem rank_le (us : List P) : (basis us).length ≤ 3 := basis_len us [] (by simp)
theorem basis_flat {us : List P} (h : ∀ u ∈ us, u.z = 0) : (basis us).length ≤ 2 := by
  have key : ∀ (ws fs : List P), (∀ u ∈ ws, u.z = 0) → (∀ u ∈ fs, u.z = 0) → fs.length ≤ 2 → (ws.foldl grow fs).length ≤ 2 := by
    intro ws
    induction ws with
    | nil => exact fun fs _ _ h => h
    | cons w ws ih =>
      intro fs hw hf hl
      refine ih _ (fun u h => hw u (List.mem_cons_of_mem _ h)) ?_ ?_
      · intro u hu
        unfold grow at hu
        split at hu
        · rcases List.mem_append.mp hu with hu | hu
          · exact hf u hu
          · rw [List.mem_singleton.mp hu]; exact hw w (by simp)
        · exact hf u hu
      · unfold grow
        split
        · rename_i q
          match fs, hf, hl, q with
          | [], _, _, _ => simp
          | [_], _, _, _ => simp
          | [a, b], hf, _, q =>
            have e : dot (cross a b) w = 0 := by simp [dot, cross, hf a (by simp), hf b (by simp), hw w (by simp)]
            simp [free, e] at q
        · exact hl
  exact key us [] h (by simp) (by simp)
theorem abs_eq (i : Int) : (if i < 0 then -i else i) = (i.natAbs : Int) := by split <;> omega
theorem worth_of_ok {b : Bool} {us : List P} (hu : ∀ u ∈ us, OkV b u) (hl : us.length < 1000) : d_worth_of [.sh (vs b us)] = .ok (.int (wo us)) [.em] := by
  have hr := rank_of_ok hu hl
  refine den_rt (ρ := [.sh (vs b us), .sh (.int us.length)]) rfl ?_
  show b_worth_of [.sh (vs b us), .em] = _
  simp [b_worth_of, call1 hr]
  by_cases c0 : us = []
  · subst c0; simp [wo]
  simp [c0]
  by_cases c1 : (basis us).length < us.length
  · simp [call1 hr, c1, basis_wo us c1]
  · simp [call1 hr, c1]
    have h3 := rank_le us
    match us, hu, c0, c1, h3 with
    | [u], hu, _, _, _ =>
      have h := common_ok (b := b) (hu u (by simp)).flat
      simp [vs, call1 h, wo]
    | [u, v], hu, _, _, _ =>
      cases b with
      | false =>
        have h := determinant2 (v := v) (hu u (by simp))
        have e : g3 (cross u v) = ((cross u v).z.natAbs : Int) := by simp [g3, cross, (hu u (by simp)).flat rfl, (hu v (by simp)).flat rfl]
        simp [vs] at h
        simp [vs, call1 h, wo, abs_eq, e]
      | true =>
        have h := crossed_r (u := u) (hu v (by simp))
        have h2 := common_ok (b := true) (u := cross u v) nofun
        simp at h h2
        simp [vs, call2 h, call1 h2, wo]
    | [u, v, w], hu, _, c1, _ =>
      cases b with
      | false =>
        have := basis_flat (us := [u, v, w]) (fun x hx => (hu x hx).flat rfl)
        simp only [List.length_cons, List.length_nil] at c1
        omega
      | true =>
        have h := determinant3 (v := v) (hu u (by simp)) (hu w (by simp))
        simp [vs] at h
        simp [vs, call1 h, wo, abs_eq]
    | _ :: _ :: _ :: _ :: _, _, _, c1, h3 =>
      simp only [List.length_cons] at c1
      omega
/-! ### worth and rank of what is handed over -/
def rl (b : Bool) (v : P) : D := if b then .lst [.int v.x, .int v.y, .int v.z] else .lst [.int v.x, .int v.y]
def wrap (o k b : Bool) (us : List P) : D := if o then .lst (us.map fun u => if k then rl b u else rv b u) else .tup (us.map fun u => if k then rl b u else rv b u)
def dimI (b : Bool) : Int := if b then 3 else 2
@[simp] theorem wrap_items {o k b : Bool} {us : List P} : itemsD (wrap o k b us) = some (us.map fun u => if k then rl b u else rv b u) := by cases o <;> rfl
@[simp] theorem wrap_len {o k b : Bool} {us : List P} : gLen [wrap o k b us] = some (.int us.length) := by cases o <;> simp [wrap]
theorem vectors_in_ok {o k b : Bool} {us : List P} (hl : us.length < 1000) : d_vectors_in [.sh (.int (dimI b)), .sh (wrap o k b us)] = .ok (vs b us) [.em, .em] := by
  have h1 : cComp (iSeq (eVar 1)) (gNm 3) (tTrue) (eA gTup (aCons (eVar 3) (aNil))) [3] [.sh (.int (dimI b)), .sh (wrap o k b us), .em, .em] = .ok (.l (us.map (rv b))) [.sh (.int (dimI b)), .sh (wrap o k b us), .em, .em] := by
    have h := cComp_map (fi := iSeq (eVar 1)) (fe := eA gTup (aCons (eVar 3) (aNil))) (i := 3) (s := .em) (h := fun d => match d with | .lst x => .tup x | d => d) (ρ := [.sh (.int (dimI b)), .sh (wrap o k b us), .em, .em]) (ρ1 := [.sh (.int (dimI b)), .sh (wrap o k b us), .em, .em])
      (ds := us.map fun u => if k then rl b u else rv b u) (by simp) rfl rfl (fun d hd => by
        obtain ⟨u, _, rfl⟩ := List.mem_map.mp hd
        cases k <;> cases b <;> simp [rl]) (by rw [List.length_map]; unfold sl; omega)
    rw [h]
    congr 2
    rw [List.map_map]
    congr 1
    funext u
    cases k <;> cases b <;> rfl
  have h2 : ∀ (ws : List P) (s : Slot), ∃ s', forD (gNm 3) (sIf (tOf (eBin gNe (eA gLen (aCons (eVar 3) (aNil))) (eVar 0))) ((fun _ => .bad)) (.nx)) (ws.map (rv b)) [.sh (.int (dimI b)), .sh (wrap o k b us), .sh (vs b us), s] = .nx [.sh (.int (dimI b)), .sh (wrap o k b us), .sh (vs b us), s'] := by
    intro ws
    induction ws with
    | nil => exact fun s => ⟨s, rfl⟩
    | cons w ws ih =>
      intro s
      obtain ⟨s', h⟩ := ih (.sh (rv b w))
      refine ⟨s', ?_⟩
      rw [List.map_cons, forD_nx (ρ1 := [.sh (.int (dimI b)), .sh (wrap o k b us), .sh (vs b us), .sh (rv b w)]) (ρ2 := [.sh (.int (dimI b)), .sh (wrap o k b us), .sh (vs b us), .sh (rv b w)]) rfl (by cases b <;> simp [dimI])]
      exact h
  obtain ⟨s', h2⟩ := h2 us .em
  refine den_rt (ρ := [.sh (.int (dimI b)), .sh (wrap o k b us), .sh (vs b us), s']) rfl ?_
  show b_vectors_in [.sh (.int (dimI b)), .sh (wrap o k b us), .em, .em] = _
  simp only [b_vectors_in, sSeq_eq, sSet_eq, eF_eq, h1, bind_ok, frzC_l, of_some, toS_ok, seq_nx]
  show (RS.seq (sFor _ _ _ [.sh (.int (dimI b)), .sh (wrap o k b us), .sh (vs b us), .em]) _) = _
  have h3 : iSeq (eVar 2) [.sh (.int (dimI b)), .sh (wrap o k b us), .sh (vs b us), .em] = .ok (us.map (rv b)) [.sh (.int (dimI b)), .sh (wrap o k b us), .sh (vs b us), .em] := rfl
  rw [sFor_eq, h3, toS_ok, h2, seq_nx]
  rfl
theorem alike_ok {o k b : Bool} {us : List P} (hl : us.length < 1000) : d_alike_vectors [.sh (wrap o k b us)] = .ok (vs b us) [.em] := by
  have h := vectors_in_ok (o := o) (k := k) (b := b) hl
  refine den_rt (ρ := [.sh (wrap o k b us)]) rfl ?_
  show b_alike_vectors [.sh (wrap o k b us)] = _
  simp [b_alike_vectors]
  cases us with
  | nil => simp [mkL, sl, vs]
  | cons u us =>
    have e : (R.of (gIx (wrap o k b (u :: us)) (.int 0)) [Slot.sh (wrap o k b (u :: us))]).bind (fun d ρ1 => R.ok [d] ρ1) = R.ok [if k then rl b u else rv b u] [Slot.sh (wrap o k b (u :: us))] := by
      cases o <;> simp [wrap]
    have e2 : gLen [if k then rl b u else rv b u] = some (.int (dimI b)) := by
      cases k <;> cases b <;> rfl
    simp [e, e2, call2 h]
theorem worth_ok {o k b : Bool} {us : List P} (hu : ∀ u ∈ us, OkV b u) (hl : us.length < 1000) : d_worth [.sh (wrap o k b us)] = .ok (.int (wo us)) [.em] := by
  simp [d_worth, denOf, b_worth, call1 (alike_ok hl), call1 (worth_of_ok hu hl)]
theorem rank_ok {o k b : Bool} {us : List P} (hu : ∀ u ∈ us, OkV b u) (hl : us.length < 1000) : d_rank [.sh (wrap o k b us)] = .ok (.int (basis us).length) [.em] := by
  simp [d_rank, denOf, b_rank, call1 (alike_ok hl), call1 (rank_of_ok hu hl)]
end K06
namespace K06
open PySem PySem.Spec PyProof.Rows L2 Pu
set_option autoImplicit false
theorem isi_eq {T : String} {f : En → R D} {ρ ρ1 : En} {d : D} {c : Bool} (h : f ρ = .ok d ρ1) (e : ((tyD d).bind fun t => kitB t T) = some c) : eIsi T f ρ = .ok (.bl c) ρ1 := by
  unfold eIsi; rw [h]; simp only [bind_ok, e]; rfl
theorem same_int {n : Nat} {i j : Int} : d__law_same (n + 1) [.sh (.int i), .sh (.int j)] = .ok (.bl (i == j)) [.em, .em] := by
  have h1 : eIsi "bool" (eVar 1) [.sh (.int i), .sh (.int j), .em] = .ok (.bl false) [.sh (.int i), .sh (.int j), .em] := isi_eq (d := .int j) rfl rfl
  have h2 : eIsi "int" (eVar 1) [.sh (.int i), .sh (.int j), .em] = .ok (.bl true) [.sh (.int i), .sh (.int j), .em] := isi_eq (d := .int j) rfl rfl
  have h3 : eIsi "bool" (eVar 0) [.sh (.int i), .sh (.int j), .em] = .ok (.bl false) [.sh (.int i), .sh (.int j), .em] := isi_eq (d := .int i) rfl rfl
  have h4 : eIsi "int" (eVar 0) [.sh (.int i), .sh (.int j), .em] = .ok (.bl true) [.sh (.int i), .sh (.int j), .em] := isi_eq (d := .int i) rfl rfl
  refine den_rt (ρ := [.sh (.int i), .sh (.int j), .em]) rfl ?_
  show b__law_same _ [.sh (.int i), .sh (.int j), .em] = _
  simp [b__law_same, h1, h2, h3, h4, eAn]
/-! ### Euclid -/
abbrev gBody : En → RS := sSeq (sIf (tOf (eBin gEq (eVar 1) (eC (.int 0)))) (.bk) (.nx)) (sPar 0 1 (aCons (eVar 1) (aCons (eBin gMod (eA gInt (aCons (eVar 0) (aNil))) (eVar 1)) (aNil))))
theorem gcd_loop : ∀ (ds : List D) (a b k : Nat) (s : Slot), b ≤ a → a * b < 2 ^ k → k < ds.length → ∃ s', forD (gNm 2) gBody ds [.sh (.int a), .sh (.int b), s] = .nx [.sh (.int (Nat.gcd a b)), .sh (.int 0), s']
  | [], a, b, k, s, _, _, h => by simp at h
  | d :: ds, a, b, k, s, hab, hk, hl => by
    simp only [List.length_cons] at hl
    by_cases hb : b = 0
    · subst hb
      refine ⟨.sh d, ?_⟩
      rw [forD_bk (tg := gNm 2) (b := gBody) (ρ1 := [.sh (.int a), .sh (.int 0), .sh d]) (ρ2 := [.sh (.int a), .sh (.int 0), .sh d]) rfl (by simp [gBody]), Nat.gcd_zero_right]
    · have hb' : 0 < b := by omega
      have h1 : 0 < a * b := Nat.mul_pos (by omega) hb'
      have hk0 : k ≠ 0 := by intro z; rw [z] at hk; simp at hk; omega
      obtain ⟨k, rfl⟩ := Nat.exists_eq_succ_of_ne_zero hk0
      have hr : a % b < b := Nat.mod_lt _ hb'
      have h2 : 2 * (a % b) ≤ a := by
        have := Nat.mod_add_div a b
        have q : 1 ≤ a / b := (Nat.le_div_iff_mul_le hb').mpr (by omega)
        have := Nat.mul_le_mul_left b q
        omega
      have h3 : b * (a % b) < 2 ^ k := by
        have h4 := Nat.mul_le_mul_left b h2
        have h5 : b * (2 * (a % b)) = 2 * (b * (a % b)) := by grind
        have h6 : b * a = a * b := Nat.mul_comm _ _
        rw [Nat.pow_succ] at hk
        omega
      obtain ⟨s', h⟩ := gcd_loop ds b (a % b) k (.sh d) (by omega) h3 (by omega)
      refine ⟨s', ?_⟩
      have hne : ((b : Int) == 0) = false := decide_eq_false (by omega)
      have hpos : (0 : Int) < b := by omega
      rw [forD_nx (ρ1 := [.sh (.int a), .sh (.int b), .sh d]) (ρ2 := [.sh (.int b), .sh (.int ((a % b : Nat) : Int)), .sh d]) rfl ?_, h]
      · have eg : Nat.gcd b (a % b) = Nat.gcd a b := by rw [Nat.gcd_comm a b, Nat.gcd_rec b a, Nat.gcd_comm]
        rw [eg]
      · simp [gBody, hb, sPar, gMod_pos hpos]
theorem gcd_any (ds : List D) (a b k : Nat) (s : Slot) (hk : b * b < 2 ^ k) (hl : k + 1 < ds.length) : ∃ s', forD (gNm 2) gBody ds [.sh (.int a), .sh (.int b), s] = .nx [.sh (.int (Nat.gcd a b)), .sh (.int 0), s'] := by
  match ds, hl with
  | d :: ds, hl =>
    simp only [List.length_cons] at hl
    by_cases hb : b = 0
    · subst hb
      refine ⟨.sh d, ?_⟩
      rw [forD_bk (tg := gNm 2) (b := gBody) (ρ1 := [.sh (.int a), .sh (.int 0), .sh d]) (ρ2 := [.sh (.int a), .sh (.int 0), .sh d]) rfl (by simp [gBody]), Nat.gcd_zero_right]
    · have hb' : 0 < b := by omega
      have hr : a % b < b := Nat.mod_lt _ hb'
      have h3 : b * (a % b) < 2 ^ k := Nat.lt_of_le_of_lt (Nat.mul_le_mul_left b (by omega)) hk
      obtain ⟨s', h⟩ := gcd_loop ds b (a % b) k (.sh d) (by omega) h3 (by omega)
      refine ⟨s', ?_⟩
      have hpos : (0 : Int) < b := by omega
      rw [forD_nx (ρ1 := [.sh (.int a), .sh (.int b), .sh d]) (ρ2 := [.sh (.int b), .sh (.int ((a % b : Nat) : Int)), .sh d]) rfl ?_, h]
      · have eg : Nat.gcd b (a % b) = Nat.gcd a b := by rw [Nat.gcd_comm a b, Nat.gcd_rec b a, Nat.gcd_comm]
        rw [eg]
      · simp [gBody, hb, sPar, gMod_pos hpos]
theorem rng1_ok {n : Int} (h : rngOk n = true) : rng1 [.int n] = some (rngD 0 n.toNat) := by
  show (if rngOk n then some (rngD 0 n.toNat) else none) = _
  rw [if_pos h]
@[simp] theorem rng1_2 : rng1 [.int 2] = some [.int 0, .int 1] := rfl
@[simp] theorem rng1_3 : rng1 [.int 3] = some [.int 0, .int 1, .int 2] := rfl
theorem rngD_len {lo : Int} {n : Nat} : (rngD lo n).length = n := by simp [rngD]
theorem law_gcd_ok {a b : Int} (hb : b.natAbs < 2 ^ 100) : d__law_gcd [.sh (.int a), .sh (.int b)] = .ok (.int (Nat.gcd a.natAbs b.natAbs)) [.em, .em] := by
  have hsq : b.natAbs * b.natAbs < 2 ^ 200 := by
    have h1 : b.natAbs * b.natAbs ≤ b.natAbs * 2 ^ 100 := Nat.mul_le_mul_left _ (Nat.le_of_lt hb)
    have h2 : b.natAbs * 2 ^ 100 < 2 ^ 100 * 2 ^ 100 := Nat.mul_lt_mul_of_pos_right hb (by decide)
    rw [← Nat.pow_add] at h2
    exact Nat.lt_of_le_of_lt h1 h2
  obtain ⟨s', h⟩ := gcd_any (rngD 0 700) a.natAbs b.natAbs 200 .em hsq (by rw [rngD_len]; decide)
  have hr : iRg rng1 (aCons (eC (.int 700)) (aNil)) [.sh (.int a.natAbs), .sh (.int b.natAbs), .em] = .ok (rngD 0 700) [.sh (.int a.natAbs), .sh (.int b.natAbs), .em] := by
    rw [iRg_eq]; simp only [aCons_eq, aNil_eq, eC_eq, bind_ok]; rw [rng1_ok (by decide)]; rfl
  refine den_rt (ρ := [.sh (.int (Nat.gcd a.natAbs b.natAbs)), .sh (.int 0), s']) rfl ?_
  show b__law_gcd [.sh (.int a), .sh (.int b), .em] = _
  have e : b__law_gcd = sSeq (sSet 0 (eA (g1I fun i => .int (if i < 0 then -i else i)) (aCons (eVar 0) (aNil))))
    (sSeq (sSet 1 (eA (g1I fun i => .int (if i < 0 then -i else i)) (aCons (eVar 1) (aNil))))
    (sSeq (sFor (iRg rng1 (aCons (eC (.int 700)) (aNil))) (gNm 2) gBody) (sRet (eVar 0)))) := rfl
  rw [e, sSeq_eq]
  have e1 : (sSet 0 (eA (g1I fun i => .int (if i < 0 then -i else i)) (aCons (eVar 0) (aNil)))) [.sh (.int a), .sh (.int b), .em] = .nx [.sh (.int a.natAbs), .sh (.int b), .em] := by
    simp [abs_eq]
  have e2 : (sSet 1 (eA (g1I fun i => .int (if i < 0 then -i else i)) (aCons (eVar 1) (aNil)))) [.sh (.int a.natAbs), .sh (.int b), .em] = .nx [.sh (.int a.natAbs), .sh (.int b.natAbs), .em] := by
    simp [abs_eq]
  rw [e1, seq_nx, sSeq_eq, e2, seq_nx, sSeq_eq, sFor_eq, hr, toS_ok, h, seq_nx]
  rfl
/-! ### vectors -/
@[simp] theorem allI_nil : Pu.allI [] = some [] := rfl
@[simp] theorem allI_cons {b : Int} {ds : List D} : Pu.allI (.int b :: ds) = (Pu.allI ds).map (b :: ·) := rfl
theorem ldot_r {b : Bool} {u v : P} (hu : b = false → u.z = 0) (hv : OkV b v) : d__law_dot [.sh (rv b u), .sh (rv b v)] = .ok (.int (dot u v)) [.em, .em] := by
  cases b with
  | false =>
    have e : dot u v = u.x * v.x + u.y * v.y := by simp [dot, hu rfl]
    rw [e]
    simp [d__law_dot, denOf, b__law_dot, mul_r hv.x, mul_r hv.y, cComp, compA, noOwn, wipeE, unwipe, sl]
  | true => simp [d__law_dot, denOf, b__law_dot, mul_r hv.x, mul_r hv.y, mul_r hv.z, dot, cComp, compA, noOwn, wipeE, unwipe, sl, Int.add_assoc]
theorem ldot_l {b : Bool} {u v : P} (hu : OkV b u) : d__law_dot [.sh (rv b u), .sh (rv b v)] = .ok (.int (dot u v)) [.em, .em] := by
  cases b with
  | false =>
    have e : dot u v = u.x * v.x + u.y * v.y := by simp [dot, hu.flat rfl]
    rw [e]
    simp [d__law_dot, denOf, b__law_dot, mul_l hu.x, mul_l hu.y, cComp, compA, noOwn, wipeE, unwipe, sl]
  | true => simp [d__law_dot, denOf, b__law_dot, mul_l hu.x, mul_l hu.y, mul_l hu.z, dot, cComp, compA, noOwn, wipeE, unwipe, sl, Int.add_assoc]
theorem lplus_ok {b : Bool} {u v : P} : d__law_plus [.sh (rv b u), .sh (rv b v)] = .ok (rv b (add u v)) [.em, .em] := by
  cases b <;> simp [d__law_plus, denOf, b__law_plus, add, cComp, compA, noOwn, wipeE, unwipe, sl]
theorem lfold_ok {b : Bool} {u : P} {n : Int} (hn : Sm n) : d__law_fold [.sh (.int n), .sh (rv b u)] = .ok (rv b (smul n u)) [.em, .em] := by
  cases b <;> simp [d__law_fold, denOf, b__law_fold, smul, mul_l hn, cComp, compA, noOwn, wipeE, unwipe, sl]
theorem lup_ok {b : Bool} {u : P} (hu : b = false → u.z = 0) : d__law_up [.sh (rv b u)] = .ok (rv true u) [.em] := by
  cases b with
  | false => simp [d__law_up, denOf, b__law_up, mkT, sl, hu rfl]
  | true => simp [d__law_up, denOf, b__law_up]
theorem lsquare_r {u v : P} (hv : OkV true v) : d__law_square [.sh (rv true u), .sh (rv true v)] = .ok (rv true (cross u v)) [.em, .em] := by
  simp [d__law_square, denOf, b__law_square, mul_r hv.x, mul_r hv.y, mul_r hv.z, mkT, sl, cross]
theorem lsquare_l {u v : P} (hv : OkV true u) : d__law_square [.sh (rv true u), .sh (rv true v)] = .ok (rv true (cross u v)) [.em, .em] := by
  simp [d__law_square, denOf, b__law_square, mul_l hv.x, mul_l hv.y, mul_l hv.z, mkT, sl, cross]
theorem ldet_ok {u v w : P} (hv : OkV true v) (hw : OkV true w) : d__law_det [.sh (.lst [rv true u, rv true v, rv true w])] = .ok (.int (dot (cross u v) w)) [.em] := by
  have h1 := lsquare_r (u := u) hv
  have h2 := ldot_r (b := true) (u := cross u v) nofun hw
  simp only [rv_t] at h1 h2
  simp [d__law_det, denOf, b__law_det, call2 h1, call2 h2]
theorem OkV.up {b : Bool} {v : P} (h : OkV b v) : OkV true v := ⟨nofun, h.x, h.y, h.z⟩
theorem det_alt {u v w : P} : dot (cross u v) w = det u v w := by simp only [det, dot, cross]; grind
end K06
namespace K06
open PySem PySem.Spec PyProof.Rows L2 Pu
set_option autoImplicit false
/-! ### a table leads -/
def rowsD (b : Bool) (m : M) : D := if b then .tup [rv true m.a, rv true m.b, rv true m.c] else .tup [rv false m.a, rv false m.b]
structure OkM (b : Bool) (m : M) : Prop where
  r1 : OkV b m.a
  r2 : OkV b m.b
  r3 : b = false → m.c = ⟨0, 0, 1⟩
theorem lead_ok {b : Bool} {m : M} {v : P} (hm : OkM b m) (hv : OkV b v) : d__law_lead [.sh (rowsD b m), .sh (rv b v)] = .ok (rv b (m.ap v)) [.em, .em] := by
  cases b with
  | false =>
    have h1 := ldot_r (b := false) (u := m.a) hm.r1.flat hv
    have h2 := ldot_r (b := false) (u := m.b) hm.r2.flat hv
    simp only [rv_f] at h1 h2
    simp [d__law_lead, denOf, b__law_lead, rowsD, call2 h1, call2 h2, cComp, compA, noOwn, wipeE, unwipe, sl, M.ap]
  | true =>
    have h1 := ldot_r (b := true) (u := m.a) nofun hv
    have h2 := ldot_r (b := true) (u := m.b) nofun hv
    have h3 := ldot_r (b := true) (u := m.c) nofun hv
    simp only [rv_t] at h1 h2 h3
    simp [d__law_lead, denOf, b__law_lead, rowsD, call2 h1, call2 h2, call2 h3, cComp, compA, noOwn, wipeE, unwipe, sl, M.ap]
/-! ### the law's worth -/
structure Small (v : P) : Prop where
  x : v.x.natAbs ≤ 1000
  y : v.y.natAbs ≤ 1000
  z : v.z.natAbs ≤ 1000
theorem sm_of {x : Int} (h : x.natAbs ≤ 1000) : Sm x := Nat.lt_of_le_of_lt h (by decide)
theorem Small.ok {b : Bool} {v : P} (h : Small v) (hz : b = false → v.z = 0) : OkV b v := ⟨hz, sm_of h.x, sm_of h.y, sm_of h.z⟩
theorem mul_bd {x y : Int} {m n : Nat} (h1 : x.natAbs ≤ m) (h2 : y.natAbs ≤ n) : (x * y).natAbs ≤ m * n := by
  rw [Int.natAbs_mul]; exact Nat.mul_le_mul h1 h2
theorem cross_bd {u v : P} {m n : Nat} (h1 : u.x.natAbs ≤ m ∧ u.y.natAbs ≤ m ∧ u.z.natAbs ≤ m) (h2 : v.x.natAbs ≤ n ∧ v.y.natAbs ≤ n ∧ v.z.natAbs ≤ n) :
    (cross u v).x.natAbs ≤ 2 * (m * n) ∧ (cross u v).y.natAbs ≤ 2 * (m * n) ∧ (cross u v).z.natAbs ≤ 2 * (m * n) := by
  have a1 := mul_bd h1.2.1 h2.2.2
  have a2 := mul_bd h1.2.2 h2.2.1
  have a3 := mul_bd h1.2.2 h2.1
  have a4 := mul_bd h1.1 h2.2.2
  have a5 := mul_bd h1.1 h2.2.1
  have a6 := mul_bd h1.2.1 h2.1
  simp only [cross]
  refine ⟨?_, ?_, ?_⟩ <;> omega
theorem Small.and {v : P} (h : Small v) : v.x.natAbs ≤ 1000 ∧ v.y.natAbs ≤ 1000 ∧ v.z.natAbs ≤ 1000 := ⟨h.x, h.y, h.z⟩
theorem cross_ok {u v : P} (h1 : Small u) (h2 : Small v) : OkV true (cross u v) := by
  have := cross_bd h1.and h2.and
  exact ⟨nofun, Nat.lt_of_le_of_lt this.1 (by decide), Nat.lt_of_le_of_lt this.2.1 (by decide), Nat.lt_of_le_of_lt this.2.2 (by decide)⟩
theorem lw_end {u : P} {s1 s2 s3 : Slot} (hy : u.y.natAbs < 2 ^ 64) (hz : u.z.natAbs < 2 ^ 64) :
    (sRet (eCall 2 d__law_gcd (gcV (eBin gIx (eVar 2) (eC (.int 0))) (gcV (eCall 2 d__law_gcd (gcV (eBin gIx (eVar 2) (eC (.int 1))) (gcV (eBin gIx (eVar 2) (eC (.int 2))) (gcNil)))) (gcNil))))) [s1, s2, .sh (rv true u), s3] = .rt (.int (g3 u)) [s1, s2, .sh (rv true u), s3] := by
  have h1 := law_gcd_ok (a := u.y) (b := u.z) (Nat.lt_of_lt_of_le hz (by decide))
  have hb : Nat.gcd u.y.natAbs u.z.natAbs < 2 ^ 64 := by
    by_cases c : u.z.natAbs = 0
    · rw [c, Nat.gcd_zero_right]; exact hy
    · exact Nat.lt_of_le_of_lt (Nat.gcd_le_right _ (by omega)) hz
  have h2 := law_gcd_ok (a := u.x) (b := (Nat.gcd u.y.natAbs u.z.natAbs : Nat)) (by rw [Int.natAbs_natCast]; exact Nat.lt_of_lt_of_le hb (by decide))
  rw [Int.natAbs_natCast] at h2
  simp [call2 h1, call2 h2, g3]
theorem lworth_ok {b : Bool} {us : List P} (hu : ∀ u ∈ us, Small u ∧ (b = false → u.z = 0)) (hl : us.length ≤ 3) (h0 : us ≠ []) : d__law_worth [.sh (vs b us)] = .ok (.int (wo us)) [.em] := by
  match us, hu, hl, h0 with
  | [u], hu, _, _ =>
    have q := hu u (by simp)
    have h1 := lup_ok (b := b) q.2
    have h2 := lw_end (u := u) (s1 := .sh (vs b [u])) (s2 := .sh (.lst [rv true u])) (s3 := .em) (Nat.lt_of_le_of_lt q.1.y (by decide)) (Nat.lt_of_le_of_lt q.1.z (by decide))
    refine den_rt (ρ := [.sh (vs b [u]), .sh (.lst [rv true u]), .sh (rv true u), .em]) rfl ?_
    show b__law_worth [.sh (vs b [u]), .em, .em, .em] = _
    cases b <;> simp [vs] at h1 h2 <;> simp [b__law_worth, vs, call1 h1, cComp, compA, noOwn, wipeE, unwipe, sl, h2, wo]
  | [u, v], hu, _, _ =>
    have q := hu u (by simp)
    have q2 := hu v (by simp)
    have h1 := lup_ok (b := b) q.2
    have h1' := lup_ok (b := b) q2.2
    have hc := lsquare_r (u := u) (q2.1.ok (b := true) nofun)
    have hk := cross_ok q.1 q2.1
    have h2 := lw_end (u := cross u v) (s1 := .sh (vs b [u, v])) (s2 := .sh (.lst [rv true u, rv true v])) (s3 := .em) hk.y hk.z
    refine den_rt (ρ := [.sh (vs b [u, v]), .sh (.lst [rv true u, rv true v]), .sh (rv true (cross u v)), .em]) rfl ?_
    show b__law_worth [.sh (vs b [u, v]), .em, .em, .em] = _
    cases b <;> simp [vs] at h1 h1' h2 hc <;> simp [b__law_worth, vs, call1 h1, call1 h1', call2 hc, cComp, compA, noOwn, wipeE, unwipe, sl, h2, wo]
  | [u, v, w], hu, _, _ =>
    cases b with
    | false =>
      have e : det u v w = 0 := by simp [det, dot, cross, (hu u (by simp)).2 rfl, (hu v (by simp)).2 rfl, (hu w (by simp)).2 rfl]
      refine den_rt (ρ := [.sh (vs false [u, v, w]), .em, .em, .em]) rfl ?_
      show b__law_worth [.sh (vs false [u, v, w]), .em, .em, .em] = _
      simp [b__law_worth, vs, wo, e]
    | true =>
      have h := ldet_ok (u := u) ((hu v (by simp)).1.ok (b := true) nofun) ((hu w (by simp)).1.ok (b := true) nofun)
      refine den_rt (ρ := [.sh (vs true [u, v, w]), .em, .em, .em]) rfl ?_
      show b__law_worth [.sh (vs true [u, v, w]), .em, .em, .em] = _
      simp at h
      simp [b__law_worth, vs, wo, call1 h, abs_eq, det_alt]
/-! ### the law's rank -/
def lr : List P → Nat
  | [] => 0
  | [_] => 1
  | [a, b] => if cross a b = zero then 1 else 2
  | [a, b, c] => if cross a b = zero then (if cross a c = zero then 1 else 2) else (if dot (cross a b) c = 0 then 2 else 3)
  | _ => 0
theorem lr_basis : ∀ us : List P, us.length ≤ 3 → lr (us.filter fun u => decide (u ≠ zero)) = (basis us).length
  | [], _ => rfl
  | [u], _ => by
    by_cases c : u = zero <;> simp [c, lr, basis, grow, free]
  | [u, v], _ => by
    by_cases c : u = zero <;> by_cases c2 : v = zero
    · simp [c, c2, lr, basis, grow, free]
    · simp [c, c2, lr, basis, grow, free]
    · have e : cross u zero = zero := by simp [cross, zero]
      simp [c, c2, lr, basis, grow, free, e]
    · by_cases c3 : cross u v = zero <;> simp [c, c2, c3, lr, basis, grow, free]
  | [u, v, w], _ => by
    have e : ∀ u, cross u zero = zero := fun u => by simp [cross, zero]
    have e2 : ∀ u, dot u zero = 0 := fun u => by simp [dot, zero]
    by_cases c : u = zero <;> by_cases c2 : v = zero <;> by_cases c3 : w = zero <;> simp [c, c2, c3, lr, basis, grow, free, e, e2]
    · by_cases c4 : cross v w = zero <;> simp [c4]
    · by_cases c4 : cross u w = zero <;> simp [c4]
    · by_cases c4 : cross u v = zero <;> simp [c4, e2]
    · by_cases c4 : cross u v = zero
      · by_cases c5 : cross u w = zero <;> simp [c4, c5]
      · by_cases c5 : dot (cross u v) w = 0 <;> simp [c4, c5]
theorem compA_fA {α : Type} {i : Nat} {ρ : En} {ft : En → R Bool} {fe : En → R D} {f h : α → D} {p : α → Bool} : ∀ (us : List α) (done : List D), (∀ u ∈ us, ft (ρ.set i (.sh (f u))) = .ok (p u) (ρ.set i (.sh (f u)))) → (∀ u ∈ us, p u = true → fe (ρ.set i (.sh (f u))) = .ok (h u) (ρ.set i (.sh (f u)))) → done.length + us.length ≤ sl →
    compA (gNm i) ft fe [i] (us.map f) done (ρ.set i .em) = .ok (done ++ (us.filter p).map h) (ρ.set i .em)
  | [], done, _, _, _ => by simp [compA]
  | d :: ds, done, ht, hd, hl => by
    simp only [List.length_cons] at hl
    have ih := fun done' => compA_fA ds done' (fun d hd' => ht d (List.mem_cons_of_mem _ hd')) (fun d hd' => hd d (List.mem_cons_of_mem _ hd'))
    rw [List.map_cons]
    unfold compA
    simp only [gNm_eq, List.set_set, ht d List.mem_cons_self]
    cases q : p d with
    | true =>
      simp only [hd d List.mem_cons_self q]
      rw [if_pos (by omega), wipe1, List.set_set, ih _ (by simp; omega)]
      simp [q]
    | false =>
      show compA (gNm i) ft fe [i] (ds.map f) done (wipeE (ρ.set i (.sh (f d))) [i]) = _
      rw [wipe1, List.set_set, ih _ (by omega)]
      simp [q]
theorem cComp_fA {α : Type} {i : Nat} {ρ ρ1 : En} {s : Slot} {fi : En → R (List D)} {ft : En → R Bool} {fe : En → R D} {f h : α → D} {p : α → Bool} {us : List α} (hi : fi ρ = .ok (us.map f) ρ1) (e0 : ρ1[i]? = some s) (hs : s.own = false) (ht : ∀ u ∈ us, ft (ρ1.set i (.sh (f u))) = .ok (p u) (ρ1.set i (.sh (f u))))
    (hd : ∀ u ∈ us, p u = true → fe (ρ1.set i (.sh (f u))) = .ok (h u) (ρ1.set i (.sh (f u)))) (hl : us.length ≤ sl) : cComp fi (gNm i) ft fe [i] ρ = .ok (.l ((us.filter p).map h)) ρ1 := by
  have li : i < ρ1.length := (List.getElem?_eq_some_iff.mp e0).1
  unfold cComp
  rw [hi]
  simp only
  rw [if_pos (noOwn1 e0 hs), wipe1, compA_fA us [] ht hd (by simpa using hl)]
  simp only
  rw [if_pos (noOwn1 (s := .em) (by rw [List.getElem?_set_self li]) rfl), unwipe_self li]
  simp
theorem cComp_mA {α : Type} {i : Nat} {ρ ρ1 : En} {s : Slot} {fi : En → R (List D)} {fe : En → R D} {f h : α → D} {us : List α} (hi : fi ρ = .ok (us.map f) ρ1) (e0 : ρ1[i]? = some s) (hs : s.own = false)
    (hd : ∀ u ∈ us, fe (ρ1.set i (.sh (f u))) = .ok (h u) (ρ1.set i (.sh (f u)))) (hl : us.length ≤ sl) : cComp fi (gNm i) tTrue fe [i] ρ = .ok (.l (us.map h)) ρ1 := by
  have := cComp_fA (ft := tTrue) (p := fun _ => true) hi e0 hs (fun u _ => rfl) (fun u hu _ => hd u hu) hl
  rw [this, List.filter_eq_self.mpr (by simp)]
theorem gNe_t3 {a b c x y z : Int} : gNe (t3 a b c) (t3 x y z) = some (.bl (!(a == x && (b == y && (c == z && true))))) := rfl
theorem gEq_t3 {a b c x y z : Int} : gEq (t3 a b c) (t3 x y z) = some (.bl (a == x && (b == y && (c == z && true)))) := rfl
theorem gEq_n0 : gEq (.lst []) (.lst []) = some (.bl true) := rfl
theorem gEq_n1 {a b c : Int} : gEq (.lst [t3 a b c]) (.lst []) = some (.bl false) := rfl
theorem gEq_n2 {a b c a' b' c' : Int} : gEq (.lst [t3 a b c, t3 a' b' c']) (.lst []) = some (.bl false) := rfl
theorem gEq_n3 {a b c a' b' c' a2 b2 c2 : Int} : gEq (.lst [t3 a b c, t3 a' b' c', t3 a2 b2 c2]) (.lst []) = some (.bl false) := rfl
theorem gNe_zero {v : P} : gNe (t3 v.x v.y v.z) (t3 0 0 0) = some (.bl (decide (v ≠ zero))) := by
  have e : decide (v ≠ zero) = !decide (v = zero) := by by_cases c : v = zero <;> simp [c]
  rw [gNe_t3, e, dec_zero, Bool.and_true]
theorem gEq_zero {v : P} : gEq (t3 v.x v.y v.z) (t3 0 0 0) = some (.bl (decide (v = zero))) := by
  rw [gEq_t3, dec_zero, Bool.and_true]
theorem dot_self_l (u v : P) : dot (cross u v) u = 0 := by simp only [dot, cross]; grind
theorem dot_self_r (u v : P) : dot (cross u v) v = 0 := by simp only [dot, cross]; grind
theorem lups_ok {b : Bool} {us : List P} {s1 s3 s4 s5 : Slot} (hu : ∀ u ∈ us, b = false → u.z = 0) (hl : us.length ≤ 3) :
    cComp (iSeq (eVar 0)) (gNm 2) (tTru (eA (gL Pu.allB fun bs => .bl (bs.any _root_.id)) (aCons (eF (cComp (iSeq (eVar 2)) (gNm 4) (tTrue) (eBin gNe (eVar 4) (eC (.int 0))) [4])) (aNil)))) (eCall 1 d__law_up (gcV (eVar 2) (gcNil))) [2] [.sh (vs b us), .em, .em, .em, .em, .em] = .ok (.l ((us.filter fun u => decide (u ≠ zero)).map (rv true))) [.sh (vs b us), .em, .em, .em, .em, .em] := by
  refine cComp_fA (us := us) (f := rv b) (s := .em) rfl rfl rfl (fun u hu' => ?_) (fun u hu' _ => ?_) (by unfold sl; omega)
  · have e : decide (u ≠ zero) = !decide (u = zero) := by by_cases c : u = zero <;> simp [c]
    rw [e, dec_zero]
    cases b with
    | false => simp [cComp, compA, noOwn, wipeE, unwipe, sl, hu u hu' rfl]
    | true => simp [cComp, compA, noOwn, wipeE, unwipe, sl]
  · have h := lup_ok (hu u hu')
    simp [call1 h]
theorem lrank_ok {b : Bool} {us : List P} (hu : ∀ u ∈ us, Small u ∧ (b = false → u.z = 0)) (hl : us.length ≤ 3) : d__law_rank [.sh (vs b us)] = .ok (.int (lr (us.filter fun u => decide (u ≠ zero)))) [.em] := by
  have h0 := lups_ok (b := b) (us := us) (s1 := .em) (s3 := .em) (s4 := .em) (s5 := .em) (fun u h => (hu u h).2) hl
  have hL : ∀ u ∈ us.filter (fun u => decide (u ≠ zero)), OkV true u := fun u h => (hu u (List.mem_filter.mp h).1).1.ok nofun
  have hlen : (us.filter fun u => decide (u ≠ zero)).length ≤ 3 := Nat.le_trans (List.length_filter_le _ _) hl
  generalize us.filter (fun u => decide (u ≠ zero)) = L at *
  have key : ∃ ρ, b__law_rank [.sh (vs b us), .em, .em, .em, .em, .em] = .rt (.int (lr L)) ρ := by
    simp only [b__law_rank, sSeq_eq, sSet_eq, eF_eq, h0, bind_ok, frzC_l, of_some, toS_ok, seq_nx]
    match L, hL, hlen with
    | [], _, _ => exact ⟨_, by simp [mkL, sl, lr, gEq_n0]; rfl⟩
    | [u], hL, _ =>
      have c1 := lsquare_r (u := u) (hL u (by simp))
      simp only [rv_t] at c1
      exact ⟨_, by simp [mkL, sl, lr, gEq_n1, call2 c1, mkT, gNe_zero, cross_self]; rfl⟩
    | [u, v], hL, _ =>
      have c1 := lsquare_r (u := u) (hL u (by simp))
      have c2 := lsquare_r (u := u) (hL v (by simp))
      have d1 := ldot_r (b := true) (u := cross u v) nofun (hL u (by simp))
      have d2 := ldot_r (b := true) (u := cross u v) nofun (hL v (by simp))
      simp only [rv_t, dot_self_l, dot_self_r] at c1 c2 d1 d2
      by_cases q : cross u v = zero
      · refine ⟨_, by simp [mkL, sl, lr, gEq_n2, call2 c1, call2 c2, mkT, gNe_zero, cross_self, q]; rfl⟩
      · refine ⟨_, by simp [mkL, sl, lr, gEq_n2, call2 c1, call2 c2, call2 d1, call2 d2, mkT, gNe_zero, cross_self, q, cComp, compA, noOwn, wipeE, unwipe]; rfl⟩
    | [u, v, w], hL, _ =>
      have c1 := lsquare_r (u := u) (hL u (by simp))
      have c2 := lsquare_r (u := u) (hL v (by simp))
      have c3 := lsquare_r (u := u) (hL w (by simp))
      have d1 := ldot_r (b := true) (u := cross u v) nofun (hL u (by simp))
      have d2 := ldot_r (b := true) (u := cross u v) nofun (hL v (by simp))
      have d3 := ldot_r (b := true) (u := cross u v) nofun (hL w (by simp))
      have e1 := ldot_r (b := true) (u := cross u w) nofun (hL u (by simp))
      have e2 := ldot_r (b := true) (u := cross u w) nofun (hL v (by simp))
      have e3 := ldot_r (b := true) (u := cross u w) nofun (hL w (by simp))
      simp only [rv_t, dot_self_l, dot_self_r] at c1 c2 c3 d1 d2 d3 e1 e2 e3
      by_cases q : cross u v = zero
      · have z : dot (cross u w) v = 0 := by
          have : dot (cross u w) v = - dot (cross u v) w := by simp only [dot, cross]; grind
          rw [this, q]; simp [dot, zero]
        rw [z] at e2
        by_cases q2 : cross u w = zero
        · refine ⟨_, by simp [mkL, sl, lr, gEq_n3, call2 c1, call2 c2, call2 c3, mkT, gNe_zero, cross_self, q, q2]; rfl⟩
        · refine ⟨_, by simp [mkL, sl, lr, gEq_n3, call2 c1, call2 c2, call2 c3, call2 e1, call2 e2, call2 e3, mkT, gNe_zero, cross_self, q, q2, cComp, compA, noOwn, wipeE, unwipe]; rfl⟩
      · by_cases q2 : dot (cross u v) w = 0
        · rw [q2] at d3
          refine ⟨_, by simp [mkL, sl, lr, gEq_n3, call2 c1, call2 c2, call2 d1, call2 d2, call2 d3, mkT, gNe_zero, cross_self, q, q2, cComp, compA, noOwn, wipeE, unwipe]; rfl⟩
        · refine ⟨_, by simp [mkL, sl, lr, gEq_n3, call2 c1, call2 c2, call2 d1, call2 d2, call2 d3, mkT, gNe_zero, cross_self, q, q2, cComp, compA, noOwn, wipeE, unwipe]; rfl⟩
  obtain ⟨ρ, h⟩ := key
  exact den_rt rfl h
end K06
namespace K06
open PySem PySem.Spec PyProof.Rows L2 Pu
set_option autoImplicit false
/-! ### the law's look at a point -/
theorem chn_int {fa fb fc : En → R D} {ρ : En} {w x y : Int} (ha : fa ρ = .ok (.int w) ρ) (hb : fb ρ = .ok (.int x) ρ) (hc : fc ρ = .ok (.int y) ρ) : eChn gLe gLt fa fb fc ρ = .ok (.bl (decide (w ≤ x) && decide (x < y))) ρ := by
  unfold eChn
  rw [ha, bind_ok, hb, bind_ok]
  simp only [gLe_int, of_some, bind_ok, asB_bl]
  by_cases c : w ≤ x
  · simp [c, hc]
  · simp [c]
theorem an_eq {fa fb : En → R D} {ρ : En} {c : Bool} {d : D} (ha : fa ρ = .ok (.bl c) ρ) (hb : fb ρ = .ok d ρ) : eAn fa fb ρ = .ok (if c then d else .bl false) ρ := by
  unfold eAn
  rw [ha]
  cases c
  · rfl
  · simp [hb]
theorem gAdd_lst {a b : List D} (h : a.length + b.length ≤ sl) : gAdd (.lst a) (.lst b) = some (.lst (a ++ b)) := by
  have e : gAddL (.lst a) (.lst b) = some (.lst (a ++ b)) := by
    show (if a.length + b.length ≤ sl then _ else _) = _
    rw [if_pos h]
  have e1 : (gI0 fun i j => D.int (i + j)) (.lst a) (.lst b) = none := rfl
  have e2 : gAddS (.lst a) (.lst b) = none := rfl
  unfold gAdd
  rw [e1, e2, e]
  rfl
theorem call_e {n : Nat} {g : Den} {fg : En → R (List AV)} {ρ : En} {us : List AV} {d : D} (h1 : fg ρ = .ok us ρ) (h2 : callD g us ρ = .ok d ρ) (hn : us.length = n) : eCall n g fg ρ = .ok d ρ := by
  rw [eCall_eq, h1, bind_ok, if_pos hn, h2]
theorem inside1 {v p : P} (hv : Small v) (h : v ≠ zero) : ∃ c, d__law_inside [.sh (vs true [v]), .sh (rv true p)] = .ok (.bl c) [.em, .em] ∧ (c = true ↔ In [v] p) := by
  have ov : OkV true v := hv.ok nofun
  have c1 := ldot_l (v := v) ov
  have c2 := lsquare_l (v := p) ov
  have c3 := ldot_l (v := p) ov
  refine ⟨decide (cross v p = zero) && (decide (0 ≤ dot v p) && decide (dot v p < dot v v)), ?_, ?_⟩
  · refine den_rt (ρ := [.sh (vs true [v]), .sh (rv true p), .sh (.int (dot v v)), .em, .em, .em, .em]) rfl ?_
    show b__law_inside [.sh (vs true [v]), .sh (rv true p), .em, .em, .em, .em, .em] = _
    simp only [rv_t] at c1 c2 c3
    have k1 : ∀ ρ : En, ρ = [.sh (vs true [v]), .sh (rv true p), .sh (.int (dot v v)), .em, .em, .em, .em] → eAn (eBin gEq (eCall 2 d__law_square (gcV (eBin gIx (eVar 0) (eC (.int 0))) (gcV (eVar 1) (gcNil)))) (eA mkT (aCons (eC (.int 0)) (aCons (eC (.int 0)) (aCons (eC (.int 0)) (aNil)))))) (eChn gLe gLt (eC (.int 0)) (eCall 2 d__law_dot (gcV (eBin gIx (eVar 0) (eC (.int 0))) (gcV (eVar 1) (gcNil)))) (eVar 2)) ρ = .ok (.bl (decide (cross v p = zero) && (decide (0 ≤ dot v p) && decide (dot v p < dot v v)))) ρ := by
      rintro ρ rfl
      rw [an_eq (c := decide (cross v p = zero)) (d := .bl (decide (0 ≤ dot v p) && decide (dot v p < dot v v)))]
      · by_cases q : cross v p = zero <;> simp [q]
      · simp [vs, call2 c2, mkT, sl, gEq_zero]
      · exact chn_int rfl (by simp [vs, call2 c3]) rfl
    simp only [b__law_inside, sSeq_eq]
    simp [call2 c1, vs]
    simp [vs] at k1
    rw [k1]
    rfl
  · rw [← in1 h]
    simp [Bool.and_eq_true, decide_eq_true_eq]
theorem cut3 {a b c : D} : cutL [a, b, c] none (some 0) = [] ∧ cutL [a, b, c] none (some 1) = [a] ∧ cutL [a, b, c] none (some 2) = [a, b] ∧ cutL [a, b, c] (some 1) none = [b, c] ∧ cutL [a, b, c] (some 2) none = [c] ∧ cutL [a, b, c] (some 3) none = [] := ⟨rfl, rfl, rfl, rfl, rfl, rfl⟩
theorem inside2 {v w p : P} (hv : Small v) (hw : Small w) (op : OkV true p) (h : cross v w ≠ zero) : ∃ c, d__law_inside [.sh (vs true [v, w]), .sh (rv true p)] = .ok (.bl c) [.em, .em] ∧ (c = true ↔ In [v, w] p) := by
  have ov : OkV true v := hv.ok nofun
  have ow : OkV true w := hw.ok nofun
  have on : OkV true (cross v w) := cross_ok hv hw
  have c1 := lsquare_r (u := v) ow
  have c2 := ldot_l (v := cross v w) on
  have c3 := ldot_l (v := p) on
  have c4 := lsquare_r (u := p) ow
  have c5 := ldot_r (b := true) (u := cross p w) nofun on
  have c6 := lsquare_l (v := p) ov
  have c7 := ldot_r (b := true) (u := cross v p) nofun on
  simp only [rv_t] at c1 c2 c3 c4 c5 c6 c7
  refine ⟨!(!decide (dot (cross v w) p = 0) || !(decide (0 ≤ dot (cross p w) (cross v w)) && decide (dot (cross p w) (cross v w) < dot (cross v w) (cross v w)))) && (decide (0 ≤ dot (cross v p) (cross v w)) && decide (dot (cross v p) (cross v w) < dot (cross v w) (cross v w))), ?_, ?_⟩
  · refine den_rt (ρ := [.sh (vs true [v, w]), .sh (rv true p), .sh (.int (dot (cross v w) (cross v w))), .sh (rv true (cross v w)), .em, .em, .em]) rfl ?_
    show b__law_inside [.sh (vs true [v, w]), .sh (rv true p), .em, .em, .em, .em, .em] = _
    have k1 : eChn gLe gLt (eC (.int 0)) (eCall 2 d__law_dot (gcV (eCall 2 d__law_square (gcV (eVar 1) (gcV (eBin gIx (eVar 0) (eC (.int 1))) (gcNil)))) (gcV (eVar 3) (gcNil)))) (eVar 2) [.sh (vs true [v, w]), .sh (rv true p), .sh (.int (dot (cross v w) (cross v w))), .sh (rv true (cross v w)), .em, .em, .em] = .ok (.bl (decide (0 ≤ dot (cross p w) (cross v w)) && decide (dot (cross p w) (cross v w) < dot (cross v w) (cross v w)))) [.sh (vs true [v, w]), .sh (rv true p), .sh (.int (dot (cross v w) (cross v w))), .sh (rv true (cross v w)), .em, .em, .em] :=
      chn_int rfl (by simp [vs, call2 c4, call2 c5]) rfl
    have k2 : eChn gLe gLt (eC (.int 0)) (eCall 2 d__law_dot (gcV (eCall 2 d__law_square (gcV (eBin gIx (eVar 0) (eC (.int 0))) (gcV (eVar 1) (gcNil)))) (gcV (eVar 3) (gcNil)))) (eVar 2) [.sh (vs true [v, w]), .sh (rv true p), .sh (.int (dot (cross v w) (cross v w))), .sh (rv true (cross v w)), .em, .em, .em] = .ok (.bl (decide (0 ≤ dot (cross v p) (cross v w)) && decide (dot (cross v p) (cross v w) < dot (cross v w) (cross v w)))) [.sh (vs true [v, w]), .sh (rv true p), .sh (.int (dot (cross v w) (cross v w))), .sh (rv true (cross v w)), .em, .em, .em] :=
      chn_int rfl (by simp [vs, call2 c6, call2 c7]) rfl
    generalize hB1 : (decide (0 ≤ dot (cross p w) (cross v w)) && decide (dot (cross p w) (cross v w) < dot (cross v w) (cross v w))) = B1 at k1 ⊢
    generalize hB2 : (decide (0 ≤ dot (cross v p) (cross v w)) && decide (dot (cross v p) (cross v w) < dot (cross v w) (cross v w))) = B2 at k2 ⊢
    simp only [vs, List.map_cons, List.map_nil, rv_t] at k1 k2
    by_cases q : dot (cross v w) p = 0
    · rw [q] at c3
      cases B1 <;> simp [b__law_inside, call2 c1, call2 c2, call2 c3, vs, k1, k2, q]
    · cases B1 <;> simp [b__law_inside, call2 c1, call2 c2, call2 c3, vs, k1, k2, q]
  · rw [← in2 h]
    simp [and_assoc]
theorem gLen3 {a b c : D} : gLen [.lst [a, b, c]] = some (.int 3) := rfl
theorem gA1 {a : D} : gAdd (.lst []) (.lst [a]) = some (.lst [a]) := gAdd_lst (by simp [sl])
theorem gA2 {a b c : D} : gAdd (.lst [a]) (.lst [b, c]) = some (.lst [a, b, c]) := gAdd_lst (by simp [sl])
theorem gA3 {a b : D} : gAdd (.lst [a]) (.lst [b]) = some (.lst [a, b]) := gAdd_lst (by simp [sl])
theorem gA4 {a b c : D} : gAdd (.lst [a, b]) (.lst [c]) = some (.lst [a, b, c]) := gAdd_lst (by simp [sl])
theorem gA5 {a b c : D} : gAdd (.lst [a, b, c]) (.lst []) = some (.lst [a, b, c]) := gAdd_lst (by simp [sl])
theorem inside3 {v w u p : P} (hv : Small v) (hw : Small w) (hu : Small u) (op : OkV true p) (h : det v w u ≠ 0) : ∃ c, d__law_inside [.sh (vs true [v, w, u]), .sh (rv true p)] = .ok (.bl c) [.em, .em] ∧ (c = true ↔ In [v, w, u] p) := by
  have ov : OkV true v := hv.ok nofun
  have ow : OkV true w := hw.ok nofun
  have ou : OkV true u := hu.ok nofun
  have c0 := ldet_ok (u := v) ow ou
  have c1 := ldet_ok (u := p) ow ou
  have c2 := ldet_ok (u := v) op ou
  have c3 := ldet_ok (u := v) ow op
  rw [det_alt] at c0 c1 c2 c3
  let s : Int := if 0 < det v w u then 1 else -1
  have hs : s = 1 ∨ s = -1 := by show (if 0 < det v w u then (1 : Int) else -1) = 1 ∨ (if 0 < det v w u then (1 : Int) else -1) = -1; split <;> simp
  have hp : 0 < s * det v w u := by
    show 0 < (if 0 < det v w u then (1 : Int) else -1) * det v w u
    split <;> omega
  have hsm : Sm s := by rcases hs with e | e <;> rw [e] <;> (unfold Sm; decide)
  let t (q : Int) : Bool := decide (0 ≤ s * q) && decide (s * q < s * det v w u)
  refine ⟨t (det p w u) && (t (det v p u) && t (det v w p)), ?_, ?_⟩
  · have key : ∃ ρ, b__law_inside [.sh (vs true [v, w, u]), .sh (rv true p), .em, .em, .em, .em, .em] = .rt (.bl (t (det p w u) && (t (det v p u) && t (det v w p)))) ρ := by
      have e4 : eIf (tOf (eBin gGt (eVar 2) (eC (.int 0)))) (eC (.int 1)) (eUn gNeg (eC (.int 1))) [.sh (vs true [v, w, u]), .sh (rv true p), .sh (.int (det v w u)), .em, .em, .em, .em] = .ok (.int s) [.sh (vs true [v, w, u]), .sh (rv true p), .sh (.int (det v w u)), .em, .em, .em, .em] := by
        by_cases q : 0 < det v w u <;> simp [q, s]
      have kk : ∀ (k : Int) (x : P × P × P) (s6 : Slot), d__law_det [.sh (.lst [rv true x.1, rv true x.2.1, rv true x.2.2])] = .ok (.int (det x.1 x.2.1 x.2.2)) [.em] → eChn gLe gLt (eC (.int 0)) (eBin gMulI (eVar 4) (eCall 1 d__law_det (gcV (eVar 6) (gcNil)))) (eBin gMulI (eVar 4) (eVar 2)) [.sh (vs true [v, w, u]), .sh (rv true p), .sh (.int (det v w u)), .em, .sh (.int s), .sh (.int k), .sh (.lst [rv true x.1, rv true x.2.1, rv true x.2.2])] = .ok (.bl (t (det x.1 x.2.1 x.2.2))) [.sh (vs true [v, w, u]), .sh (rv true p), .sh (.int (det v w u)), .em, .sh (.int s), .sh (.int k), .sh (.lst [rv true x.1, rv true x.2.1, rv true x.2.2])] := fun k x s6 hx =>
        chn_int rfl (by simp only [rv_t] at hx; simp [call1 hx, mul_l hsm]) (by simp [mul_l hsm])
      have k0 := kk 0 (p, w, u) .em c1
      have k1 := kk 1 (v, p, u) .em c2
      have k2 := kk 2 (v, w, p) .em c3
      simp only [vs, List.map_cons, List.map_nil, rv_t] at k0 k1 k2 e4 c0
      generalize t (det p w u) = T0 at k0 ⊢
      generalize t (det v p u) = T1 at k1 ⊢
      generalize t (det v w p) = T2 at k2 ⊢
      simp only [vs, List.map_cons, List.map_nil, rv_t]
      by_cases q : 0 < det v w u
      · have es : s = 1 := if_pos q
        rw [es] at k0 k1 k2
        cases T0 <;> cases T1 <;> cases T2 <;> exact ⟨_, by simp [b__law_inside, call1 c0, q, sl, gA1, gA2, gA3, gA4, gA5, mkL, eSl, oNo, oSo, asI, gSl, cut3.1, cut3.2.1, cut3.2.2.1, cut3.2.2.2.1, cut3.2.2.2.2.1, cut3.2.2.2.2.2, k0, k1, k2]; rfl⟩
      · have es : s = -1 := if_neg q
        rw [es] at k0 k1 k2
        cases T0 <;> cases T1 <;> cases T2 <;> exact ⟨_, by simp [b__law_inside, call1 c0, q, sl, gA1, gA2, gA3, gA4, gA5, mkL, eSl, oNo, oSo, asI, gSl, cut3.1, cut3.2.1, cut3.2.2.1, cut3.2.2.2.1, cut3.2.2.2.2.1, cut3.2.2.2.2.2, k0, k1, k2]; rfl⟩
    obtain ⟨ρ, hρ⟩ := key
    exact den_rt rfl hρ
  · rw [← in3 hs hp]
    simp [t]
end K06
namespace K06
open PySem PySem.Spec PyProof.Rows L2 Pu
set_option autoImplicit false
/-! ### how many there are -/
open Classical in
noncomputable def B (us : List P) (p : P) : Bool := decide (In us p)
theorem B_iff {us : List P} {p : P} : B us p = true ↔ In us p := by unfold B; simp
/-- looked at, of vectors that are free -/
def Free (us : List P) : Prop := us.length ≤ 3 ∧ us ≠ [] ∧ wo us ≠ 0
theorem inside_ok {us : List P} {p : P} (hu : ∀ u ∈ us, Small u) (hf : Free us) (op : OkV true p) : d__law_inside [.sh (vs true us), .sh (rv true p)] = .ok (.bl (B us p)) [.em, .em] := by
  have fin : (∃ c, d__law_inside [.sh (vs true us), .sh (rv true p)] = .ok (.bl c) [.em, .em] ∧ (c = true ↔ In us p)) → d__law_inside [.sh (vs true us), .sh (rv true p)] = .ok (.bl (B us p)) [.em, .em] := by
    rintro ⟨c, h1, h2⟩
    have : c = B us p := by
      have := h2.trans B_iff.symm
      cases c <;> cases h : B us p <;> simp_all
    rw [← this]; exact h1
  apply fin
  obtain ⟨hl, h0, hw⟩ := hf
  rcases us with _ | ⟨v, _ | ⟨w, _ | ⟨u, _ | ⟨x, us⟩⟩⟩⟩
  · exact absurd rfl h0
  · exact inside1 (hu v (by simp)) (fun e => hw (by show g3 v = 0; rw [e]; exact g3_zero))
  · exact inside2 (hu v (by simp)) (hu w (by simp)) op (fun e => hw (by show g3 (cross v w) = 0; rw [e]; exact g3_zero))
  · exact inside3 (hu v (by simp)) (hu w (by simp)) (hu u (by simp)) op (fun e => hw (by show ((det v w u).natAbs : Int) = 0; rw [e]; rfl))
  · simp only [List.length_cons] at hl; omega
theorem good_free {us : List P} (hf : Free us) : Good us := by
  match us, hf with
  | [v], ⟨_, _, hw⟩ => exact good1 hw
  | [v, w], ⟨_, _, hw⟩ => exact good2 hw
  | [v, w, u], ⟨_, _, hw⟩ => exact good3 (fun e => hw (by show ((det v w u).natAbs : Int) = 0; rw [e]; rfl))
  | [], ⟨_, h, _⟩ => exact absurd rfl h
  | _ :: _ :: _ :: _ :: _, ⟨h, _, _⟩ => simp at h
theorem wo_nonneg (us : List P) : 0 ≤ wo us := by
  match us with
  | [] => decide
  | [_] => exact g3_nonneg _
  | [_, _] => exact g3_nonneg _
  | [_, _, _] => exact Int.natCast_nonneg _
  | _ :: _ :: _ :: _ :: _ => exact Int.le_refl _
/-- whole numbers from lo on -/
def ups (lo : Int) (n : Nat) : List Int := (List.range n).map fun (k : Nat) => lo + (k : Int)
theorem mem_ups {lo x : Int} {n : Nat} : x ∈ ups lo n ↔ lo ≤ x ∧ x < lo + n := by
  unfold ups
  rw [List.mem_map]
  exact mem_range_add
theorem nodup_ups {lo : Int} {n : Nat} : (ups lo n).Nodup := by
  refine List.Pairwise.map _ (R := (· ≠ ·)) (fun i k h e => h ?_) List.nodup_range
  omega
def boxL (xs ys zs : List Int) : List P := xs.flatMap fun x => ys.flatMap fun y => zs.map fun z => ⟨x, y, z⟩
theorem nodup_box {xs ys zs : List Int} (hx : xs.Nodup) (hy : ys.Nodup) (hz : zs.Nodup) : (boxL xs ys zs).Nodup := by
  unfold boxL
  refine List.pairwise_flatMap.mpr ⟨fun x _ => List.pairwise_flatMap.mpr ⟨fun y _ => ?_, ?_⟩, ?_⟩
  · exact List.Pairwise.map _ (R := (· ≠ ·)) (fun i k h e => h (congrArg P.z e)) hz
  · refine List.Pairwise.imp (R := (· ≠ ·)) (fun {j k} h p hp q hq e => h ?_) hy
    simp only [List.mem_map] at hp hq
    obtain ⟨_, _, rfl⟩ := hp
    obtain ⟨_, _, rfl⟩ := hq
    exact congrArg P.y e
  · refine List.Pairwise.imp (R := (· ≠ ·)) (fun {j k} h p hp q hq e => h ?_) hx
    simp only [List.mem_flatMap, List.mem_map] at hp hq
    obtain ⟨_, _, _, _, rfl⟩ := hp
    obtain ⟨_, _, _, _, rfl⟩ := hq
    exact congrArg P.x e
theorem mem_box {xs ys zs : List Int} {p : P} : p ∈ boxL xs ys zs ↔ p.x ∈ xs ∧ p.y ∈ ys ∧ p.z ∈ zs := by
  unfold boxL
  simp only [List.mem_flatMap, List.mem_map]
  constructor
  · rintro ⟨x, hx, y, hy, z, hz, rfl⟩
    exact ⟨hx, hy, hz⟩
  · rintro ⟨hx, hy, hz⟩
    exact ⟨p.x, hx, p.y, hy, p.z, hz, rfl⟩
/-- the law's number is the worth -/
theorem count_box {us : List P} (hf : Free us) {a b c d e f : Int} {n1 n2 n3 : Nat} (h1 : ∀ p, In us p → (a ≤ p.x ∧ p.x < a + n1) ∧ (b ≤ p.y ∧ p.y < b + n2) ∧ (c ≤ p.z ∧ p.z < c + n3)) :
    (((boxL (ups a n1) (ups b n2) (ups c n3)).countP (B us) : Nat) : Int) = wo us := by
  have g := good_free hf
  have nd : ((boxL (ups a n1) (ups b n2) (ups c n3)).filter (B us)).Nodup := List.Pairwise.filter _ (nodup_box nodup_ups nodup_ups nodup_ups)
  have k := card_unique g nd fun p => by
    rw [List.mem_filter, mem_box, mem_ups, mem_ups, mem_ups, B_iff]
    exact ⟨fun h => h.2, fun h => ⟨h1 p h, h⟩⟩
  rw [List.countP_eq_length_filter, k]
  have := wo_nonneg us
  omega
/-! ### the loops -/
abbrev cZ : En → RS := sIf (tTru (eCall 2 d__law_inside (gcV (eVar 1) (gcV (eA mkT (aCons (eVar 5) (aCons (eVar 6) (aCons (eVar 7) (aNil))))) (gcNil))))) (sSet 4 (eBin gAdd (eVar 4) (eC (.int 1)))) (.nx)
abbrev cY : En → RS := sFor (iRg rng2 (aCons (eBin gIx (eVar 2) (eC (.int 2))) (aCons (eBin gAdd (eBin gIx (eVar 3) (eC (.int 2))) (eC (.int 1))) (aNil)))) (gNm 7) cZ
abbrev cX : En → RS := sFor (iRg rng2 (aCons (eBin gIx (eVar 2) (eC (.int 1))) (aCons (eBin gAdd (eBin gIx (eVar 3) (eC (.int 1))) (eC (.int 1))) (aNil)))) (gNm 6) cY
section
variable {us : List P} {d0 lo hi : D}
abbrev cE (d0 : D) (us : List P) (lo hi : D) (n : Int) (s5 s6 s7 : Slot) : En := [.sh d0, .sh (vs true us), .sh lo, .sh hi, .sh (.int n), s5, s6, s7, .em, .em]
theorem loopZ (hu : ∀ u ∈ us, Small u) (hf : Free us) {x y : Int} (hx : Sm x) (hy : Sm y) : ∀ (zs : List Int) (n : Int) (s7 : Slot), (∀ z ∈ zs, Sm z) →
    ∃ s7', forD (gNm 7) cZ (zs.map D.int) (cE d0 us lo hi n (.sh (.int x)) (.sh (.int y)) s7) = .nx (cE d0 us lo hi (n + ((zs.map fun z => (⟨x, y, z⟩ : P)).countP (B us) : Nat)) (.sh (.int x)) (.sh (.int y)) s7')
  | [], n, s7, _ => ⟨s7, by simp⟩
  | z :: zs, n, s7, hz => by
    have h := inside_ok hu hf (p := ⟨x, y, z⟩) ⟨nofun, hx, hy, hz z (by simp)⟩
    simp only [rv_t] at h
    obtain ⟨s7', ih⟩ := loopZ hu hf hx hy zs (n + (if B us ⟨x, y, z⟩ then 1 else 0)) (.sh (.int z)) (fun z h => hz z (List.mem_cons_of_mem _ h))
    refine ⟨s7', ?_⟩
    rw [List.map_cons, forD_nx (ρ1 := cE d0 us lo hi n (.sh (.int x)) (.sh (.int y)) (.sh (.int z))) (ρ2 := cE d0 us lo hi (n + (if B us ⟨x, y, z⟩ then 1 else 0)) (.sh (.int x)) (.sh (.int y)) (.sh (.int z))) rfl ?_, ih]
    · rw [List.map_cons, List.countP_cons]
      have e : n + (if B us ⟨x, y, z⟩ then 1 else 0) + (((zs.map fun z => (⟨x, y, z⟩ : P)).countP (B us) : Nat) : Int) = n + (((zs.map fun z => (⟨x, y, z⟩ : P)).countP (B us) + (if B us ⟨x, y, z⟩ = true then 1 else 0) : Nat) : Int) := by split <;> omega
      rw [e]
    · simp [cZ, cE, mkT, sl, call2 h]
      cases B us ⟨x, y, z⟩ <;> simp
theorem rng2_ok {a b : Int} (h1 : a.natAbs ≤ 4000) (h2 : b.natAbs ≤ 4000) : rng2 [.int a, .int b] = some ((ups a (b - a).toNat).map D.int) := by
  have e1 : rngOk a = true := by unfold rngOk; simp; omega
  have e2 : rngOk b = true := by unfold rngOk; simp; omega
  show (if rngOk a && rngOk b then some (rngD a (b - a).toNat) else none) = _
  rw [e1, e2]
  simp only [Bool.and_self, if_true, rngD, ups, List.map_map]
  rfl
theorem loopY (hu : ∀ u ∈ us, Small u) (hf : Free us) {x : Int} (hx : Sm x) {l0 l1 l2 t0 t1 t2 : Int} (b1 : l2.natAbs ≤ 3000) (b2 : t2.natAbs ≤ 3000) : ∀ (ys : List Int) (n : Int) (s6 s7 : Slot), (∀ z ∈ ys, Sm z) →
    ∃ s6' s7', forD (gNm 6) cY (ys.map D.int) (cE d0 us (.lst [.int l0, .int l1, .int l2]) (.lst [.int t0, .int t1, .int t2]) n (.sh (.int x)) s6 s7) = .nx (cE d0 us (.lst [.int l0, .int l1, .int l2]) (.lst [.int t0, .int t1, .int t2]) (n + ((ys.flatMap fun y => (ups l2 (t2 + 1 - l2).toNat).map fun z => (⟨x, y, z⟩ : P)).countP (B us) : Nat)) (.sh (.int x)) s6' s7')
  | [], n, s6, s7, _ => ⟨s6, s7, by simp⟩
  | y :: ys, n, s6, s7, hy => by
    obtain ⟨s7a, hz⟩ := loopZ (d0 := d0) (lo := .lst [.int l0, .int l1, .int l2]) (hi := .lst [.int t0, .int t1, .int t2]) hu hf hx (hy y (by simp)) (ups l2 (t2 + 1 - l2).toNat) n s7 (fun z h => by have := mem_ups.mp h; show z.natAbs < 2 ^ 64; omega)
    obtain ⟨s6', s7', ih⟩ := loopY hu hf hx (l0 := l0) (l1 := l1) (t0 := t0) (t1 := t1) b1 b2 ys (n + (((ups l2 (t2 + 1 - l2).toNat).map fun z => (⟨x, y, z⟩ : P)).countP (B us) : Nat)) (.sh (.int y)) s7a (fun z h => hy z (List.mem_cons_of_mem _ h))
    refine ⟨s6', s7', ?_⟩
    rw [List.map_cons, forD_nx (tg := gNm 6) (b := cY) (ρ1 := cE d0 us (.lst [.int l0, .int l1, .int l2]) (.lst [.int t0, .int t1, .int t2]) n (.sh (.int x)) (.sh (.int y)) s7) rfl (Eq.trans (by
      have e : iRg rng2 (aCons (eBin gIx (eVar 2) (eC (.int 2))) (aCons (eBin gAdd (eBin gIx (eVar 3) (eC (.int 2))) (eC (.int 1))) (aNil))) (cE d0 us (.lst [.int l0, .int l1, .int l2]) (.lst [.int t0, .int t1, .int t2]) n (.sh (.int x)) (.sh (.int y)) s7) = .ok ((ups l2 (t2 + 1 - l2).toNat).map D.int) (cE d0 us (.lst [.int l0, .int l1, .int l2]) (.lst [.int t0, .int t1, .int t2]) n (.sh (.int x)) (.sh (.int y)) s7) := by
        simp [cE, rng2_ok (show l2.natAbs ≤ 4000 by omega) (show (t2 + 1).natAbs ≤ 4000 by omega)]
      exact sFor_eq.trans (by rw [e, toS_ok])) hz), ih]
    rw [List.flatMap_cons, List.countP_append, Int.natCast_add, Int.add_assoc]
theorem loopX (hu : ∀ u ∈ us, Small u) (hf : Free us) {l0 l1 l2 t0 t1 t2 : Int} (b1 : l2.natAbs ≤ 3000) (b2 : t2.natAbs ≤ 3000) (b3 : l1.natAbs ≤ 3000) (b4 : t1.natAbs ≤ 3000) : ∀ (xs : List Int) (n : Int) (s5 s6 s7 : Slot), (∀ z ∈ xs, Sm z) →
    ∃ s5' s6' s7', forD (gNm 5) cX (xs.map D.int) (cE d0 us (.lst [.int l0, .int l1, .int l2]) (.lst [.int t0, .int t1, .int t2]) n s5 s6 s7) = .nx (cE d0 us (.lst [.int l0, .int l1, .int l2]) (.lst [.int t0, .int t1, .int t2]) (n + ((boxL xs (ups l1 (t1 + 1 - l1).toNat) (ups l2 (t2 + 1 - l2).toNat)).countP (B us) : Nat)) s5' s6' s7')
  | [], n, s5, s6, s7, _ => ⟨s5, s6, s7, by simp [boxL]⟩
  | x :: xs, n, s5, s6, s7, hx => by
    obtain ⟨s6a, s7a, hz⟩ := loopY (d0 := d0) hu hf (hx x (by simp)) (l0 := l0) (l1 := l1) (t0 := t0) (t1 := t1) b1 b2 (ups l1 (t1 + 1 - l1).toNat) n s6 s7 (fun z h => by have := mem_ups.mp h; show z.natAbs < 2 ^ 64; omega)
    obtain ⟨s5', s6', s7', ih⟩ := loopX hu hf (l0 := l0) (t0 := t0) b1 b2 b3 b4 xs (n + (((ups l1 (t1 + 1 - l1).toNat).flatMap fun y => (ups l2 (t2 + 1 - l2).toNat).map fun z => (⟨x, y, z⟩ : P)).countP (B us) : Nat)) (.sh (.int x)) s6a s7a (fun z h => hx z (List.mem_cons_of_mem _ h))
    refine ⟨s5', s6', s7', ?_⟩
    rw [List.map_cons, forD_nx (tg := gNm 5) (b := cX) (ρ1 := cE d0 us (.lst [.int l0, .int l1, .int l2]) (.lst [.int t0, .int t1, .int t2]) n (.sh (.int x)) s6 s7) rfl (Eq.trans (by
      have e : iRg rng2 (aCons (eBin gIx (eVar 2) (eC (.int 1))) (aCons (eBin gAdd (eBin gIx (eVar 3) (eC (.int 1))) (eC (.int 1))) (aNil))) (cE d0 us (.lst [.int l0, .int l1, .int l2]) (.lst [.int t0, .int t1, .int t2]) n (.sh (.int x)) s6 s7) = .ok ((ups l1 (t1 + 1 - l1).toNat).map D.int) (cE d0 us (.lst [.int l0, .int l1, .int l2]) (.lst [.int t0, .int t1, .int t2]) n (.sh (.int x)) s6 s7) := by
        simp [cE, rng2_ok (show l1.natAbs ≤ 4000 by omega) (show (t1 + 1).natAbs ≤ 4000 by omega)]
      exact sFor_eq.trans (by rw [e, toS_ok])) hz), ih]
    unfold boxL
    rw [List.flatMap_cons, List.countP_append, Int.natCast_add, Int.add_assoc]
end
/-! ### the ends of the box -/
def crd (k : Int) (u : P) : Int := if k = 0 then u.x else if k = 1 then u.y else u.z
theorem lows_bd : ∀ l : List Int, (∀ x ∈ l, x.natAbs ≤ 1000) → lows l ≤ 0 ∧ -(1000 * (l.length : Int)) ≤ lows l ∧ 0 ≤ tops l ∧ tops l ≤ 1000 * (l.length : Int)
  | [], _ => by simp [lows, tops]
  | x :: l, h => by
    have ih := lows_bd l fun x hx => h x (List.mem_cons_of_mem _ hx)
    have hx := h x (by simp)
    have e1 : lows (x :: l) = (if x < 0 then x else 0) + lows l := by simp [lows]
    have e2 : tops (x :: l) = (if x > 0 then x else 0) + tops l := by simp [tops]
    rw [e1, e2]
    simp only [List.length_cons]
    split <;> split <;> omega
theorem allI_mapA {α : Type} (f : α → Int) : ∀ us : List α, Pu.allI (us.map fun u => D.int (f u)) = some (us.map f)
  | [] => rfl
  | u :: us => by simp [allI_mapA f us]
theorem crd_ix {u : P} {k : Int} (h : k = 0 ∨ k = 1 ∨ k = 2) : gIx (rv true u) (.int k) = some (.int (crd k u)) := by
  rcases h with rfl | rfl | rfl <;> simp [crd]
theorem ends_ok {b : Bool} {us : List P} (hl : us.length ≤ 3) {s2 : Slot} (g : Int → Int) (gi : Int → Int → D) (hg : ∀ x, gi 0 x = .int (g x)) :
    cComp (iRg rng1 (aCons (eC (.int 3)) (aNil))) (gNm 9) (tTrue) (eA (gL Pu.allI fun ns => .int ns.sum) (aCons (eF (cComp (iSeq (eVar 1)) (gNm 8) (tTrue) (eA (g2I gi) (aCons (eC (.int 0)) (aCons (eBin gIx (eVar 8) (eVar 9)) (aNil)))) [8])) (aNil))) [9] [.sh (vs b us), .sh (vs true us), s2, .em, .em, .em, .em, .em, .em, .em]
    = .ok (.l [.int ((us.map fun u => g u.x).sum), .int ((us.map fun u => g u.y).sum), .int ((us.map fun u => g u.z).sum)]) [.sh (vs b us), .sh (vs true us), s2, .em, .em, .em, .em, .em, .em, .em] := by
  have h := cComp_mA (us := [0, 1, 2]) (f := D.int) (h := fun k => D.int ((us.map fun u => g (crd k u)).sum)) (i := 9) (s := .em) (fi := iRg rng1 (aCons (eC (.int 3)) (aNil))) (fe := eA (gL Pu.allI fun ns => .int ns.sum) (aCons (eF (cComp (iSeq (eVar 1)) (gNm 8) (tTrue) (eA (g2I gi) (aCons (eC (.int 0)) (aCons (eBin gIx (eVar 8) (eVar 9)) (aNil)))) [8])) (aNil)))
    (ρ := [.sh (vs b us), .sh (vs true us), s2, .em, .em, .em, .em, .em, .em, .em]) (ρ1 := [.sh (vs b us), .sh (vs true us), s2, .em, .em, .em, .em, .em, .em, .em]) rfl rfl rfl (fun k hk => ?_) (by decide)
  · exact h
  · have hk : k = 0 ∨ k = 1 ∨ k = 2 := by simpa using hk
    have h2 := cComp_mA (us := us) (f := rv true) (h := fun u => D.int (g (crd k u))) (i := 8) (s := .em) (fi := iSeq (eVar 1)) (fe := eA (g2I gi) (aCons (eC (.int 0)) (aCons (eBin gIx (eVar 8) (eVar 9)) (aNil))))
      (ρ := [.sh (vs b us), .sh (vs true us), s2, .em, .em, .em, .em, .em, .em, .sh (.int k)]) (ρ1 := [.sh (vs b us), .sh (vs true us), s2, .em, .em, .em, .em, .em, .em, .sh (.int k)]) rfl rfl rfl (fun u _ => ?_) (by unfold sl; omega)
    · show (eA _ (aCons (eF _) aNil)) [.sh (vs b us), .sh (vs true us), s2, .em, .em, .em, .em, .em, .em, .sh (.int k)] = _
      simp only [eA_eq, aCons_eq, aNil_eq, eF_eq, h2, bind_ok, frzC_l, of_some, gL_eq, allI_mapA, Option.map_some]
      rfl
    · show (eA _ (aCons _ (aCons (eBin gIx (eVar 8) (eVar 9)) aNil))) [.sh (vs b us), .sh (vs true us), s2, .em, .em, .em, .em, .em, .sh (rv true u), .sh (.int k)] = _
      have e8 : eVar 8 [.sh (vs b us), .sh (vs true us), s2, .em, .em, .em, .em, .em, .sh (rv true u), .sh (.int k)] = .ok (rv true u) [.sh (vs b us), .sh (vs true us), s2, .em, .em, .em, .em, .em, .sh (rv true u), .sh (.int k)] := rfl
      have e9 : eVar 9 [.sh (vs b us), .sh (vs true us), s2, .em, .em, .em, .em, .em, .sh (rv true u), .sh (.int k)] = .ok (.int k) [.sh (vs b us), .sh (vs true us), s2, .em, .em, .em, .em, .em, .sh (rv true u), .sh (.int k)] := rfl
      simp only [eA_eq, aCons_eq, aNil_eq, eBin_eq, eC_eq, bind_ok, e8, e9, crd_ix hk, of_some, g2I_int, hg]
      rfl
theorem count_ok {b : Bool} {us : List P} (hu : ∀ u ∈ us, Small u ∧ (b = false → u.z = 0)) (hf : Free us) : d__law_count [.sh (vs b us)] = .ok (.int (wo us)) [.em] := by
  have hl := hf.1
  have h1 := cComp_mA (us := us) (f := rv b) (h := rv true) (i := 8) (s := .em) (fi := iSeq (eVar 0)) (fe := eCall 1 d__law_up (gcV (eVar 8) (gcNil))) (ρ := [.sh (vs b us), .em, .em, .em, .em, .em, .em, .em, .em, .em]) (ρ1 := [.sh (vs b us), .em, .em, .em, .em, .em, .em, .em, .em, .em]) rfl rfl rfl
    (fun u h => by have q := lup_ok (hu u h).2; simp [call1 q]) (by unfold sl; omega)
  have h2 := ends_ok (b := b) (s2 := .em) hl (fun x => if x < 0 then x else 0) (fun i k => .int (if k < i then k else i)) (fun x => rfl)
  have h3 := ends_ok (b := b) (s2 := .sh (.lst [.int (lows (us.map P.x)), .int (lows (us.map P.y)), .int (lows (us.map P.z))])) hl (fun x => if x > 0 then x else 0) (fun i k => .int (if k > i then k else i)) (fun x => rfl)
  have lx := lows_bd (us.map P.x) (fun x hx => by obtain ⟨u, h, rfl⟩ := List.mem_map.mp hx; exact (hu u h).1.x)
  have ly := lows_bd (us.map P.y) (fun x hx => by obtain ⟨u, h, rfl⟩ := List.mem_map.mp hx; exact (hu u h).1.y)
  have lz := lows_bd (us.map P.z) (fun x hx => by obtain ⟨u, h, rfl⟩ := List.mem_map.mp hx; exact (hu u h).1.z)
  rw [List.length_map] at lx ly lz
  have ex : ∀ (f : P → Int), (us.map fun u => (fun x : Int => if x < 0 then x else 0) (f u)).sum = lows (us.map f) := fun f => by unfold lows; rw [List.map_map]; rfl
  have et : ∀ (f : P → Int), (us.map fun u => (fun x : Int => if x > 0 then x else 0) (f u)).sum = tops (us.map f) := fun f => by unfold tops; rw [List.map_map]; rfl
  rw [ex P.x, ex P.y, ex P.z] at h2
  rw [et P.x, et P.y, et P.z] at h3
  obtain ⟨s5, s6, s7, h4⟩ := loopX (us := us) (d0 := vs b us) (fun u h => (hu u h).1) hf (l0 := lows (us.map P.x)) (l1 := lows (us.map P.y)) (l2 := lows (us.map P.z)) (t0 := tops (us.map P.x)) (t1 := tops (us.map P.y)) (t2 := tops (us.map P.z))
    (by omega) (by omega) (by omega) (by omega) (ups (lows (us.map P.x)) (tops (us.map P.x) + 1 - lows (us.map P.x)).toNat) 0 .em .em .em (fun z h => by have := mem_ups.mp h; show z.natAbs < 2 ^ 64; omega)
  have hc := count_box hf (a := lows (us.map P.x)) (b := lows (us.map P.y)) (c := lows (us.map P.z)) (d := 0) (e := 0) (f := 0) (n1 := (tops (us.map P.x) + 1 - lows (us.map P.x)).toNat) (n2 := (tops (us.map P.y) + 1 - lows (us.map P.y)).toNat) (n3 := (tops (us.map P.z) + 1 - lows (us.map P.z)).toNat) (fun p hp => by
    have bx := box hp P.x (fun _ _ => rfl) (fun _ _ => rfl) rfl
    have by' := box hp P.y (fun _ _ => rfl) (fun _ _ => rfl) rfl
    have bz := box hp P.z (fun _ _ => rfl) (fun _ _ => rfl) rfl
    omega)
  rw [hc, Int.zero_add] at h4
  refine den_rt (ρ := cE (vs b us) us (.lst [.int (lows (us.map P.x)), .int (lows (us.map P.y)), .int (lows (us.map P.z))]) (.lst [.int (tops (us.map P.x)), .int (tops (us.map P.y)), .int (tops (us.map P.z))]) (wo us) s5 s6 s7) rfl ?_
  show b__law_count [.sh (vs b us), .em, .em, .em, .em, .em, .em, .em, .em, .em] = _
  have e := rng2_ok (a := lows (us.map P.x)) (b := tops (us.map P.x) + 1) (by omega) (by omega)
  have e5 : iRg rng2 (aCons (eBin gIx (eVar 2) (eC (.int 0))) (aCons (eBin gAdd (eBin gIx (eVar 3) (eC (.int 0))) (eC (.int 1))) (aNil))) (cE (vs b us) us (.lst [.int (lows (us.map P.x)), .int (lows (us.map P.y)), .int (lows (us.map P.z))]) (.lst [.int (tops (us.map P.x)), .int (tops (us.map P.y)), .int (tops (us.map P.z))]) 0 .em .em .em) = .ok ((ups (lows (us.map P.x)) (tops (us.map P.x) + 1 - lows (us.map P.x)).toNat).map D.int) (cE (vs b us) us (.lst [.int (lows (us.map P.x)), .int (lows (us.map P.y)), .int (lows (us.map P.z))]) (.lst [.int (tops (us.map P.x)), .int (tops (us.map P.y)), .int (tops (us.map P.z))]) 0 .em .em .em) := by
    simp [cE, e]
  have eb : b__law_count = sSeq (sSet 1 (eF (cComp (iSeq (eVar 0)) (gNm 8) (tTrue) (eCall 1 d__law_up (gcV (eVar 8) (gcNil))) [8])))
    (sSeq (sSet 2 (eF (cComp (iRg rng1 (aCons (eC (.int 3)) (aNil))) (gNm 9) (tTrue) (eA (gL Pu.allI fun ns => .int ns.sum) (aCons (eF (cComp (iSeq (eVar 1)) (gNm 8) (tTrue) (eA (g2I fun i k => .int (if k < i then k else i)) (aCons (eC (.int 0)) (aCons (eBin gIx (eVar 8) (eVar 9)) (aNil)))) [8])) (aNil))) [9])))
    (sSeq (sSet 3 (eF (cComp (iRg rng1 (aCons (eC (.int 3)) (aNil))) (gNm 9) (tTrue) (eA (gL Pu.allI fun ns => .int ns.sum) (aCons (eF (cComp (iSeq (eVar 1)) (gNm 8) (tTrue) (eA (g2I fun i k => .int (if k > i then k else i)) (aCons (eC (.int 0)) (aCons (eBin gIx (eVar 8) (eVar 9)) (aNil)))) [8])) (aNil))) [9])))
    (sSeq (sSet 4 (eC (.int 0))) (sSeq (sFor (iRg rng2 (aCons (eBin gIx (eVar 2) (eC (.int 0))) (aCons (eBin gAdd (eBin gIx (eVar 3) (eC (.int 0))) (eC (.int 1))) (aNil)))) (gNm 5) cX) (sRet (eVar 4)))))) := rfl
  have z1 : (sSet 1 (eF (cComp (iSeq (eVar 0)) (gNm 8) (tTrue) (eCall 1 d__law_up (gcV (eVar 8) (gcNil))) [8]))) [.sh (vs b us), .em, .em, .em, .em, .em, .em, .em, .em, .em] = .nx [.sh (vs b us), .sh (vs true us), .em, .em, .em, .em, .em, .em, .em, .em] := by
    rw [sSet_eq, eF_eq, h1]; rfl
  have z2 : (sSet 2 (eF (cComp (iRg rng1 (aCons (eC (.int 3)) (aNil))) (gNm 9) (tTrue) (eA (gL Pu.allI fun ns => .int ns.sum) (aCons (eF (cComp (iSeq (eVar 1)) (gNm 8) (tTrue) (eA (g2I fun i k => .int (if k < i then k else i)) (aCons (eC (.int 0)) (aCons (eBin gIx (eVar 8) (eVar 9)) (aNil)))) [8])) (aNil))) [9]))) [.sh (vs b us), .sh (vs true us), .em, .em, .em, .em, .em, .em, .em, .em] = .nx [.sh (vs b us), .sh (vs true us), .sh (.lst [.int (lows (us.map P.x)), .int (lows (us.map P.y)), .int (lows (us.map P.z))]), .em, .em, .em, .em, .em, .em, .em] := by
    rw [sSet_eq, eF_eq, h2]; rfl
  have z3 : (sSet 3 (eF (cComp (iRg rng1 (aCons (eC (.int 3)) (aNil))) (gNm 9) (tTrue) (eA (gL Pu.allI fun ns => .int ns.sum) (aCons (eF (cComp (iSeq (eVar 1)) (gNm 8) (tTrue) (eA (g2I fun i k => .int (if k > i then k else i)) (aCons (eC (.int 0)) (aCons (eBin gIx (eVar 8) (eVar 9)) (aNil)))) [8])) (aNil))) [9]))) [.sh (vs b us), .sh (vs true us), .sh (.lst [.int (lows (us.map P.x)), .int (lows (us.map P.y)), .int (lows (us.map P.z))]), .em, .em, .em, .em, .em, .em, .em] = .nx [.sh (vs b us), .sh (vs true us), .sh (.lst [.int (lows (us.map P.x)), .int (lows (us.map P.y)), .int (lows (us.map P.z))]), .sh (.lst [.int (tops (us.map P.x)), .int (tops (us.map P.y)), .int (tops (us.map P.z))]), .em, .em, .em, .em, .em, .em] := by
    rw [sSet_eq, eF_eq, h3]; rfl
  have z4 : (sSet 4 (eC (.int 0))) [.sh (vs b us), .sh (vs true us), .sh (.lst [.int (lows (us.map P.x)), .int (lows (us.map P.y)), .int (lows (us.map P.z))]), .sh (.lst [.int (tops (us.map P.x)), .int (tops (us.map P.y)), .int (tops (us.map P.z))]), .em, .em, .em, .em, .em, .em] = .nx (cE (vs b us) us (.lst [.int (lows (us.map P.x)), .int (lows (us.map P.y)), .int (lows (us.map P.z))]) (.lst [.int (tops (us.map P.x)), .int (tops (us.map P.y)), .int (tops (us.map P.z))]) 0 .em .em .em) := rfl
  rw [eb, sSeq_eq, z1, seq_nx, sSeq_eq, z2, seq_nx, sSeq_eq, z3, seq_nx, sSeq_eq, z4, seq_nx, sSeq_eq, sFor_eq, e5, toS_ok, h4, seq_nx]
  rfl
end K06
namespace K06
open PySem PySem.Spec PyProof.Rows L2 Pu
set_option autoImplicit false
/-! ### the bag -/
structure Bag where
  cells : List Int
  fold : Int
  at_ : Int
  turn : Int
  left : Int
def bagK (b : Bag) : List (Key × D) := [(.inr "cells", .lst (b.cells.map D.int)), (.inr "fold", .int b.fold), (.inr "at", .int b.at_), (.inr "turn", .int b.turn), (.inr "left", .int b.left)]
def bagC (b : Bag) : Slot := .ow (.d (bagK b))
def BagOk (b : Bag) : Prop := 0 ≤ b.at_
section
variable {b : Bag} {ρ : En} {x : Int}
theorem dg_cells : eDg 0 (eC (.str "cells")) (bagC b :: ρ) = .ok (.lst (b.cells.map D.int)) (bagC b :: ρ) := rfl
theorem dg_fold : eDg 0 (eC (.str "fold")) (bagC b :: ρ) = .ok (.int b.fold) (bagC b :: ρ) := rfl
theorem dg_at : eDg 0 (eC (.str "at")) (bagC b :: ρ) = .ok (.int b.at_) (bagC b :: ρ) := rfl
theorem dg_turn : eDg 0 (eC (.str "turn")) (bagC b :: ρ) = .ok (.int b.turn) (bagC b :: ρ) := rfl
theorem dg_left : eDg 0 (eC (.str "left")) (bagC b :: ρ) = .ok (.int b.left) (bagC b :: ρ) := rfl
theorem dp_at {fv : En → R D} (h : fv (bagC b :: ρ) = .ok (.int x) (bagC b :: ρ)) : sDp 0 (eC (.str "at")) fv (bagC b :: ρ) = .nx (bagC { b with at_ := x } :: ρ) := by unfold sDp; rw [h]; rfl
theorem dp_turn {fv : En → R D} (h : fv (bagC b :: ρ) = .ok (.int x) (bagC b :: ρ)) : sDp 0 (eC (.str "turn")) fv (bagC b :: ρ) = .nx (bagC { b with turn := x } :: ρ) := by unfold sDp; rw [h]; rfl
theorem dp_left {fv : En → R D} (h : fv (bagC b :: ρ) = .ok (.int x) (bagC b :: ρ)) : sDp 0 (eC (.str "left")) fv (bagC b :: ρ) = .nx (bagC { b with left := x } :: ρ) := by unfold sDp; rw [h]; rfl
end
theorem den_rt0 {ns np : Nat} {g : En → RS} {s ρ : En} {t : Slot} {d : D} (hl : s.length = np) (hn : 0 < np) (h : g (s ++ List.replicate (ns - np) .em) = .rt d (t :: ρ)) : denOf ns np [0] g s = .ok d (t :: List.replicate (np - 1) .em) := by
  unfold denOf
  rw [if_pos hl, h]
  simp only [RC.ok.injEq, true_and]
  obtain ⟨n, rfl⟩ := Nat.exists_eq_succ_of_ne_zero (by omega : np ≠ 0)
  unfold outs
  rw [List.range_succ_eq_map, List.map_cons, List.map_map]
  have e : ((fun i => if i ∈ [0] then (t :: ρ).getD i Slot.em else Slot.em) ∘ Nat.succ) = fun _ => Slot.em := funext fun i => by simp
  rw [e, List.map_const', List.length_range]
  rfl
theorem pow_ok {i : Int} {n : Nat} (h1 : i.natAbs < 2 ^ 64) (h2 : n ≤ 1000000) : gPow (.int i) (.int (n : Int)) = some (.int (i ^ n)) := by
  unfold gPow gI
  have e1 : (0 : Int) ≤ n := by omega
  have e2 : (n : Int) ≤ 1000000 := by omega
  simp [e1, e2, h1]
theorem atI_len {α : Type} {xs : List α} {i : Int} (h0 : 0 ≤ i) (h1 : i < xs.length) : ∃ x ∈ xs, atI xs i = some x := by
  have hl : i.toNat < xs.length := by omega
  refine ⟨xs[i.toNat], List.getElem_mem hl, ?_⟩
  unfold atI ixN
  rw [if_pos h0, if_pos h1]
  show xs[i.toNat]? = _
  exact List.getElem?_eq_getElem hl
theorem log_ok {n : Int} (h0 : 0 < n) (h : n ≤ 2000) : n.natAbs.log2 < 9000 := by
  have := Nat.log2_le_self n.natAbs
  omega
theorem take_ok {b : Bag} {n : Int} (hb : BagOk b) (h0 : 0 < n) (hn : n ≤ 2000) : ∃ p b', d__law_take [bagC b, .sh (.int n)] = .ok (.int p) [bagC b', .em] ∧ 0 ≤ p ∧ p < n ∧ BagOk b' := by
  have hfd : ∀ i : Int, gFdiv (.int i) (.int n) = some (.int (i / n)) := fun i => gFdiv_pos h0 (log_ok h0 hn)
  have hmd : ∀ i : Int, gMod (.int i) (.int n) = some (.int (i % n)) := fun i => gMod_pos h0
  have m0 : ∀ i : Int, 0 ≤ i % n := fun i => Int.emod_nonneg i (by omega)
  have m1 : ∀ i : Int, i % n < n := fun i => Int.emod_lt_of_pos i h0
  have key : ∃ p b' ρ, b__law_take [bagC b, .sh (.int n), .em, .em, .em] = .rt (.int p) (bagC b' :: ρ) ∧ 0 ≤ p ∧ p < n ∧ BagOk b' := by
    have e1 := dp_turn (b := b) (ρ := [.sh (.int n), .em, .em, .em]) (x := b.turn + 1) (fv := eBin gAdd (eDg 0 (eC (.str "turn"))) (eC (.int 1))) (by simp only [eBin_eq, dg_turn, eC_eq, bind_ok, gAdd_int, of_some])
    generalize hb1 : ({ b with turn := b.turn + 1 } : Bag) = b1 at e1
    have o1 : BagOk b1 := by rw [← hb1]; exact hb
    unfold b__law_take
    simp only [sSeq_eq, e1, seq_nx]
    clear e1 hb1
    -- the last part, of any cell
    have last : ∀ (b1 : Bag) (s2 : Slot) (c : Int), BagOk b1 → ∃ p b' ρ, ((sSeq (sSet 4 (eBin gMod (eA gInt (aCons (eBin gAdd (eBin gAdd (eBin gMulI (eVar 3) (eC (.int 48271))) (eBin gMulI (eDg 0 (eC (.str "turn"))) (eC (.int 7368787)))) (eC (.int 11))) (aNil))) (eC (.int 2147483647))))
        (sSeq (sSet 4 (eBin gMod (eA gInt (aCons (eBin gAdd (eBin gAdd (eBin gPow (eVar 4) (eC (.int 5))) (eBin gMulI (eDg 0 (eC (.str "turn"))) (eC (.int 104729)))) (eDg 0 (eC (.str "fold")))) (aNil))) (eC (.int 2147483629))))
        (sRet (eBin gMod (eBin gFdiv (eBin gMod (eA gInt (aCons (eBin gPow (eVar 4) (eC (.int 3))) (aNil))) (eC (.int 2147483549))) (eC (.int 4))) (eVar 1)))))) [bagC b1, .sh (.int n), s2, .sh (.int c), .em] = .rt (.int p) (bagC b' :: ρ) ∧ 0 ≤ p ∧ p < n ∧ BagOk b' := by
      intro b1 s2 c o1
      have q1 : ∀ i : Int, gMulI (.int i) (.int 48271) = some (.int (i * 48271)) := fun i => gMul_r (by decide)
      have q2 : ∀ i : Int, gMulI (.int i) (.int 7368787) = some (.int (i * 7368787)) := fun i => gMul_r (by decide)
      have q3 : ∀ i : Int, gMulI (.int i) (.int 104729) = some (.int (i * 104729)) := fun i => gMul_r (by decide)
      have w1 : ∀ i : Int, gMod (.int i) (.int 2147483647) = some (.int (i % 2147483647)) := fun i => gMod_pos (by decide)
      have w2 : ∀ i : Int, gMod (.int i) (.int 2147483629) = some (.int (i % 2147483629)) := fun i => gMod_pos (by decide)
      have w3 : ∀ i : Int, gMod (.int i) (.int 2147483549) = some (.int (i % 2147483549)) := fun i => gMod_pos (by decide)
      have w4 : ∀ i : Int, gFdiv (.int i) (.int 4) = some (.int (i / 4)) := fun i => gFdiv_pos (by decide) (log_ok (by decide) (by decide))
      have p5 : ∀ i : Int, gPow (.int (i % 2147483647)) (.int 5) = some (.int ((i % 2147483647) ^ 5)) := fun i => pow_ok (n := 5) (by omega) (by decide)
      have p3 : ∀ i : Int, gPow (.int (i % 2147483629)) (.int 3) = some (.int ((i % 2147483629) ^ 3)) := fun i => pow_ok (n := 3) (by omega) (by decide)
      simp only [sSeq_eq, sSet_eq, sRet_eq, eBin_eq, eA_eq, aCons_eq, aNil_eq, eC_eq, eVar_3, eVar_1, bind_ok, q1, q2, q3, w1, w2, w3, w4, of_some, dg_turn, dg_fold, gAdd_int, gInt_i, toS_ok, List.set_cons_succ, List.set_cons_zero, seq_nx, eVar_4, p5, p3, hmd]
      exact ⟨_, _, _, rfl, m0 _, m1 _, o1⟩
    by_cases c1 : 0 < b1.left
    · simp only [sIf_eq, tOf_eq, eBin_eq, dg_left, eC_eq, bind_ok, gGt_int, of_some, asB_bl, c1, decide_true, toS_ok, if_true, sSeq_eq, sSet_eq, eA_eq, aCons_eq, aNil_eq, gInt_i, eVar_1, hmd, List.set_cons_succ, List.set_cons_zero, seq_nx]
      rw [dp_left (x := b1.left / n) (by simp only [eBin_eq, dg_left, eVar_1, bind_ok, hfd, of_some])]
      exact ⟨_, _, _, rfl, m0 _, m1 _, o1⟩
    · have c1' : decide (0 < b1.left) = false := decide_eq_false c1
      simp only [sIf_eq, tOf_eq, eBin_eq, dg_left, eC_eq, bind_ok, gGt_int, of_some, asB_bl, c1', toS_ok, Bool.false_eq_true, if_false, seq_nx, sSeq_eq, sSet_eq, dg_fold, List.set_cons_succ, List.set_cons_zero, dg_at, dg_cells, eA_eq, aCons_eq, aNil_eq, gLen_l, gLt_int, List.length_map]
      by_cases c2 : b1.at_ < b1.cells.length
      · obtain ⟨x, hx, ex⟩ := atI_len (xs := b1.cells.map D.int) o1 (by rw [List.length_map]; exact c2)
        obtain ⟨v, _, rfl⟩ := List.mem_map.mp hx
        simp only [c2, decide_true, if_true, sSeq_eq, sSet_eq, eBin_eq, dg_at, dg_cells, gIx_l, ex, of_some, bind_ok, toS_ok, seq_nx, List.set_cons_succ, List.set_cons_zero]
        rw [dp_at (x := b1.at_ + 1) (by simp only [eBin_eq, dg_at, eC_eq, bind_ok, gAdd_int, of_some])]
        generalize hb2 : ({ b1 with at_ := b1.at_ + 1 } : Bag) = b2
        have o2 : BagOk b2 := by rw [← hb2]; show 0 ≤ b1.at_ + 1; have : 0 ≤ b1.at_ := o1; omega
        clear hb2
        simp only [seq_nx, sIf_eq, tOf_eq, eBin_eq, eC_eq, eVar_3, bind_ok, gGe_int, of_some, asB_bl, toS_ok]
        by_cases c3 : 1000000000000000000 ≤ v
        · simp only [c3, decide_true, if_true, sSeq_eq]
          rw [dp_left (x := v / n) (by simp only [eBin_eq, eVar_3, eVar_1, bind_ok, hfd, of_some])]
          simp only [seq_nx, sRet_eq, eBin_eq, eA_eq, aCons_eq, aNil_eq, eVar_3, eVar_1, bind_ok, gInt_i, of_some, hmd, toS_ok, seq_rt]
          exact ⟨_, _, _, rfl, m0 _, m1 _, o2⟩
        · have c3' : decide ((1000000000000000000 : Int) ≤ v) = false := decide_eq_false c3
          simp only [c3', Bool.false_eq_true, if_false, seq_nx]
          have := last b2 .em v o2
          exact this
      · have c2' : decide (b1.at_ < (b1.cells.length : Int)) = false := decide_eq_false c2
        simp only [c2', Bool.false_eq_true, if_false, toS_ok, seq_nx]
        have := last b1 .em b1.fold o1
        exact this
  obtain ⟨p, b', ρ, h, h1, h2, h3⟩ := key
  exact ⟨p, b', den_rt0 rfl (by decide) h, h1, h2, h3⟩
end K06
namespace K06
open PySem PySem.Spec PyProof.Rows L2 Pu
set_option autoImplicit false
section
variable {g : Den} {ρ : En} {b b' : Bag} {x y d : D} {s0 : Slot}
theorem io1 (h : g [bagC b, .sh x] = .ok d [bagC b', .em]) : callD g [.io 0, .d x] (bagC b :: ρ) = .ok d (bagC b' :: ρ) := by
  unfold bagC at *
  simp [callD, iosOk, slotsOf, slotOf, frzAll, h, putO, noIo]
theorem io2 (h : g [bagC b, .sh x, .sh y] = .ok d [bagC b', .em, .em]) : callD g [.io 0, .d x, .d y] (bagC b :: ρ) = .ok d (bagC b' :: ρ) := by
  unfold bagC at *
  simp [callD, iosOk, slotsOf, slotOf, frzAll, h, putO, noIo]
theorem jo1 (h : g [bagC b, .sh x] = .ok d [bagC b', .em]) : callD g [.io 1, .d x] (s0 :: bagC b :: ρ) = .ok d (s0 :: bagC b' :: ρ) := by
  unfold bagC at *
  simp [callD, iosOk, slotsOf, slotOf, frzAll, h, putO, noIo]
theorem jo2 (h : g [bagC b, .sh x, .sh y] = .ok d [bagC b', .em, .em]) : callD g [.io 1, .d x, .d y] (s0 :: bagC b :: ρ) = .ok d (s0 :: bagC b' :: ρ) := by
  unfold bagC at *
  simp [callD, iosOk, slotsOf, slotOf, frzAll, h, putO, noIo]
theorem gcN0 {u : AV} {f : En → R (List AV)} : gcN u 0 f (bagC b :: ρ) = (f (bagC b :: ρ)).bind fun ds ρ2 => .ok (u :: ds) ρ2 := rfl
theorem gcN1 {u : AV} {f : En → R (List AV)} : gcN u 1 f (s0 :: bagC b :: ρ) = (f (s0 :: bagC b :: ρ)).bind fun ds ρ2 => .ok (u :: ds) ρ2 := rfl
theorem bag_own : (bagC b).own = true := rfl
end
theorem entry_ok {b : Bag} {n : Int} (hb : BagOk b) (h0 : 0 ≤ n) (hn : n ≤ 900) : ∃ p b', d__law_entry [bagC b, .sh (.int n)] = .ok (.int p) [bagC b', .em] ∧ -n ≤ p ∧ p ≤ n ∧ BagOk b' := by
  obtain ⟨p, b', h, h1, h2, h3⟩ := take_ok (n := 2 * n + 1) hb (by omega) (by omega)
  have w2 : gMod (.int p) (.int 2) = some (.int (p % 2)) := gMod_pos (by decide)
  have w4 : ∀ i : Int, gFdiv (.int i) (.int 2) = some (.int (i / 2)) := fun i => gFdiv_pos (by decide) (log_ok (by decide) (by decide))
  have q1 : gMulI (.int 2) (.int n) = some (.int (2 * n)) := gMul_l (by decide)
  have key : ∃ p' ρ, b__law_entry [bagC b, .sh (.int n), .em] = .rt (.int p') (bagC b' :: ρ) ∧ -n ≤ p' ∧ p' ≤ n := by
    unfold b__law_entry
    have e1 : sSet 2 (eCall 2 d__law_take (gcN (.io 0) 0 (gcV (eBin gAdd (eBin gMulI (eC (.int 2)) (eVar 1)) (eC (.int 1))) (gcNil)))) [bagC b, .sh (.int n), .em] = .nx [bagC b', .sh (.int n), .sh (.int p)] := by
      simp [gcN0, q1, io1 h]
    rw [sSeq_eq, e1, seq_nx]
    by_cases c : p % 2 = 1
    · exact ⟨(p + 1) / 2, [.sh (.int n), .sh (.int p)], by simp [w2, w4, c], by omega, by omega⟩
    · exact ⟨0 - p / 2, [.sh (.int n), .sh (.int p)], by simp [w2, w4, c, -Int.zero_sub], by omega, by omega⟩
  obtain ⟨p', ρ, h4, h5, h6⟩ := key
  exact ⟨p', b', den_rt0 rfl (by decide) h4, h5, h6, h3⟩
structure Bd (n : Int) (b : Bool) (v : P) : Prop where
  x : -n ≤ v.x ∧ v.x ≤ n
  y : -n ≤ v.y ∧ v.y ≤ n
  z : -n ≤ v.z ∧ v.z ≤ n
  flat : b = false → v.z = 0
theorem Bd.small {n : Int} {b : Bool} {v : P} (h : Bd n b v) (hn : n ≤ 1000) : Small v := ⟨by have := h.x; omega, by have := h.y; omega, by have := h.z; omega⟩
theorem vec_ok {b : Bag} {c : Bool} {n : Int} (hb : BagOk b) (h0 : 0 ≤ n) (hn : n ≤ 900) : ∃ v b', d__law_vec [bagC b, .sh (.int (dimI c)), .sh (.int n)] = .ok (rv c v) [bagC b', .em, .em] ∧ Bd n c v ∧ BagOk b' := by
  obtain ⟨p1, b1, e1, l1, u1, o1⟩ := entry_ok (n := n) hb h0 hn
  obtain ⟨p2, b2, e2, l2, u2, o2⟩ := entry_ok (n := n) o1 h0 hn
  obtain ⟨p3, b3, e3, l3, u3, o3⟩ := entry_ok (n := n) o2 h0 hn
  have no : ∀ {b : Bag} {ρ : En}, noOwn (bagC b :: .sh (.int (dimI c)) :: .sh (.int n) :: .em :: ρ) [3] = true := fun {b ρ} => rfl
  cases c with
  | false =>
    refine ⟨⟨p1, p2, 0⟩, b2, den_rt0 (ρ := [.sh (.int 2), .sh (.int n), .em]) rfl (by decide) ?_, ⟨⟨l1, u1⟩, ⟨l2, u2⟩, ⟨by show -n ≤ 0; omega, h0⟩, fun _ => rfl⟩, o2⟩
    show b__law_vec [bagC b, .sh (.int 2), .sh (.int n), .em] = _
    simp [b__law_vec, cComp, compA, noOwn, wipeE, unwipe, sl, gcN0, io1 e1, io1 e2]
  | true =>
    refine ⟨⟨p1, p2, p3⟩, b3, den_rt0 (ρ := [.sh (.int 3), .sh (.int n), .em]) rfl (by decide) ?_, ⟨⟨l1, u1⟩, ⟨l2, u2⟩, ⟨l3, u3⟩, nofun⟩, o3⟩
    show b__law_vec [bagC b, .sh (.int 3), .sh (.int n), .em] = _
    simp [b__law_vec, cComp, compA, noOwn, wipeE, unwipe, sl, gcN0, io1 e1, io1 e2, io1 e3]
/-! ### the vectors that are drawn -/
theorem rng1_1 : rng1 [.int 1] = some [.int 0] := rfl
/-- the first list -/
theorem vecs_ok {b : Bag} {c : Bool} (hb : BagOk b) {p : Int} (h0 : 0 ≤ p) (h1 : p < dimI c) : ∃ (us : List P) (b' : Bag), (∀ u ∈ us, Bd 2 c u) ∧ BagOk b' ∧ (us.length : Int) = 1 + p ∧
    compA (gNm 4) tTrue (eCall 3 d__law_vec (gcN (.io 0) 0 (gcV (eVar 1) (gcV (eC (.int 2)) (gcNil))))) [4] (rngD 0 (1 + p).toNat) [] [bagC b, .sh (.int (dimI c)), .em, .em, .em] = .ok (us.map (rv c)) [bagC b', .sh (.int (dimI c)), .em, .em, .em] := by
  obtain ⟨v1, b1, e1, l1, o1⟩ := vec_ok (c := c) (n := 2) hb (by decide) (by decide)
  obtain ⟨v2, b2, e2, l2, o2⟩ := vec_ok (c := c) (n := 2) o1 (by decide) (by decide)
  obtain ⟨v3, b3, e3, l3, o3⟩ := vec_ok (c := c) (n := 2) o2 (by decide) (by decide)
  have hp : p = 0 ∨ p = 1 ∨ (p = 2) := by cases c <;> simp [dimI] at h1 <;> omega
  rcases hp with rfl | rfl | rfl
  · refine ⟨[v1], b1, by simpa using l1, o1, rfl, ?_⟩
    simp [rngD, compA, wipeE, sl, gcN0, io2 e1]
  · refine ⟨[v1, v2], b2, by simpa using ⟨l1, l2⟩, o2, rfl, ?_⟩
    simp [rngD, compA, wipeE, sl, gcN0, io2 e1, io2 e2, List.range_succ]
  · refine ⟨[v1, v2, v3], b3, by simpa using ⟨l1, l2, l3⟩, o3, rfl, ?_⟩
    simp [rngD, compA, wipeE, sl, gcN0, io2 e1, io2 e2, io2 e3, List.range_succ]
theorem Bd.mono {m n : Int} {b : Bool} {v : P} (h : Bd m b v) (hm : m ≤ n) : Bd n b v := ⟨by have := h.x; omega, by have := h.y; omega, by have := h.z; omega, h.flat⟩
/-- a list that is our own, and a bag -/
abbrev dE (b : Bag) (c : Bool) (us : List P) (s3 : Slot) : En := [bagC b, .sh (.int (dimI c)), .ow (.l (us.map (rv c))), s3, .em]
theorem sto_ok {i : Int} {m : Nat} {fi fv : En → R D} {ρ ρ1 : En} {d : D} {ds : List D} {k : Nat} (hv : fv ρ = .ok d ρ1) (h1 : ρ1[k]? = some (.ow (.l ds))) (hi : fi ρ1 = .ok (.int i) ρ1) (hm : ixN ds.length i = some m) : sSto k fi fv ρ = .nx (ρ1.set k (.ow (.l (ds.set m d)))) := by
  unfold sSto
  rw [hv, toS_ok, h1]
  simp only [hi, toS_ok, h1, hm]
theorem drawn_ok {b : Bag} {c : Bool} (hb : BagOk b) : ∃ (us : List P) (b' : Bag), (∀ u ∈ us, Bd 4 c u) ∧ BagOk b' ∧ us ≠ [] ∧ us.length ≤ 3 ∧ (us.length : Int) ≤ dimI c ∧ d__law_drawn [bagC b, .sh (.int (dimI c))] = .ok (vs c us) [bagC b', .em] := by
  have hd : 0 < dimI c ∧ dimI c ≤ 3 := by cases c <;> decide
  obtain ⟨p, b1, e1, l1, u1, o1⟩ := take_ok (n := dimI c) hb hd.1 (by omega)
  obtain ⟨us, b2, hus, o2, hlen, e2⟩ := vecs_ok (c := c) o1 l1 u1
  obtain ⟨sh, b3, e3, l3, u3, o3⟩ := take_ok (n := 6) o2 (by decide) (by decide)
  have st1 : (sSetF 2 (cComp (iRg rng1 (aCons (eBin gAdd (eC (.int 1)) (eCall 2 d__law_take (gcN (.io 0) 0 (gcV (eVar 1) (gcNil))))) (aNil))) (gNm 4) (tTrue) (eCall 3 d__law_vec (gcN (.io 0) 0 (gcV (eVar 1) (gcV (eC (.int 2)) (gcNil))))) [4])) [bagC b, .sh (.int (dimI c)), .em, .em, .em] = .nx (dE b2 c us .em) := by
    have hr : rng1 [.int (1 + p)] = some (rngD 0 (1 + p).toNat) := rng1_ok (by unfold rngOk; simp; omega)
    have hi : iRg rng1 (aCons (eBin gAdd (eC (.int 1)) (eCall 2 d__law_take (gcN (.io 0) 0 (gcV (eVar 1) (gcNil))))) (aNil)) [bagC b, .sh (.int (dimI c)), .em, .em, .em] = .ok (rngD 0 (1 + p).toNat) [bagC b1, .sh (.int (dimI c)), .em, .em, .em] := by
      simp [gcN0, io1 e1, hr]
    rw [sSetF_eq]
    unfold cComp
    rw [hi]
    simp only
    have w1 : wipeE [bagC b1, .sh (.int (dimI c)), .em, .em, .em] [4] = [bagC b1, .sh (.int (dimI c)), .em, .em, .em] := rfl
    rw [if_pos (by rfl), w1, e2]
    simp only
    rw [if_pos (by rfl)]
    rfl
  have st2 : (sSet 3 (eCall 2 d__law_take (gcN (.io 0) 0 (gcV (eC (.int 6)) (gcNil))))) (dE b2 c us .em) = .nx (dE b3 c us (.sh (.int sh))) := by
    simp [dE, gcN0, io1 e3]
  have lp : ∀ {b : Bag} {us : List P} {s : Slot}, eLenP 2 (dE b c us s) = .ok (.int us.length) (dE b c us s) := fun {b us s} => by
    show R.ok (D.int ((us.map (rv c)).length)) _ = _
    rw [List.length_map]
  have v3 : ∀ {b : Bag} {us : List P} {s : D}, eVar 3 (dE b c us (.sh s)) = .ok s (dE b c us (.sh s)) := rfl
  have v1 : ∀ {b : Bag} {us : List P} {s : Slot}, eVar 1 (dE b c us s) = .ok (.int (dimI c)) (dE b c us s) := rfl
  have ixp : ∀ {b : Bag} {us : List P} {s : Slot} {i : Int} {d : D}, atI (us.map (rv c)) i = some d → eIxP 2 (eC (.int i)) (dE b c us s) = .ok d (dE b c us s) := fun {b us s i d} h => by
    show R.of (gIx (.lst (us.map (rv c))) (.int i)) _ = _
    rw [gIx_l, h]; rfl
  have hu4 : ∀ u ∈ us, Bd 4 c u := fun u h => (hus u h).mono (by decide)
  -- what is left
  have fin : ∀ (ws : List P) (b4 : Bag), (∀ u ∈ ws, Bd 4 c u) → BagOk b4 → ws.length = us.length → b__law_drawn [bagC b, .sh (.int (dimI c)), .em, .em, .em] = .rt (vs c ws) [bagC b4, .sh (.int (dimI c)), .sh (vs c ws), .sh (.int sh), .em] → ∃ (us : List P) (b' : Bag), (∀ u ∈ us, Bd 4 c u) ∧ BagOk b' ∧ us ≠ [] ∧ us.length ≤ 3 ∧ (us.length : Int) ≤ dimI c ∧ d__law_drawn [bagC b, .sh (.int (dimI c))] = .ok (vs c us) [bagC b', .em] := fun ws b4 h1 h2 h3 h4 => by
    refine ⟨ws, b4, h1, h2, fun e => ?_, by omega, by omega, den_rt0 rfl (by decide) h4⟩
    rw [e] at h3
    simp at h3
    omega
  have back : ∀ (ws : List P) (b4 : Bag), (sRet (eVar 2)) (dE b4 c ws (.sh (.int sh))) = .rt (vs c ws) [bagC b4, .sh (.int (dimI c)), .sh (vs c ws), .sh (.int sh), .em] := fun ws b4 => rfl
  unfold b__law_drawn at fin
  rw [sSeq_eq, st1, seq_nx, sSeq_eq, st2, seq_nx] at fin
  by_cases c1 : sh = 1
  · obtain ⟨v, b4, e4, h4, o4⟩ := vec_ok (c := c) (n := 4) o3 (by decide) (by decide)
    have hv : (eCall 3 d__law_vec (gcN (.io 0) 0 (gcV (eVar 1) (gcV (eC (.int 4)) (gcNil))))) (dE b3 c us (.sh (.int sh))) = .ok (rv c v) (dE b4 c us (.sh (.int sh))) := by
      simp [dE, gcN0, io2 e4]
    have s1 : sSto 2 (eC (.int 0)) (eCall 3 d__law_vec (gcN (.io 0) 0 (gcV (eVar 1) (gcV (eC (.int 4)) (gcNil))))) (dE b3 c us (.sh (.int sh))) = .nx (dE b4 c (us.set 0 v) (.sh (.int sh))) := by
      rw [sto_ok (fi := eC (.int 0)) (i := 0) (m := 0) hv (show (dE b4 c us (.sh (.int sh)))[2]? = some (.ow (.l (us.map (rv c)))) from rfl) rfl (by rw [List.length_map]; unfold ixN; rw [if_pos (by decide), if_pos (by omega)]; rfl)]
      rw [← List.map_set]
      rfl
    refine fin (us.set 0 v) b4 (fun u h => ?_) o4 (List.length_set ..) ?_
    · rcases List.mem_or_eq_of_mem_set h with h | rfl
      · exact hu4 u h
      · exact h4
    · have n2 : ((1 : Int) == 2) = false := rfl
      have n3 : ((1 : Int) == 3) = false := rfl
      subst c1
      simp only [sSeq_eq, sIf_eq, tOf_eq, tAn_eq, eBin_eq, v3, eC_eq, bind_ok, gEq_int, of_some, asB_bl, toS_ok, beq_self_eq_true, if_true, s1, seq_nx, n2, n3, Bool.false_eq_true, if_false, back]
  · have f1 : (sh == 1) = false := decide_eq_false c1
    by_cases c2 : sh = 2 ∧ 1 < us.length
    · obtain ⟨c2, c2l⟩ := c2
      obtain ⟨p4, b4, e4, l4, u4, o4⟩ := entry_ok (n := 2) o3 (by decide) (by decide)
      match us, hus, hlen, c2l, hu4, fin with
      | u0 :: u1 :: rest, hus, hlen, c2l, hu4, fin =>
        have h0 := hus u0 (by simp)
        have hsm : Sm p4 := by show p4.natAbs < 2 ^ 64; omega
        have e5 := lfold_ok (b := c) (u := u0) hsm
        have hv : (eCall 2 d__law_fold (gcV (eCall 2 d__law_entry (gcN (.io 0) 0 (gcV (eC (.int 2)) (gcNil)))) (gcV (eIxP 2 (eC (.int 0))) (gcNil)))) (dE b3 c (u0 :: u1 :: rest) (.sh (.int sh))) = .ok (rv c (smul p4 u0)) (dE b4 c (u0 :: u1 :: rest) (.sh (.int sh))) := by
          have q := ixp (b := b4) (us := u0 :: u1 :: rest) (s := .sh (.int sh)) (i := 0) (d := rv c u0) (by simp)
          simp only [dE] at q
          simp [dE, gcN0, io1 e4, q, call2 e5]
          simp only [List.map_cons] at q
          rw [q]
          simp [call2 e5]
        have s1 : sSto 2 (eC (.int 1)) (eCall 2 d__law_fold (gcV (eCall 2 d__law_entry (gcN (.io 0) 0 (gcV (eC (.int 2)) (gcNil)))) (gcV (eIxP 2 (eC (.int 0))) (gcNil)))) (dE b3 c (u0 :: u1 :: rest) (.sh (.int sh))) = .nx (dE b4 c (u0 :: smul p4 u0 :: rest) (.sh (.int sh))) := by
          rw [sto_ok (fi := eC (.int 1)) (i := 1) (m := 1) hv (show (dE b4 c (u0 :: u1 :: rest) (.sh (.int sh)))[2]? = some (.ow (.l ((u0 :: u1 :: rest).map (rv c)))) from rfl) rfl (by rw [List.length_map]; unfold ixN; rw [if_pos (by decide), if_pos (by simp only [List.length_cons]; omega)]; rfl)]
          rfl
        refine fin (u0 :: smul p4 u0 :: rest) b4 (fun u h => ?_) o4 rfl ?_
        · rcases List.mem_cons.mp h with rfl | h
          · exact hu4 _ (by simp)
          · rcases List.mem_cons.mp h with rfl | h
            · have mb : ∀ x : Int, -2 ≤ x ∧ x ≤ 2 → -4 ≤ p4 * x ∧ p4 * x ≤ 4 := fun x hx => by
                have := mul_bd (x := p4) (y := x) (m := 2) (n := 2) (by omega) (by omega)
                omega
              exact ⟨mb _ h0.x, mb _ h0.y, mb _ h0.z, fun e => by show p4 * u0.z = 0; rw [h0.flat e, Int.mul_zero]⟩
            · exact hu4 _ (by simp [h])
        · have n1 : ((2 : Int) == 1) = false := rfl
          have n3 : ((2 : Int) == 3) = false := rfl
          have g1 : decide ((1 : Int) < ((u0 :: u1 :: rest).length : Int)) = true := decide_eq_true (by simp only [List.length_cons]; omega)
          subst c2
          simp only [sSeq_eq, sIf_eq, tOf_eq, tAn_eq, eBin_eq, v3, lp, eC_eq, bind_ok, gEq_int, gGt_int, of_some, asB_bl, toS_ok, beq_self_eq_true, if_true, g1, s1, seq_nx, n1, n3, Bool.false_eq_true, if_false, back]
    · have f2 : ((sh == 2) && decide ((1 : Int) < us.length)) = false := by
        by_cases q : sh = 2
        · have : ¬ 1 < us.length := fun h => c2 ⟨q, h⟩
          simp; omega
        · simp [q]
      have k2 : (tAn (tOf (eBin gEq (eVar 3) (eC (.int 2)))) (tOf (eBin gGt (eLenP 2) (eC (.int 1))))) (dE b3 c us (.sh (.int sh))) = .ok false (dE b3 c us (.sh (.int sh))) := by
        rw [← f2]
        simp only [tAn_eq, tOf_eq, eBin_eq, v3, lp, eC_eq, bind_ok, gEq_int, gGt_int, of_some, asB_bl]
        cases (sh == 2) <;> simp
      by_cases c3 : sh = 3 ∧ us.length = 3
      · obtain ⟨c3, c3l⟩ := c3
        match us, hus, hlen, c3l, hu4, fin, k2 with
        | [u0, u1, u2], hus, hlen, c3l, hu4, fin, k2 =>
          have h0 := hus u0 (by simp)
          have h1 := hus u1 (by simp)
          have e5 := lplus_ok (b := c) (u := u0) (v := u1)
          have hv : (eCall 2 d__law_plus (gcV (eIxP 2 (eC (.int 0))) (gcV (eIxP 2 (eC (.int 1))) (gcNil)))) (dE b3 c [u0, u1, u2] (.sh (.int sh))) = .ok (rv c (add u0 u1)) (dE b3 c [u0, u1, u2] (.sh (.int sh))) := by
            have q0 := ixp (b := b3) (us := [u0, u1, u2]) (s := .sh (.int sh)) (i := 0) (d := rv c u0) (by simp)
            have q1 := ixp (b := b3) (us := [u0, u1, u2]) (s := .sh (.int sh)) (i := 1) (d := rv c u1) (by simp)
            simp only [eCall_eq, gcV_eq, gcNil_eq, q0, q1, bind_ok]
            exact (if_pos (c := ([AV.d (rv c u0), AV.d (rv c u1)] : List AV).length = 2) rfl).trans (call2 e5)
          have s1 : sSto 2 (eC (.int 2)) (eCall 2 d__law_plus (gcV (eIxP 2 (eC (.int 0))) (gcV (eIxP 2 (eC (.int 1))) (gcNil)))) (dE b3 c [u0, u1, u2] (.sh (.int sh))) = .nx (dE b3 c [u0, u1, add u0 u1] (.sh (.int sh))) := by
            rw [sto_ok (fi := eC (.int 2)) (i := 2) (m := 2) hv (show (dE b3 c [u0, u1, u2] (.sh (.int sh)))[2]? = some (.ow (.l ([u0, u1, u2].map (rv c)))) from rfl) rfl rfl]
            rfl
          refine fin [u0, u1, add u0 u1] b3 (fun u h => ?_) o3 rfl ?_
          · simp only [List.mem_cons, List.not_mem_nil, or_false] at h
            rcases h with rfl | rfl | rfl
            · exact hu4 _ (by simp)
            · exact hu4 _ (by simp)
            · have := h0.x
              have := h0.y
              have := h0.z
              have := h1.x
              have := h1.y
              have := h1.z
              refine ⟨?_, ?_, ?_, fun e => ?_⟩
              · show -4 ≤ u0.x + u1.x ∧ u0.x + u1.x ≤ 4; omega
              · show -4 ≤ u0.y + u1.y ∧ u0.y + u1.y ≤ 4; omega
              · show -4 ≤ u0.z + u1.z ∧ u0.z + u1.z ≤ 4; omega
              · show u0.z + u1.z = 0; rw [h0.flat e, h1.flat e]; rfl
          · have g1 : (((([u0, u1, u2] : List P).length : Int)) == 3) = true := rfl
            have n1 : ((3 : Int) == 1) = false := rfl
            subst c3
            rw [sSeq_eq, sIf_eq]
            simp only [tOf_eq, eBin_eq, v3, eC_eq, bind_ok, gEq_int, of_some, asB_bl, n1, toS_ok, Bool.false_eq_true, if_false, seq_nx, sSeq_eq, sIf_eq, k2, tAn_eq, beq_self_eq_true, if_true, lp, g1, s1, back]
      · have f3 : ((sh == 3) && ((us.length : Int) == 3)) = false := by
          by_cases q : sh = 3
          · have : ¬ us.length = 3 := fun h => c3 ⟨q, h⟩
            simp; omega
          · simp [q]
        have k3 : (tAn (tOf (eBin gEq (eVar 3) (eC (.int 3)))) (tOf (eBin gEq (eLenP 2) (eC (.int 3))))) (dE b3 c us (.sh (.int sh))) = .ok false (dE b3 c us (.sh (.int sh))) := by
          rw [← f3]
          simp only [tAn_eq, tOf_eq, eBin_eq, v3, lp, eC_eq, bind_ok, gEq_int, of_some, asB_bl]
          cases (sh == 3) <;> simp
        refine fin us b3 hu4 o3 rfl ?_
        rw [sSeq_eq, sIf_eq]
        simp only [tOf_eq, eBin_eq, v3, eC_eq, bind_ok, gEq_int, of_some, asB_bl, f1, toS_ok, Bool.false_eq_true, if_false, seq_nx]
        rw [sSeq_eq, sIf_eq, k2]
        simp only [toS_ok, Bool.false_eq_true, if_false, seq_nx]
        rw [sSeq_eq, sIf_eq, k3]
        simp only [toS_ok, Bool.false_eq_true, if_false, seq_nx]
        exact back us b3
end K06
namespace K06
open PySem PySem.Spec PyProof.Rows L2 Pu
set_option autoImplicit false
/-! ### a table of determinant 1 or -1 -/
def rowsL (c : Bool) (m : M) : List D := if c then [rl true m.a, rl true m.b, rl true m.c] else [rl false m.a, rl false m.b]
structure KM (k : Int) (c : Bool) (m : M) : Prop where
  r1 : Bd k c m.a
  r2 : Bd k c m.b
  r3 : Bd k true m.c
  last : c = false → m.c = ⟨0, 0, 1⟩
  one : One m
theorem unit_ok {c : Bool} {k : Int} (hk : k = 0 ∨ k = 1 ∨ k = 2) : d__law_unit [.sh (.int (dimI c)), .sh (.int k)] = .ok (rv c ⟨if k = 0 then 1 else 0, if k = 1 then 1 else 0, if k = 2 then 1 else 0⟩) [.em, .em] := by
  cases c <;> rcases hk with rfl | rfl | rfl <;> simp [dimI, d__law_unit, denOf, b__law_unit, cComp, compA, noOwn, wipeE, unwipe, sl]
abbrev oE (b : Bag) (c : Bool) (m : M) (s3 s4 s5 s6 : Slot) : En := [bagC b, .sh (.int (dimI c)), .ow (.l (rowsL c m)), s3, s4, s5, s6, .em, .em]
def eye : M := ⟨⟨1, 0, 0⟩, ⟨0, 1, 0⟩, ⟨0, 0, 1⟩⟩
theorem rows0 {b : Bag} {c : Bool} : (sSetF 2 (cComp (iRg rng1 (aCons (eVar 1) (aNil))) (gNm 7) (tTrue) (eA gList (aCons (eCall 2 d__law_unit (gcV (eVar 1) (gcV (eVar 7) (gcNil)))) (aNil))) [7])) [bagC b, .sh (.int (dimI c)), .em, .em, .em, .em, .em, .em, .em] = .nx (oE b c eye .em .em .em .em) := by
  have u0 := unit_ok (c := c) (k := 0) (.inl rfl)
  have u1 := unit_ok (c := c) (k := 1) (.inr (.inl rfl))
  have u2 := unit_ok (c := c) (k := 2) (.inr (.inr rfl))
  cases c <;> simp [dimI] at u0 u1 u2 <;> simp [dimI, cComp, compA, noOwn, wipeE, unwipe, sl, call2 u0, call2 u1, call2 u2, rowsL, rl, eye, bagC]
theorem eye_ok {c : Bool} : KM 1 c eye := ⟨⟨by decide, by decide, by decide, fun _ => rfl⟩, ⟨by decide, by decide, by decide, fun _ => rfl⟩, ⟨by decide, by decide, by decide, nofun⟩, fun _ => rfl, .inl (by decide)⟩
abbrev oB : En → RS := (sSeq (sSet 4 (eCall 2 d__law_take (gcN (.io 0) 0 (gcV (eVar 1) (gcNil)))))
  (sSeq (sSet 5 (eBin gMod (eA gInt (aCons (eBin gAdd (eBin gAdd (eVar 4) (eC (.int 1))) (eCall 2 d__law_take (gcN (.io 0) 0 (gcV (eBin gSub (eVar 1) (eC (.int 1))) (gcNil))))) (aNil))) (eVar 1)))
  (sSeq (sSet 6 (eCall 2 d__law_entry (gcN (.io 0) 0 (gcV (eC (.int 2)) (gcNil)))))
  (sSto 2 (eVar 4) (eF (cComp (iRg rng1 (aCons (eVar 1) (aNil))) (gNm 7) (tTrue) (eBin gAdd (eBin gIx (eIxP 2 (eVar 4)) (eVar 7)) (eBin gMulI (eVar 6) (eBin gIx (eIxP 2 (eVar 5)) (eVar 7)))) [7]))))))
theorem op_bd {k n x y : Int} (hx : -k ≤ x ∧ x ≤ k) (hy : -k ≤ y ∧ y ≤ k) (hn : -2 ≤ n ∧ n ≤ 2) : -(3 * k) ≤ x + n * y ∧ x + n * y ≤ 3 * k := by
  have h1 : (n * y).natAbs ≤ 2 * k.natAbs := mul_bd (by omega) (by omega)
  omega
theorem op_Bd {k n : Int} {c : Bool} {u v : P} (hu : Bd k c u) (hv : Bd k c v) (hn : -2 ≤ n ∧ n ≤ 2) : Bd (3 * k) c (add u (smul n v)) :=
  ⟨op_bd hu.x hv.x hn, op_bd hu.y hv.y hn, op_bd hu.z hv.z hn, fun e => by show u.z + n * v.z = 0; rw [hu.flat e, hv.flat e, Int.mul_zero]; rfl⟩
theorem Bd.up {k : Int} {c : Bool} {u : P} (h : Bd k c u) : Bd k true u := ⟨h.x, h.y, h.z, nofun⟩
theorem Bd.of {k : Int} {c : Bool} {u : P} (h : Bd k true u) (e : c = true) : Bd k c u := ⟨h.x, h.y, h.z, fun z => by rw [e] at z; cases z⟩
/-- one turn's new table -/
theorem turn_M {k n : Int} {c : Bool} {m : M} (hk : 0 ≤ k) (hm : KM k c m) (hn : -2 ≤ n ∧ n ≤ 2) :
    KM (3 * k) c ⟨add m.a (smul n m.b), m.b, m.c⟩ ∧ KM (3 * k) c ⟨m.a, add m.b (smul n m.a), m.c⟩ ∧ (c = true →
    KM (3 * k) c ⟨add m.a (smul n m.c), m.b, m.c⟩ ∧ KM (3 * k) c ⟨m.a, add m.b (smul n m.c), m.c⟩ ∧ KM (3 * k) c ⟨m.a, m.b, add m.c (smul n m.a)⟩ ∧ KM (3 * k) c ⟨m.a, m.b, add m.c (smul n m.b)⟩) := by
  have ba := hm.r1.mono (n := 3 * k) (by omega)
  have bb := hm.r2.mono (n := 3 * k) (by omega)
  have bc := hm.r3.mono (n := 3 * k) (by omega)
  have dd : ∀ (m' : M), m'.det = m.det → One m' := fun m' e => by unfold One; rw [e]; exact hm.one
  refine ⟨⟨op_Bd hm.r1 hm.r2 hn, bb, bc, hm.last, dd _ ?_⟩, ⟨ba, op_Bd hm.r2 hm.r1 hn, bc, hm.last, dd _ ?_⟩, fun e => ⟨⟨(op_Bd hm.r1.up hm.r3 hn).of e, bb, bc, fun z => (by rw [e] at z; cases z), dd _ ?_⟩, ⟨ba, (op_Bd hm.r2.up hm.r3 hn).of e, bc, fun z => (by rw [e] at z; cases z), dd _ ?_⟩, ⟨ba, bb, op_Bd hm.r3 hm.r1.up hn, fun z => (by rw [e] at z; cases z), dd _ ?_⟩, ⟨ba, bb, op_Bd hm.r3 hm.r2.up hn, fun z => (by rw [e] at z; cases z), dd _ ?_⟩⟩⟩ <;>
    (simp only [M.det, det, dot, cross, add, smul]; grind)
theorem turn_ok {b : Bag} {c : Bool} {m : M} {k : Int} {d : D} {s4 s5 s6 : Slot} (hb : BagOk b) (hk : 0 ≤ k) (hm : KM k c m) : ∃ (m' : M) (b' : Bag) (x y z : Int), KM (3 * k) c m' ∧ BagOk b' ∧ oB (oE b c m (.sh d) s4 s5 s6) = .nx (oE b' c m' (.sh d) (.sh (.int x)) (.sh (.int y)) (.sh (.int z))) := by
  have md3 : ∀ i : Int, gMod (.int i) (.int 3) = some (.int (i % 3)) := fun i => gMod_pos (by decide)
  have md2 : ∀ i : Int, gMod (.int i) (.int 2) = some (.int (i % 2)) := fun i => gMod_pos (by decide)
  cases c with
  | false =>
    obtain ⟨a, b1, e1, l1, u1, o1⟩ := take_ok (n := 2) hb (by decide) (by decide)
    obtain ⟨r, b2, e2, l2, u2, o2⟩ := take_ok (n := 1) o1 (by decide) (by decide)
    obtain ⟨n, b3, e3, l3, u3, o3⟩ := entry_ok (n := 2) o2 (by decide) (by decide)
    have hn : Sm n := by show n.natAbs < 2 ^ 64; omega
    have hr : r = 0 := by omega
    obtain ⟨t1, t2, _⟩ := turn_M hk hm ⟨l3, u3⟩
    subst hr
    have ha : a = 0 ∨ a = 1 := by omega
    rcases ha with rfl | rfl
    · exact ⟨_, b3, 0, 1, n, t1, o3, by simp [oB, oE, dimI, gcN0, io1 e1, io1 e2, io1 e3, md2, rowsL, rl, sSto, eIxP, hasV, cComp, compA, noOwn, wipeE, unwipe, sl, mul_l hn, bag_own, ixN, add, smul]⟩
    · exact ⟨_, b3, 1, 0, n, t2, o3, by simp [oB, oE, dimI, gcN0, io1 e1, io1 e2, io1 e3, md2, rowsL, rl, sSto, eIxP, hasV, cComp, compA, noOwn, wipeE, unwipe, sl, mul_l hn, bag_own, ixN, add, smul]⟩
  | true =>
    obtain ⟨a, b1, e1, l1, u1, o1⟩ := take_ok (n := 3) hb (by decide) (by decide)
    obtain ⟨r, b2, e2, l2, u2, o2⟩ := take_ok (n := 2) o1 (by decide) (by decide)
    obtain ⟨n, b3, e3, l3, u3, o3⟩ := entry_ok (n := 2) o2 (by decide) (by decide)
    have hn : Sm n := by show n.natAbs < 2 ^ 64; omega
    obtain ⟨t1, t2, t⟩ := turn_M hk hm ⟨l3, u3⟩
    obtain ⟨t3', t4, t5, t6⟩ := t rfl
    have ha : a = 0 ∨ a = 1 ∨ a = 2 := by omega
    have hr : r = 0 ∨ r = 1 := by omega
    rcases ha with rfl | rfl | rfl <;> rcases hr with rfl | rfl
    · exact ⟨_, b3, 0, 1, n, t1, o3, by simp [oB, oE, dimI, gcN0, io1 e1, io1 e2, io1 e3, md3, rowsL, rl, sSto, eIxP, hasV, cComp, compA, noOwn, wipeE, unwipe, sl, mul_l hn, bag_own, ixN, add, smul]⟩
    · exact ⟨_, b3, 0, 2, n, t3', o3, by simp [oB, oE, dimI, gcN0, io1 e1, io1 e2, io1 e3, md3, rowsL, rl, sSto, eIxP, hasV, cComp, compA, noOwn, wipeE, unwipe, sl, mul_l hn, bag_own, ixN, add, smul]⟩
    · exact ⟨_, b3, 1, 2, n, t4, o3, by simp [oB, oE, dimI, gcN0, io1 e1, io1 e2, io1 e3, md3, rowsL, rl, sSto, eIxP, hasV, cComp, compA, noOwn, wipeE, unwipe, sl, mul_l hn, bag_own, ixN, add, smul]⟩
    · exact ⟨_, b3, 1, 0, n, t2, o3, by simp [oB, oE, dimI, gcN0, io1 e1, io1 e2, io1 e3, md3, rowsL, rl, sSto, eIxP, hasV, cComp, compA, noOwn, wipeE, unwipe, sl, mul_l hn, bag_own, ixN, add, smul]⟩
    · exact ⟨_, b3, 2, 0, n, t5, o3, by simp [oB, oE, dimI, gcN0, io1 e1, io1 e2, io1 e3, md3, rowsL, rl, sSto, eIxP, hasV, cComp, compA, noOwn, wipeE, unwipe, sl, mul_l hn, bag_own, ixN, add, smul]⟩
    · exact ⟨_, b3, 2, 1, n, t6, o3, by simp [oB, oE, dimI, gcN0, io1 e1, io1 e2, io1 e3, md3, rowsL, rl, sSto, eIxP, hasV, cComp, compA, noOwn, wipeE, unwipe, sl, mul_l hn, bag_own, ixN, add, smul]⟩
def notOwn (s : Slot) : Prop := s.own = false
theorem turns_ok {c : Bool} : ∀ (ds : List D) (b : Bag) (m : M) (k : Int) (s3 s4 s5 s6 : Slot), BagOk b → 0 ≤ k → KM k c m → s6.own = false → ∃ (m' : M) (b' : Bag) (k' : Int) (s3' s4' s5' s6' : Slot), BagOk b' ∧ KM k' c m' ∧ k' = 3 ^ ds.length * k ∧ s6'.own = false ∧ forD (gNm 3) oB ds (oE b c m s3 s4 s5 s6) = .nx (oE b' c m' s3' s4' s5' s6')
  | [], b, m, k, s3, s4, s5, s6, hb, hk, hm, h6 => ⟨m, b, k, s3, s4, s5, s6, hb, hm, by simp, h6, rfl⟩
  | d :: ds, b, m, k, s3, s4, s5, s6, hb, hk, hm, h6 => by
    obtain ⟨m1, b1, x, y, z, h1, o1, e1⟩ := turn_ok (d := d) (s4 := s4) (s5 := s5) (s6 := s6) hb hk hm
    obtain ⟨m', b', k', s3', s4', s5', s6', o2, h2, ek, h7, e2⟩ := turns_ok ds b1 m1 (3 * k) (.sh d) (.sh (.int x)) (.sh (.int y)) (.sh (.int z)) o1 (by omega) h1 rfl
    refine ⟨m', b', k', s3', s4', s5', s6', o2, h2, ?_, h7, ?_⟩
    · rw [ek, List.length_cons, Int.pow_succ]; grind
    · rw [forD_nx (tg := gNm 3) (b := oB) (ρ1 := oE b c m (.sh d) s4 s5 s6) rfl e1]; exact e2
theorem Bd.neg {k : Int} {c : Bool} {u : P} (h : Bd k c u) : Bd k c (smul (-1) u) := ⟨by have := h.x; simp only [smul]; omega, by have := h.y; simp only [smul]; omega, by have := h.z; simp only [smul]; omega, fun e => by show -1 * u.z = 0; rw [h.flat e]; rfl⟩
theorem neg_M {k : Int} {c : Bool} {m : M} (hm : KM k c m) : KM k c ⟨smul (-1) m.a, m.b, m.c⟩ ∧ KM k c ⟨m.a, smul (-1) m.b, m.c⟩ ∧ (c = true → KM k c ⟨m.a, m.b, smul (-1) m.c⟩) := by
  have dd : ∀ (m' : M), m'.det = -m.det → One m' := fun m' e => by unfold One; rw [e]; rcases hm.one with h | h <;> rw [h] <;> decide
  refine ⟨⟨hm.r1.neg, hm.r2, hm.r3, hm.last, dd _ ?_⟩, ⟨hm.r1, hm.r2.neg, hm.r3, hm.last, dd _ ?_⟩, fun e => ⟨hm.r1, hm.r2, hm.r3.neg, fun z => (by rw [e] at z; cases z), dd _ ?_⟩⟩ <;>
    (simp only [M.det, det, dot, cross, smul]; grind)
abbrev oN : En → RS := (sSeq (sSet 4 (eCall 2 d__law_take (gcN (.io 0) 0 (gcV (eVar 1) (gcNil)))))
  (sSto 2 (eVar 4) (eF (cComp (iSeq (eIxP 2 (eVar 4))) (gNm 6) (tTrue) (eBin gSub (eC (.int 0)) (eVar 6)) [6]))))
theorem neg_ok {b : Bag} {c : Bool} {m : M} {k : Int} {s3 s4 s5 s6 : Slot} (hb : BagOk b) (hm : KM k c m) (h6 : s6.own = false) : ∃ (m' : M) (b' : Bag) (s4' : Slot), KM k c m' ∧ BagOk b' ∧ oN (oE b c m s3 s4 s5 s6) = .nx (oE b' c m' s3 s4' s5 s6) := by
  obtain ⟨n1, n2, n3⟩ := neg_M hm
  cases c with
  | false =>
    obtain ⟨a, b1, e1, l1, u1, o1⟩ := take_ok (n := 2) hb (by decide) (by decide)
    have ha : a = 0 ∨ a = 1 := by omega
    rcases ha with rfl | rfl
    · refine ⟨_, b1, .sh (.int 0), n1, o1, ?_⟩
      cases s6 with
      | ow _ => cases h6
      | _ => simp [oN, oE, dimI, gcN0, io1 e1, rowsL, rl, sSto, eIxP, hasV, cComp, compA, wipeE, unwipe, sl, bag_own, ixN, smul, noOwn]
    · refine ⟨_, b1, .sh (.int 1), n2, o1, ?_⟩
      cases s6 with
      | ow _ => cases h6
      | _ => simp [oN, oE, dimI, gcN0, io1 e1, rowsL, rl, sSto, eIxP, hasV, cComp, compA, wipeE, unwipe, sl, bag_own, ixN, smul, noOwn]
  | true =>
    obtain ⟨a, b1, e1, l1, u1, o1⟩ := take_ok (n := 3) hb (by decide) (by decide)
    have ha : a = 0 ∨ a = 1 ∨ a = 2 := by omega
    rcases ha with rfl | rfl | rfl
    · refine ⟨_, b1, .sh (.int 0), n1, o1, ?_⟩
      cases s6 with
      | ow _ => cases h6
      | _ => simp [oN, oE, dimI, gcN0, io1 e1, rowsL, rl, sSto, eIxP, hasV, cComp, compA, wipeE, unwipe, sl, bag_own, ixN, smul, noOwn]
    · refine ⟨_, b1, .sh (.int 1), n2, o1, ?_⟩
      cases s6 with
      | ow _ => cases h6
      | _ => simp [oN, oE, dimI, gcN0, io1 e1, rowsL, rl, sSto, eIxP, hasV, cComp, compA, wipeE, unwipe, sl, bag_own, ixN, smul, noOwn]
    · refine ⟨_, b1, .sh (.int 2), n3 rfl, o1, ?_⟩
      cases s6 with
      | ow _ => cases h6
      | _ => simp [oN, oE, dimI, gcN0, io1 e1, rowsL, rl, sSto, eIxP, hasV, cComp, compA, wipeE, unwipe, sl, bag_own, ixN, smul, noOwn]
theorem ones_ok {b : Bag} {c : Bool} (hb : BagOk b) : ∃ (m : M) (b' : Bag) (k : Int), k ≤ 27 ∧ KM k c m ∧ BagOk b' ∧ d__law_ones [bagC b, .sh (.int (dimI c))] = .ok (rowsD c m) [bagC b', .em] := by
  obtain ⟨n, b1, e1, l1, u1, o1⟩ := take_ok (n := 4) hb (by decide) (by decide)
  obtain ⟨m2, b2, k2, s3, s4, s5, s6, o2, h2, ek, h6, e2⟩ := turns_ok (c := c) (rngD 0 n.toNat) b1 eye 1 .em .em .em .em o1 (by decide) eye_ok rfl
  rw [rngD_len] at ek
  have hk : k2 ≤ 27 := by
    have hn : n.toNat = 0 ∨ n.toNat = 1 ∨ n.toNat = 2 ∨ n.toNat = 3 := by omega
    rcases hn with h | h | h | h <;> rw [h] at ek <;> simp at ek <;> omega
  obtain ⟨q, b3, e3, l3, u3, o3⟩ := take_ok (n := 3) o2 (by decide) (by decide)
  have st2 : (sFor (iRg rng1 (aCons (eCall 2 d__law_take (gcN (.io 0) 0 (gcV (eC (.int 4)) (gcNil)))) (aNil))) (gNm 3) oB) (oE b c eye .em .em .em .em) = .nx (oE b2 c m2 s3 s4 s5 s6) := by
    have hr : rng1 [.int n] = some (rngD 0 n.toNat) := rng1_ok (by unfold rngOk; simp; omega)
    have hi : iRg rng1 (aCons (eCall 2 d__law_take (gcN (.io 0) 0 (gcV (eC (.int 4)) (gcNil)))) (aNil)) (oE b c eye .em .em .em .em) = .ok (rngD 0 n.toNat) (oE b1 c eye .em .em .em .em) := by
      simp [oE, gcN0, io1 e1, hr]
    rw [sFor_eq, hi, toS_ok]
    exact e2
  have last : ∀ (b4 : Bag) (m4 : M) (s4 : Slot), (sRet (eA gTup (aCons (eF (cComp (iSeq (eVar 2)) (gNm 8) (tTrue) (eA gTup (aCons (eVar 8) (aNil))) [8])) (aNil)))) (oE b4 c m4 s3 s4 s5 s6) = .rt (rowsD c m4) [bagC b4, .sh (.int (dimI c)), .sh (.lst (rowsL c m4)), s3, s4, s5, s6, .em, .em] := fun b4 m4 s4 => by
    have ev : eVar 2 (oE b4 c m4 s3 s4 s5 s6) = .ok (.lst (rowsL c m4)) [bagC b4, .sh (.int (dimI c)), .sh (.lst (rowsL c m4)), s3, s4, s5, s6, .em, .em] := rfl
    have hm : cComp (iSeq (eVar 2)) (gNm 8) (tTrue) (eA gTup (aCons (eVar 8) (aNil))) [8] (oE b4 c m4 s3 s4 s5 s6) = .ok (.l ((if c then [m4.a, m4.b, m4.c] else [m4.a, m4.b]).map (rv c))) [bagC b4, .sh (.int (dimI c)), .sh (.lst (rowsL c m4)), s3, s4, s5, s6, .em, .em] := by
      refine cComp_mA (us := if c then [m4.a, m4.b, m4.c] else [m4.a, m4.b]) (f := rl c) (h := rv c) (s := .em) ?_ rfl rfl (fun u _ => ?_) ?_
      · rw [iSeq_eq, ev]; cases c <;> rfl
      · cases c <;> simp [rl]
      · cases c <;> (simp [sl])
    rw [sRet_eq, eA_eq, aCons_eq, eF_eq, hm]
    cases c <;> rfl
  have fin : ∀ (m4 : M) (b4 : Bag) (s4 : Slot), KM k2 c m4 → BagOk b4 → b__law_ones [bagC b, .sh (.int (dimI c)), .em, .em, .em, .em, .em, .em, .em] = .rt (rowsD c m4) [bagC b4, .sh (.int (dimI c)), .sh (.lst (rowsL c m4)), s3, s4, s5, s6, .em, .em] → ∃ (m : M) (b' : Bag) (k : Int), k ≤ 27 ∧ KM k c m ∧ BagOk b' ∧ d__law_ones [bagC b, .sh (.int (dimI c))] = .ok (rowsD c m) [bagC b', .em] := fun m4 b4 s4 h1 h2 h3 =>
    ⟨m4, b4, k2, hk, h1, h2, den_rt0 rfl (by decide) h3⟩
  unfold b__law_ones at fin
  rw [sSeq_eq, rows0, seq_nx, sSeq_eq, st2, seq_nx] at fin
  have t3 : (tOf (eBin gEq (eCall 2 d__law_take (gcN (.io 0) 0 (gcV (eC (.int 3)) (gcNil)))) (eC (.int 1)))) (oE b2 c m2 s3 s4 s5 s6) = .ok (q == 1) (oE b3 c m2 s3 s4 s5 s6) := by
    simp [oE, gcN0, io1 e3]
  rw [sSeq_eq, sIf_eq, t3, toS_ok] at fin
  by_cases c1 : q = 1
  · obtain ⟨m4, b4, s4', h4, o4, e4⟩ := neg_ok (s3 := s3) (s4 := s4) (s5 := s5) o3 h2 h6
    refine fin m4 b4 s4' h4 o4 ?_
    rw [if_pos (by simp [c1])]
    show RS.seq (oN _) _ = _
    rw [e4, seq_nx]
    exact last b4 m4 s4'
  · refine fin m2 b3 s4 h2 o3 ?_
    rw [if_neg (by simp [c1])]
    exact last b3 m2 s4
end K06
namespace K06
open PySem PySem.Spec PyProof.Rows L2 Pu
set_option autoImplicit false
/-! ### the bag is made -/
theorem den_rf {ns np : Nat} {g : En → RS} {s ρ : En} {d : Ct} (hl : s.length = np) (h : g (s ++ List.replicate (ns - np) .em) = .rf d ρ) : denOf ns np [] g s = .fr d (List.replicate np .em) := by
  unfold denOf
  rw [if_pos hl, h]
  simp only [outs_nil]
theorem callF1 {g : Den} {ρ : En} {a : D} {c : Ct} (h : g [.sh a] = .fr c [.em]) : callF g [.d a] ρ = .ok c ρ := by
  simp [callF, iosOk, slotsOf, slotOf, frzAll, h, putO]
theorem bag_ok {ns : List Int} (hl : ns.length ≤ 63) : ∃ b : Bag, BagOk b ∧ d__law_bag [.sh (.scr ns)] = .fr (.d (bagK b)) [.em] := by
  have hL : (cutL ns none (some 63)).length ≤ 63 := by
    unfold cutL; rw [List.length_take, List.length_drop]; have : HT.sIx ns.length 0 none = 0 := rfl; omega
  have h1 := cComp_mA (us := cutL ns none (some 63)) (f := D.int) (h := D.int) (i := 3) (s := .em) (fi := iSeq (eSl (eVar 0) (oNo) (oSo (eC (.int 63))))) (fe := eA gInt (aCons (eVar 3) (aNil))) (ρ := [.sh (.scr ns), .em, .em, .em]) (ρ1 := [.sh (.scr ns), .em, .em, .em]) rfl rfl rfl (fun u _ => rfl) (by unfold sl; omega)
  have w1 : ∀ i : Int, gMod (.int i) (.int 2147483647) = some (.int (i % 2147483647)) := fun i => gMod_pos (by decide)
  have q1 : ∀ i : Int, gMulI (.int i) (.int 69621) = some (.int (i * 69621)) := fun i => gMul_r (by decide)
  have loop : ∀ (L : List Int) (f : Int) (s : Slot) (d1 : D), ∃ (f' : Int) (s' : Slot), forD (gNm 3) (sSet 2 (eBin gMod (eA gInt (aCons (eBin gAdd (eBin gMulI (eVar 2) (eC (.int 69621))) (eVar 3)) (aNil))) (eC (.int 2147483647)))) (L.map D.int) [.sh (.scr ns), .sh d1, .sh (.int f), s] = .nx [.sh (.scr ns), .sh d1, .sh (.int f'), s'] := by
    intro L
    induction L with
    | nil => exact fun f s d1 => ⟨f, s, rfl⟩
    | cons x L ih =>
      intro f s d1
      obtain ⟨f', s', h⟩ := ih ((f * 69621 + x) % 2147483647) (.sh (.int x)) d1
      refine ⟨f', s', ?_⟩
      rw [List.map_cons, forD_nx (ρ1 := [.sh (.scr ns), .sh d1, .sh (.int f), .sh (.int x)]) (ρ2 := [.sh (.scr ns), .sh d1, .sh (.int ((f * 69621 + x) % 2147483647)), .sh (.int x)]) rfl (by simp [q1, w1])]
      exact h
  obtain ⟨f, s, h2⟩ := loop (cutL ns none (some 63)) 1 .em (.lst ((cutL ns none (some 63)).map D.int))
  refine ⟨⟨cutL ns none (some 63), f, 0, 0, 0⟩, Int.le_refl _, den_rf (ρ := [.sh (.scr ns), .sh (.lst ((cutL ns none (some 63)).map D.int)), .sh (.int f), s]) rfl ?_⟩
  show b__law_bag [.sh (.scr ns), .em, .em, .em] = _
  unfold b__law_bag
  have e1 : (sSet 1 (eF (cComp (iSeq (eSl (eVar 0) (oNo) (oSo (eC (.int 63))))) (gNm 3) (tTrue) (eA gInt (aCons (eVar 3) (aNil))) [3]))) [.sh (.scr ns), .em, .em, .em] = .nx [.sh (.scr ns), .sh (.lst ((cutL ns none (some 63)).map D.int)), .em, .em] := by
    rw [sSet_eq, eF_eq, h1]; rfl
  have e2 : (sSet 2 (eC (.int 1))) [.sh (.scr ns), .sh (.lst ((cutL ns none (some 63)).map D.int)), .em, .em] = .nx [.sh (.scr ns), .sh (.lst ((cutL ns none (some 63)).map D.int)), .sh (.int 1), .em] := rfl
  have e3 : iSeq (eVar 1) [.sh (.scr ns), .sh (.lst ((cutL ns none (some 63)).map D.int)), .sh (.int 1), .em] = .ok ((cutL ns none (some 63)).map D.int) [.sh (.scr ns), .sh (.lst ((cutL ns none (some 63)).map D.int)), .sh (.int 1), .em] := rfl
  rw [sSeq_eq, e1, seq_nx, sSeq_eq, e2, seq_nx, sSeq_eq, sFor_eq, e3, toS_ok, h2, seq_nx]
  rfl
/-! ### worths that are alike -/
theorem basis_full : ∀ us : List P, us.length ≤ 3 → (basis us).length = us.length → wo us ≠ 0
  | [], _, _ => by decide
  | [u], _, h => by
    by_cases c : u = zero
    · simp [basis, grow, free, c] at h
    · show g3 u ≠ 0; rw [ne_eq, g3_eq0]; exact c
  | [u, v], _, h => by
    show g3 (cross u v) ≠ 0
    rw [ne_eq, g3_eq0]
    intro c2
    by_cases c : u = zero
    · by_cases c3 : v = zero <;> simp [basis, grow, free, c, c3] at h
    · simp [basis, grow, free, c, c2] at h
  | [u, v, w], _, h => by
    show ((det u v w).natAbs : Int) ≠ 0
    intro c0
    have c0 : det u v w = 0 := by omega
    have k : dot (cross u v) w = det u v w := det_alt
    have : (basis [u, v, w]).length ≤ 2 := by
      unfold basis
      simp only [List.foldl_cons, List.foldl_nil]
      by_cases c : u = zero
      · have l1 : (grow [] u) = [] := by simp [grow, free, c]
        rw [l1]
        have l2 : (grow [] v).length ≤ 1 := by unfold grow; split <;> simp
        have l3 : ∀ fs : List P, (grow fs w).length ≤ fs.length + 1 := fun fs => by unfold grow; split <;> simp
        have := l3 (grow [] v)
        omega
      · have l1 : (grow [] u) = [u] := by simp [grow, free, c]
        rw [l1]
        by_cases c2 : cross u v = zero
        · have l2 : grow [u] v = [u] := by simp [grow, free, c2]
          rw [l2]
          unfold grow; split <;> simp
        · have l2 : grow [u] v = [u, v] := by simp [grow, free, c2]
          rw [l2]
          simp [grow, free, k, c0]
    rw [h] at this
    simp at this
  | _ :: _ :: _ :: _ :: _, h, _ => by simp at h
theorem cross_swap (u v : P) : cross v u = smul (-1) (cross u v) := by
  simp only [cross, smul, P.mk.injEq]; refine ⟨?_, ?_, ?_⟩ <;> grind
theorem wo_rev : ∀ us : List P, wo us.reverse = wo us
  | [] => rfl
  | [u] => rfl
  | [u, v] => by show g3 (cross v u) = g3 (cross u v); rw [cross_swap, g3_smul1 (.inr rfl)]
  | [u, v, w] => by
    show ((det w v u).natAbs : Int) = ((det u v w).natAbs : Int)
    have : det w v u = -det u v w := by simp only [det, dot, cross]; grind
    rw [this, Int.natAbs_neg]
  | a :: b :: c :: d :: us => by
    have h : ∀ l : List P, 4 ≤ l.length → wo l = 0 := fun l hl => by
      rcases l with _ | ⟨_, _ | ⟨_, _ | ⟨_, _ | ⟨_, _⟩⟩⟩⟩ <;> simp at hl <;> rfl
    rw [h _ (by simp), h _ (by simp)]
def negM : M := ⟨⟨-1, 0, 0⟩, ⟨0, -1, 0⟩, ⟨0, 0, -1⟩⟩
theorem neg_ap (v : P) : negM.ap v = smul (-1) v := by simp [negM, M.ap, dot, smul]
theorem wo_neg (us : List P) : wo (us.map (smul (-1))) = wo us := by
  have e : us.map (smul (-1)) = us.map negM.ap := List.map_congr_left fun v _ => (neg_ap v).symm
  rw [e, wo_ap (.inr (by decide))]
theorem g3_two (u : P) : g3 (smul 2 u) = 2 * g3 u := by
  obtain ⟨x, y, z⟩ := u
  simp only [g3, smul, Int.natAbs_mul]
  show ((Nat.gcd (2 * x.natAbs) (Nat.gcd (2 * y.natAbs) (2 * z.natAbs)) : Nat) : Int) = _
  rw [Nat.gcd_mul_left, Nat.gcd_mul_left, Int.natCast_mul]
  rfl
theorem wo_two : ∀ (u : P) (us : List P), us.length ≤ 2 → wo (smul 2 u :: us) = 2 * wo (u :: us)
  | u, [], _ => g3_two u
  | u, [v], _ => by
    show g3 (cross (smul 2 u) v) = 2 * g3 (cross u v)
    have : cross (smul 2 u) v = smul 2 (cross u v) := by simp only [cross, smul, P.mk.injEq]; refine ⟨?_, ?_, ?_⟩ <;> grind
    rw [this, g3_two]
  | u, [v, w], _ => by
    show ((det (smul 2 u) v w).natAbs : Int) = 2 * ((det u v w).natAbs : Int)
    have : det (smul 2 u) v w = 2 * det u v w := by simp only [det, dot, cross, smul]; grind
    rw [this, Int.natAbs_mul]
    rfl
  | u, _ :: _ :: _ :: _, h => by simp at h
theorem wo_again : ∀ (u : P) (us : List P), wo (u :: us ++ [u]) = 0
  | u, [] => by show g3 (cross u u) = 0; rw [cross_self]; exact g3_zero
  | u, [v] => by
    show ((det u v u).natAbs : Int) = 0
    have : det u v u = 0 := by simp only [det, dot, cross]; grind
    rw [this]; rfl
  | u, [v, w] => rfl
  | u, _ :: _ :: _ :: _ => rfl
theorem wo_many {c : Bool} {us : List P} (hu : ∀ u ∈ us, c = false → u.z = 0) (hl : (us.length : Int) = dimI c + 1) : wo us = 0 := by
  cases c with
  | true =>
    have hl : us.length = 4 := by simp [dimI] at hl; omega
    rcases us with _ | ⟨_, _ | ⟨_, _ | ⟨_, _ | ⟨_, _⟩⟩⟩⟩ <;> simp at hl <;> rfl
  | false =>
    have hl : us.length = 3 := by simp [dimI] at hl; omega
    match us, hl with
    | [u, v, w], _ =>
      show ((det u v w).natAbs : Int) = 0
      have : det u v w = 0 := by simp [det, dot, cross, hu u (by simp) rfl, hu v (by simp) rfl, hu w (by simp) rfl]
      rw [this]; rfl
end K06
namespace K06
open PySem PySem.Spec PyProof.Rows L2 Pu
set_option autoImplicit false
/-! ### the law -/
abbrev lE (ns : List Int) (b : Bag) (c : Bool) (us : List P) (s4 s5 s6 s7 : Slot) : En := [.sh (.scr ns), bagC b, .sh (.int (dimI c)), .sh (vs c us), s4, s5, s6, s7, .em, .em]
section
variable {fa fb : En → R D} {ft fu : En → R Bool} {ρ ρ1 ρ2 : En} {g : En → RS} {c : Bool} {o k : Bool} {ws us : List P} {j : Int}
theorem no_of (h : fa ρ = .ok (.bl true) ρ1) : tNo (tTru fa) ρ = .ok false ρ1 := by simp [h]
theorem ou_of (h1 : ft ρ = .ok false ρ1) (h2 : fu ρ1 = .ok false ρ2) : tOu ft fu ρ = .ok false ρ2 := by simp [h1, h2]
theorem if_no (h : ft ρ = .ok false ρ1) : sIf ft g .nx ρ = .nx ρ1 := by simp [h]
theorem call_1 {gg : Den} {d e : D} (ha : fa ρ = .ok d ρ1) (h : gg [.sh d] = .ok e [.em]) : eCall 1 gg (gcV fa gcNil) ρ = .ok e ρ1 := by
  rw [eCall_eq, gcV_eq, ha, bind_ok, gcNil_eq, bind_ok, bind_ok]
  exact (if_pos (c := ([AV.d d] : List AV).length = 1) rfl).trans (call1 h)
theorem call_2 {gg : Den} {d d' e : D} (ha : fa ρ = .ok d ρ1) (hb : fb ρ1 = .ok d' ρ2) (h : gg [.sh d, .sh d'] = .ok e [.em, .em]) : eCall 2 gg (gcV fa (gcV fb gcNil)) ρ = .ok e ρ2 := by
  rw [eCall_eq, gcV_eq, ha, bind_ok, gcV_eq, hb, bind_ok, gcNil_eq, bind_ok, bind_ok, bind_ok]
  exact (if_pos (c := ([AV.d d, AV.d d'] : List AV).length = 2) rfl).trans (call2 h)
theorem same_ok {i j : Int} (ha : fa ρ = .ok (.int i) ρ1) (hb : fb ρ1 = .ok (.int j) ρ2) (e : i = j) : eCall 2 (d__law_same 6) (gcV fa (gcV fb gcNil)) ρ = .ok (.bl true) ρ2 := by
  have h := same_int (n := 5) (i := i) (j := j)
  rw [e, beq_self_eq_true] at h
  rw [e] at ha
  exact call_2 ha hb h
/-- worth(..) is due -/
theorem sw_ok (hu : ∀ u ∈ ws, OkV c u) (hl : ws.length < 1000) (ha : fa ρ = .ok (wrap o k c ws) ρ1) (hb : fb ρ1 = .ok (.int j) ρ2) (e : wo ws = j) : eCall 2 (d__law_same 6) (gcV (eCall 1 d_worth (gcV fa gcNil)) (gcV fb gcNil)) ρ = .ok (.bl true) ρ2 :=
  same_ok (call_1 ha (worth_ok hu hl)) hb e
theorem swK_ok (hu : ∀ u ∈ ws, OkV c u) (hl : ws.length < 1000) (ha : fa ρ = .ok (wrap o k c ws) ρ1) (hb : fb ρ1 = .ok (.int j) ρ2) (e : wo ws = j) : eCall 2 (d__law_same 6) (gcV (eCall 1 d_worth (gcApp 0 1 gcNil (gcV fa gcNil))) (gcV fb gcNil)) ρ = .ok (.bl true) ρ2 := by
  refine same_ok (ρ1 := ρ1) (i := wo ws) ?_ hb e
  rw [eCall_eq]
  unfold gcApp
  rw [gcNil_eq, bind_ok, gcV_eq, ha, bind_ok, gcNil_eq, bind_ok, bind_ok]
  show (R.bind (R.ok [AV.d (wrap o k c ws)] ρ1) _) = _
  rw [bind_ok]
  exact (if_pos (c := ([AV.d (wrap o k c ws)] : List AV).length = 1) rfl).trans (call1 (worth_ok hu hl))
theorem gNe_bl {x y : Bool} : gNe (.bl x) (.bl y) = some (.bl (!(x == y))) := rfl
theorem cut1 {d : D} {ds : List D} : cutL (d :: ds) (some 1) none = ds := by
  unfold cutL
  have h1 : HT.sIx (d :: ds).length 0 (some 1) = 1 := by
    show (if (1 : Int) < 0 then ((1 : Int) + ((d :: ds).length : Int)).toNat else min (1 : Int).toNat (d :: ds).length) = 1
    rw [if_neg (by decide), List.length_cons]
    show min 1 (ds.length + 1) = 1
    omega
  have h2 : HT.sIx (d :: ds).length (d :: ds).length none = (d :: ds).length := rfl
  rw [h1, h2]
  simp
end
/-- the vectors that are put behind -/
theorem more_ok {ns : List Int} {c : Bool} {us : List P} {s4 s5 s6 s7 : Slot} : ∀ (ds done : List D) (b : Bag), BagOk b → done.length + ds.length ≤ 100 → ∃ (ws : List P) (b' : Bag), (∀ u ∈ ws, Bd 3 c u) ∧ ws.length = ds.length ∧ BagOk b' ∧
    compA (gNm 9) tTrue (eCall 3 d__law_vec (gcN (.io 1) 1 (gcV (eVar 2) (gcV (eC (.int 3)) (gcNil))))) [9] ds done (lE ns b c us s4 s5 s6 s7) = .ok (done ++ ws.map (rv c)) (lE ns b' c us s4 s5 s6 s7)
  | [], done, b, hb, _ => ⟨[], b, by simp, rfl, hb, by simp [compA]⟩
  | d :: ds, done, b, hb, hl => by
    simp only [List.length_cons] at hl
    obtain ⟨v, b1, e1, h1, o1⟩ := vec_ok (c := c) (n := 3) hb (by decide) (by decide)
    obtain ⟨ws, b', h2, h3, o2, h4⟩ := more_ok (ns := ns) (us := us) (s4 := s4) (s5 := s5) (s6 := s6) (s7 := s7) ds (done ++ [rv c v]) b1 o1 (by simp; omega)
    refine ⟨v :: ws, b', fun u hu => ?_, by simp [h3], o2, ?_⟩
    · rcases List.mem_cons.mp hu with rfl | hu
      · exact h1
      · exact h2 u hu
    · unfold compA
      have ev : (eCall 3 d__law_vec (gcN (.io 1) 1 (gcV (eVar 2) (gcV (eC (.int 3)) (gcNil))))) [.sh (.scr ns), bagC b, .sh (.int (dimI c)), .sh (vs c us), s4, s5, s6, s7, .em, .sh d] = .ok (rv c v) [.sh (.scr ns), bagC b1, .sh (.int (dimI c)), .sh (vs c us), s4, s5, s6, s7, .em, .sh d] := by
        simp [gcN1, jo2 e1]
      simp only [gNm_eq, lE, List.set_cons_succ, List.set_cons_zero, tTrue_eq, ev]
      rw [if_pos (by unfold sl; omega)]
      simp only [lE] at h4
      show compA _ _ _ [9] ds _ [.sh (.scr ns), bagC b1, .sh (.int (dimI c)), .sh (vs c us), s4, s5, s6, s7, .em, .em] = _
      rw [h4]
      simp
theorem law_true (ns : List Int) (hns : ns.length ≤ 63) : ∃ o, d_law [.sh (.scr ns)] = .ok (.bl true) o := by
  obtain ⟨b0, o0, hbag⟩ := bag_ok hns
  obtain ⟨p, b1, e1, l1, u1, o1⟩ := take_ok (n := 2) o0 (by decide) (by decide)
  obtain ⟨c, hc⟩ : ∃ c : Bool, 2 + p = dimI c := by
    have : p = 0 ∨ p = 1 := by omega
    rcases this with rfl | rfl
    · exact ⟨false, rfl⟩
    · exact ⟨true, rfl⟩
  obtain ⟨us, b2, hus, o2, hne, hl3, hld, e2⟩ := drawn_ok (c := c) o1
  obtain ⟨m, b3, kk, hkk, hm, o3, e3⟩ := ones_ok (c := c) o2
  have hsm : ∀ u ∈ us, Small u ∧ (c = false → u.z = 0) := fun u h => ⟨(hus u h).small (by decide), (hus u h).flat⟩
  have hok : ∀ u ∈ us, OkV c u := fun u h => (hsm u h).1.ok (hsm u h).2
  have hlw := lworth_ok hsm hl3 hne
  have hlr := lrank_ok hsm hl3
  rw [lr_basis us hl3] at hlr
  -- the places
  have s1 : (sSetF 1 (eCallF 1 d__law_bag (gcV (eVar 0) (gcNil)))) [.sh (.scr ns), .em, .em, .em, .em, .em, .em, .em, .em, .em] = .nx [.sh (.scr ns), bagC b0, .em, .em, .em, .em, .em, .em, .em, .em] := by
    simp [eCallF, callF1 hbag, bagC]
  have s2 : (sSet 2 (eBin gAdd (eC (.int 2)) (eCall 2 d__law_take (gcN (.io 1) 1 (gcV (eC (.int 2)) (gcNil)))))) [.sh (.scr ns), bagC b0, .em, .em, .em, .em, .em, .em, .em, .em] = .nx [.sh (.scr ns), bagC b1, .sh (.int (dimI c)), .em, .em, .em, .em, .em, .em, .em] := by
    simp [gcN1, jo1 e1, hc]
  have s3 : (sSet 3 (eCall 2 d__law_drawn (gcN (.io 1) 1 (gcV (eVar 2) (gcNil))))) [.sh (.scr ns), bagC b1, .sh (.int (dimI c)), .em, .em, .em, .em, .em, .em, .em] = .nx (lE ns b2 c us .em .em .em .em) := by
    simp [gcN1, jo1 e2, lE]
  have v3 : ∀ {b : Bag} {s4 s5 s6 s7 : Slot}, eVar 3 (lE ns b c us s4 s5 s6 s7) = .ok (vs c us) (lE ns b c us s4 s5 s6 s7) := rfl
  have v4 : ∀ {b : Bag} {d4 : D} {s5 s6 s7 : Slot}, eVar 4 (lE ns b c us (.sh d4) s5 s6 s7) = .ok d4 (lE ns b c us (.sh d4) s5 s6 s7) := rfl
  have v5 : ∀ {b : Bag} {d5 : D} {s4 s6 s7 : Slot}, eVar 5 (lE ns b c us s4 (.sh d5) s6 s7) = .ok d5 (lE ns b c us s4 (.sh d5) s6 s7) := rfl
  have v6 : ∀ {b : Bag} {d6 : D} {s4 s5 s7 : Slot}, eVar 6 (lE ns b c us s4 s5 (.sh d6) s7) = .ok d6 (lE ns b c us s4 s5 (.sh d6) s7) := rfl
  have v7 : ∀ {b : Bag} {d7 : D} {s4 s5 s6 : Slot}, eVar 7 (lE ns b c us s4 s5 s6 (.sh d7)) = .ok d7 (lE ns b c us s4 s5 s6 (.sh d7)) := rfl
  have s4 : (sSet 4 (eCall 1 d__law_worth (gcV (eVar 3) (gcNil)))) (lE ns b2 c us .em .em .em .em) = .nx (lE ns b2 c us (.sh (.int (wo us))) .em .em .em) := by
    rw [sSet_eq, call_1 v3 hlw]; rfl
  have s5 : (sSet 5 (eBin gEq (eCall 1 d__law_rank (gcV (eVar 3) (gcNil))) (eA gLen (aCons (eVar 3) (aNil))))) (lE ns b2 c us (.sh (.int (wo us))) .em .em .em) = .nx (lE ns b2 c us (.sh (.int (wo us))) (.sh (.bl (((basis us).length : Int) == us.length))) .em .em) := by
    rw [sSet_eq, eBin_eq, call_1 v3 hlr]
    simp only [bind_ok, eA_eq, aCons_eq, aNil_eq, v3, len_vs, of_some, gEq_int, toS_ok]
    rfl
  have hfree : decide (0 < wo us) = (((basis us).length : Int) == us.length) := by
    by_cases q : (basis us).length = us.length
    · have h1 := basis_full us hl3 q
      have h2 := wo_nonneg us
      have h3 : 0 < wo us := by omega
      rw [q]
      simp [h3]
    · have h0 : (basis us).length ≤ us.length := by
        have key : ∀ (ws fs : List P), (ws.foldl grow fs).length ≤ fs.length + ws.length := by
          intro ws
          induction ws with
          | nil => exact fun fs => by simp
          | cons w ws ih =>
            intro fs
            have h1 := ih (grow fs w)
            have h2 : (grow fs w).length ≤ fs.length + 1 := by unfold grow; split <;> simp
            simp only [List.foldl_cons, List.length_cons]
            omega
        have := key us []
        simpa [basis] using this
      have h1 : wo us = 0 := basis_wo us (by omega)
      have h2 : (((basis us).length : Int) == us.length) = false := decide_eq_false (by omega)
      rw [h1, h2]; rfl
  have t6 : (tOf (eBin gNe (eBin gGt (eVar 4) (eC (.int 0))) (eVar 5))) (lE ns b2 c us (.sh (.int (wo us))) (.sh (.bl (((basis us).length : Int) == us.length))) .em .em) = .ok false (lE ns b2 c us (.sh (.int (wo us))) (.sh (.bl (((basis us).length : Int) == us.length))) .em .em) := by
    simp only [tOf_eq, eBin_eq, v4, v5, eC_eq, bind_ok, gGt_int, of_some, hfree, gNe_bl, beq_self_eq_true, Bool.not_true, asB_bl]
  generalize hF : (((basis us).length : Int) == us.length) = F at s5 hfree t6
  have big : us.length < 1000 := by omega
  have c8 : ∀ {b : Bag} {s4 s5 s6 s7 : Slot} {fe : En → R D} {h : P → D}, (∀ u ∈ us, fe ((lE ns b c us s4 s5 s6 s7).set 8 (.sh (rv c u))) = .ok (h u) ((lE ns b c us s4 s5 s6 s7).set 8 (.sh (rv c u)))) → eF (cComp (iSeq (eVar 3)) (gNm 8) (tTrue) fe [8]) (lE ns b c us s4 s5 s6 s7) = .ok (.lst (us.map h)) (lE ns b c us s4 s5 s6 s7) := fun {b s4 s5 s6 s7 fe h} hfe => by
    rw [eF_eq, cComp_mA (fi := iSeq (eVar 3)) (us := us) (f := rv c) (s := .em) (ρ1 := lE ns b c us s4 s5 s6 s7) rfl rfl rfl hfe (by unfold sl; omega)]
    rfl
  have t7a : eCall 2 (d__law_same 6) (gcV (eCall 1 d_worth (gcV (eF (cComp (iSeq (eVar 3)) (gNm 8) (tTrue) (eA gList (aCons (eVar 8) (aNil))) [8])) (gcNil))) (gcV (eVar 4) (gcNil))) (lE ns b2 c us (.sh (.int (wo us))) (.sh (.bl F)) .em .em) = .ok (.bl true) (lE ns b2 c us (.sh (.int (wo us))) (.sh (.bl F)) .em .em) :=
    sw_ok (o := true) (k := true) hok big (c8 (h := rl c) fun u _ => by cases c <;> rfl) v4 rfl
  have t7b : eCall 2 (d__law_same 6) (gcV (eCall 1 d_worth (gcApp 0 1 (gcNil) (gcV (eA gTup (aCons (eUn gRev (eVar 3)) (aNil))) (gcNil)))) (gcV (eVar 4) (gcNil))) (lE ns b2 c us (.sh (.int (wo us))) (.sh (.bl F)) .em .em) = .ok (.bl true) (lE ns b2 c us (.sh (.int (wo us))) (.sh (.bl F)) .em .em) := by
    refine swK_ok (o := false) (k := false) (ws := us.reverse) (fun u h => hok u (List.mem_reverse.mp h)) (by rw [List.length_reverse]; exact big) ?_ v4 (wo_rev us)
    show _ = R.ok (D.tup (us.reverse.map (rv c))) _
    rw [List.map_reverse]
    rfl
  have t8 : eCall 2 (d__law_same 6) (gcV (eCall 1 d_rank (gcV (eVar 3) (gcNil))) (gcV (eCall 1 d__law_rank (gcV (eVar 3) (gcNil))) (gcNil))) (lE ns b2 c us (.sh (.int (wo us))) (.sh (.bl F)) .em .em) = .ok (.bl true) (lE ns b2 c us (.sh (.int (wo us))) (.sh (.bl F)) .em .em) :=
    same_ok (call_1 v3 (rank_ok (o := true) (k := false) hok big)) (call_1 v3 hlr) rfl
  have t9 : (tAn (tTru (eVar 5)) (tNo (tTru (eCall 2 (d__law_same 6) (gcV (eCall 1 d_worth (gcV (eA gList (aCons (eVar 3) (aNil))) (gcNil))) (gcV (eCall 1 d__law_count (gcV (eVar 3) (gcNil))) (gcNil))))))) (lE ns b2 c us (.sh (.int (wo us))) (.sh (.bl F)) .em .em) = .ok false (lE ns b2 c us (.sh (.int (wo us))) (.sh (.bl F)) .em .em) := by
    cases F with
    | false => rfl
    | true =>
      have hw : 0 < wo us := of_decide_eq_true hfree
      have hcnt := count_ok hsm ⟨hl3, hne, by omega⟩
      have h := no_of (sw_ok (o := true) (k := false) hok big (ρ := lE ns b2 c us (.sh (.int (wo us))) (.sh (.bl true)) .em .em) (fa := eA gList (aCons (eVar 3) (aNil))) (ρ1 := lE ns b2 c us (.sh (.int (wo us))) (.sh (.bl true)) .em .em) rfl (call_1 v3 hcnt) rfl)
      rw [tAn_eq, tTru_eq, v5]
      simp only [bind_ok, truD_bl, of_some, if_true]
      exact h
  have s10 : (sSet 6 (eCall 2 d__law_ones (gcN (.io 1) 1 (gcV (eVar 2) (gcNil))))) (lE ns b2 c us (.sh (.int (wo us))) (.sh (.bl F)) .em .em) = .nx (lE ns b3 c us (.sh (.int (wo us))) (.sh (.bl F)) (.sh (rowsD c m)) .em) := by
    simp [gcN1, jo1 e3, lE]
  have hmo : OkM c m := ⟨(hm.r1.small (by omega)).ok hm.r1.flat, (hm.r2.small (by omega)).ok hm.r2.flat, hm.last⟩
  have hap : ∀ u ∈ us, OkV c (m.ap u) := fun u h => by
    have q := hus u h
    have mb : ∀ x y : Int, (-kk ≤ x ∧ x ≤ kk) → (-4 ≤ y ∧ y ≤ 4) → (x * y).natAbs ≤ 27 * 4 := fun x y hx hy => mul_bd (by omega) (by omega)
    have db : ∀ w : P, Bd kk true w → (dot w u).natAbs < 2 ^ 64 := fun w hw => by
      have h1 := mb _ _ hw.x q.x
      have h2 := mb _ _ hw.y q.y
      have h3 := mb _ _ hw.z q.z
      unfold dot
      omega
    refine ⟨fun e => ?_, db _ hm.r1.up, db _ hm.r2.up, db _ hm.r3⟩
    show dot m.c u = 0
    rw [hm.last e]
    simp [dot, q.flat e]
  have t11 : eCall 2 (d__law_same 6) (gcV (eCall 1 d_worth (gcV (eF (cComp (iSeq (eVar 3)) (gNm 8) (tTrue) (eCall 2 d__law_lead (gcV (eVar 6) (gcV (eVar 8) (gcNil)))) [8])) (gcNil))) (gcV (eVar 4) (gcNil))) (lE ns b3 c us (.sh (.int (wo us))) (.sh (.bl F)) (.sh (rowsD c m)) .em) = .ok (.bl true) (lE ns b3 c us (.sh (.int (wo us))) (.sh (.bl F)) (.sh (rowsD c m)) .em) := by
    refine sw_ok (c := c) (o := true) (k := false) (ws := us.map m.ap) (fun u h => by obtain ⟨v, hv, rfl⟩ := List.mem_map.mp h; exact hap v hv) (by rw [List.length_map]; exact big) ?_ v4 (wo_ap hm.one us)
    rw [c8 (fe := eCall 2 d__law_lead (gcV (eVar 6) (gcV (eVar 8) (gcNil)))) (h := fun u => rv c (m.ap u)) fun u hu => call_2 (fa := eVar 6) (fb := eVar 8) rfl rfl (lead_ok hmo (hok u hu))]
    show R.ok (D.lst _) _ = R.ok (D.lst ((us.map m.ap).map (rv c))) _
    rw [List.map_map]
    rfl
  have t12 : eCall 2 (d__law_same 6) (gcV (eCall 1 d_worth (gcV (eF (cComp (iSeq (eVar 3)) (gNm 8) (tTrue) (eCall 2 d__law_fold (gcV (eUn gNeg (eC (.int 1))) (gcV (eVar 8) (gcNil)))) [8])) (gcNil))) (gcV (eVar 4) (gcNil))) (lE ns b3 c us (.sh (.int (wo us))) (.sh (.bl F)) (.sh (rowsD c m)) .em) = .ok (.bl true) (lE ns b3 c us (.sh (.int (wo us))) (.sh (.bl F)) (.sh (rowsD c m)) .em) := by
    refine sw_ok (c := c) (o := true) (k := false) (ws := us.map (smul (-1))) (fun u h => by
      obtain ⟨v, hv, rfl⟩ := List.mem_map.mp h
      have q := (hus v hv).neg
      exact (q.small (by decide)).ok q.flat) (by rw [List.length_map]; exact big) ?_ v4 (wo_neg us)
    rw [c8 (fe := eCall 2 d__law_fold (gcV (eUn gNeg (eC (.int 1))) (gcV (eVar 8) (gcNil)))) (h := fun u => rv c (smul (-1) u)) fun u hu => call_2 (fa := eUn gNeg (eC (.int 1))) (fb := eVar 8) rfl rfl (lfold_ok (n := -1) (by unfold Sm; decide))]
    show R.ok (D.lst _) _ = R.ok (D.lst ((us.map (smul (-1))).map (rv c))) _
    rw [List.map_map]
    rfl
  obtain ⟨u0, rest, hu0⟩ : ∃ u0 rest, us = u0 :: rest := by
    cases us with
    | nil => exact absurd rfl hne
    | cons u r => exact ⟨u, r, rfl⟩
  have q0 := hus u0 (by rw [hu0]; simp)
  have ix0 : ∀ {b : Bag} {s4 s5 s6 s7 : Slot}, eBin gIx (eVar 3) (eC (.int 0)) (lE ns b c us s4 s5 s6 s7) = .ok (rv c u0) (lE ns b c us s4 s5 s6 s7) := fun {b s4 s5 s6 s7} => by
    rw [eBin_eq, v3, bind_ok, eC_eq, bind_ok]
    show R.of (gIx (.lst (us.map (rv c))) (.int 0)) _ = _
    rw [hu0, gIx_l, List.map_cons, atI_0]
    rfl
  have hrest : rest.length ≤ 2 := by rw [hu0, List.length_cons] at hl3; omega
  have t13 : eCall 2 (d__law_same 6) (gcV (eCall 1 d_worth (gcV (eBin gAdd (eA mkL (aCons (eCall 2 d__law_fold (gcV (eC (.int 2)) (gcV (eBin gIx (eVar 3) (eC (.int 0))) (gcNil)))) (aNil))) (eA gList (aCons (eSl (eVar 3) (oSo (eC (.int 1))) (oNo)) (aNil)))) (gcNil))) (gcV (eBin gMulI (eC (.int 2)) (eVar 4)) (gcNil))) (lE ns b3 c us (.sh (.int (wo us))) (.sh (.bl F)) (.sh (rowsD c m)) .em) = .ok (.bl true) (lE ns b3 c us (.sh (.int (wo us))) (.sh (.bl F)) (.sh (rowsD c m)) .em) := by
    refine sw_ok (c := c) (o := true) (k := false) (ws := smul 2 u0 :: rest) (j := 2 * wo us) (fun u h => ?_) (by simp only [List.length_cons]; omega) (ρ1 := lE ns b3 c us (.sh (.int (wo us))) (.sh (.bl F)) (.sh (rowsD c m)) .em) ?_ ?_ (by rw [wo_two u0 rest hrest, hu0])
    · rcases List.mem_cons.mp h with rfl | h
      · have := q0.x
        have := q0.y
        have := q0.z
        exact ⟨fun e => by show 2 * u0.z = 0; rw [q0.flat e]; rfl, by show (2 * u0.x).natAbs < 2 ^ 64; omega, by show (2 * u0.y).natAbs < 2 ^ 64; omega, by show (2 * u0.z).natAbs < 2 ^ 64; omega⟩
      · exact hok u (by rw [hu0]; simp [h])
    · have f1 := call_2 (gg := d__law_fold) (fa := eC (.int 2)) (fb := eBin gIx (eVar 3) (eC (.int 0))) (ρ := lE ns b3 c us (.sh (.int (wo us))) (.sh (.bl F)) (.sh (rowsD c m)) .em) rfl ix0 (lfold_ok (n := 2) (by unfold Sm; decide))
      have f2 : eSl (eVar 3) (oSo (eC (.int 1))) (oNo) (lE ns b3 c us (.sh (.int (wo us))) (.sh (.bl F)) (.sh (rowsD c m)) .em) = .ok (.lst (rest.map (rv c))) (lE ns b3 c us (.sh (.int (wo us))) (.sh (.bl F)) (.sh (rowsD c m)) .em) := by
        show R.of (gSl (.lst (us.map (rv c))) (some 1) none) _ = _
        show R.ok (D.lst (cutL (us.map (rv c)) (some 1) none)) _ = _
        rw [hu0, List.map_cons, cut1]
      rw [eBin_eq, eA_eq, aCons_eq, f1]
      simp only [bind_ok, aNil_eq, eA_eq, aCons_eq, f2]
      have m1 : mkL [rv c (smul 2 u0)] = some (.lst [rv c (smul 2 u0)]) := rfl
      have ga := gAdd_lst (a := [rv c (smul 2 u0)]) (b := rest.map (rv c)) (by rw [List.length_map]; unfold sl; simp only [List.length_cons, List.length_nil]; omega)
      rw [m1, of_some, bind_ok, f2, bind_ok, bind_ok, gList_l, of_some, bind_ok, ga, of_some]
      rfl
    · rw [eBin_eq, eC_eq, bind_ok, v4, bind_ok, gMul_l (by decide), of_some]
  -- more of them
  have hdl : (1 : Int) ≤ dimI c + 1 - us.length ∧ dimI c + 1 - us.length ≤ 3 := by
    have h1 : 0 < us.length := by rw [hu0]; simp
    have h2 : dimI c ≤ 3 := by cases c <;> decide
    omega
  obtain ⟨ws, b4, hws, hwl, o4, e4⟩ := more_ok (ns := ns) (us := us) (s4 := .sh (.int (wo us))) (s5 := .sh (.bl F)) (s6 := .sh (rowsD c m)) (s7 := .em) (rngD 0 (dimI c + 1 - us.length).toNat) [] b3 o3 (by rw [rngD_len]; simp only [List.length_nil]; omega)
  rw [rngD_len] at hwl
  have hmz : ∀ u ∈ us ++ ws, OkV c u := fun u h => by
    rcases List.mem_append.mp h with h | h
    · exact hok u h
    · exact ((hws u h).small (by decide)).ok (hws u h).flat
  have s14 : (sSet 7 (eBin gAdd (eA gList (aCons (eVar 3) (aNil))) (eF (cComp (iRg rng1 (aCons (eBin gSub (eBin gAdd (eVar 2) (eC (.int 1))) (eA gLen (aCons (eVar 3) (aNil)))) (aNil))) (gNm 9) (tTrue) (eCall 3 d__law_vec (gcN (.io 1) 1 (gcV (eVar 2) (gcV (eC (.int 3)) (gcNil))))) [9])))) (lE ns b3 c us (.sh (.int (wo us))) (.sh (.bl F)) (.sh (rowsD c m)) .em) = .nx (lE ns b4 c us (.sh (.int (wo us))) (.sh (.bl F)) (.sh (rowsD c m)) (.sh (vs c (us ++ ws)))) := by
    have hr : rng1 [.int (dimI c + 1 - us.length)] = some (rngD 0 (dimI c + 1 - us.length).toNat) := rng1_ok (by unfold rngOk; simp; omega)
    have hi : iRg rng1 (aCons (eBin gSub (eBin gAdd (eVar 2) (eC (.int 1))) (eA gLen (aCons (eVar 3) (aNil)))) (aNil)) (lE ns b3 c us (.sh (.int (wo us))) (.sh (.bl F)) (.sh (rowsD c m)) .em) = .ok (rngD 0 (dimI c + 1 - us.length).toNat) (lE ns b3 c us (.sh (.int (wo us))) (.sh (.bl F)) (.sh (rowsD c m)) .em) := by
      simp [lE, hr]
    have hcc : cComp (iRg rng1 (aCons (eBin gSub (eBin gAdd (eVar 2) (eC (.int 1))) (eA gLen (aCons (eVar 3) (aNil)))) (aNil))) (gNm 9) (tTrue) (eCall 3 d__law_vec (gcN (.io 1) 1 (gcV (eVar 2) (gcV (eC (.int 3)) (gcNil))))) [9] (lE ns b3 c us (.sh (.int (wo us))) (.sh (.bl F)) (.sh (rowsD c m)) .em) = .ok (.l (ws.map (rv c))) (lE ns b4 c us (.sh (.int (wo us))) (.sh (.bl F)) (.sh (rowsD c m)) .em) := by
      unfold cComp
      rw [hi]
      simp only
      rw [if_pos (by rfl)]
      have w1 : wipeE (lE ns b3 c us (.sh (.int (wo us))) (.sh (.bl F)) (.sh (rowsD c m)) .em) [9] = lE ns b3 c us (.sh (.int (wo us))) (.sh (.bl F)) (.sh (rowsD c m)) .em := rfl
      rw [w1, e4]
      simp only
      rw [if_pos (by rfl)]
      rfl
    have gl : eA gList (aCons (eVar 3) (aNil)) (lE ns b3 c us (.sh (.int (wo us))) (.sh (.bl F)) (.sh (rowsD c m)) .em) = .ok (.lst (us.map (rv c))) (lE ns b3 c us (.sh (.int (wo us))) (.sh (.bl F)) (.sh (rowsD c m)) .em) := rfl
    have ga := gAdd_lst (a := us.map (rv c)) (b := ws.map (rv c)) (by rw [List.length_map, List.length_map]; unfold sl; omega)
    rw [sSet_eq, eBin_eq, gl, bind_ok, eF_eq, hcc]
    simp only [bind_ok, frzC_l, of_some, ga, toS_ok]
    rw [← List.map_append]
    rfl
  have t15a : eCall 2 (d__law_same 6) (gcV (eCall 1 d_worth (gcV (eVar 7) (gcNil))) (gcV (eC (.int 0)) (gcNil))) (lE ns b4 c us (.sh (.int (wo us))) (.sh (.bl F)) (.sh (rowsD c m)) (.sh (vs c (us ++ ws)))) = .ok (.bl true) (lE ns b4 c us (.sh (.int (wo us))) (.sh (.bl F)) (.sh (rowsD c m)) (.sh (vs c (us ++ ws)))) :=
    sw_ok (o := true) (k := false) (ws := us ++ ws) hmz (by rw [List.length_append]; omega) v7 rfl (wo_many (c := c) (fun u h => (hmz u h).flat) (by rw [List.length_append]; omega))
  have t15b : eCall 2 (d__law_same 6) (gcV (eCall 1 d_worth (gcV (eBin gAdd (eVar 3) (eA mkL (aCons (eBin gIx (eVar 3) (eC (.int 0))) (aNil)))) (gcNil))) (gcV (eC (.int 0)) (gcNil))) (lE ns b4 c us (.sh (.int (wo us))) (.sh (.bl F)) (.sh (rowsD c m)) (.sh (vs c (us ++ ws)))) = .ok (.bl true) (lE ns b4 c us (.sh (.int (wo us))) (.sh (.bl F)) (.sh (rowsD c m)) (.sh (vs c (us ++ ws)))) := by
    refine sw_ok (c := c) (o := true) (k := false) (ws := us ++ [u0]) (fun u h => ?_) (by simp; omega) (ρ1 := lE ns b4 c us (.sh (.int (wo us))) (.sh (.bl F)) (.sh (rowsD c m)) (.sh (vs c (us ++ ws)))) ?_ rfl (by rw [hu0]; exact wo_again u0 rest)
    · rcases List.mem_append.mp h with h | h
      · exact hok u h
      · rw [List.mem_singleton.mp h]; exact hok u0 (by rw [hu0]; simp)
    · have m1 : mkL [rv c u0] = some (.lst [rv c u0]) := rfl
      have ga := gAdd_lst (a := us.map (rv c)) (b := [rv c u0]) (by rw [List.length_map]; unfold sl; simp only [List.length_cons, List.length_nil]; omega)
      rw [eBin_eq, v3, bind_ok, eA_eq, aCons_eq, ix0]
      simp only [bind_ok, aNil_eq, m1, of_some]
      show R.of (gAdd (.lst (us.map (rv c))) (.lst [rv c u0])) _ = R.ok (D.lst ((us ++ [u0]).map (rv c))) _
      rw [ga, List.map_append]
      rfl
  have ok1 : ∀ v : P, Small v → OkV true v := fun v h => h.ok nofun
  have z1 : ∀ {ρ : En}, eCall 2 (d__law_same 6) (gcV (eCall 1 d_worth (gcV (eA mkL (aNil)) (gcNil))) (gcV (eC (.int 1)) (gcNil))) ρ = .ok (.bl true) ρ := fun {ρ} => sw_ok (o := true) (k := false) (c := true) (ws := []) (by simp) (by decide) (ρ1 := ρ) rfl rfl rfl
  have z2 : ∀ {ρ : En}, eCall 2 (d__law_same 6) (gcV (eCall 1 d_worth (gcV (eA mkT (aNil)) (gcNil))) (gcV (eC (.int 1)) (gcNil))) ρ = .ok (.bl true) ρ := fun {ρ} => sw_ok (o := false) (k := false) (c := true) (ws := []) (by simp) (by decide) (ρ1 := ρ) rfl rfl rfl
  have z3 : ∀ {ρ : En}, eCall 2 (d__law_same 6) (gcV (eCall 1 d_worth (gcV (eA mkL (aCons (eA mkT (aCons (eC (.int 0)) (aCons (eC (.int 0)) (aCons (eC (.int 0)) (aNil))))) (aNil))) (gcNil))) (gcV (eC (.int 0)) (gcNil))) ρ = .ok (.bl true) ρ := fun {ρ} => sw_ok (o := true) (k := false) (c := true) (ws := [⟨0, 0, 0⟩]) (fun u h => by rw [List.mem_singleton.mp h]; exact ok1 _ ⟨by decide, by decide, by decide⟩) (by decide) (ρ1 := ρ) rfl rfl (by decide)
  have z4 : ∀ {ρ : En}, eCall 2 (d__law_same 6) (gcV (eCall 1 d_worth (gcV (eA mkL (aCons (eA mkT (aCons (eC (.int 1)) (aCons (eC (.int 1)) (aCons (eC (.int 0)) (aNil))))) (aCons (eA mkT (aCons (eC (.int 1)) (aCons (eUn gNeg (eC (.int 1))) (aCons (eC (.int 0)) (aNil))))) (aNil)))) (gcNil))) (gcV (eC (.int 2)) (gcNil))) ρ = .ok (.bl true) ρ := fun {ρ} => sw_ok (o := true) (k := false) (c := true) (ws := [⟨1, 1, 0⟩, ⟨1, -1, 0⟩]) (fun u h => by
    simp only [List.mem_cons, List.not_mem_nil, or_false] at h
    rcases h with rfl | rfl <;> exact ok1 _ ⟨by decide, by decide, by decide⟩) (by decide) (ρ1 := ρ) rfl rfl (by decide)
  have z5 : ∀ {ρ : En}, eCall 2 (d__law_same 6) (gcV (eCall 1 d_worth (gcV (eA mkL (aCons (eA mkT (aCons (eC (.int 2)) (aCons (eC (.int 4)) (aCons (eC (.int 6)) (aNil))))) (aNil))) (gcNil))) (gcV (eC (.int 2)) (gcNil))) ρ = .ok (.bl true) ρ := fun {ρ} => sw_ok (o := true) (k := false) (c := true) (ws := [⟨2, 4, 6⟩]) (fun u h => by rw [List.mem_singleton.mp h]; exact ok1 _ ⟨by decide, by decide, by decide⟩) (by decide) (ρ1 := ρ) rfl rfl (by decide)
  have last : ∃ ρ, b_law [.sh (.scr ns), .em, .em, .em, .em, .em, .em, .em, .em, .em] = .rt (.bl true) ρ := by
    refine ⟨lE ns b4 c us (.sh (.int (wo us))) (.sh (.bl F)) (.sh (rowsD c m)) (.sh (vs c (us ++ ws))), ?_⟩
    unfold b_law
    rw [sSeq_eq, s1, seq_nx, sSeq_eq, s2, seq_nx, sSeq_eq, s3, seq_nx, sSeq_eq, s4, seq_nx, sSeq_eq, s5, seq_nx, sSeq_eq, if_no t6, seq_nx]
    rw [sSeq_eq, if_no (ou_of (no_of t7a) (no_of t7b)), seq_nx, sSeq_eq, if_no (no_of t8), seq_nx, sSeq_eq, if_no t9, seq_nx, sSeq_eq, s10, seq_nx]
    rw [sSeq_eq, if_no (no_of t11), seq_nx, sSeq_eq, if_no (no_of t12), seq_nx, sSeq_eq, if_no (no_of t13), seq_nx, sSeq_eq, s14, seq_nx]
    rw [sSeq_eq, if_no (ou_of (no_of t15a) (no_of t15b)), seq_nx, sSeq_eq, if_no (ou_of (no_of z1) (ou_of (no_of z2) (no_of z3))), seq_nx]
    rw [sRet_eq, an_eq z4 z5]
    rfl
  obtain ⟨ρ, h⟩ := last
  exact ⟨_, den_rt rfl h⟩
end K06
theorem PySem.Challenge.cw_crossededges_k06_worth_counts_points_holds : PySem.Challenge.rw_crossededges_k06_worth_counts_points.Holds := by
  exact K06.holds_of K06.law_true
