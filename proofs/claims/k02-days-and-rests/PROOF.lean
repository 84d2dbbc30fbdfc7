import PyProof.Rows.All
import Wide.All
import OpenK.AllK
import Wide.FinOn
import HandS.ForMost
import HandS.Wide
import HandS.Zip
import HandS.TupAny
import HandS.TupMul
import HandS.IsInst
import HandS.Style
import HandS.Flow
import KE.DataEq
import KE.GoesEnum
import KE.DataMinMax
import PySem.Challenge.RW_ringage_k02_whole_days_and_rests
set_option Elab.async false
set_option linter.all false
set_option maxRecDepth 100000
set_option maxHeartbeats 4000000
set_option autoImplicit false
/-! DL: judgements over plain data, on top of the hand layer -/
namespace DL
open PySem L2

abbrev D := PyData

theorem same_t {K : PySem.W.Frag} {H H' : Hp} {a : Addr} {xs : List V} (e : Same H H') (h : SqT K H a xs) : SqT K H' a xs := by
  rcases h with (h | ⟨o, h⟩) | h
  · exact .inl (.inl (e _ _ h))
  · exact .inl (.inr ⟨o, e _ _ h⟩)
  · exact .inr h
mutual
theorem dmono {K : PySem.W.Frag} {F F' : Hp} (e : Same F F') : ∀ {v : V} {d : D}, Dp K F v d → Dp K F' v d
  | _, _, .non => .non
  | _, _, .bl b => .bl b
  | _, _, .int i => .int i
  | _, _, .str x => .str x
  | _, _, .lst h a => .lst (e.seq h) (dmonoA e a)
  | _, _, .tup h a => .tup (same_t e h) (dmonoA e a)
theorem dmonoA {K : PySem.W.Frag} {F F' : Hp} (e : Same F F') : ∀ {vs : List V} {ds : List D}, DpAll K F vs ds → DpAll K F' vs ds
  | _, _, .nil => .nil
  | _, _, .cons h t => .cons (dmono e h) (dmonoA e t)
end
mutual
theorem Dp.plain {K : PySem.W.Frag} {F : Hp} : ∀ {v : V} {d : D}, Dp K F v d → d.plain = true
  | _, _, .non => rfl
  | _, _, .bl b => rfl
  | _, _, .int i => rfl
  | _, _, .str x => rfl
  | _, _, .lst h a => by simp only [PyData.plain]; exact DpAll.plain a
  | _, _, .tup h a => by simp only [PyData.plain]; exact DpAll.plain a
theorem DpAll.plain {K : PySem.W.Frag} {F : Hp} : ∀ {vs : List V} {ds : List D}, DpAll K F vs ds → PyData.plainAll ds = true
  | _, _, .nil => rfl
  | _, _, .cons h t => by simp only [PyData.plainAll, Dp.plain h, DpAll.plain t, Bool.and_self]
end
theorem DpAll.len {K : PySem.W.Frag} {F : Hp} : ∀ {vs : List V} {ds : List D}, DpAll K F vs ds → vs.length = ds.length
  | _, _, .nil => rfl
  | _, _, .cons _ t => congrArg Nat.succ (DpAll.len t)
theorem DpAll.get {K : PySem.W.Frag} {F : Hp} : ∀ {vs : List V} {ds : List D} {i : Nat} {d : D}, DpAll K F vs ds → ds[i]? = some d → ∃ v, vs[i]? = some v ∧ Dp K F v d
  | _, _, _, _, .nil, h => by simp at h
  | _, _, 0, _, .cons r _, h => by simp at h; subst h; exact ⟨_, rfl, r⟩
  | _, _, i + 1, d, .cons _ t, h => by
    obtain ⟨v, h1, h2⟩ := DpAll.get (i := i) t (by simpa using h)
    exact ⟨v, by simpa using h1, h2⟩
theorem DpAll.getV {K : PySem.W.Frag} {F : Hp} : ∀ {vs : List V} {ds : List D} {i : Nat} {v : V}, DpAll K F vs ds → vs[i]? = some v → ∃ d, ds[i]? = some d ∧ Dp K F v d
  | _, _, _, _, .nil, h => by simp at h
  | _, _, 0, _, .cons r _, h => by simp at h; subst h; exact ⟨_, rfl, r⟩
  | _, _, i + 1, d, .cons _ t, h => by
    obtain ⟨v, h1, h2⟩ := DpAll.getV (i := i) t (by simpa using h)
    exact ⟨v, by simpa using h1, h2⟩
theorem DpAll.append {K : PySem.W.Frag} {F : Hp} : ∀ {vs : List V} {ds : List D} {ws : List V} {es : List D}, DpAll K F vs ds → DpAll K F ws es → DpAll K F (vs ++ ws) (ds ++ es)
  | _, _, _, _, .nil, s => s
  | _, _, _, _, .cons r t, s => .cons r (DpAll.append t s)
theorem DpAll.take {K : PySem.W.Frag} {F : Hp} : ∀ (n : Nat) {vs : List V} {ds : List D}, DpAll K F vs ds → DpAll K F (vs.take n) (ds.take n)
  | 0, _, _, _ => by simp only [List.take_zero]; exact .nil
  | _ + 1, _, _, .nil => .nil
  | n + 1, _, _, .cons r t => .cons r (DpAll.take n t)
theorem DpAll.drop {K : PySem.W.Frag} {F : Hp} : ∀ (n : Nat) {vs : List V} {ds : List D}, DpAll K F vs ds → DpAll K F (vs.drop n) (ds.drop n)
  | 0, _, _, r => by simpa using r
  | _ + 1, _, _, .nil => .nil
  | n + 1, _, _, .cons _ t => DpAll.drop n t
theorem DpAll.set {K : PySem.W.Frag} {F : Hp} {v : V} {d : D} (r : Dp K F v d) : ∀ (i : Nat) {vs : List V} {ds : List D}, DpAll K F vs ds → DpAll K F (vs.set i v) (ds.set i d)
  | _, _, _, .nil => .nil
  | 0, _, _, .cons _ t => .cons r t
  | i + 1, _, _, .cons q t => .cons q (DpAll.set r i t)
theorem DpAll.reverse {K : PySem.W.Frag} {F : Hp} : ∀ {vs : List V} {ds : List D}, DpAll K F vs ds → DpAll K F vs.reverse ds.reverse
  | _, _, .nil => .nil
  | _, _, .cons r t => by
    rw [List.reverse_cons, List.reverse_cons]
    exact DpAll.append (DpAll.reverse t) (.cons r .nil)
theorem DpAll.eraseIdx {K : PySem.W.Frag} {F : Hp} : ∀ (i : Nat) {vs : List V} {ds : List D}, DpAll K F vs ds → DpAll K F (vs.eraseIdx i) (ds.eraseIdx i)
  | _, _, _, .nil => .nil
  | 0, _, _, .cons _ t => t
  | i + 1, _, _, .cons q t => .cons q (DpAll.eraseIdx i t)
theorem DpAll.rep {K : PySem.W.Frag} {F : Hp} {vs : List V} {ds : List D} (h : DpAll K F vs ds) : ∀ k : Nat, DpAll K F (List.replicate k vs).flatten (List.replicate k ds).flatten
  | 0 => .nil
  | k + 1 => by
    rw [List.replicate_succ, List.replicate_succ, List.flatten_cons, List.flatten_cons]
    exact DpAll.append h (DpAll.rep h k)
theorem DpAll.cut {K : PySem.W.Frag} {F : Hp} {vs : List V} {ds : List D} (h : DpAll K F vs ds) (n k : Nat) : DpAll K F ((vs.drop n).take k) ((ds.drop n).take k) := DpAll.take k (DpAll.drop n h)
/-- ints -/
theorem DpAll.ints {K : PySem.W.Frag} {F : Hp} : ∀ {vs : List V} {ns : List Int}, DpAll K F vs (ns.map PyData.int) → vs = ns.map V.int
  | [], [], _ => rfl
  | [], _ :: _, h => by cases h
  | _ :: _, [], h => by cases h
  | v :: vs, n :: ns, h => by
    cases h with
    | cons r t =>
      cases r
      rw [List.map_cons, DpAll.ints t]
theorem dpAll_ints {K : PySem.W.Frag} {F : Hp} : ∀ (ns : List Int), DpAll K F (ns.map V.int) (ns.map PyData.int)
  | [] => .nil
  | n :: ns => .cons (.int n) (dpAll_ints ns)
theorem DpAll.bools {K : PySem.W.Frag} {F : Hp} : ∀ {vs : List V} {ns : List Bool}, DpAll K F vs (ns.map PyData.bool) → vs = ns.map V.bl
  | [], [], _ => rfl
  | [], _ :: _, h => by cases h
  | _ :: _, [], h => by cases h
  | v :: vs, n :: ns, h => by
    cases h with
    | cons r t =>
      cases r
      rw [List.map_cons, DpAll.bools t]

/-! ### states -/
/-- what a slot holds: nothing known, data, the k-th of the own lists -/
inductive Sl where | no | d (x : D) | ptr (k : Nat)
/-- the slots; the own lists (none: given up) -/
structure Z where
  s : List Sl
  o : List (Option (List D))
/-- a def's entry: the heap, its frozen part, the lists handed in to be changed -/
structure EN where
  H0 : Hp
  F0 : Hp
  pa : List Addr

def SlOk (K : PySem.W.Frag) (F : Hp) (α : List Addr) : Sl → Option (Option V) → Prop
  | .no, _ => True
  | .d x, o => ∃ v, o = some (some v) ∧ Dp K F v x
  | .ptr k, o => ∃ a, α[k]? = some a ∧ o = some (some (.ref a))

structure Fr (K : PySem.W.Frag) (N : EN) (F : Hp) (α : List Addr) (z : Z) (σ : L2.St) (H : Hp) : Prop where
  sub : Same F H
  ent : ∀ a o, N.H0 a = some o → a ∉ N.pa → H a = some o
  fz : ∀ a, N.H0 a ≠ none → N.F0 a = none → F a = none
  len : z.o.length = α.length
  slen : z.s.length = σ.length
  nd : α.Nodup
  pre : ∃ β, α = N.pa ++ β ∧ ∀ b ∈ β, N.H0 b = none
  live : ∀ a ∈ α, H a ≠ none
  ob : ∀ (k : Nat) (a : Addr) (xs : List D), α[k]? = some a → z.o[k]? = some (some xs) → F a = none ∧ ∃ vs, H a = some (.lst vs) ∧ DpAll K F vs xs
  sl : ∀ (i : Nat) (s : Sl), z.s[i]? = some s → SlOk K F α s σ[i]?

theorem SlOk.mono {K : PySem.W.Frag} {F F' : Hp} {α β : List Addr} {s : Sl} {o : Option (Option V)} (e : Same F F') (h : SlOk K F α s o) : SlOk K F' (α ++ β) s o := by
  cases s with
  | no => trivial
  | d x => obtain ⟨v, e1, d⟩ := h; exact ⟨v, e1, dmono e d⟩
  | ptr k =>
    obtain ⟨a, e1, e2⟩ := h
    refine ⟨a, ?_, e2⟩
    rw [List.getElem?_append_left (List.getElem?_eq_some_iff.mp e1).1]
    exact e1

/-- an expression's result: data, the k-th own list -/
inductive Rs where | d (x : D) | ptr (k : Nat)
def RsOk (K : PySem.W.Frag) (F : Hp) (α : List Addr) : Rs → V → Prop
  | .d x, v => Dp K F v x
  | .ptr k, v => ∃ a, α[k]? = some a ∧ v = .ref a
theorem RsOk.mono {K : PySem.W.Frag} {F F' : Hp} {α β : List Addr} {r : Rs} {v : V} (e : Same F F') (h : RsOk K F α r v) : RsOk K F' (α ++ β) r v := by
  cases r with
  | d x => exact dmono e h
  | ptr k =>
    obtain ⟨a, e1, e2⟩ := h
    refine ⟨a, ?_, e2⟩
    rw [List.getElem?_append_left (List.getElem?_eq_some_iff.mp e1).1]
    exact e1
inductive RsAll (K : PySem.W.Frag) (F : Hp) (α : List Addr) : List Rs → List V → Prop
  | nil : RsAll K F α [] []
  | cons {r v rs vs} : RsOk K F α r v → RsAll K F α rs vs → RsAll K F α (r :: rs) (v :: vs)

/-- the state has gone on -/
structure On (F F' : Hp) (α α' : List Addr) : Prop where
  f : Same F F'
  a : ∃ β, α' = α ++ β
theorem On.refl (F : Hp) (α : List Addr) : On F F α α := ⟨Same.refl F, [], by simp⟩
theorem On.trans {F F1 F2 : Hp} {α α1 α2 : List Addr} (p : On F F1 α α1) (q : On F1 F2 α1 α2) : On F F2 α α2 := by
  obtain ⟨f, β, rfl⟩ := p
  obtain ⟨g, γ, rfl⟩ := q
  exact ⟨f.trans g, β ++ γ, by simp⟩
theorem On.rs {K : PySem.W.Frag} {F F' : Hp} {α α' : List Addr} (p : On F F' α α') {r : Rs} {v : V} (h : RsOk K F α r v) : RsOk K F' α' r v := by
  obtain ⟨f, β, rfl⟩ := p
  exact h.mono f
theorem On.rsAll {K : PySem.W.Frag} {F F' : Hp} {α α' : List Addr} (p : On F F' α α') : ∀ {rs : List Rs} {vs : List V}, RsAll K F α rs vs → RsAll K F' α' rs vs
  | _, _, .nil => .nil
  | _, _, .cons r t => .cons (p.rs r) (p.rsAll t)
theorem On.sl {K : PySem.W.Frag} {F F' : Hp} {α α' : List Addr} (p : On F F' α α') {s : Sl} {o : Option (Option V)} (h : SlOk K F α s o) : SlOk K F' α' s o := by
  obtain ⟨f, β, rfl⟩ := p
  exact h.mono f
theorem On.dp {K : PySem.W.Frag} {F F' : Hp} {α α' : List Addr} (p : On F F' α α') {v : V} {d : D} (h : Dp K F v d) : Dp K F' v d := dmono p.f h

/-! ### readings -/
def tD (K : PySem.W.Frag) (N : EN) (z : Z) (r : Rs) (z' : Z) : TE := fun σ H Q => ∃ F α, Fr K N F α z σ H ∧ ∀ v F' α' H', On F F' α α' → Fr K N F' α' z' σ H' → RsOk K F' α' r v → Q v H'
def tDT (K : PySem.W.Frag) (N : EN) (z : Z) (b : Bool) (z' : Z) : TT := fun σ H Q => ∃ F α, Fr K N F α z σ H ∧ ∀ F' α' H', On F F' α α' → Fr K N F' α' z' σ H' → Q b H'
def tDA (K : PySem.W.Frag) (N : EN) (z : Z) (rs : List Rs) (z' : Z) : TA := fun σ H Q => ∃ F α, Fr K N F α z σ H ∧ ∀ vs F' α' H', On F F' α α' → Fr K N F' α' z' σ H' → RsAll K F' α' rs vs → Q vs H'
def tDS (K : PySem.W.Frag) (N : EN) (z : Z) (nx : Z → Prop) (rt : Rs → Z → Prop) : TS := fun E σ H => ∃ F α, Fr K N F α z σ H ∧
  (∀ σ' F' α' H' z', Same F F' → Fr K N F' α' z' σ' H' → nx z' → E.nx σ' H') ∧
  (∀ v σ' F' α' H' r z', Same F F' → Fr K N F' α' z' σ' H' → RsOk K F' α' r v → rt r z' → E.rt v H')

abbrev DE (X : Cx) (N : EN) (z : Z) (e : Expr) (r : Rs) (z' : Z) : Prop := PE X e (tD X.K N z r z')
abbrev DT (X : Cx) (N : EN) (z : Z) (e : Expr) (b : Bool) (z' : Z) : Prop := PT X e (tDT X.K N z b z')
abbrev DW (X : Cx) (N : EN) (z : Z) (e : Expr) (b : Bool) (z' : Z) : Prop := PW X e (tDT X.K N z b z')
abbrev DA (X : Cx) (N : EN) (z : Z) (es : List Expr) (rs : List Rs) (z' : Z) : Prop := PA X es (tDA X.K N z rs z')
abbrev DS (X : Cx) (N : EN) (z : Z) (sts : List Stmt) (nx : Z → Prop) (rt : Rs → Z → Prop) : Prop := PSs X sts (tDS X.K N z nx rt)
abbrev D1 (X : Cx) (N : EN) (z : Z) (st : Stmt) (nx : Z → Prop) (rt : Rs → Z → Prop) : Prop := PS X st (tDS X.K N z nx rt)

section
variable {X : Cx}
theorem PE.to {e : Expr} {t t' : TE} (h : PE X e t) (w : ∀ σ H Q, t' σ H Q → t σ H Q) : PE X e t' := ⟨fun pins s σ H Q I q => h.run pins s σ H Q I (w _ _ _ q)⟩
theorem PT.to {e : Expr} {t t' : TT} (h : PT X e t) (w : ∀ σ H Q, t' σ H Q → t σ H Q) : PT X e t' := ⟨fun pins s σ H Q I q => h.run pins s σ H Q I (w _ _ _ q)⟩
theorem PW.to {e : Expr} {t t' : TT} (h : PW X e t) (w : ∀ σ H Q, t' σ H Q → t σ H Q) : PW X e t' := ⟨fun wh pins s σ H Q I q => h.run wh pins s σ H Q I (w _ _ _ q)⟩
theorem PA.to {es : List Expr} {t t' : TA} (h : PA X es t) (w : ∀ σ H Q, t' σ H Q → t σ H Q) : PA X es t' := ⟨fun pos pins s σ H Q I q => h.run pos pins s σ H Q I (w _ _ _ q)⟩
theorem PS.to {st : Stmt} {t t' : TS} (h : PS X st t) (w : ∀ E σ H, t' E σ H → t E σ H) : PS X st t' := ⟨fun pins s σ H E I q => h.run pins s σ H E I (w _ _ _ q)⟩
theorem PSs.to {st : List Stmt} {t t' : TS} (h : PSs X st t) (w : ∀ E σ H, t' E σ H → t E σ H) : PSs X st t' := ⟨fun pins s σ H E I q => h.run pins s σ H E I (w _ _ _ q)⟩
/-- under a fact -/
theorem PE.guard {p : Prop} {e : Expr} {t : TE} (h : p → PE X e t) : PE X e (fun σ H Q => p ∧ t σ H Q) := ⟨fun pins s σ H Q I q => (h q.1).run pins s σ H Q I q.2⟩
theorem PT.guard {p : Prop} {e : Expr} {t : TT} (h : p → PT X e t) : PT X e (fun σ H Q => p ∧ t σ H Q) := ⟨fun pins s σ H Q I q => (h q.1).run pins s σ H Q I q.2⟩
theorem PW.guard {p : Prop} {e : Expr} {t : TT} (h : p → PW X e t) : PW X e (fun σ H Q => p ∧ t σ H Q) := ⟨fun wh pins s σ H Q I q => (h q.1).run wh pins s σ H Q I q.2⟩
theorem PSs.guard {p : Prop} {e : List Stmt} {t : TS} (h : p → PSs X e t) : PSs X e (fun E σ H => p ∧ t E σ H) := ⟨fun pins s σ H Q I q => (h q.1).run pins s σ H Q I q.2⟩
/-- some one of many -/
theorem PE.some {ι : Type} {e : Expr} {t : ι → TE} (h : ∀ i, PE X e (t i)) : PE X e (fun σ H Q => ∃ i, t i σ H Q) := ⟨fun pins s σ H Q I ⟨i, q⟩ => (h i).run pins s σ H Q I q⟩
theorem PT.some {ι : Type} {e : Expr} {t : ι → TT} (h : ∀ i, PT X e (t i)) : PT X e (fun σ H Q => ∃ i, t i σ H Q) := ⟨fun pins s σ H Q I ⟨i, q⟩ => (h i).run pins s σ H Q I q⟩
theorem PTs.some {ι : Type} {e : List Expr} {t : ι → TT} (h : ∀ i, PTs X e (t i)) : PTs X e (fun σ H Q => ∃ i, t i σ H Q) := ⟨fun pins s σ H Q I ⟨i, q⟩ => (h i).run pins s σ H Q I q⟩
theorem PTs.to {e : List Expr} {t t' : TT} (h : PTs X e t) (w : ∀ σ H Q, t' σ H Q → t σ H Q) : PTs X e t' := ⟨fun pins s σ H Q I q => h.run pins s σ H Q I (w _ _ _ q)⟩
theorem PSs.some {ι : Type} {e : List Stmt} {t : ι → TS} (h : ∀ i, PSs X e (t i)) : PSs X e (fun E σ H => ∃ i, t i E σ H) := ⟨fun pins s σ H Q I ⟨i, q⟩ => (h i).run pins s σ H Q I q⟩
end

/-! ### frames: how they go on -/
section
variable {K : PySem.W.Frag} {N : EN} {F : Hp} {α : List Addr} {z : Z} {σ : L2.St} {H : Hp}
theorem same_upd {F : Hp} {p : Addr} {o : HO} (h : F p = none) : Same F (upd F p o) := fun b x e => by
  rw [upd_ne (ne_of_none e h)]
  exact e
theorem Fr.free (fr : Fr K N F α z σ H) {p : Addr} (h : H p = none) : F p = none := fr.sub.free h
theorem Fr.free0 (fr : Fr K N F α z σ H) {p : Addr} (h : H p = none) : N.H0 p = none := by
  cases e : N.H0 p with
  | none => rfl
  | some o =>
    by_cases hp : p ∈ N.pa
    · obtain ⟨β, rfl, _⟩ := fr.pre
      exact absurd h (fr.live p (List.mem_append_left _ hp))
    · rw [fr.ent p o e hp] at h
      cases h
/-- a new frozen object -/
theorem Fr.ext (fr : Fr K N F α z σ H) {p : Addr} {o : HO} (h : H p = none) : On F (upd F p o) α α ∧ Fr K N (upd F p o) α z σ (upd H p o) := by
  have hF := fr.free h
  have h0 := fr.free0 h
  have on : On F (upd F p o) α α := ⟨same_upd hF, [], by simp⟩
  have np : ∀ a ∈ α, a ≠ p := fun a ha e => fr.live a ha (by rw [e]; exact h)
  refine ⟨on, fun b u e => ?_, fun a u e ha => ?_, fun a e1 e2 => ?_, fr.len, fr.slen, fr.nd, fr.pre, fun a ha => ?_, fun k a xs e1 e2 => ?_, fun i s e => on.sl (fr.sl i s e)⟩
  · by_cases hb : b = p
    · rw [hb, upd_same] at e
      rw [hb, upd_same]
      exact e
    · rw [upd_ne hb] at e ⊢
      exact fr.sub _ _ e
  · have hb : a ≠ p := fun q => by rw [q, h0] at e; cases e
    rw [upd_ne hb]
    exact fr.ent a u e ha
  · have hb : a ≠ p := fun q => e1 (by rw [q]; exact h0)
    rw [upd_ne hb]
    exact fr.fz a e1 e2
  · rw [upd_ne (np a ha)]
    exact fr.live a ha
  · obtain ⟨f, vs, e3, da⟩ := fr.ob k a xs e1 e2
    have hb := np a (List.mem_of_getElem? e1)
    rw [upd_ne hb, upd_ne hb]
    exact ⟨f, vs, e3, dmonoA on.f da⟩
/-- a new own list -/
theorem Fr.new (fr : Fr K N F α z σ H) {p : Addr} {vs : List V} {xs : List D} (h : H p = none) (da : DpAll K F vs xs) :
    On F F α (α ++ [p]) ∧ Fr K N F (α ++ [p]) ⟨z.s, z.o ++ [some xs]⟩ σ (upd H p (.lst vs)) ∧ (α ++ [p])[z.o.length]? = some p := by
  have hF := fr.free h
  have h0 := fr.free0 h
  have on : On F F α (α ++ [p]) := ⟨Same.refl F, [p], rfl⟩
  have np : ∀ a ∈ α, a ≠ p := fun a ha e => fr.live a ha (by rw [e]; exact h)
  refine ⟨on, ⟨fun b u e => ?_, fun a u e ha => ?_, fr.fz, ?_, fr.slen, ?_, ?_, fun a ha => ?_, fun k a ys e1 e2 => ?_, fun i s e => on.sl (fr.sl i s e)⟩, ?_⟩
  · have hb : b ≠ p := fun q => by rw [q, hF] at e; cases e
    rw [upd_ne hb]
    exact fr.sub _ _ e
  · have hb : a ≠ p := fun q => by rw [q, h0] at e; cases e
    rw [upd_ne hb]
    exact fr.ent a u e ha
  · show (z.o ++ [some xs]).length = (α ++ [p]).length
    rw [List.length_append, List.length_append, fr.len]
    rfl
  · refine List.nodup_append.mpr ⟨fr.nd, by simp, fun a ha b hb => ?_⟩
    have e : b = p := by simpa using hb
    rw [e]
    exact np a ha
  · obtain ⟨β, e, hβ⟩ := fr.pre
    refine ⟨β ++ [p], by rw [e, List.append_assoc], fun b hb => ?_⟩
    rcases List.mem_append.mp hb with hb | hb
    · exact hβ b hb
    · have e : b = p := by simpa using hb
      rw [e]
      exact h0
  · rcases List.mem_append.mp ha with ha | ha
    · rw [upd_ne (np a ha)]
      exact fr.live a ha
    · have e : a = p := by simpa using ha
      rw [e, upd_same]
      exact fun q => by cases q
  · have e2 : (z.o ++ [some xs])[k]? = some (some ys) := e2
    by_cases hk : k < α.length
    · rw [List.getElem?_append_left hk] at e1
      rw [List.getElem?_append_left (by rw [fr.len]; exact hk)] at e2
      rw [upd_ne (np a (List.mem_of_getElem? e1))]
      exact fr.ob k a ys e1 e2
    · have hk2 : k = α.length := by
        have := (List.getElem?_eq_some_iff.mp e1).1
        rw [List.length_append] at this
        simp at this
        omega
      subst hk2
      rw [List.getElem?_append_right (Nat.le_refl _), Nat.sub_self] at e1
      have e3 : a = p := by simpa using e1.symm
      rw [← fr.len, List.getElem?_append_right (Nat.le_refl _), Nat.sub_self] at e2
      have e4 : xs = ys := by simpa using e2
      subst e3 e4
      rw [upd_same]
      exact ⟨hF, vs, rfl, da⟩
  · rw [fr.len, List.getElem?_append_right (Nat.le_refl _), Nat.sub_self]
    rfl
/-- an own list changes -/
theorem Fr.mut (fr : Fr K N F α z σ H) {k : Nat} {a : Addr} {xs ys : List D} {vs : List V} (ha : α[k]? = some a) (ho : z.o[k]? = some (some xs)) (da : DpAll K F vs ys) :
    Fr K N F α ⟨z.s, z.o.set k (some ys)⟩ σ (upd H a (.lst vs)) := by
  obtain ⟨fa, ws, hw, _⟩ := fr.ob k a xs ha ho
  have hk : k < α.length := (List.getElem?_eq_some_iff.mp ha).1
  refine ⟨fun b u e => ?_, fun b u e hb => ?_, fr.fz, by show (z.o.set k (some ys)).length = _; rw [List.length_set]; exact fr.len, fr.slen, fr.nd, fr.pre, fun b hb => ?_, fun j b zs e1 e2 => ?_, fr.sl⟩
  · have hb : b ≠ a := fun q => by rw [q, fa] at e; cases e
    rw [upd_ne hb]
    exact fr.sub _ _ e
  · have hne : b ≠ a := fun q => by
      obtain ⟨β, e2, hβ⟩ := fr.pre
      have hm : a ∈ N.pa ++ β := by rw [← e2]; exact List.mem_of_getElem? ha
      rcases List.mem_append.mp hm with hm | hm
      · exact hb (by rw [q]; exact hm)
      · rw [q, hβ a hm] at e
        cases e
    rw [upd_ne hne]
    exact fr.ent b u e hb
  · by_cases hne : b = a
    · rw [hne, upd_same]
      exact fun q => by cases q
    · rw [upd_ne hne]
      exact fr.live b hb
  · have e2 : (z.o.set k (some ys))[j]? = some (some zs) := e2
    by_cases hj : k = j
    · subst hj
      rw [ha] at e1
      cases e1
      rw [List.getElem?_set_self (by rw [fr.len]; exact hk)] at e2
      cases e2
      rw [upd_same]
      exact ⟨fa, vs, rfl, da⟩
    · rw [List.getElem?_set_ne hj] at e2
      have hne : b ≠ a := fun q => by
        obtain ⟨h1, q1⟩ := List.getElem?_eq_some_iff.mp e1
        obtain ⟨h2, q2⟩ := List.getElem?_eq_some_iff.mp ha
        exact hj ((List.getElem_inj fr.nd).mp (q2.trans (q.symm.trans q1.symm)))
      rw [upd_ne hne]
      exact fr.ob j b zs e1 e2
/-- a slot is stored -/
theorem Fr.setD (fr : Fr K N F α z σ H) {i : Nat} {v : V} {s : Sl} (h : SlOk K F α s (some (some v))) : Fr K N F α ⟨z.s.set i s, z.o⟩ (σ.set i (some v)) H := by
  refine ⟨fr.sub, fr.ent, fr.fz, fr.len, by show (z.s.set i s).length = _; rw [List.length_set, List.length_set]; exact fr.slen, fr.nd, fr.pre, fr.live, fr.ob, fun j t e => ?_⟩
  have e : (z.s.set i s)[j]? = some t := e
  by_cases hj : i = j
  · subst hj
    have hi : i < z.s.length := by
      have := (List.getElem?_eq_some_iff.mp e).1
      rw [List.length_set] at this
      exact this
    rw [List.getElem?_set_self hi] at e
    cases e
    rw [List.getElem?_set_self (by rw [← fr.slen]; exact hi)]
    exact h
  · rw [List.getElem?_set_ne hj] at e
    rw [List.getElem?_set_ne hj]
    exact fr.sl j t e

/-- what is forgotten: slots, own lists behind -/
structure Wk (z z' : Z) : Prop where
  s : z'.s.length = z.s.length
  sl : ∀ (i : Nat) (t : Sl), z'.s[i]? = some t → t = .no ∨ z.s[i]? = some t
  o : z'.o = z.o.take z'.o.length
theorem Wk.refl (z : Z) : Wk z z := ⟨rfl, fun _ _ h => .inr h, by simp⟩
end
end DL
/-! DL2: expressions -/
namespace DL
open PySem L2

section
variable {X : Cx} {N : EN} {z z1 z2 z3 : Z} {pos : Pos}
/-! ### names, constants -/
theorem de_var {i : Nat} {x : D} {e : Expr} (pe : PE X e (tVar i)) (h : z.s[i]? = some (.d x) := by rfl) : DE X N z e (.d x) z :=
  PE.to pe fun σ H Q ⟨F, α, fr, q⟩ => by
    obtain ⟨v, e1, d⟩ := fr.sl i _ h
    exact ⟨v, e1, q v F α H (On.refl F α) fr d⟩
theorem de_ptr {i k : Nat} {e : Expr} (pe : PE X e (tVar i)) (h : z.s[i]? = some (.ptr k) := by rfl) : DE X N z e (.ptr k) z :=
  PE.to pe fun σ H Q ⟨F, α, fr, q⟩ => by
    obtain ⟨a, e1, e2⟩ := fr.sl i _ h
    exact ⟨.ref a, e2, q _ F α H (On.refl F α) fr ⟨a, e1, rfl⟩⟩
theorem de_c {e : Expr} {v : V} {x : D} (pe : PE X e (tC v)) (h : ∀ F, Dp X.K F v x) : DE X N z e (.d x) z :=
  PE.to pe fun σ H Q ⟨F, α, fr, q⟩ => q v F α H (On.refl F α) fr (h F)
theorem de_int {i j} : DE X N z (.Constant (.int i) j pos) (.d (.int i)) z := de_c pe_int fun _ => .int i
theorem de_str {i j} : DE X N z (.Constant (.str i) j pos) (.d (.str i)) z := de_c pe_str fun _ => .str i
theorem de_bl {i j} : DE X N z (.Constant (.bool i) j pos) (.d (.bool i)) z := de_c pe_bl fun _ => .bl i
theorem de_non {j} : DE X N z (.Constant .none j pos) (.d .none) z := de_c pe_non fun _ => .non
/-- a constant of the module -/
theorem de_glob {x : Str} {v : V} {u : Value} {d : D} (hg : Gl X x) (hm : X.mg x = some u) (r : RelV v u) (h : ∀ F, Dp X.K F v d) (hd : (x == ("__debug__" : Str)) = false := by decide) : DE X N z (.Name x pos) (.d d) z :=
  de_c (pe_glob hg hm r hd) h

/-! ### operators -/
theorem de_opG {op : Operator} {r : R2} {a b : Expr} {rx ry rw : Rs} (ho : OpR X (binaryOp op) r) (ha : DE X N z a rx z1) (hb : DE X N z1 b ry z2)
    (hr : ∀ (F : Hp) (α : List Addr) (σ : L2.St) (v u : V) (H : Hp) (Q : VK), Fr X.K N F α z2 σ H → RsOk X.K F α rx v → RsOk X.K F α ry u →
      (∀ o F' α' H', On F F' α α' → Fr X.K N F' α' z3 σ H' → RsOk X.K F' α' rw o → Q o H') → r v u H Q) : DE X N z (.BinOp a op b pos) rw z3 :=
  PE.to (pe_op ho ha hb) fun σ H Q ⟨F, α, fr, q⟩ => ⟨F, α, fr, fun v F1 α1 H1 o1 fr1 d1 => ⟨F1, α1, fr1, fun u F2 α2 H2 o2 fr2 d2 =>
    hr F2 α2 σ v u H2 Q fr2 (o2.rs d1) d2 fun o F3 α3 H3 o3 fr3 d3 => q o F3 α3 H3 ((o1.trans o2).trans o3) fr3 d3⟩⟩
theorem de_ii {op : Operator} {r : R2} {a b : Expr} {i j k : Int} (ho : OpR X (binaryOp op) r) (ha : DE X N z a (.d (.int i)) z1) (hb : DE X N z1 b (.d (.int j)) z2)
    (hr : ∀ (H : Hp) (Q : VK), Q (.int k) H → r (.int i) (.int j) H Q) : DE X N z (.BinOp a op b pos) (.d (.int k)) z2 :=
  de_opG ho ha hb fun F α σ v u H Q fr d1 d2 q => by
    cases (d1 : Dp X.K F v (.int i))
    cases (d2 : Dp X.K F u (.int j))
    exact hr H Q (q _ F α H (On.refl F α) fr (.int k))
variable {a b c e : Expr} {i j k : Int}
theorem de_add (ha : DE X N z a (.d (.int i)) z1) (hb : DE X N z1 b (.d (.int j)) z2) : DE X N z (.BinOp a .Add b pos) (.d (.int (i + j))) z2 := de_ii op_add ha hb fun _ _ q => ⟨i, j, rfl, rfl, q⟩
theorem de_sub (ha : DE X N z a (.d (.int i)) z1) (hb : DE X N z1 b (.d (.int j)) z2) : DE X N z (.BinOp a .Sub b pos) (.d (.int (i - j))) z2 := de_ii op_sub ha hb fun _ _ q => ⟨i, j, rfl, rfl, q⟩
theorem de_mul (ha : DE X N z a (.d (.int i)) z1) (hb : DE X N z1 b (.d (.int j)) z2) (h : CMul i j) : DE X N z (.BinOp a .Mult b pos) (.d (.int (i * j))) z2 := de_ii op_mul ha hb fun _ _ q => ⟨i, j, rfl, rfl, h, q⟩
theorem de_mulW (ha : DE X N z a (.d (.int i)) z1) (hb : DE X N z1 b (.d (.int j)) z2) (h : CMulW i j) : DE X N z (.BinOp a .Mult b pos) (.d (.int (i * j))) z2 := de_ii op_mulW ha hb fun _ _ q => ⟨i, j, rfl, rfl, h, q⟩
theorem de_divP (ha : DE X N z a (.d (.int i)) z1) (hb : DE X N z1 b (.d (.int j)) z2) (h : CDiv i j) : DE X N z (.BinOp a .FloorDiv b pos) (.d (.int (i / j))) z2 := de_ii op_fdiv ha hb fun _ _ q => ⟨i, j, rfl, rfl, h, q⟩
theorem de_divN (ha : DE X N z a (.d (.int i)) z1) (hb : DE X N z1 b (.d (.int j)) z2) (h : CDivN i j) : DE X N z (.BinOp a .FloorDiv b pos) (.d (.int (i.fdiv j))) z2 := de_ii op_fdivN ha hb fun _ _ q => ⟨i, j, rfl, rfl, h, q⟩
theorem de_divW (ha : DE X N z a (.d (.int i)) z1) (hb : DE X N z1 b (.d (.int j)) z2) (h : CDivW i j) : DE X N z (.BinOp a .FloorDiv b pos) (.d (.int (i / j))) z2 := de_ii op_fdivW ha hb fun _ _ q => ⟨i, j, rfl, rfl, h, q⟩
theorem de_modP (ha : DE X N z a (.d (.int i)) z1) (hb : DE X N z1 b (.d (.int j)) z2) (h : 0 < j) : DE X N z (.BinOp a .Mod b pos) (.d (.int (i % j))) z2 := de_ii op_mod ha hb fun _ _ q => ⟨i, j, rfl, rfl, h, q⟩
theorem de_modN (ha : DE X N z a (.d (.int i)) z1) (hb : DE X N z1 b (.d (.int j)) z2) (h : j ≠ 0) : DE X N z (.BinOp a .Mod b pos) (.d (.int (i.fmod j))) z2 := de_ii op_modN ha hb fun _ _ q => ⟨i, j, rfl, rfl, h, q⟩
theorem de_pow (ha : DE X N z a (.d (.int i)) z1) (hb : DE X N z1 b (.d (.int j)) z2) (h : CPow i j) : DE X N z (.BinOp a .Pow b pos) (.d (.int (i ^ j.toNat))) z2 := de_ii op_pow ha hb fun _ _ q => ⟨i, j, rfl, rfl, h, q⟩
theorem de_neg (ha : DE X N z a (.d (.int i)) z1) : DE X N z (.UnaryOp .USub a pos) (.d (.int (-i))) z1 :=
  PE.to (pe_un un_neg ha) fun σ H Q ⟨F, α, fr, q⟩ => ⟨F, α, fr, fun v F1 α1 H1 o1 fr1 d1 => by
    cases (d1 : Dp X.K F1 v (.int i))
    exact ⟨i, rfl, q _ F1 α1 H1 o1 fr1 (.int (-i))⟩⟩
theorem de_cast {x y : D} (h : DE X N z e (.d x) z1) (e1 : x = y) : DE X N z e (.d y) z1 := e1 ▸ h
theorem de_castZ {r : Rs} (h : DE X N z e r z1) (e1 : z1 = z2) : DE X N z e r z2 := e1 ▸ h

/-! ### comparisons -/
section
variable {op : CmpOp} {r : R2} {rx ry : Rs} {t : Bool}
abbrev CmpOk (X : Cx) (N : EN) (z2 : Z) (r : R2) (rx ry : Rs) (t : Bool) : Prop := ∀ (F : Hp) (α : List Addr) (σ : L2.St) (v u : V) (H : Hp) (Q : VK), Fr X.K N F α z2 σ H → RsOk X.K F α rx v → RsOk X.K F α ry u → Q (.bl t) H → r v u H Q
theorem de_cmp (ho : OpR X (compareOp op) r) (ha : DE X N z a rx z1) (hb : DE X N z1 b ry z2) (hr : CmpOk X N z2 r rx ry t) (hm : behindInMarks op b = false) : DE X N z (.Compare a [op] [b] pos) (.d (.bool t)) z2 :=
  PE.to (pe_cmpR ho ha hb hm) fun σ H Q ⟨F, α, fr, q⟩ => ⟨F, α, fr, fun v F1 α1 H1 o1 fr1 d1 => ⟨F1, α1, fr1, fun u F2 α2 H2 o2 fr2 d2 =>
    hr F2 α2 σ v u H2 Q fr2 (o2.rs d1) d2 (q _ F2 α2 H2 (o1.trans o2) fr2 (.bl t))⟩⟩
theorem dt_cmp (ho : OpR X (compareOp op) r) (ha : DE X N z a rx z1) (hb : DE X N z1 b ry z2) (hr : CmpOk X N z2 r rx ry t) (hm : behindInMarks op b = false) : DT X N z (.Compare a [op] [b] pos) t z2 :=
  PT.to (pt_cmpR ho ha hb hm) fun σ H Q ⟨F, α, fr, q⟩ => ⟨F, α, fr, fun v F1 α1 H1 o1 fr1 d1 => ⟨F1, α1, fr1, fun u F2 α2 H2 o2 fr2 d2 =>
    hr F2 α2 σ v u H2 _ fr2 (o2.rs d1) d2 ⟨t, rfl, q F2 α2 H2 (o1.trans o2) fr2⟩⟩⟩
end
theorem ok_ii {g : Int → Int → Bool} : CmpOk X N z2 (rI0 fun i j => .bl (g i j)) (.d (.int i)) (.d (.int j)) (g i j) := fun F α σ v u H Q _ d1 d2 q => by
  cases (d1 : Dp X.K F v (.int i))
  cases (d2 : Dp X.K F u (.int j))
  exact ⟨i, j, rfl, rfl, q⟩
theorem de_lt (ha : DE X N z a (.d (.int i)) z1) (hb : DE X N z1 b (.d (.int j)) z2) : DE X N z (.Compare a [.Lt] [b] pos) (.d (.bool (decide (i < j)))) z2 := de_cmp op_lt ha hb ok_ii (nomark _)
theorem de_le (ha : DE X N z a (.d (.int i)) z1) (hb : DE X N z1 b (.d (.int j)) z2) : DE X N z (.Compare a [.LtE] [b] pos) (.d (.bool (decide (i ≤ j)))) z2 := de_cmp op_le ha hb ok_ii (nomark _)
theorem de_gt (ha : DE X N z a (.d (.int i)) z1) (hb : DE X N z1 b (.d (.int j)) z2) : DE X N z (.Compare a [.Gt] [b] pos) (.d (.bool (decide (j < i)))) z2 := de_cmp op_gt ha hb ok_ii (nomark _)
theorem de_ge (ha : DE X N z a (.d (.int i)) z1) (hb : DE X N z1 b (.d (.int j)) z2) : DE X N z (.Compare a [.GtE] [b] pos) (.d (.bool (decide (j ≤ i)))) z2 := de_cmp op_ge ha hb ok_ii (nomark _)
theorem dt_lt (ha : DE X N z a (.d (.int i)) z1) (hb : DE X N z1 b (.d (.int j)) z2) : DT X N z (.Compare a [.Lt] [b] pos) (decide (i < j)) z2 := dt_cmp op_lt ha hb ok_ii (nomark _)
theorem dt_le (ha : DE X N z a (.d (.int i)) z1) (hb : DE X N z1 b (.d (.int j)) z2) : DT X N z (.Compare a [.LtE] [b] pos) (decide (i ≤ j)) z2 := dt_cmp op_le ha hb ok_ii (nomark _)
theorem dt_gt (ha : DE X N z a (.d (.int i)) z1) (hb : DE X N z1 b (.d (.int j)) z2) : DT X N z (.Compare a [.Gt] [b] pos) (decide (j < i)) z2 := dt_cmp op_gt ha hb ok_ii (nomark _)
theorem dt_ge (ha : DE X N z a (.d (.int i)) z1) (hb : DE X N z1 b (.d (.int j)) z2) : DT X N z (.Compare a [.GtE] [b] pos) (decide (j ≤ i)) z2 := dt_cmp op_ge ha hb ok_ii (nomark _)
/-- == of data -/
def rEqP (K : PySem.W.Frag) : R2 := fun x y H Q => ∃ d e, Dp K H x d ∧ Dp K H y e ∧ min d.depth e.depth ≤ 64 ∧ Q (.bl (PyData.eqv d e)) H
def rNeP (K : PySem.W.Frag) : R2 := fun x y H Q => ∃ d e, Dp K H x d ∧ Dp K H y e ∧ min d.depth e.depth ≤ 64 ∧ Q (.bl (!PyData.eqv d e)) H
theorem op_eqP (hu : X.A.units + 64 < cLine) : OpR X (compareOp .Eq) (rEqP X.K) := by
  intro pins s σ H x y v u Q I rx ry h
  obtain ⟨d, e, hd, he, hm, q⟩ := h
  obtain ⟨as, r1⟩ := Dp.reads I d x v hd rx
  obtain ⟨bs, r2⟩ := Dp.reads I e y u he ry
  exact SeqAt.eq_plain r1 r2 (Dp.plain hd) (Dp.plain he) (by omega) ⟨.bl _, H, I, rfl, q⟩
theorem op_neP (hu : X.A.units + 64 < cLine) : OpR X (compareOp .NotEq) (rNeP X.K) := by
  intro pins s σ H x y v u Q I rx ry h
  obtain ⟨d, e, hd, he, hm, q⟩ := h
  obtain ⟨as, r1⟩ := Dp.reads I d x v hd rx
  obtain ⟨bs, r2⟩ := Dp.reads I e y u he ry
  exact SeqAt.ne_plain r1 r2 (Dp.plain hd) (Dp.plain he) (by omega) ⟨.bl _, H, I, rfl, q⟩
variable {x y : D}
theorem ok_eq (hm : min x.depth y.depth ≤ 64) : CmpOk X N z2 (rEqP X.K) (.d x) (.d y) (PyData.eqv x y) := fun F α σ v u H Q fr d1 d2 q => ⟨x, y, dmono fr.sub d1, dmono fr.sub d2, hm, q⟩
theorem ok_ne (hm : min x.depth y.depth ≤ 64) : CmpOk X N z2 (rNeP X.K) (.d x) (.d y) (!PyData.eqv x y) := fun F α σ v u H Q fr d1 d2 q => ⟨x, y, dmono fr.sub d1, dmono fr.sub d2, hm, q⟩
theorem de_eq (hu : X.A.units + 64 < cLine) (ha : DE X N z a (.d x) z1) (hb : DE X N z1 b (.d y) z2) (hm : min x.depth y.depth ≤ 64) : DE X N z (.Compare a [.Eq] [b] pos) (.d (.bool (PyData.eqv x y))) z2 := de_cmp (op_eqP hu) ha hb (ok_eq hm) (nomark _)
theorem de_ne (hu : X.A.units + 64 < cLine) (ha : DE X N z a (.d x) z1) (hb : DE X N z1 b (.d y) z2) (hm : min x.depth y.depth ≤ 64) : DE X N z (.Compare a [.NotEq] [b] pos) (.d (.bool (!PyData.eqv x y))) z2 := de_cmp (op_neP hu) ha hb (ok_ne hm) (nomark _)
theorem dt_eq (hu : X.A.units + 64 < cLine) (ha : DE X N z a (.d x) z1) (hb : DE X N z1 b (.d y) z2) (hm : min x.depth y.depth ≤ 64) : DT X N z (.Compare a [.Eq] [b] pos) (PyData.eqv x y) z2 := dt_cmp (op_eqP hu) ha hb (ok_eq hm) (nomark _)
theorem dt_ne (hu : X.A.units + 64 < cLine) (ha : DE X N z a (.d x) z1) (hb : DE X N z1 b (.d y) z2) (hm : min x.depth y.depth ≤ 64) : DT X N z (.Compare a [.NotEq] [b] pos) (!PyData.eqv x y) z2 := dt_cmp (op_neP hu) ha hb (ok_ne hm) (nomark _)
/-- .. of ints -/
theorem ok_eqI : CmpOk X N z2 rEq (.d (.int i)) (.d (.int j)) (decide (i = j)) := fun F α σ v u H Q fr d1 d2 q => by
  cases (d1 : Dp X.K F v (.int i))
  cases (d2 : Dp X.K F u (.int j))
  refine ⟨rfl, ?_⟩
  have e : decide (V.int i = V.int j) = decide (i = j) := by by_cases h : i = j <;> simp [h]
  rw [e]
  exact q
theorem ok_neI : CmpOk X N z2 rNe (.d (.int i)) (.d (.int j)) (!decide (i = j)) := fun F α σ v u H Q fr d1 d2 q => by
  cases (d1 : Dp X.K F v (.int i))
  cases (d2 : Dp X.K F u (.int j))
  refine ⟨rfl, ?_⟩
  have e : decide (V.int i = V.int j) = decide (i = j) := by by_cases h : i = j <;> simp [h]
  rw [e]
  exact q
theorem de_eqI (ha : DE X N z a (.d (.int i)) z1) (hb : DE X N z1 b (.d (.int j)) z2) : DE X N z (.Compare a [.Eq] [b] pos) (.d (.bool (decide (i = j)))) z2 := de_cmp op_eq ha hb ok_eqI (nomark _)
theorem de_neI (ha : DE X N z a (.d (.int i)) z1) (hb : DE X N z1 b (.d (.int j)) z2) : DE X N z (.Compare a [.NotEq] [b] pos) (.d (.bool (!decide (i = j)))) z2 := de_cmp op_ne ha hb ok_neI (nomark _)
theorem dt_eqI (ha : DE X N z a (.d (.int i)) z1) (hb : DE X N z1 b (.d (.int j)) z2) : DT X N z (.Compare a [.Eq] [b] pos) (decide (i = j)) z2 := dt_cmp op_eq ha hb ok_eqI (nomark _)
theorem dt_neI (ha : DE X N z a (.d (.int i)) z1) (hb : DE X N z1 b (.d (.int j)) z2) : DT X N z (.Compare a [.NotEq] [b] pos) (!decide (i = j)) z2 := dt_cmp op_ne ha hb ok_neI (nomark _)
/-- is None -/
def isN : D → Bool | .none => true | _ => false
theorem Dp.isN {K : PySem.W.Frag} {F : Hp} {v : V} {x : D} (h : Dp K F v x) : decide (v = .non) = isN x := by cases h <;> rfl
theorem ok_isN : CmpOk X N z2 (fun x y H Q => y = .non ∧ Q (.bl (decide (x = .non))) H) (.d x) (.d .none) (isN x) := fun F α σ v u H Q fr d1 d2 q => by
  cases (d2 : Dp X.K F u .none)
  exact ⟨rfl, by rw [Dp.isN d1]; exact q⟩
theorem ok_notN : CmpOk X N z2 (fun x y H Q => y = .non ∧ Q (.bl (!decide (x = .non))) H) (.d x) (.d .none) (!isN x) := fun F α σ v u H Q fr d1 d2 q => by
  cases (d2 : Dp X.K F u .none)
  exact ⟨rfl, by rw [Dp.isN d1]; exact q⟩
theorem de_isN (ha : DE X N z a (.d x) z1) (hb : DE X N z1 b (.d .none) z2) : DE X N z (.Compare a [.Is] [b] pos) (.d (.bool (isN x))) z2 := de_cmp op_isN ha hb ok_isN (nomark _)
theorem de_notN (ha : DE X N z a (.d x) z1) (hb : DE X N z1 b (.d .none) z2) : DE X N z (.Compare a [.IsNot] [b] pos) (.d (.bool (!isN x))) z2 := de_cmp op_notN ha hb ok_notN (nomark _)
theorem dt_isN (ha : DE X N z a (.d x) z1) (hb : DE X N z1 b (.d .none) z2) : DT X N z (.Compare a [.Is] [b] pos) (isN x) z2 := dt_cmp op_isN ha hb ok_isN (nomark _)
theorem dt_notN (ha : DE X N z a (.d x) z1) (hb : DE X N z1 b (.d .none) z2) : DT X N z (.Compare a [.IsNot] [b] pos) (!isN x) z2 := dt_cmp op_notN ha hb ok_notN (nomark _)

/-! ### tests -/
variable {t t' : Bool} {es : List Expr}
theorem dt_val (h : DE X N z e (.d (.bool t)) z1) (he : ∀ whole, isTrue e X.env whole = (do let v ← whole; standAt e.pos; holding [v] (truthy v)) := by intro _; rfl) : DT X N z e t z1 :=
  PT.to (pt_val h he) fun σ H Q ⟨F, α, fr, q⟩ => ⟨F, α, fr, fun v F1 α1 H1 o1 fr1 d1 => by
    cases (d1 : Dp X.K F1 v (.bool t))
    exact ⟨t, rfl, q F1 α1 H1 o1 fr1⟩⟩
theorem dt_not (h : DT X N z e t z1) : DT X N z (.UnaryOp .Not e pos) (!t) z1 :=
  PT.to (pt_not h) fun σ H Q ⟨F, α, fr, q⟩ => ⟨F, α, fr, fun F1 α1 H1 o1 fr1 => q F1 α1 H1 o1 fr1⟩
theorem de_not (h : DE X N z e (.d (.bool t)) z1) : DE X N z (.UnaryOp .Not e pos) (.d (.bool (!t))) z1 :=
  PE.to (pe_not h) fun σ H Q ⟨F, α, fr, q⟩ => ⟨F, α, fr, fun v F1 α1 H1 o1 fr1 d1 => by
    cases (d1 : Dp X.K F1 v (.bool t))
    exact ⟨t, rfl, q _ F1 α1 H1 o1 fr1 (.bl _)⟩⟩
theorem dw_and1 (h : DT X N z e t z1) : DW X N z (.BoolOp .And [e] pos) t z1 := pw_and1 h
theorem dw_or1 (h : DT X N z e t z1) : DW X N z (.BoolOp .Or [e] pos) t z1 := pw_or1 h
theorem dw_andG (h : DT X N z a t z1) (h2 : t = true → DW X N z1 (.BoolOp .And (b :: es) pos) t' z2) (hz : t = false → z1 = z2) : DW X N z (.BoolOp .And (a :: b :: es) pos) (t && t') z2 :=
  PW.to (pw_and h (PW.guard h2)) fun σ H Q ⟨F, α, fr, q⟩ => ⟨F, α, fr, fun F1 α1 H1 o1 fr1 => by
    cases t with
    | true => exact ⟨rfl, F1, α1, fr1, fun F2 α2 H2 o2 fr2 => q F2 α2 H2 (o1.trans o2) fr2⟩
    | false => exact q F1 α1 H1 o1 (hz rfl ▸ fr1)⟩
theorem dw_orG (h : DT X N z a t z1) (h2 : t = false → DW X N z1 (.BoolOp .Or (b :: es) pos) t' z2) (hz : t = true → z1 = z2) : DW X N z (.BoolOp .Or (a :: b :: es) pos) (t || t') z2 :=
  PW.to (pw_or h (PW.guard h2)) fun σ H Q ⟨F, α, fr, q⟩ => ⟨F, α, fr, fun F1 α1 H1 o1 fr1 => by
    cases t with
    | false => exact ⟨rfl, F1, α1, fr1, fun F2 α2 H2 o2 fr2 => q F2 α2 H2 (o1.trans o2) fr2⟩
    | true => exact q F1 α1 H1 o1 (hz rfl ▸ fr1)⟩
theorem dw_and (h : DT X N z a t z1) (h2 : t = true → DW X N z1 (.BoolOp .And (b :: es) pos) t' z1) : DW X N z (.BoolOp .And (a :: b :: es) pos) (t && t') z1 := dw_andG h h2 fun _ => rfl
theorem dw_or (h : DT X N z a t z1) (h2 : t = false → DW X N z1 (.BoolOp .Or (b :: es) pos) t' z1) : DW X N z (.BoolOp .Or (a :: b :: es) pos) (t || t') z1 := dw_orG h h2 fun _ => rfl
theorem dt_w (h : DW X N z e t z1) : DT X N z e t z1 := PW.pt h
/-- .. as values -/
theorem de_one {op : BoolOp} {x : D} (h : DE X N z e (.d x) z1) : DE X N z (.BoolOp op [e] pos) (.d x) z1 := pe_one h
theorem de_and {op2 : D} (h : DE X N z a (.d (.bool t)) z1) (h2 : t = true → DE X N z1 (.BoolOp .And (b :: es) pos) (.d (.bool t')) z1) : DE X N z (.BoolOp .And (a :: b :: es) pos) (.d (.bool (t && t'))) z1 :=
  PE.to (pe_and h (PE.guard h2)) fun σ H Q ⟨F, α, fr, q⟩ => ⟨F, α, fr, fun v F1 α1 H1 o1 fr1 d1 => by
    cases (d1 : Dp X.K F1 v (.bool t))
    refine ⟨t, rfl, ?_⟩
    cases t with
    | true => exact ⟨rfl, F1, α1, fr1, fun v F2 α2 H2 o2 fr2 d2 => q v F2 α2 H2 (o1.trans o2) fr2 d2⟩
    | false => exact q _ F1 α1 H1 o1 fr1 (.bl false)⟩
theorem de_or (h : DE X N z a (.d (.bool t)) z1) (h2 : t = false → DE X N z1 (.BoolOp .Or (b :: es) pos) (.d (.bool t')) z1) : DE X N z (.BoolOp .Or (a :: b :: es) pos) (.d (.bool (t || t'))) z1 :=
  PE.to (pe_or h (PE.guard h2)) fun σ H Q ⟨F, α, fr, q⟩ => ⟨F, α, fr, fun v F1 α1 H1 o1 fr1 d1 => by
    cases (d1 : Dp X.K F1 v (.bool t))
    refine ⟨t, rfl, ?_⟩
    cases t with
    | false => exact ⟨rfl, F1, α1, fr1, fun v F2 α2 H2 o2 fr2 d2 => q v F2 α2 H2 (o1.trans o2) fr2 d2⟩
    | true => exact q _ F1 α1 H1 o1 fr1 (.bl true)⟩
/-- a if c else b -/
theorem de_if {x y : D} (hc : DT X N z c t z1) (ha : t = true → DE X N z1 a (.d x) z2) (hb : t = false → DE X N z1 b (.d y) z2) : DE X N z (.IfExp c a b pos) (.d (if t = true then x else y)) z2 :=
  PE.to (pe_ifExp hc (PE.guard ha) (PE.guard hb)) fun σ H Q ⟨F, α, fr, q⟩ => ⟨F, α, fr, fun F1 α1 H1 o1 fr1 => by
    cases t with
    | true => exact ⟨rfl, F1, α1, fr1, fun v F2 α2 H2 o2 fr2 d2 => q v F2 α2 H2 (o1.trans o2) fr2 d2⟩
    | false => exact ⟨rfl, F1, α1, fr1, fun v F2 α2 H2 o2 fr2 d2 => q v F2 α2 H2 (o1.trans o2) fr2 d2⟩⟩
/-- .. the states apart -/
theorem de_ifZ {x y : D} {za zb : Z} (hc : DT X N z c t z1) (ha : t = true → DE X N z1 a (.d x) za) (hb : t = false → DE X N z1 b (.d y) zb) : DE X N z (.IfExp c a b pos) (.d (if t = true then x else y)) (if t = true then za else zb) := by
  cases t with
  | true => exact de_if hc ha (fun e => by cases e)
  | false => exact de_if (x := x) hc (fun e => by cases e) hb

/-! ### arguments, displays -/
/-- all data -/
def tDAd (K : PySem.W.Frag) (N : EN) (z : Z) (ds : List D) (z' : Z) : TA := fun σ H Q => ∃ F α, Fr K N F α z σ H ∧ ∀ vs F' α' H', On F F' α α' → Fr K N F' α' z' σ H' → DpAll K F' vs ds → Q vs H'
abbrev DAd (X : Cx) (N : EN) (z : Z) (es : List Expr) (ds : List D) (z' : Z) : Prop := PA X es (tDAd X.K N z ds z')
/-- an own list first -/
def tDAp (K : PySem.W.Frag) (N : EN) (z : Z) (k : Nat) (ds : List D) (z' : Z) : TA := fun σ H Q => ∃ F α, Fr K N F α z σ H ∧ ∀ a vs F' α' H', On F F' α α' → Fr K N F' α' z' σ H' → α'[k]? = some a → DpAll K F' vs ds → Q (.ref a :: vs) H'
abbrev DAp (X : Cx) (N : EN) (z : Z) (es : List Expr) (k : Nat) (ds : List D) (z' : Z) : Prop := PA X es (tDAp X.K N z k ds z')
theorem da_nil : DAd X N z [] [] z := PA.to pa_nil fun σ H Q ⟨F, α, fr, q⟩ => q [] F α H (On.refl F α) fr .nil
theorem da_cons {x : D} {ds : List D} (h : DE X N z e (.d x) z1) (hr : DAd X N z1 es ds z2) (hs : starEach (e :: es) X.env = (false, eval e X.env) :: starEach es X.env := by rfl) : DAd X N z (e :: es) (x :: ds) z2 :=
  PA.to (pa_cons h hr hs) fun σ H Q ⟨F, α, fr, q⟩ => ⟨F, α, fr, fun v F1 α1 H1 o1 fr1 d1 => ⟨F1, α1, fr1, fun vs F2 α2 H2 o2 fr2 d2 => q _ F2 α2 H2 (o1.trans o2) fr2 (.cons (o2.dp d1) d2)⟩⟩
theorem dap_cons {k : Nat} {ds : List D} (h : DE X N z e (.ptr k) z1) (hr : DAd X N z1 es ds z2) (hs : starEach (e :: es) X.env = (false, eval e X.env) :: starEach es X.env := by rfl) : DAp X N z (e :: es) k ds z2 :=
  PA.to (pa_cons h hr hs) fun σ H Q ⟨F, α, fr, q⟩ => ⟨F, α, fr, fun v F1 α1 H1 o1 fr1 d1 => ⟨F1, α1, fr1, fun vs F2 α2 H2 o2 fr2 d2 => by
    obtain ⟨a, e1, rfl⟩ := d1
    obtain ⟨f, β, rfl⟩ := o2
    refine q a vs F2 _ H2 (o1.trans ⟨f, β, rfl⟩) fr2 ?_ d2
    rw [List.getElem?_append_left (List.getElem?_eq_some_iff.mp e1).1]
    exact e1⟩⟩
theorem de_tup {ds : List D} {k1 : Nat} (h : DAd X N z es ds z1) (hz : ds.length ≤ sizeLine := by exact Nat.le_of_ble_eq_true rfl) : DE X N z (.Tuple es k1 pos) (.d (.tuple ds)) z1 :=
  PE.to (pe_tup h) fun σ H Q ⟨F, α, fr, q⟩ => ⟨F, α, fr, fun vs F1 α1 H1 o1 fr1 d1 => ⟨by rw [DpAll.len d1]; exact hz, fun p hp => by
    obtain ⟨o2, fr2⟩ := fr1.ext (o := .tup vs) hp
    exact q _ _ α1 _ (o1.trans o2) fr2 (.tup (SqT.of upd_same) (dmonoA o2.f d1))⟩⟩
theorem de_lst {ds : List D} (h : DAd X N z es ds z1) (hz : ds.length ≤ sizeLine := by exact Nat.le_of_ble_eq_true rfl) : DE X N z (.List es pos) (.ptr z1.o.length) ⟨z1.s, z1.o ++ [some ds]⟩ :=
  PE.to (pe_lst h) fun σ H Q ⟨F, α, fr, q⟩ => ⟨F, α, fr, fun vs F1 α1 H1 o1 fr1 d1 => ⟨by rw [DpAll.len d1]; exact hz, fun p hp => by
    obtain ⟨o2, fr2, e2⟩ := fr1.new hp d1
    exact q _ _ _ _ (o1.trans o2) fr2 ⟨p, e2, rfl⟩⟩⟩

/-! ### an own list is given up: data from now on -/
def frzS (k : Nat) (xs : List D) : Sl → Sl
  | .ptr j => if j = k then .d (.list xs) else .ptr j
  | t => t
def frz (z : Z) (k : Nat) (xs : List D) : Z := ⟨z.s.map (frzS k xs), z.o.set k none⟩
theorem Fr.frz {K : PySem.W.Frag} {F : Hp} {α : List Addr} {σ : L2.St} {H : Hp} (fr : Fr K N F α z σ H) {k : Nat} {a : Addr} {xs : List D} (ha : α[k]? = some a) (ho : z.o[k]? = some (some xs)) (hk : N.pa.length ≤ k) :
    ∃ F', On F F' α α ∧ Fr K N F' α (frz z k xs) σ H ∧ Dp K F' (.ref a) (.list xs) := by
  obtain ⟨fa, vs, hv, da⟩ := fr.ob k a xs ha ho
  have on : On F (upd F a (.lst vs)) α α := ⟨same_upd fa, [], by simp⟩
  have hd : Dp K (upd F a (.lst vs)) (.ref a) (.list xs) := .lst (SqL.of upd_same) (dmonoA on.f da)
  have h0 : N.H0 a = none := by
    obtain ⟨β, e, hβ⟩ := fr.pre
    rw [e, List.getElem?_append_right hk] at ha
    exact hβ a (List.mem_of_getElem? ha)
  have hkl : k < α.length := (List.getElem?_eq_some_iff.mp ha).1
  refine ⟨_, on, ⟨fun b u e => ?_, fr.ent, fun b e1 e2 => ?_, by show (z.o.set k none).length = _; rw [List.length_set]; exact fr.len, by show (z.s.map _).length = _; rw [List.length_map]; exact fr.slen, fr.nd, fr.pre, fr.live, fun j b ys e1 e2 => ?_, fun i s e => ?_⟩, hd⟩
  · by_cases hb : b = a
    · rw [hb, upd_same] at e
      cases e
      rw [hb]
      exact hv
    · rw [upd_ne hb] at e
      exact fr.sub _ _ e
  · have hb : b ≠ a := fun q => e1 (by rw [q]; exact h0)
    rw [upd_ne hb]
    exact fr.fz b e1 e2
  · have e2 : (z.o.set k none)[j]? = some (some ys) := e2
    by_cases hj : k = j
    · subst hj
      rw [List.getElem?_set_self (by rw [fr.len]; exact hkl)] at e2
      cases e2
    · rw [List.getElem?_set_ne hj] at e2
      have hne : b ≠ a := fun q => by
        obtain ⟨h1, q1⟩ := List.getElem?_eq_some_iff.mp e1
        obtain ⟨h2, q2⟩ := List.getElem?_eq_some_iff.mp ha
        exact hj ((List.getElem_inj fr.nd).mp (q2.trans (q.symm.trans q1.symm)))
      obtain ⟨f, ws, e3, d⟩ := fr.ob j b ys e1 e2
      rw [upd_ne hne]
      exact ⟨f, ws, e3, dmonoA on.f d⟩
  · have e : (z.s.map (frzS k xs))[i]? = some s := e
    rw [List.getElem?_map] at e
    cases q : z.s[i]? with
    | none => rw [q] at e; cases e
    | some t =>
      rw [q] at e
      have e : frzS k xs t = s := Option.some.inj e
      have h := on.sl (fr.sl i t q)
      cases t with
      | no => rw [← e]; exact h
      | d x => rw [← e]; exact h
      | ptr j =>
        have e : (if j = k then Sl.d (.list xs) else Sl.ptr j) = s := e
        by_cases hj : j = k
        · rw [if_pos hj] at e
          rw [← e]
          obtain ⟨b, e1, e2⟩ := h
          rw [hj, ha] at e1
          cases e1
          exact ⟨_, e2, hd⟩
        · rw [if_neg hj] at e
          rw [← e]
          exact h
theorem de_frz {k : Nat} {xs : List D} (h : DE X N z e (.ptr k) z1) (ho : z1.o[k]? = some (some xs)) (hk : N.pa.length ≤ k) : DE X N z e (.d (.list xs)) (frz z1 k xs) :=
  PE.to h fun σ H Q ⟨F, α, fr, q⟩ => ⟨F, α, fr, fun v F1 α1 H1 o1 fr1 d1 => by
    obtain ⟨a, e1, rfl⟩ := d1
    obtain ⟨F2, o2, fr2, d2⟩ := fr1.frz e1 ho hk
    exact q _ F2 α1 H1 (o1.trans o2) fr2 d2⟩
/-! ### forgetting -/
theorem Fr.weak {K : PySem.W.Frag} {F : Hp} {α : List Addr} {σ : L2.St} {H : Hp} (fr : Fr K N F α z σ H) (w : Wk z z1) (hp : N.pa.length ≤ z1.o.length) (hs : ∀ (i k : Nat), z1.s[i]? = some (.ptr k) → k < z1.o.length) :
    Fr K N F (α.take z1.o.length) z1 σ H := by
  have hle : z1.o.length ≤ z.o.length := by
    have := congrArg List.length w.o
    rw [List.length_take] at this
    omega
  have hla : z1.o.length ≤ α.length := by rw [← fr.len]; exact hle
  refine ⟨fr.sub, fr.ent, fr.fz, ?_, w.s.trans fr.slen, fr.nd.sublist (List.take_sublist _ _), ?_, fun a ha => fr.live a (List.mem_of_mem_take ha), fun k a xs e1 e2 => ?_, fun i s e => ?_⟩
  · rw [List.length_take]
    omega
  · obtain ⟨β, e, hβ⟩ := fr.pre
    refine ⟨β.take (z1.o.length - N.pa.length), ?_, fun b hb => hβ b (List.mem_of_mem_take hb)⟩
    rw [e, List.take_append, List.take_of_length_le hp]
  · have hk : k < z1.o.length := (List.getElem?_eq_some_iff.mp e2).1
    rw [List.getElem?_take_of_lt hk] at e1
    rw [w.o, List.getElem?_take_of_lt hk] at e2
    exact fr.ob k a xs e1 e2
  · rcases w.sl i s e with rfl | e'
    · trivial
    · have h := fr.sl i s e'
      cases s with
      | no => trivial
      | d x => exact h
      | ptr k =>
        obtain ⟨a, e1, e2⟩ := h
        refine ⟨a, ?_, e2⟩
        rw [List.getElem?_take_of_lt (hs i k e)]
        exact e1
end
end DL
/-! DL3: what is walked -/
namespace DL
open PySem PySem.Spec PyProof.Rows L2

/-! ### enumerate(tuple) -/
theorem meets_enum_new1 {v : Value} {o : Obj} {H : Heap → Prop} (B : Begins v o H) :
    Meets (Builtin.«enumerate.__new__» ⟨[.type "enumerate", v], []⟩) (fun _ R s => H s.heap ∧
      R (.ok (.ret (.ref (s.heap.push o).objs.size))) { s with heap := (s.heap.push o).push { cls := .type "enumerate", data := .fields #[.none, .bool false, .ref s.heap.objs.size, rawInt 0, .none, .none] } }) :=
  .of_wp fun prog w A R s h => by
    obtain ⟨hp, g, d, tk, os⟩ := s; obtain ⟨h1, h⟩ := h
    have hsub := sub_enumerate
    have q1 : ∀ {A' : Around} {E : Value → Shared → Prop} {Q : Value → Shared → Prop}, Q (.ref hp.objs.size) ⟨hp.push o, g, d, tk, os⟩ → wpAny (model prog w) A' (pyIter v) Q E ⟨hp, g, d, tk, os⟩ :=
      fun q => B.iter prog w _ _ ⟨hp, g, d, tk, os⟩ _ h1 q
    wp_walk using q1
    refine wpAny_stack_any fun st => wpAny_pure ?_
    split
    · rename_i c _ _ _ _ _
      cases (c == Value.type "enumerate")
      · wp_walk using q1
        exact ⟨_, rfl, h⟩
      · wp_walk using q1
        exact ⟨_, rfl, h⟩
    · wp_walk using q1
      exact ⟨_, rfl, h⟩
section
variable {prog : Program} {w : World} {A : Around} {E : Value → Shared → Prop} {s : Shared}
theorem enum_begins1 {v : Value} {o : Obj} {H : Heap → Prop} {Q : Value → Shared → Prop} (B : Begins v o H) (h1 : H s.heap)
    (h : ∀ h', IsEnum h' (s.heap.objs.size + 1) s.heap.objs.size 0 .none → h'.get? s.heap.objs.size = some o → h'.objs.size = s.heap.objs.size + 2 →
      (∀ b o, s.heap.get? b = some o → h'.get? b = some o) → Q (.ref (s.heap.objs.size + 1)) { s with heap := h' }) :
    wpAny (model prog w) A (call (.type "enumerate") [v]) Q E s := by
  refine callType_new F.called_enumerate (by decide) (F.typeCall_enumerate_1 _) (F.newCall_enumerate_1 _) (fun obj => F.args_object_init_2 obj _) F.entry_enumerate_new
    (meets_enum_new1 B) ⟨h1, ?_⟩
  have hz : (s.heap.push o).objs.size = s.heap.objs.size + 1 := Heap.size_push ..
  show _ ∧ _
  rw [hz]
  have he : IsEnum ((s.heap.push o).push { cls := .type "enumerate", data := .fields #[.none, .bool false, .ref s.heap.objs.size, rawInt 0, .none, .none] }) (s.heap.objs.size + 1) s.heap.objs.size 0 .none := by
    have := Heap.get?_push_size (s.heap.push o) (o := { cls := .type "enumerate", data := .fields #[.none, .bool false, .ref s.heap.objs.size, rawInt 0, .none, .none] }) rfl
    rw [hz] at this; exact this
  refine ⟨⟨_, he, rfl⟩, h _ he (Heap.get?_push_of_some _ (Heap.get?_push_size _ B.free)) (by rw [Heap.size_push, hz]) fun b o x => Heap.get?_push_of_some _ (Heap.get?_push_of_some _ x)⟩
end
/-- the tuple at a, each item in a new pair -/
def ItnT (K : PySem.W.Frag) (a : Addr) : It :=
  ⟨fun i H => ∃ (xs : List V) (x : V), SqT K H a xs ∧ xs[i]? = some x, fun i H v H' => ∃ T x, v = .ref T ∧ H T = none ∧ H' = upd H T (.tup [.int (i : Nat), x]) ∧ ∀ xs, SqT K H a xs → xs[i]? = some x, fun i H => ∃ xs : List V, SqT K H a xs ∧ xs.length ≤ i⟩
theorem turn_enumT {P : Program} {w : World} {K : PySem.W.Frag} {elts : List Expr} {kk : Nat} {tpos : Pos} (a e it : Addr) (hea : e ≠ a) (hia : a ≠ it) :
    Turn P w K (.Tuple elts kk tpos) (ItnT K a) [e, it] e (fun i h => (∃ old, IsEnum h e it ((i : Nat) : Int) old) ∧ h.IsTupleIter it a i ∧ e ≠ it) where
  mem := by simp
  obj := fun i h st b hb => by
    obtain ⟨⟨old, he⟩, ⟨o, ho, hc, hd⟩, _⟩ := st
    have e' : b = e ∨ b = it := by simpa using hb
    rcases e' with z | z
    · rw [z]; exact ⟨_, he, fun v q => nomatch q⟩
    · rw [z]; exact ⟨o, ho, fun v q => by rw [hd] at q; cases q⟩
  keep := fun i h h' st k => let ⟨⟨old, he⟩, hi, hne⟩ := st; ⟨⟨old, k e (by simp) _ he⟩, hi.at fun o q => k it (by simp) o q, hne⟩
  item := by
    intro X hP hw hK hc i pins s σ H E I hf st hg
    subst hP hw hK
    obtain ⟨⟨old, he⟩, hit, hne⟩ := st
    obtain ⟨xs, x, hq, hx⟩ := hg
    obtain ⟨its, rv, p, hz⟩ := I.tuple hq
    obtain ⟨u, hu, ru⟩ := rv.get hx
    have hlen : i < its.toArray.size := by
      have := (List.getElem?_eq_some_iff.mp hu).1
      simpa using this
    have hel : e < s.heap.objs.size := Heap.lt_size he
    have hil : it < s.heap.objs.size := by obtain ⟨_, q, _⟩ := hit; exact Heap.lt_size q
    have hef : e ∉ [it, a] := by simp [hne, hea]
    refine wpAny_pyNext_enum_itemD (Draws.tuple (A := X.A.in1) (I.ok.hd hc) it a hia its.toArray) he ⟨hit, (show s.heap.IsTuple a its.toArray from p)⟩ hlen hne hef fun x' h' tk hP ho hs' hT hsz hk => ?_
    have ex : x' = u := by
      have h1 : its.toArray[i]? = some x' := hP
      have h2 : its.toArray[i]? = some u := by simpa using hu
      exact Option.some.inj (h1.symm.trans h2)
    subst ex
    refine ⟨_, rfl, wpAny_letOwnedTupleGo_enum (s := { s with heap := h', toks := tk + 1 }) ho fun h'' he' sb => ?_⟩
    have hT2 : h''.get? s.heap.objs.size = some { cls := .type "tuple", data := .seq #[.int i tk, x'] } := (sb.2 _ (Nat.ne_of_gt hel)).trans hT
    have new : ObjOk X.prog X.w (upd H s.heap.objs.size (.tup [.int (i : Nat), x])) h'' s.heap.objs.size (.tup [.int (i : Nat), x]) :=
      ⟨by show 2 ≤ sizeLine; decide, [.int i tk, x'], .cons ⟨_, rfl⟩ (.cons ru .nil), ⟨_, hT2, rfl, _, rfl⟩⟩
    have I1 : Inv X pins σ (upd H s.heap.objs.size (.tup [.int (i : Nat), x])) { s with heap := h'', toks := tk + 1 } :=
      I.turnedNew (ch := [e, it]) (fun b ob hb q => (sb.2 b (fun z => hb (by simp [z]))).trans (hk b ob (fun z => hb (by simp [z])) (fun z => hb (by simp [z])) q)) hf (Nat.le_refl _) new
    refine ⟨.ref s.heap.objs.size, _, I1, rfl, ⟨_, x, rfl, I.hok.fresh (Nat.le_refl _), rfl, fun ys hy => by rw [I.tuple_inj hy hq]; exact hx⟩, ⟨⟨x', ?_⟩, hs'.1.at fun o q => (sb.2 it (Ne.symm hne)).trans q, hne⟩, fun b hb => ?_⟩
    · have e1 : ((i + 1 : Nat) : Int) = (i : Int) + 1 := by omega
      rw [e1]; exact he'
    · have hb' : b < s.heap.objs.size := by
        have e' : b = e ∨ b = it := by simpa using hb
        rcases e' with z | z
        · rw [z]; exact hel
        · rw [z]; exact hil
      rw [upd_ne (Nat.ne_of_lt hb')]
      exact (hf b hb).1
  done := by
    intro X hP hw hK hc i pins s σ H E I hf st hg
    subst hP hw hK
    obtain ⟨⟨old, he⟩, hit, hne⟩ := st
    obtain ⟨xs, hq, hx⟩ := hg
    obtain ⟨its, rv, p, hz⟩ := I.tuple hq
    obtain ⟨f0, f1, f2, f3, f4, f5⟩ := hf it (by simp)
    have hl := rv.length
    have hT : s.TypeIs (.ref e) "enumerate" := ⟨_, he, rfl⟩
    unfold pyNext
    refine wpAny_bind (wpAny_attempt (wpAny_callSpecial?_slot (name := Str.ofString "__next__") hT F.slot_enumerate_next
      (wpAny_call_entry F.slot_enumerate_next hT F.entry_enumerate_next ?_ (F.args_enumerate_next_1 _))))
    show wpAny _ _ (field (.ref e) 2 >>= _) _ _ _
    refine wpAny_bind (wpAny_field he rfl (x := .ref it) rfl ?_)
    refine wpAny_bind (wpAny_nextOf_tuple_end (A := X.A.in1) (I.ok.hd hc) hit (show s.heap.IsTuple a its.toArray from p) (by simp; omega) fun h' x he' hx' => ?_)
    obtain ⟨o, ho, hc'⟩ := hx'
    refine wpAny_bind (wpAny_isInstance (T := "StopIteration") (b := true) ⟨o, ho, hc'⟩ isSubtype_stop ?_)
    exact wpAny_pure ⟨rfl, I.turned (t' := s.toks) (fun b o hb q => he' b o hb q) f0 f1 f3 f4 f5⟩
  self := fun A i s Q E st h => let ⟨⟨_, he⟩, _⟩ := st; wpAny_pyIter_enum he h
def iEnumT (K : PySem.W.Frag) (ta : TA) : TI := fun σ H R => ta σ H fun vs H1 => ∃ a xs, vs = [.ref a] ∧ SqT K H1 a xs ∧ R (ItnT K a) H1
theorem pi_enumT {X : Cx} {e : Expr} {ta : TA} {p pos tpos : Pos} {elts : List Expr} {kk : Nat} (hg : Gl X "enumerate") (hm : X.mg "enumerate" = none) (ha : PA X [e] ta) (hs : starEach [e] X.env = [(false, eval e X.env)] := by rfl) :
    PI X (.Tuple elts kk tpos) (.Call (.Name "enumerate" p) [e] [] pos) (iEnumT X.K ta) := by
  refine ⟨fun pins s σ H R I h => ?_⟩
  refine Call_ (ld_blt I hg hm boot_enumerate (PyProof.Rows.callWith_type1 (thn (ha.run pos pins s σ H _ I h) fun us s1 ⟨vs, H1, I1, r1, q1⟩ => ?_) hs rfl))
  obtain ⟨a, xs, ex, hq, q⟩ := q1
  subst ex
  cases r1 with
  | cons r rr =>
    cases rr
    cases r
    obtain ⟨its, rv, p', hz⟩ := I1.tuple hq
    have la : a < s1.heap.objs.size := by obtain ⟨o, ho, _⟩ := id p'; exact Heap.lt_size ho
    refine enum_begins1 (begins_tuple a its.toArray) (show s1.heap.IsTuple a its.toArray from p') fun h' he hit hsz hk => wpAny_pyIter_enum he ?_
    have I2 : Inv X pins σ H1 { s1 with heap := h' } := I1.kept (t' := s1.toks) hk
    refine ⟨s1.heap.objs.size + 1, [s1.heap.objs.size + 1, s1.heap.objs.size], _, _, H1, rfl, I2, turn_enumT a (s1.heap.objs.size + 1) s1.heap.objs.size (Nat.ne_of_gt (Nat.lt_succ_of_lt la)) (Nat.ne_of_lt la), ⟨⟨.none, he⟩, ⟨_, hit, rfl, rfl⟩, Nat.succ_ne_self _⟩, fun b hb => ?_, q⟩
    have e' : b = s1.heap.objs.size + 1 ∨ b = s1.heap.objs.size := by simpa using hb
    have hle : s1.heap.objs.size ≤ b := by
      rcases e' with z | z
      · rw [z]; exact Nat.le_add_right _ _
      · rw [z]; exact Nat.le_refl _
    exact I1.fpOk hle (I1.hok.fresh hle)

/-! ### a walk over data -/
/-- J draws xs wherever the frozen part holds -/
def ItOk (K : PySem.W.Frag) (F : Hp) (J : It) (xs : List D) : Prop :=
  (∀ i H, Same F H → i < xs.length → J.go i H) ∧ (∀ i H, Same F H → xs.length ≤ i → J.stop i H) ∧
  ∀ i H x H', i < xs.length → Same F H → J.yld i H x H' → ∃ d, xs[i]? = some d ∧ ((H' = H ∧ Dp K F x d) ∨ ∃ T vs ds, x = .ref T ∧ H T = none ∧ H' = upd H T (.tup vs) ∧ DpAll K F vs ds ∧ d = .tuple ds)
def tDI (K : PySem.W.Frag) (N : EN) (z : Z) (xs : List D) (z' : Z) : TI := fun σ H R => ∃ F α, Fr K N F α z σ H ∧ ∀ J F' α' H', On F F' α α' → Fr K N F' α' z' σ H' → ItOk K F' J xs → R J H'
abbrev DI (X : Cx) (N : EN) (z : Z) (tg e : Expr) (xs : List D) (z' : Z) : Prop := PI X tg e (tDI X.K N z xs z')
section
variable {X : Cx} {N : EN} {z z1 z2 z3 : Z} {pos p : Pos} {tg e e2 : Expr}
theorem PI.to {t t' : TI} (h : PI X tg e t) (w : ∀ σ H R, t' σ H R → t σ H R) : PI X tg e t' := ⟨fun pins s σ H R I q => h.run pins s σ H R I (w _ _ _ q)⟩
theorem SqT_of_dp {K : PySem.W.Frag} {F H : Hp} {v : V} {ds : List D} (h : Dp K F v (.tuple ds)) (e : Same F H) : ∃ a xs, v = .ref a ∧ SqT K H a xs ∧ SqT K F a xs ∧ DpAll K F xs ds := by
  cases h with
  | tup hs ha => exact ⟨_, _, rfl, same_t e hs, hs, ha⟩
theorem SqL_of_dp {K : PySem.W.Frag} {F H : Hp} {v : V} {ds : List D} (h : Dp K F v (.list ds)) (e : Same F H) : ∃ a xs, v = .ref a ∧ SqL K H a xs ∧ SqL K F a xs ∧ DpAll K F xs ds := by
  cases h with
  | lst hs ha => exact ⟨_, _, rfl, e.seq hs, hs, ha⟩
theorem itok_list {K : PySem.W.Frag} {F : Hp} {a : Addr} {xs : List V} {ds : List D} (hs : SqL K F a xs) (ha : DpAll K F xs ds) : ItOk K F (Itl K a) ds := by
  have hl := DpAll.len ha
  refine ⟨fun i H e hi => ⟨xs, xs[i]'(by omega), e.seq hs, by simp [show i < xs.length by omega]⟩, fun i H e hi => ⟨xs, e.seq hs, by omega⟩, fun i H x H' hi e ⟨e1, y⟩ => ?_⟩
  obtain ⟨d, h1, h2⟩ := DpAll.getV ha (y xs (e.seq hs))
  exact ⟨d, h1, .inl ⟨e1, h2⟩⟩
theorem itok_tup {K : PySem.W.Frag} {F : Hp} {a : Addr} {xs : List V} {ds : List D} (hs : SqT K F a xs) (ha : DpAll K F xs ds) : ItOk K F (Itt K a) ds := by
  have hl := DpAll.len ha
  refine ⟨fun i H e hi => ⟨xs, xs[i]'(by omega), same_t e hs, by simp [show i < xs.length by omega]⟩, fun i H e hi => ⟨xs, same_t e hs, by omega⟩, fun i H x H' hi e ⟨e1, y⟩ => ?_⟩
  obtain ⟨d, h1, h2⟩ := DpAll.getV ha (y xs (same_t e hs))
  exact ⟨d, h1, .inl ⟨e1, h2⟩⟩
/-- a list, a tuple, by data -/
theorem di_list {xs : List D} (h : DE X N z e (.d (.list xs)) z1) : DI X N z tg e xs z1 :=
  PI.to (pi_list h) fun σ H R ⟨F, α, fr, q⟩ => ⟨F, α, fr, fun v F1 α1 H1 o1 fr1 d1 => by
    obtain ⟨a, vs, rfl, h1, h2, h3⟩ := SqL_of_dp (d1 : Dp X.K F1 v (.list xs)) fr1.sub
    exact ⟨a, rfl, ⟨vs, h1⟩, q _ F1 α1 H1 o1 fr1 (itok_list h2 h3)⟩⟩
theorem di_tup {xs : List D} (h : DE X N z e (.d (.tuple xs)) z1) : DI X N z tg e xs z1 :=
  PI.to (pi_tup h) fun σ H R ⟨F, α, fr, q⟩ => ⟨F, α, fr, fun v F1 α1 H1 o1 fr1 d1 => by
    obtain ⟨a, vs, rfl, h1, h2, h3⟩ := SqT_of_dp (d1 : Dp X.K F1 v (.tuple xs)) fr1.sub
    exact ⟨a, rfl, ⟨vs, h1⟩, q _ F1 α1 H1 o1 fr1 (itok_tup h2 h3)⟩⟩
/-- lo, lo + 1, .. -/
def rngD (lo : Int) (n : Nat) : List D := (List.range n).map fun i => PyData.int (lo + (i : Nat))
theorem rngD_len (lo : Int) (n : Nat) : (rngD lo n).length = n := by simp [rngD]
theorem rngD_get {lo : Int} {n i : Nat} (h : i < n) : (rngD lo n)[i]? = some (.int (lo + (i : Nat))) := by simp [rngD, h]
theorem itok_range {K : PySem.W.Frag} {F : Hp} {lo : Int} {n : Nat} : ItOk K F (Itr lo n) (rngD lo n) := by
  refine ⟨fun i H e hi => by rw [rngD_len] at hi; exact hi, fun i H e hi => by rw [rngD_len] at hi; exact hi, fun i H x H' hi e y => ?_⟩
  rw [rngD_len] at hi
  obtain ⟨e1, rfl⟩ := y
  exact ⟨_, rngD_get hi, .inl ⟨e1, .int _⟩⟩
theorem di_range1 {a : Expr} {j : Int} (hg : Gl X "range") (hm : X.mg "range" = none) (h : DE X N z a (.d (.int j)) z1) (h1 : -(2 ^ 62) ≤ j) (h2 : j < 2 ^ 62) (hs : starEach [a] X.env = [(false, eval a X.env)] := by rfl) :
    DI X N z tg (.Call (.Name "range" p) [a] [] pos) (rngD 0 j.toNat) z1 :=
  PI.to (pi_range1 hg hm (da_cons h da_nil hs) hs) fun σ H R ⟨F, α, fr, q⟩ => ⟨F, α, fr, fun vs F1 α1 H1 o1 fr1 d1 => by
    cases d1 with
    | cons r t =>
      cases t
      cases r
      exact ⟨j, rfl, h1, h2, q _ F1 α1 H1 o1 fr1 itok_range⟩⟩
theorem di_range2 {a b : Expr} {i j : Int} (hg : Gl X "range") (hm : X.mg "range" = none) (h : DE X N z a (.d (.int i)) z1) (hb : DE X N z1 b (.d (.int j)) z2) (hc : -(2 ^ 62) ≤ i ∧ i < 2 ^ 62 ∧ -(2 ^ 62) ≤ j ∧ j < 2 ^ 62)
    (hs : starEach [a, b] X.env = [(false, eval a X.env), (false, eval b X.env)] := by rfl) (hs2 : starEach [b] X.env = [(false, eval b X.env)] := by rfl) (hs3 : starEach [a, b] X.env = (false, eval a X.env) :: starEach [b] X.env := by rfl) :
    DI X N z tg (.Call (.Name "range" p) [a, b] [] pos) (rngD i (j - i).toNat) z2 :=
  PI.to (pi_range2 hg hm (da_cons h (da_cons hb da_nil hs2) hs3) hs hs2) fun σ H R ⟨F, α, fr, q⟩ => ⟨F, α, fr, fun vs F1 α1 H1 o1 fr1 d1 => by
    cases d1 with
    | cons r t =>
      cases t with
      | cons r' t =>
        cases t
        cases r
        cases r'
        exact ⟨i, j, rfl, hc, q _ F1 α1 H1 o1 fr1 itok_range⟩⟩
/-- (0, x0), (1, x1), .. -/
def enumD (xs : List D) : List D := xs.mapIdx fun i x => .tuple [.int (i : Nat), x]
theorem enumD_len (xs : List D) : (enumD xs).length = xs.length := by simp [enumD]
theorem enumD_get {xs : List D} {i : Nat} {x : D} (h : xs[i]? = some x) : (enumD xs)[i]? = some (.tuple [.int (i : Nat), x]) := by simp [enumD, h]
variable {elts : List Expr} {kk : Nat} {tpos : Pos}
theorem di_enumL {xs : List D} (hg : Gl X "enumerate") (hm : X.mg "enumerate" = none) (h : DE X N z e (.d (.list xs)) z1) (hs : starEach [e] X.env = [(false, eval e X.env)] := by rfl) :
    DI X N z (.Tuple elts kk tpos) (.Call (.Name "enumerate" p) [e] [] pos) (enumD xs) z1 :=
  PI.to (pi_enum hg hm (da_cons h da_nil hs) hs) fun σ H R ⟨F, α, fr, q⟩ => ⟨F, α, fr, fun vs F1 α1 H1 o1 fr1 d1 => by
    cases d1 with
    | cons r t =>
      cases t
      obtain ⟨a, vs, rfl, h1, h2, h3⟩ := SqL_of_dp r fr1.sub
      refine ⟨a, vs, rfl, h1, q _ F1 α1 H1 o1 fr1 ?_⟩
      have hl := DpAll.len h3
      refine ⟨fun i H e hi => ⟨vs, vs[i]'(by rw [enumD_len] at hi; omega), e.seq h2, by simp [show i < vs.length by rw [enumD_len] at hi; omega]⟩, fun i H e hi => ⟨vs, e.seq h2, by rw [enumD_len] at hi; omega⟩, fun i H x H' hi e y => ?_⟩
      obtain ⟨T, x1, e1, e2, e3, y⟩ := y
      obtain ⟨d, g1, g2⟩ := DpAll.getV h3 (y vs (e.seq h2))
      exact ⟨_, enumD_get g1, .inr ⟨T, _, _, e1, e2, e3, .cons (.int _) (.cons g2 .nil), rfl⟩⟩⟩
theorem di_enumT {xs : List D} (hg : Gl X "enumerate") (hm : X.mg "enumerate" = none) (h : DE X N z e (.d (.tuple xs)) z1) (hs : starEach [e] X.env = [(false, eval e X.env)] := by rfl) :
    DI X N z (.Tuple elts kk tpos) (.Call (.Name "enumerate" p) [e] [] pos) (enumD xs) z1 :=
  PI.to (pi_enumT hg hm (da_cons h da_nil hs) hs) fun σ H R ⟨F, α, fr, q⟩ => ⟨F, α, fr, fun vs F1 α1 H1 o1 fr1 d1 => by
    cases d1 with
    | cons r t =>
      cases t
      obtain ⟨a, vs, rfl, h1, h2, h3⟩ := SqT_of_dp r fr1.sub
      refine ⟨a, vs, rfl, h1, q _ F1 α1 H1 o1 fr1 ?_⟩
      have hl := DpAll.len h3
      refine ⟨fun i H e hi => ⟨vs, vs[i]'(by rw [enumD_len] at hi; omega), same_t e h2, by simp [show i < vs.length by rw [enumD_len] at hi; omega]⟩, fun i H e hi => ⟨vs, same_t e h2, by rw [enumD_len] at hi; omega⟩, fun i H x H' hi e y => ?_⟩
      obtain ⟨T, x1, e1, e2, e3, y⟩ := y
      obtain ⟨d, g1, g2⟩ := DpAll.getV h3 (y vs (same_t e h2))
      exact ⟨_, enumD_get g1, .inr ⟨T, _, _, e1, e2, e3, .cons (.int _) (.cons g2 .nil), rfl⟩⟩⟩
/-- (x0, y0), (x1, y1), .. -/
def zipD (xs ys : List D) : List D := (xs.zip ys).map fun p => .tuple [p.1, p.2]
theorem zipD_len (xs ys : List D) : (zipD xs ys).length = min xs.length ys.length := by simp [zipD]
theorem zipD_get {xs ys : List D} {i : Nat} {x y : D} (h : xs[i]? = some x) (h' : ys[i]? = some y) : (zipD xs ys)[i]? = some (.tuple [x, y]) := by
  have e : (xs.zip ys)[i]? = some (x, y) := List.getElem?_zip_eq_some.mpr ⟨h, h'⟩
  unfold zipD
  rw [List.getElem?_map, e]
  rfl
theorem di_zipT {xs ys : List D} (hg : Gl X "zip") (hm : X.mg "zip" = none) (h : DE X N z e (.d (.tuple xs)) z1) (h' : DE X N z1 e2 (.d (.tuple ys)) z2)
    (hs : starEach [e, e2] X.env = (false, eval e X.env) :: starEach [e2] X.env := by rfl) (hs2 : starEach [e2] X.env = (false, eval e2 X.env) :: starEach [] X.env := by rfl) (hpl : (backTo pos (starEach [e2] X.env)).any (·.1) = false := by rfl) :
    DI X N z (.Tuple elts kk tpos) (.Call (.Name "zip" p) [e, e2] [] pos) (zipD xs ys) z2 :=
  PI.to (RZ.pi_zipA hg hm (da_cons h (da_cons h' da_nil hs2) hs) hs hpl) fun σ H R ⟨F, α, fr, q⟩ => ⟨F, α, fr, fun vs F1 α1 H1 o1 fr1 d1 => by
    cases d1 with
    | cons r t =>
      cases t with
      | cons r' t =>
        cases t
        obtain ⟨a, vs, rfl, h1, h2, h3⟩ := SqT_of_dp r fr1.sub
        obtain ⟨b, ws, rfl, k1, k2, k3⟩ := SqT_of_dp r' fr1.sub
        refine ⟨a, b, vs, ws, rfl, .inr ⟨h1, k1, q _ F1 α1 H1 o1 fr1 ?_⟩⟩
        have hl := DpAll.len h3
        have kl := DpAll.len k3
        refine ⟨fun i H e hi => ?_, fun i H e hi => ⟨vs, ws, same_t e h2, same_t e k2, by rw [zipD_len] at hi; omega⟩, fun i H x H' hi e y => ?_⟩
        · rw [zipD_len] at hi
          exact ⟨vs, ws, vs[i]'(by omega), ws[i]'(by omega), same_t e h2, same_t e k2, by simp [show i < vs.length by omega], by simp [show i < ws.length by omega]⟩
        · obtain ⟨T, x1, y1, e1, e2, e3, f1, f2⟩ := y
          obtain ⟨d, g1, g2⟩ := DpAll.getV h3 (f1 vs (same_t e h2))
          obtain ⟨d', g1', g2'⟩ := DpAll.getV k3 (f2 ws (same_t e k2))
          exact ⟨_, zipD_get g1 g1', .inr ⟨T, _, _, e1, e2, e3, .cons g2 (.cons g2' .nil), rfl⟩⟩⟩
theorem di_zipL {xs ys : List D} (hg : Gl X "zip") (hm : X.mg "zip" = none) (h : DE X N z e (.d (.list xs)) z1) (h' : DE X N z1 e2 (.d (.list ys)) z2)
    (hs : starEach [e, e2] X.env = (false, eval e X.env) :: starEach [e2] X.env := by rfl) (hs2 : starEach [e2] X.env = (false, eval e2 X.env) :: starEach [] X.env := by rfl) (hpl : (backTo pos (starEach [e2] X.env)).any (·.1) = false := by rfl) :
    DI X N z (.Tuple elts kk tpos) (.Call (.Name "zip" p) [e, e2] [] pos) (zipD xs ys) z2 :=
  PI.to (RZ.pi_zipA hg hm (da_cons h (da_cons h' da_nil hs2) hs) hs hpl) fun σ H R ⟨F, α, fr, q⟩ => ⟨F, α, fr, fun vs F1 α1 H1 o1 fr1 d1 => by
    cases d1 with
    | cons r t =>
      cases t with
      | cons r' t =>
        cases t
        obtain ⟨a, vs, rfl, h1, h2, h3⟩ := SqL_of_dp r fr1.sub
        obtain ⟨b, ws, rfl, k1, k2, k3⟩ := SqL_of_dp r' fr1.sub
        refine ⟨a, b, vs, ws, rfl, .inl ⟨h1, k1, q _ F1 α1 H1 o1 fr1 ?_⟩⟩
        have hl := DpAll.len h3
        have kl := DpAll.len k3
        refine ⟨fun i H e hi => ?_, fun i H e hi => ⟨vs, ws, e.seq h2, e.seq k2, by rw [zipD_len] at hi; omega⟩, fun i H x H' hi e y => ?_⟩
        · rw [zipD_len] at hi
          exact ⟨vs, ws, vs[i]'(by omega), ws[i]'(by omega), e.seq h2, e.seq k2, by simp [show i < vs.length by omega], by simp [show i < ws.length by omega]⟩
        · obtain ⟨T, x1, y1, e1, e2, e3, f1, f2⟩ := y
          obtain ⟨d, g1, g2⟩ := DpAll.getV h3 (f1 vs (e.seq h2))
          obtain ⟨d', g1', g2'⟩ := DpAll.getV k3 (f2 ws (e.seq k2))
          exact ⟨_, zipD_get g1 g1', .inr ⟨T, _, _, e1, e2, e3, .cons g2 (.cons g2' .nil), rfl⟩⟩⟩
end

/-! ### targets -/
theorem wipe_in {σ : L2.St} {i : Nat} : ∀ {vs : List Nat}, i ∈ vs → (L2.wipe σ vs)[i]? = if i < σ.length then some none else none
  | v :: vs, h => by
    show ((L2.wipe σ vs).set v none)[i]? = _
    by_cases hv : v = i
    · subst hv
      by_cases hl : v < σ.length
      · rw [List.getElem?_set_self (by rw [L2.wipe_length]; exact hl), if_pos hl]
      · rw [if_neg hl, List.getElem?_eq_none (by rw [List.length_set, L2.wipe_length]; omega)]
    · rw [List.getElem?_set_ne hv]
      rcases List.mem_cons.mp h with e | h
      · exact absurd e.symm hv
      · exact wipe_in h
theorem wipe_eq {σ σ' : L2.St} {vs : List Nat} (hl : σ.length = σ'.length) (h : ∀ i, i ∉ vs → σ[i]? = σ'[i]?) : L2.wipe σ vs = L2.wipe σ' vs := by
  apply List.ext_getElem?
  intro i
  by_cases hi : i ∈ vs
  · rw [wipe_in hi, wipe_in hi, hl]
  · rw [L2.wipe_out hi, L2.wipe_out hi]
    exact h i hi
theorem wipe_wipe {σ : L2.St} {vs : List Nat} : L2.wipe (L2.wipe σ vs) vs = L2.wipe σ vs := wipe_eq (L2.wipe_length _ _) fun _ h => L2.wipe_out h
/-- the target stores d: the state goes from z to f d z, where ok d; the slots that it stores are is -/
structure GD (K : PySem.W.Frag) (g : TG) (f : D → List Sl → List Sl) (ok : D → Prop) (is : List Nat) : Prop where
  run : ∀ (N : EN) (F : Hp) (α : List Addr) (z : Z) (σ : L2.St) (H : Hp) (v : V) (d : D) (Q : L2.St → Hp → Prop), Fr K N F α z σ H → Dp K F v d → ok d →
    (∀ σ', Fr K N F α ⟨f d z.s, z.o⟩ σ' H → σ'.length = σ.length → (∀ i, i ∉ is → σ'[i]? = σ[i]?) → Q σ' H) → g v σ H Q
theorem gd_name {K : PySem.W.Frag} (i : Nat) : GD K (gName i) (fun d s => s.set i (.d d)) (fun _ => True) [i] :=
  ⟨fun N F α z σ H v d Q fr hd _ q => q _ (fr.setD (s := .d d) ⟨v, rfl, hd⟩) (by simp) fun j hj => List.getElem?_set_ne (by simp at hj; exact fun e => hj e.symm)⟩
/-- a tuple of names -/
def setAll : List Nat → List D → List Sl → List Sl
  | i :: is, d :: ds, s => setAll is ds (s.set i (.d d))
  | _, _, s => s
structure GsD (K : PySem.W.Frag) (g : TGs) (is : List Nat) : Prop where
  run : ∀ (N : EN) (F : Hp) (α : List Addr) (z : Z) (σ : L2.St) (H : Hp) (vs : List V) (ds : List D) (Q : L2.St → Hp → Prop), Fr K N F α z σ H → DpAll K F vs ds → ds.length = is.length →
    (∀ σ', Fr K N F α ⟨setAll is ds z.s, z.o⟩ σ' H → σ'.length = σ.length → (∀ i, i ∉ is → σ'[i]? = σ[i]?) → Q σ' H) → g vs σ H Q
theorem gsd_nil {K : PySem.W.Frag} : GsD K gNil [] := ⟨fun N F α z σ H vs ds Q fr hd hl q => by
  cases hd with
  | nil => exact ⟨rfl, q σ fr rfl fun _ _ => rfl⟩
  | cons _ _ => cases hl⟩
theorem gsd_cons {K : PySem.W.Frag} {i : Nat} {u : TGs} {is : List Nat} (h : GsD K u is) : GsD K (gCons (gName i) u) (i :: is) := ⟨fun N F α z σ H vs ds Q fr hd hl q => by
  cases hd with
  | nil => cases hl
  | cons r t => exact ⟨_, _, rfl, h.run N F α _ _ H _ _ Q (fr.setD (s := .d _) ⟨_, rfl, r⟩) t (by simpa using hl) fun σ' fr' hl' hi' => q σ' fr' (by rw [hl', List.length_set]) fun j hj => by
      rw [hi' j fun h => hj (List.mem_cons_of_mem _ h)]
      exact List.getElem?_set_ne fun e => hj (by rw [e]; exact List.mem_cons_self)⟩⟩
def tupIs (n : Nat) (d : D) : Prop := ∃ ds, d = .tuple ds ∧ ds.length = n
def setTup (is : List Nat) : D → List Sl → List Sl
  | .tuple ds, s => setAll is ds s
  | _, s => s
theorem gd_tup {K : PySem.W.Frag} {u : TGs} {is : List Nat} {n : Nat} (h : GsD K u is) (hn : is.length = n := by rfl) : GD K (gTup K n u) (setTup is) (tupIs n) is := ⟨fun N F α z σ H v d Q fr hd hok q => by
  obtain ⟨ds, rfl, hl⟩ := hok
  obtain ⟨a, vs, rfl, h1, h2, h3⟩ := SqT_of_dp hd fr.sub
  exact ⟨a, vs, rfl, h1, (DpAll.len h3).trans hl, h.run N F α z σ H vs ds Q fr h3 (hl.trans hn.symm) q⟩⟩
end DL
/-! DL4: statements, loops, comprehensions, calls -/
namespace DL
open PySem PySem.Spec PyProof.Rows L2

section
variable {X : Cx} {N : EN} {z z1 z2 z3 : Z} {pos p : Pos} {tg e e2 iter : Expr} {nx : Z → Prop} {rt : Rs → Z → Prop} {rest body orelse : List Stmt} {st : Stmt}
/-! ### statements -/
theorem ds_nil (h : nx z) : DS X N z [] nx rt := PSs.to pss_nil fun E σ H ⟨F, α, fr, q, _⟩ => q σ F α H z (Same.refl F) fr h
/-- forgetting, ahead of statements -/
theorem ds_weak (w : Wk z z1) (hp : N.pa.length ≤ z1.o.length) (hs : ∀ (i k : Nat), z1.s[i]? = some (.ptr k) → k < z1.o.length) (h : DS X N z1 rest nx rt) : DS X N z rest nx rt :=
  PSs.to h fun E σ H ⟨F, α, fr, q, r⟩ => ⟨F, _, fr.weak w hp hs, q, r⟩
theorem ds_imp {nx' : Z → Prop} {rt' : Rs → Z → Prop} (h : DS X N z rest nx rt) (h1 : ∀ z, nx z → nx' z) (h2 : ∀ r z, rt r z → rt' r z) : DS X N z rest nx' rt' :=
  PSs.to h fun E σ H ⟨F, α, fr, q, r⟩ => ⟨F, α, fr, fun σ' F' α' H' z' a b c => q σ' F' α' H' z' a b (h1 _ c), fun v σ' F' α' H' rr z' a b c d => r v σ' F' α' H' rr z' a b c (h2 _ _ d)⟩
theorem ds_cons {mid : Z → Prop} (h1 : D1 X N z st mid rt) (h2 : ∀ z', mid z' → DS X N z' rest nx rt) : DS X N z (st :: rest) nx rt :=
  PSs.to (pss_cons h1 (PSs.some fun (w : { z' // mid z' }) => h2 w.1 w.2)) fun E σ H ⟨F, α, fr, q, r⟩ => ⟨F, α, fr,
    fun σ' F' α' H' z' o' fr' m => ⟨⟨z', m⟩, F', α', fr', fun σ2 F2 α2 H2 z2 o2 => q σ2 F2 α2 H2 z2 (o'.trans o2), fun v σ2 F2 α2 H2 rr z2 o2 => r v σ2 F2 α2 H2 rr z2 (o'.trans o2)⟩, r⟩
theorem ds_last (h1 : D1 X N z st nx rt) : DS X N z [st] nx rt := ds_cons h1 fun z' h => ds_nil h
/-- an expression dropped -/
theorem d1_expr {r : Rs} (he : DE X N z e r z1) (h : nx z1) (hs : swapsWith e none pos.line X.env = pure false := by rfl) : D1 X N z (.Expr e pos) nx rt :=
  PS.to (ps_expr he hs) fun E σ H ⟨F, α, fr, q, _⟩ => ⟨F, α, fr, fun v F1 α1 H1 o1 fr1 d1 => q σ F1 α1 H1 z1 o1.f fr1 h⟩
theorem d1_ret {r : Rs} (he : DE X N z e r z1) (h : rt r z1) : D1 X N z (.Return (some e) pos) nx rt :=
  PS.to (ps_ret he) fun E σ H ⟨F, α, fr, _, q⟩ => ⟨F, α, fr, fun v F1 α1 H1 o1 fr1 d1 => q v σ F1 α1 H1 r z1 o1.f fr1 d1 h⟩
theorem d1_retN (h : rt (.d .none) z) : D1 X N z (.Return none pos) nx rt :=
  PS.to ps_retN fun E σ H ⟨F, α, fr, _, q⟩ => q .non σ F α H (.d .none) z (Same.refl F) fr .non h
def rsSl : Rs → Sl | .d x => .d x | .ptr k => .ptr k
theorem RsOk.sl {K : PySem.W.Frag} {F : Hp} {α : List Addr} {r : Rs} {v : V} (h : RsOk K F α r v) : SlOk K F α (rsSl r) (some (some v)) := by
  cases r with
  | d x => exact ⟨v, rfl, h⟩
  | ptr k => obtain ⟨a, e1, rfl⟩ := h; exact ⟨a, e1, rfl⟩
/-- name = e -/
theorem d1_set {i : Nat} {x : Str} {pos' : Pos} {r : Rs} (hN : X.N.Nodup) (hi : X.N[i]? = some x) (hx : Loc X.env.scope x) (he : DE X N z e r z1) (h : nx ⟨z1.s.set i (rsSl r), z1.o⟩) (hs : swapsWith e (some (.Name x pos')) pos.line X.env = pure false := by rfl)
    (hf : X.fn x = true ∨ X.env.scope.names.lookup x = some .local := by first | exact .inl rfl | exact .inr rfl | assumption) : D1 X N z (.Assign [.Name x pos'] e pos) nx rt :=
  PS.to (ps_set hN hi hx he hs hf) fun E σ H ⟨F, α, fr, q, _⟩ => ⟨F, α, fr, fun v F1 α1 H1 o1 fr1 d1 => q _ F1 α1 H1 _ o1.f (fr1.setD d1.sl) h⟩
/-- a target by data -/
theorem d1_asg {g : TG} {f : D → List Sl → List Sl} {ok : D → Prop} {is : List Nat} {x : D} (he : DE X N z e (.d x) z1) (hg : PG X tg g) (gd : GD X.K g f ok is) (hok : ok x) (h : nx ⟨f x z1.s, z1.o⟩)
    (hs : swapsWithSole [tg] e pos.line X.env = pure false := by rfl) (hw : swappedStores [tg] e X.env = pure none := by rfl) (h1 : (assignEach [tg] X.env).map (·.2) = [assign tg X.env] := by rfl) : D1 X N z (.Assign [tg] e pos) nx rt :=
  PS.to (ps_asg he hg hs hw h1) fun E σ H ⟨F, α, fr, q, _⟩ => ⟨F, α, fr, fun v F1 α1 H1 o1 fr1 d1 => gd.run N F1 α1 z1 σ H1 v x _ fr1 d1 hok fun σ' fr' _ _ => q σ' F1 α1 H1 _ o1.f fr' h⟩
/-- a, b = x, y of plain locals -/
theorem d1_par {i j : Nat} {x y : Str} {a b : Expr} {u w : D} {px py pt : Pos} {kt k2 pt2} (hc : X.calm = true) (hN : X.N.Nodup) (hi : X.N[i]? = some x) (hj : X.N[j]? = some y) (hij : i ≠ j)
    (hx : X.env.scope.names.lookup x = some .local) (hy : X.env.scope.names.lookup y = some .local) (ha : DAd X N z [a, b] [u, w] z1)
    (hw : swappedStores [.Tuple [.Name x px, .Name y py] kt pt] (.Tuple [a, b] k2 pt2) X.env = pure (some [x, y])) (h : nx ⟨(z1.s.set i (.d u)).set j (.d w), z1.o⟩)
    (hs : swapsWithSole [.Tuple [.Name x px, .Name y py] kt pt] (.Tuple [a, b] k2 pt2) pos.line X.env = pure false := by rfl) : D1 X N z (.Assign [.Tuple [.Name x px, .Name y py] kt pt] (.Tuple [a, b] k2 pt2) pos) nx rt :=
  PS.to (ps_par hc hN hi hj hij hx hy ha hw hs) fun E σ H ⟨F, α, fr, q, _⟩ => ⟨F, α, fr, fun vs F1 α1 H1 o1 fr1 d1 => by
    cases d1 with
    | cons r1 t =>
      cases t with
      | cons r2 t =>
        cases t
        exact ⟨_, _, rfl, q _ F1 α1 H1 _ o1.f ((fr1.setD (s := .d u) ⟨_, rfl, r1⟩).setD (s := .d w) ⟨_, rfl, r2⟩) h⟩⟩
theorem d1_par3 {i j l : Nat} {x y w : Str} {a b c : Expr} {u1 u2 u3 : D} {px py pw pt : Pos} {kt k2 pt2} (hc : X.calm = true) (hN : X.N.Nodup) (hi : X.N[i]? = some x) (hj : X.N[j]? = some y) (hl : X.N[l]? = some w) (hij : i ≠ j) (hil : i ≠ l) (hjl : j ≠ l)
    (hx : X.env.scope.names.lookup x = some .local) (hy : X.env.scope.names.lookup y = some .local) (hz : X.env.scope.names.lookup w = some .local) (ha : DAd X N z [a, b, c] [u1, u2, u3] z1)
    (hw : swappedStores [.Tuple [.Name x px, .Name y py, .Name w pw] kt pt] (.Tuple [a, b, c] k2 pt2) X.env = pure (some [x, y, w])) (h : nx ⟨((z1.s.set i (.d u1)).set j (.d u2)).set l (.d u3), z1.o⟩)
    (hs : swapsWithSole [.Tuple [.Name x px, .Name y py, .Name w pw] kt pt] (.Tuple [a, b, c] k2 pt2) pos.line X.env = pure false := by rfl) : D1 X N z (.Assign [.Tuple [.Name x px, .Name y py, .Name w pw] kt pt] (.Tuple [a, b, c] k2 pt2) pos) nx rt :=
  PS.to (ps_par3 hc hN hi hj hl hij hil hjl hx hy hz ha hw hs) fun E σ H ⟨F, α, fr, q, _⟩ => ⟨F, α, fr, fun vs F1 α1 H1 o1 fr1 d1 => by
    cases d1 with
    | cons r1 t =>
      cases t with
      | cons r2 t =>
        cases t with
        | cons r3 t =>
          cases t
          exact ⟨_, _, _, rfl, q _ F1 α1 H1 _ o1.f (((fr1.setD (s := .d u1) ⟨_, rfl, r1⟩).setD (s := .d u2) ⟨_, rfl, r2⟩).setD (s := .d u3) ⟨_, rfl, r3⟩) h⟩⟩
/-- if -/
theorem d1_if {c : Expr} {b : Bool} (hc : DT X N z c b z1) (h1 : b = true → DS X N z1 body nx rt) (h2 : b = false → DS X N z1 orelse nx rt) : D1 X N z (.If c body orelse pos) nx rt :=
  PS.to (ps_if hc (PSs.guard h1) (PSs.guard h2)) fun E σ H ⟨F, α, fr, q, r⟩ => ⟨F, α, fr, fun F1 α1 H1 o1 fr1 => by
    cases b with
    | true => exact ⟨rfl, F1, α1, fr1, fun σ2 F2 α2 H2 z2 o2 => q σ2 F2 α2 H2 z2 (o1.f.trans o2), fun v σ2 F2 α2 H2 rr z2 o2 => r v σ2 F2 α2 H2 rr z2 (o1.f.trans o2)⟩
    | false => exact ⟨rfl, F1, α1, fr1, fun σ2 F2 α2 H2 z2 o2 => q σ2 F2 α2 H2 z2 (o1.f.trans o2), fun v σ2 F2 α2 H2 rr z2 o2 => r v σ2 F2 α2 H2 rr z2 (o1.f.trans o2)⟩⟩
/-- if whose body leaves -/
theorem ds_ifR {c : Expr} {b : Bool} (hc : DT X N z c b z1) (h1 : b = true → DS X N z1 body (fun _ => False) rt) (h2 : b = false → DS X N z1 rest nx rt) : DS X N z (.If c body [] pos :: rest) nx rt :=
  ds_cons (mid := fun z' => b = false ∧ z' = z1) (d1_if hc (fun e => ds_imp (h1 e) (fun _ f => f.elim) fun _ _ h => h) fun e => ds_nil ⟨e, rfl⟩) fun z' ⟨e, e2⟩ => e2 ▸ h2 e
/-- name += e of ints -/
theorem d1_augI {i : Nat} {x : Str} {pos' : Pos} {m n : Int} (hN : X.N.Nodup) (hi : X.N[i]? = some x) (hx : Loc X.env.scope x) (hm : z.s[i]? = some (.d (.int m))) (he : DE X N z e (.d (.int n)) z1) (h : nx ⟨z1.s.set i (.d (.int (m + n))), z1.o⟩)
    (hf : X.fn x = true ∨ X.env.scope.names.lookup x = some .local := by first | exact .inl rfl | exact .inr rfl | assumption) : D1 X N z (.AugAssign (.Name x pos') .Add e pos) nx rt :=
  PS.to (ps_aug hN hi hx he ip_add hf) fun E σ H ⟨F, α, fr, q, _⟩ => by
    obtain ⟨v, e1, d⟩ := fr.sl i _ hm
    cases d
    refine ⟨_, e1, F, α, fr, fun v F1 α1 H1 o1 fr1 d1 => ?_⟩
    cases (d1 : Dp X.K F1 v (.int n))
    exact ⟨m, n, rfl, rfl, q _ F1 α1 H1 _ o1.f (fr1.setD (s := .d (.int (m + n))) ⟨_, rfl, .int _⟩) h⟩

/-! ### for -/
theorem d1_for {xs : List D} {g : TG} {f : D → List Sl → List Sl} {ok : D → Prop} {is : List Nat} (Pv : Nat → Z → Prop) (hp : PassesOwn (model X.prog X.w) X.A X.env X.xe) (hc : X.calm = true) (hi : DI X N z tg iter xs z1) (hg : PG X tg g) (gd : GD X.K g f ok is) (h0 : Pv 0 z1) (hok : ∀ (k : Nat) (d : D), xs[k]? = some d → ok d)
    (hb : ∀ (k : Nat) (d : D) (z : Z), xs[k]? = some d → Pv k z → DS X N ⟨f d z.s, z.o⟩ body (Pv (k + 1)) rt) (hd : ∀ z, Pv xs.length z → nx z)
    (hs : ∀ x, foldedSetIterable iter X.env x = pure x := by intro _; rfl) : D1 X N z (.For tg iter body [] pos) nx rt :=
  PS.to (ps_for hp hc hi hg (PSs.some fun (w : { t : Nat × D × Z // xs[t.1]? = some t.2.1 ∧ Pv t.1 t.2.2 }) => hb w.1.1 w.1.2.1 w.1.2.2 w.2.1 w.2.2) hs) fun E σ H ⟨F, α, fr, qn, qr⟩ => by
    refine ⟨F, α, fr, fun J F1 α1 H1 o1 fr1 ⟨j1, j2, j3⟩ => ?_⟩
    refine ⟨fun i m σ' H' => m = xs.length - i ∧ i ≤ xs.length ∧ ∃ F' α' z', Same F1 F' ∧ Fr X.K N F' α' z' σ' H' ∧ Pv i z', ⟨xs.length, by simp, Nat.zero_le _, F1, α1, z1, Same.refl _, fr1, h0⟩, ?_⟩
    rintro i m σ' H' ⟨rfl, hi', F', α', z', sf, fr', pv⟩
    have sH : Same F1 H' := sf.trans fr'.sub
    by_cases hlt : i < xs.length
    · refine .inr ⟨j1 i H' sH hlt, fun σ2 H2 => ∃ F2 α2 z2, Same F1 F2 ∧ Fr X.K N F2 α2 z2 σ2 H2 ∧ Pv (i + 1) z2, fun σ2 H2 ⟨F2, α2, z2, a, b, c⟩ => ⟨xs.length - (i + 1), by omega, rfl, hlt, F2, α2, z2, a, b, c⟩, fun x H2 y => ?_⟩
      obtain ⟨d, hxd, hy⟩ := j3 i H' x H2 hlt sH y
      have key : ∀ F2 H2, Same F' F2 → Fr X.K N F2 α' z' σ' H2 → Dp X.K F2 x d → g x σ' H2 fun σ2 H3 => ∃ (w : { t : Nat × D × Z // xs[t.1]? = some t.2.1 ∧ Pv t.1 t.2.2 }), tDS X.K N ⟨f w.1.2.1 w.1.2.2.s, w.1.2.2.o⟩ (Pv (w.1.1 + 1)) rt
            { E with nx := fun σ2 H2 => ∃ F2 α2 z2, Same F1 F2 ∧ Fr X.K N F2 α2 z2 σ2 H2 ∧ Pv (i + 1) z2, ct := fun σ2 H2 => ∃ F2 α2 z2, Same F1 F2 ∧ Fr X.K N F2 α2 z2 σ2 H2 ∧ Pv (i + 1) z2, bk := E.nx } σ2 H3 := fun F2 H2 s2 fr2 dx =>
        gd.run N F2 α' z' σ' H2 x d _ fr2 dx (hok i d hxd) fun σ2 fr3 _ _ => ⟨⟨(i, d, z'), hxd, pv⟩, F2, α', fr3, fun σ4 F4 α4 H4 z4 s4 fr4 p4 => ⟨F4, α4, z4, (sf.trans s2).trans s4, fr4, p4⟩,
          fun v σ4 F4 α4 H4 rr z4 s4 => qr v σ4 F4 α4 H4 rr z4 ((o1.f.trans (sf.trans s2)).trans s4)⟩
      rcases hy with ⟨rfl, dx⟩ | ⟨T, vs, ds, rfl, hT, rfl, da, rfl⟩
      · exact key F' _ (Same.refl _) fr' (dmono sf dx)
      · obtain ⟨o2, fr2⟩ := fr'.ext (o := .tup vs) hT
        exact key _ _ o2.f fr2 (.tup (SqT.of upd_same) (dmonoA (sf.trans o2.f) da))
    · have e : i = xs.length := by omega
      subst e
      exact .inl ⟨j2 _ H' sH (Nat.le_refl _), qn σ' F' α' H' z' (o1.f.trans sf) fr' (hd z' pv)⟩
/-! ### while -/
theorem d1_while {c : Expr} (Pv : Nat → Z → Prop) (hp : PassesOwn (model X.prog X.w) X.A X.env X.xe) (m0 : Nat) (h0 : Pv m0 z) (t : Nat → Z → Bool) (zt : Nat → Z → Z)
    (hc : ∀ m z, Pv m z → DT X N z c (t m z) (zt m z))
    (hb : ∀ m z, Pv m z → t m z = true → DS X N (zt m z) body (fun z' => ∃ m', m' < m ∧ Pv m' z') rt) (hd : ∀ m z, Pv m z → t m z = false → nx (zt m z)) : D1 X N z (.While c body [] pos) nx rt :=
  PS.to (ps_while hp (PT.some fun (w : { q : Nat × Z // Pv q.1 q.2 }) => hc w.1.1 w.1.2 w.2) (PSs.some fun (w : { q : Nat × Z // Pv q.1 q.2 ∧ t q.1 q.2 = true }) => hb w.1.1 w.1.2 w.2.1 w.2.2)) fun E σ H ⟨F, α, fr, qn, qr⟩ => by
    refine ⟨fun m σ' H' => ∃ F' α' z', Same F F' ∧ Fr X.K N F' α' z' σ' H' ∧ Pv m z', ⟨m0, F, α, z, Same.refl _, fr, h0⟩, ?_⟩
    rintro m σ' H' ⟨F', α', z', sf, fr', pv⟩
    refine ⟨⟨(m, z'), pv⟩, F', α', fr', fun F2 α2 H2 o2 fr2 => ?_⟩
    show if t m z' = true then _ else _
    by_cases ht : t m z' = true
    · rw [if_pos ht]
      exact ⟨fun σ3 H3 => ∃ m', m' < m ∧ ∃ F' α' z', Same F F' ∧ Fr X.K N F' α' z' σ3 H3 ∧ Pv m' z', fun σ3 H3 ⟨m', h1, h2⟩ => ⟨m', h1, h2⟩, ⟨(m, z'), pv, ht⟩, F2, α2, fr2,
        fun σ4 F4 α4 H4 z4 s4 fr4 ⟨m', h1, h2⟩ => ⟨m', h1, F4, α4, z4, (sf.trans o2.f).trans s4, fr4, h2⟩, fun v σ4 F4 α4 H4 rr z4 s4 => qr v σ4 F4 α4 H4 rr z4 ((sf.trans o2.f).trans s4)⟩
    · rw [if_neg ht]
      exact qn σ' F2 α2 H2 _ (sf.trans o2.f) fr2 (hd m z' pv (by simpa using ht))

/-! ### comprehensions -/
def wipeS (s : List Sl) : List Nat → List Sl
  | [] => s
  | v :: vs => (wipeS s vs).set v .no
theorem Fr.wipe {K : PySem.W.Frag} {F : Hp} {α : List Addr} {σ : L2.St} {H : Hp} (fr : Fr K N F α z σ H) : ∀ vs : List Nat, Fr K N F α ⟨wipeS z.s vs, z.o⟩ (L2.wipe σ vs) H
  | [] => fr
  | v :: vs => by
    have ih := Fr.wipe fr vs
    refine ⟨ih.sub, ih.ent, ih.fz, ih.len, by show ((wipeS z.s vs).set v .no).length = ((L2.wipe σ vs).set v none).length; rw [List.length_set, List.length_set]; exact ih.slen, ih.nd, ih.pre, ih.live, ih.ob, fun i s e => ?_⟩
    have e : ((wipeS z.s vs).set v .no)[i]? = some s := e
    show SlOk K F α s ((L2.wipe σ vs).set v none)[i]?
    by_cases hj : v = i
    · subst hj
      have hi : v < (wipeS z.s vs).length := by
        have := (List.getElem?_eq_some_iff.mp e).1
        rw [List.length_set] at this
        exact this
      rw [List.getElem?_set_self hi] at e
      cases e
      trivial
    · rw [List.getElem?_set_ne hj] at e
      rw [List.getElem?_set_ne hj]
      exact ih.sl i s e
theorem Fr.back {K : PySem.W.Frag} {F F' : Hp} {α α' : List Addr} {z0 z' : Z} {σ σ2 : L2.St} {H H' : Hp} {o1 : List (Option (List D))} (fr0 : Fr K N F α z0 σ H) (fr1 : Fr K N F' α' z' σ2 H') (on : On F F' α α') (ho : z'.o.take α.length = o1) (hl : o1.length = α.length) :
    Fr K N F' α ⟨z0.s, o1⟩ σ H' := by
  obtain ⟨f, β, rfl⟩ := on
  refine ⟨fr1.sub, fr1.ent, fr1.fz, hl, fr0.slen, fr0.nd, fr0.pre, fun a ha => fr1.live a (List.mem_append_left _ ha), fun k a xs e1 e2 => ?_, fun i s e => ?_⟩
  · have hk : k < α.length := (List.getElem?_eq_some_iff.mp e1).1
    refine fr1.ob k a xs (by rw [List.getElem?_append_left hk]; exact e1) ?_
    have e2 : o1[k]? = some (some xs) := e2
    rw [← ho, List.getElem?_take_of_lt hk] at e2
    exact e2
  · have h := fr0.sl i s e
    have := h.mono (β := []) f
    rw [List.append_nil] at this
    exact this
abbrev DTs (X : Cx) (N : EN) (z : Z) (ifs : List Expr) (b : Bool) (z' : Z) : Prop := PTs X ifs (tDT X.K N z b z')
theorem dts_nil : DTs X N z [] true z := PTs.to pts_nil fun σ H Q ⟨F, α, fr, q⟩ => q F α H (On.refl F α) fr
theorem dts_one {c : Expr} {b : Bool} (h : DT X N z c b z1) : DTs X N z [c] b z1 := pts_one h
/-- what a comprehension's turns do: own lists O, the new list acc, tests b, items y -/
structure LcD (N : EN) (z1 : Z) (xs : List D) (s0 : D → List Sl) (O : Nat → List (Option (List D))) (acc : Nat → List D) (b : Nat → Bool) (y : Nat → D) (zt ze : Nat → D → Z) : Prop where
  o0 : O 0 = z1.o
  a0 : acc 0 = []
  small : ∀ k, k < xs.length → (acc k).length < sizeLine
  ol : ∀ k, (O k).length = z1.o.length
  yes : ∀ (k : Nat) (d : D), xs[k]? = some d → b k = true → (ze k d).o.take (z1.o.length + 1) = O (k + 1) ++ [some (acc k)] ∧ acc (k + 1) = acc k ++ [y k]
  no : ∀ (k : Nat) (d : D), xs[k]? = some d → b k = false → (zt k d).o.take (z1.o.length + 1) = O (k + 1) ++ [some (acc k)] ∧ acc (k + 1) = acc k
theorem tlc {xs : List D} {g : TG} {f : D → List Sl → List Sl} {ok : D → Prop} {is vs : List Nat} {O : Nat → List (Option (List D))} {acc : Nat → List D} {b : Nat → Bool} {y : Nat → D} {zt ze : Nat → D → Z} {K : PySem.W.Frag}
    (gd : GD K g f ok is) (hiv : ∀ i ∈ is, i ∈ vs) (hok : ∀ (k : Nat) (d : D), xs[k]? = some d → ok d) (L : LcD N z1 xs (fun d => f d (wipeS z1.s vs)) O acc b y zt ze)
    {σ : L2.St} {H : Hp} {Q : VK} (h : tD K N z (.ptr z1.o.length) ⟨z1.s, O xs.length ++ [some (acc xs.length)]⟩ σ H Q) :
    tLc (tDI K N z xs z1) g (fun σ H Q => ∃ w : { t : Nat × D // xs[t.1]? = some t.2 }, tDT K N ⟨f w.1.2 (wipeS z1.s vs), O w.1.1 ++ [some (acc w.1.1)]⟩ (b w.1.1) (zt w.1.1 w.1.2) σ H Q)
      (fun σ H Q => ∃ w : { t : Nat × D // xs[t.1]? = some t.2 ∧ b t.1 = true }, tD K N (zt w.1.1 w.1.2) (.d (y w.1.1)) (ze w.1.1 w.1.2) σ H Q) vs σ H Q := by
  obtain ⟨F, α, fr, q⟩ := h
  refine ⟨F, α, fr, fun J F1 α1 H1 o1 fr1 ⟨j1, j2, j3⟩ Da hD => ?_⟩
  obtain ⟨on, frn, eD⟩ := fr1.new hD (.nil (K := K) (H := F1))
  have hla : α1.length = z1.o.length := fr1.len.symm
  have eD' : (α1 ++ [Da])[z1.o.length]? = some Da := eD
  refine ⟨fun i m H' => m = xs.length - i ∧ i ≤ xs.length ∧ ∃ F', Same F1 F' ∧ Fr K N F' (α1 ++ [Da]) ⟨z1.s, O i ++ [some (acc i)]⟩ σ H', ⟨xs.length, by simp, Nat.zero_le _, F1, Same.refl _, by rw [L.o0, L.a0]; exact frn⟩, ?_⟩
  rintro i m H' ⟨rfl, hi, F', sf, fr'⟩
  have sH : Same F1 H' := sf.trans fr'.sub
  by_cases hlt : i < xs.length
  · refine .inr ⟨j1 i H' sH hlt, fun H2 => ∃ F2, Same F1 F2 ∧ Fr K N F2 (α1 ++ [Da]) ⟨z1.s, O (i + 1) ++ [some (acc (i + 1))]⟩ σ H2, fun H2 ⟨F2, a, c⟩ => ⟨xs.length - (i + 1), by omega, rfl, hlt, F2, a, c⟩, fun x H2 yy => ?_⟩
    obtain ⟨d, hxd, hy⟩ := j3 i H' x H2 hlt sH yy
    -- the turn over a heap that knows the item
    have key : ∀ F2 H2, Same F' F2 → Fr K N F2 (α1 ++ [Da]) ⟨z1.s, O i ++ [some (acc i)]⟩ σ H2 → Dp K F2 x d → g x (L2.wipe σ vs) H2 fun σ2 H3 => L2.wipe σ2 vs = L2.wipe σ vs ∧
        (∃ w : { t : Nat × D // xs[t.1]? = some t.2 }, tDT K N ⟨f w.1.2 (wipeS z1.s vs), O w.1.1 ++ [some (acc w.1.1)]⟩ (b w.1.1) (zt w.1.1 w.1.2) σ2 H3 fun b' H3 =>
          if b' = true then (∃ w : { t : Nat × D // xs[t.1]? = some t.2 ∧ b t.1 = true }, tD K N (zt w.1.1 w.1.2) (.d (y w.1.1)) (ze w.1.1 w.1.2) σ2 H3 fun y' H4 => ∃ ac, H4 Da = some (.lst ac) ∧ ac.length < sizeLine ∧ ∃ F2, Same F1 F2 ∧ Fr K N F2 (α1 ++ [Da]) ⟨z1.s, O (i + 1) ++ [some (acc (i + 1))]⟩ σ (upd H4 Da (.lst (ac ++ [y']))))
          else ∃ F2, Same F1 F2 ∧ Fr K N F2 (α1 ++ [Da]) ⟨z1.s, O (i + 1) ++ [some (acc (i + 1))]⟩ σ H3) := fun F2 H2 s2 fr2 dx => by
      refine gd.run N F2 _ _ _ H2 x d _ (fr2.wipe vs) dx (hok i d hxd) fun σ2 fr3 hl2 hi2 => ⟨?_, ⟨(i, d), hxd⟩, F2, _, fr3, fun F3 α3 H3 o3 fr4 => ?_⟩
      · rw [← wipe_wipe (σ := σ)]
        exact wipe_eq hl2 fun j hj => hi2 j fun h => hj (hiv j h)
      · have hol : (O (i + 1) ++ [some (acc i)]).length = (α1 ++ [Da]).length := by
          rw [List.length_append, List.length_append, L.ol, hla]
          rfl
        have hln : (α1 ++ [Da]).length = z1.o.length + 1 := by rw [List.length_append, hla]; rfl
        show if b i = true then _ else _
        by_cases hb : b i = true
        · rw [if_pos hb]
          refine ⟨⟨(i, d), hxd, hb⟩, F3, α3, fr4, fun v F4 α4 H4 o4 fr5 d5 => ?_⟩
          obtain ⟨h1, h2⟩ := L.yes i d hxd hb
          have bk := fr2.back fr5 (o3.trans o4) (by rw [hln]; exact h1) hol
          have e1 : (O (i + 1) ++ [some (acc i)])[z1.o.length]? = some (some (acc i)) := by
            rw [← L.ol (i + 1), List.getElem?_append_right (Nat.le_refl _), Nat.sub_self]
            rfl
          obtain ⟨fa, ws, hw, da⟩ := bk.ob z1.o.length Da (acc i) eD' e1
          refine ⟨ws, hw, by rw [DpAll.len da]; exact L.small i hlt, F4, ((sf.trans s2).trans o3.f).trans o4.f, ?_⟩
          have mt := bk.mut (vs := ws ++ [v]) (ys := acc i ++ [y i]) eD' e1 (DpAll.append da (.cons d5 .nil))
          have e2 : (O (i + 1) ++ [some (acc i)]).set z1.o.length (some (acc i ++ [y i])) = O (i + 1) ++ [some (acc (i + 1))] := by
            rw [h2, ← L.ol (i + 1), List.set_append_right _ _ (Nat.le_refl _), Nat.sub_self]
            rfl
          rw [← e2]
          exact mt
        · rw [if_neg hb]
          have hb : b i = false := by simpa using hb
          obtain ⟨h1, h2⟩ := L.no i d hxd hb
          have bk := fr2.back fr4 o3 (by rw [hln]; exact h1) hol
          rw [h2]
          exact ⟨F3, (sf.trans s2).trans o3.f, bk⟩
    rcases hy with ⟨rfl, dx⟩ | ⟨T, ws, ds, rfl, hT, rfl, da, rfl⟩
    · exact key F' _ (Same.refl _) fr' (dmono sf dx)
    · obtain ⟨o2, fr2⟩ := fr'.ext (o := .tup ws) hT
      exact key _ _ o2.f fr2 (.tup (SqT.of upd_same) (dmonoA (sf.trans o2.f) da))
  · have e : i = xs.length := by omega
    subst e
    refine .inl ⟨j2 _ H' sH (Nat.le_refl _), ?_⟩
    exact q _ F' (α1 ++ [Da]) H' ⟨o1.f.trans sf, by obtain ⟨_, β, rfl⟩ := o1; exact ⟨β ++ [Da], by simp⟩⟩ fr' ⟨Da, eD', rfl⟩
/-- [elt for tg in iter if ..] -/
theorem de_lc {xs : List D} {elt : Expr} {ifs : List Expr} {scope : Scope} {own : List (Str × Nat)} {g : TG} {f : D → List Sl → List Sl} {ok : D → Prop} {is : List Nat} {O : Nat → List (Option (List D))} {acc : Nat → List D} {b : Nat → Bool} {y : Nat → D} {zt ze : Nat → D → Z}
    (hc : X.calm = true) (hN : X.N.Nodup) (hi : DI X N z tg iter xs z1) (okb : BlkOk X.N X.env.scope scope own)
    (hg : ∀ (s : Shared) (H : Hp) (C : Addr) (cl : List (Str × Addr)) (fp : List Addr), PG (X.blk s H scope (compEnvC scope cl C X.env) fp) tg g) (gd : GD X.K g f ok is) (hiv : ∀ i ∈ is, i ∈ own.map (·.2)) (hok : ∀ (k : Nat) (d : D), xs[k]? = some d → ok d)
    (L : LcD N z1 xs (fun d => f d (wipeS z1.s (own.map (·.2)))) O acc b y zt ze)
    (ht : ∀ (k : Nat) (d : D), xs[k]? = some d → ∀ (s : Shared) (H : Hp) (C : Addr) (cl : List (Str × Addr)) (fp : List Addr), DTs (X.blk s H scope (compEnvC scope cl C X.env) fp) N ⟨f d (wipeS z1.s (own.map (·.2))), O k ++ [some (acc k)]⟩ ifs (b k) (zt k d))
    (he : ∀ (k : Nat) (d : D), xs[k]? = some d → b k = true → ∀ (s : Shared) (H : Hp) (C : Addr) (cl : List (Str × Addr)) (fp : List Addr), DE (X.blk s H scope (compEnvC scope cl C X.env) fp) N (zt k d) elt (.d (y k)) (ze k d))
    (hs : ∀ x, foldedSetIterable iter X.env x = pure x := by intro _; rfl) :
    DE X N z (.ListComp elt [⟨tg, iter, ifs, 0⟩] scope pos) (.ptr z1.o.length) ⟨z1.s, O xs.length ++ [some (acc xs.length)]⟩ :=
  PE.to (pe_lc hc hN hi okb hg (fun s H C cl fp => PTs.some fun (w : { t : Nat × D // xs[t.1]? = some t.2 }) => ht w.1.1 w.1.2 w.2 s H C cl fp) (fun s H C cl fp => PE.some fun (w : { t : Nat × D // xs[t.1]? = some t.2 ∧ b t.1 = true }) => he w.1.1 w.1.2 w.2.1 w.2.2 s H C cl fp) hs)
    fun σ H Q h => tlc gd hiv hok L h
/-- name = [elt for tg in iter if ..], the name a local, on one line -/
theorem d1_setLc {i : Nat} {yn : Str} {py spos : Pos} {xs : List D} {elt : Expr} {ifs : List Expr} {scope : Scope} {own : List (Str × Nat)} {g : TG} {f : D → List Sl → List Sl} {ok : D → Prop} {is : List Nat} {O : Nat → List (Option (List D))} {acc : Nat → List D} {b : Nat → Bool} {y : Nat → D} {zt ze : Nat → D → Z}
    (hc : X.calm = true) (hN : X.N.Nodup) (hy : X.N[i]? = some yn) (hyl : X.env.scope.names.lookup yn = some .local) (hsw : swapsWith (.ListComp elt [⟨tg, iter, ifs, 0⟩] scope pos) (some (.Name yn py)) spos.line X.env = pure true) (hi : DI X N z tg iter xs z1) (okb : BlkOk X.N X.env.scope scope own)
    (hg : ∀ (s : Shared) (H : Hp) (C : Addr) (cl : List (Str × Addr)) (fp : List Addr), PG (X.blk s H scope (compEnvC scope cl C X.env) fp) tg g) (gd : GD X.K g f ok is) (hiv : ∀ i ∈ is, i ∈ own.map (·.2)) (hok : ∀ (k : Nat) (d : D), xs[k]? = some d → ok d)
    (L : LcD N z1 xs (fun d => f d (wipeS z1.s (own.map (·.2)))) O acc b y zt ze)
    (ht : ∀ (k : Nat) (d : D), xs[k]? = some d → ∀ (s : Shared) (H : Hp) (C : Addr) (cl : List (Str × Addr)) (fp : List Addr), DTs (X.blk s H scope (compEnvC scope cl C X.env) fp) N ⟨f d (wipeS z1.s (own.map (·.2))), O k ++ [some (acc k)]⟩ ifs (b k) (zt k d))
    (he : ∀ (k : Nat) (d : D), xs[k]? = some d → b k = true → ∀ (s : Shared) (H : Hp) (C : Addr) (cl : List (Str × Addr)) (fp : List Addr), DE (X.blk s H scope (compEnvC scope cl C X.env) fp) N (zt k d) elt (.d (y k)) (ze k d))
    (h : nx ⟨z1.s.set i (.ptr z1.o.length), O xs.length ++ [some (acc xs.length)]⟩)
    (hs : ∀ x, foldedSetIterable iter X.env x = pure x := by intro _; rfl) :
    D1 X N z (.Assign [.Name yn py] (.ListComp elt [⟨tg, iter, ifs, 0⟩] scope pos) spos) nx rt :=
  PS.to (ps_setLc hc hN hy hyl hsw hi okb hg (fun s H C cl fp => PTs.some fun (w : { t : Nat × D // xs[t.1]? = some t.2 }) => ht w.1.1 w.1.2 w.2 s H C cl fp) (fun s H C cl fp => PE.some fun (w : { t : Nat × D // xs[t.1]? = some t.2 ∧ b t.1 = true }) => he w.1.1 w.1.2 w.2.1 w.2.2 s H C cl fp) hs)
    fun E σ H ⟨F, α, fr, q, _⟩ => tlc gd hiv hok L ⟨F, α, fr, fun v F1 α1 H1 o1 fr1 d1 => by
      obtain ⟨a, e1, rfl⟩ := d1
      exact q _ F1 α1 H1 _ o1.f (fr1.setD (s := .ptr z1.o.length) ⟨a, e1, rfl⟩) h⟩
end
end DL
/-! DL5: a def's promise by data; its call; its body -/
namespace DL
open PySem PySem.Spec PyProof.Rows L2

/-- a def's answer: data, or a new list that is its caller's own -/
inductive Rr where | d (x : D) | new (xs : List D)
def RrOk (K : PySem.W.Frag) (H F' H' : Hp) : Rr → V → Prop
  | .d x, v => Dp K F' v x
  | .new xs, v => ∃ a vs, v = .ref a ∧ H a = none ∧ F' a = none ∧ H' a = some (.lst vs) ∧ DpAll K F' vs xs
structure PaOk (K : PySem.W.Frag) (F H : Hp) (pa : List Addr) (π : List (List D)) : Prop where
  len : pa.length = π.length
  at_ : ∀ (k : Nat) (a : Addr) (xs : List D), pa[k]? = some a → π[k]? = some xs → F a = none ∧ ∃ vs, H a = some (.lst vs) ∧ DpAll K F vs xs
/-- the promise: R arguments, the own lists handed in, the answer, these lists behind -/
def spG (K : PySem.W.Frag) (R : List D → List (List D) → Rr → List (List D) → Prop) : Sp := fun vs H Q _ =>
  ∃ (pa : List Addr) (F : Hp) (ws : List V) (as : List D) (π π' : List (List D)) (r : Rr), R as π r π' ∧ vs = pa.map V.ref ++ ws ∧ DpAll K F ws as ∧ Same F H ∧ PaOk K F H pa π ∧ pa.Nodup ∧ π.length = π'.length ∧
    ∀ v F' H', Same F F' → Same F' H' → (∀ b o, H b = some o → b ∉ pa → H' b = some o) → (∀ b, H b ≠ none → F b = none → F' b = none) → PaOk K F' H' pa π' → RrOk K H F' H' r v → Q v H'

section
variable {X : Cx} {N : EN} {z z1 z2 : Z} {pos p : Pos} {e : Expr} {es : List Expr} {CX : CXT} {k : Nat} {f : Addr} {fd : FuncData} {ps : List Str} {x : Str} {E : XK} {R : List D → List (List D) → Rr → List (List D) → Prop}
/-- the state behind a call, its answer not yet laid in -/
theorem Fr.after {K : PySem.W.Frag} {F F' : Hp} {α : List Addr} {σ : L2.St} {H H' : Hp} {pa : List Addr} (fr : Fr K N F α z σ H) (hpa : ∀ a ∈ pa, a ∈ α) (o' : List (Option (List D))) (hl : o'.length = z.o.length) (s1 : Same F F') (s2 : Same F' H')
    (h1 : ∀ b o, H b = some o → b ∉ pa → H' b = some o) (h2 : ∀ b, H b ≠ none → F b = none → F' b = none) (hl' : ∀ a ∈ pa, H' a ≠ none)
    (ho : ∀ (j : Nat) (a : Addr) (xs : List D), α[j]? = some a → o'[j]? = some (some xs) → a ∈ pa → F' a = none ∧ ∃ vs, H' a = some (.lst vs) ∧ DpAll K F' vs xs)
    (hk : ∀ (j : Nat) (a : Addr) (xs : List D), α[j]? = some a → o'[j]? = some (some xs) → a ∉ pa → z.o[j]? = some (some xs)) : Fr K N F' α ⟨z.s, o'⟩ σ H' := by
  have live0 : ∀ a, N.H0 a ≠ none → H a ≠ none := fun a h => by
    by_cases hp : a ∈ N.pa
    · obtain ⟨β, e, _⟩ := fr.pre
      exact fr.live a (by rw [e]; exact List.mem_append_left _ hp)
    · cases e : N.H0 a with
      | none => exact absurd e h
      | some o =>
        rw [fr.ent a o e hp]
        exact fun q => by cases q
  refine ⟨s2, fun a o e hn => h1 a o (fr.ent a o e hn) fun hm => ?_, fun a e1 e2 => h2 a (live0 a e1) (fr.fz a e1 e2), hl.trans fr.len, fr.slen, fr.nd, fr.pre, fun a ha => ?_, fun j a xs e1 e2 => ?_, fun i s e => ?_⟩
  · obtain ⟨β, e2, hβ⟩ := fr.pre
    have hm2 := hpa a hm
    rw [e2] at hm2
    rcases List.mem_append.mp hm2 with h | h
    · exact hn h
    · rw [hβ a h] at e
      cases e
  · by_cases hm : a ∈ pa
    · exact hl' a hm
    · cases e : H a with
      | none => exact absurd e (fr.live a ha)
      | some o =>
        rw [h1 a o e hm]
        exact fun q => by cases q
  · by_cases hm : a ∈ pa
    · exact ho j a xs e1 e2 hm
    · obtain ⟨fa, vs, hv, da⟩ := fr.ob j a xs e1 (hk j a xs e1 e2 hm)
      exact ⟨h2 a (by rw [hv]; exact fun q => by cases q) fa, vs, h1 a _ hv hm, dmonoA s1 da⟩
  · have h := (fr.sl i s e).mono (β := []) s1
    rw [List.append_nil] at h
    exact h
/-- the answer laid in -/
def rsOf (z : Z) : Rr → Rs | .d x => .d x | .new _ => .ptr z.o.length
def zOf (z : Z) : Rr → Z | .d _ => z | .new xs => ⟨z.s, z.o ++ [some xs]⟩
theorem Fr.answer {K : PySem.W.Frag} {F' : Hp} {α : List Addr} {σ : L2.St} {H H' : Hp} {r : Rr} {v : V} (fr : Fr K N F' α z σ H') (live : ∀ a ∈ α, H a ≠ none) (h0 : ∀ a, N.H0 a ≠ none → H a ≠ none) (hr : RrOk K H F' H' r v) :
    ∃ α', On F' F' α α' ∧ Fr K N F' α' (zOf z r) σ H' ∧ RsOk K F' α' (rsOf z r) v := by
  cases r with
  | d x => exact ⟨α, On.refl F' α, fr, hr⟩
  | new xs =>
    obtain ⟨a, vs, rfl, ha, fa, hv, da⟩ := hr
    have na : a ∉ α := fun h => live a h ha
    have h0a : N.H0 a = none := by
      cases e : N.H0 a with
      | none => rfl
      | some o => exact absurd ha (h0 a (by rw [e]; exact fun q => by cases q))
    refine ⟨α ++ [a], ⟨Same.refl F', [a], rfl⟩, ⟨fr.sub, fr.ent, fr.fz, by show (z.o ++ [some xs]).length = _; rw [List.length_append, List.length_append, fr.len]; rfl, fr.slen, ?_, ?_, fun b hb => ?_, fun j b ys e1 e2 => ?_, fun i s e => (fr.sl i s e).mono (Same.refl F')⟩, a, ?_, rfl⟩
    · refine List.nodup_append.mpr ⟨fr.nd, by simp, fun b hb c hc => ?_⟩
      have e : c = a := by simpa using hc
      rw [e]
      exact fun q => na (q ▸ hb)
    · obtain ⟨β, e, hβ⟩ := fr.pre
      refine ⟨β ++ [a], by rw [e, List.append_assoc], fun b hb => ?_⟩
      rcases List.mem_append.mp hb with hb | hb
      · exact hβ b hb
      · have e : b = a := by simpa using hb
        rw [e]
        exact h0a
    · rcases List.mem_append.mp hb with hb | hb
      · exact fr.live b hb
      · have e : b = a := by simpa using hb
        rw [e, hv]
        exact fun q => by cases q
    · have e2 : (z.o ++ [some xs])[j]? = some (some ys) := e2
      by_cases hk : j < α.length
      · rw [List.getElem?_append_left hk] at e1
        rw [List.getElem?_append_left (by rw [fr.len]; exact hk)] at e2
        exact fr.ob j b ys e1 e2
      · have hk2 : j = α.length := by
          have := (List.getElem?_eq_some_iff.mp e1).1
          rw [List.length_append] at this
          simp at this
          omega
        subst hk2
        rw [List.getElem?_append_right (Nat.le_refl _), Nat.sub_self] at e1
        have e3 : a = b := by simpa using e1
        rw [← fr.len, List.getElem?_append_right (Nat.le_refl _), Nat.sub_self] at e2
        have e4 : xs = ys := by simpa using e2
        subst e3 e4
        exact ⟨fa, vs, hv, da⟩
    · rw [fr.len, List.getElem?_append_right (Nat.le_refl _), Nat.sub_self]
      rfl
theorem Fr.live0 {K : PySem.W.Frag} {F : Hp} {α : List Addr} {σ : L2.St} {H : Hp} (fr : Fr K N F α z σ H) : ∀ a, N.H0 a ≠ none → H a ≠ none := fun a h => by
  by_cases hp : a ∈ N.pa
  · obtain ⟨β, e, _⟩ := fr.pre
    exact fr.live a (by rw [e]; exact List.mem_append_left _ hp)
  · cases e : N.H0 a with
    | none => exact absurd e h
    | some o =>
      rw [fr.ent a o e hp]
      exact fun q => by cases q

/-- the promise met, no own list handed in -/
theorem sp_call0 {K : PySem.W.Frag} {F : Hp} {α : List Addr} {σ : L2.St} {H : Hp} {Q : VK} {vs : List V} {ds : List D} {r : Rr} (fr : Fr K N F α z σ H) (da : DpAll K F vs ds) (hR : R ds [] r [])
    (q : ∀ v F' α' H', On F F' α α' → Fr K N F' α' (zOf z r) σ H' → RsOk K F' α' (rsOf z r) v → Q v H') : spG K R vs H Q E := by
  refine ⟨[], F, vs, ds, [], [], r, hR, rfl, da, fr.sub, ⟨rfl, fun k a xs e => by simp at e⟩, List.nodup_nil, rfl, fun v F' H' s1 s2 h1 h2 _ hr => ?_⟩
  have f2 : Fr K N F' α z σ H' := fr.after (pa := []) (fun a h => by cases h) z.o rfl s1 s2 h1 h2 (fun a h => by cases h) (fun j a xs _ _ h => by cases h) fun j a xs _ e _ => e
  obtain ⟨α', o3, f3, r3⟩ := f2.answer fr.live fr.live0 hr
  exact q v F' α' H' (On.trans ⟨s1, [], by simp⟩ o3) f3 r3
/-- .. the k-th own list handed in -/
theorem sp_call1 {K : PySem.W.Frag} {F : Hp} {α : List Addr} {σ : L2.St} {H : Hp} {Q : VK} {vs : List V} {ds : List D} {r : Rr} {j : Nat} {a : Addr} {xs xs' : List D} (fr : Fr K N F α z σ H) (da : DpAll K F vs ds) (hR : R ds [xs] r [xs']) (ea : α[j]? = some a) (eo : z.o[j]? = some (some xs))
    (q : ∀ v F' α' H', On F F' α α' → Fr K N F' α' (zOf ⟨z.s, z.o.set j (some xs')⟩ r) σ H' → RsOk K F' α' (rsOf ⟨z.s, z.o.set j (some xs')⟩ r) v → Q v H') : spG K R (.ref a :: vs) H Q E := by
  obtain ⟨fa, ws, hw, dw⟩ := fr.ob j a xs ea eo
  have hj : j < z.o.length := (List.getElem?_eq_some_iff.mp eo).1
  refine ⟨[a], F, vs, ds, [xs], [xs'], r, hR, rfl, da, fr.sub, ⟨rfl, fun k b ys e1 e2 => ?_⟩, by simp, rfl, fun v F' H' s1 s2 h1 h2 pk hr => ?_⟩
  · cases k with
    | zero =>
      simp at e1 e2
      subst e1 e2
      exact ⟨fa, ws, hw, dw⟩
    | succ k => simp at e1
  · obtain ⟨fa', ws', hw', dw'⟩ := pk.at_ 0 a xs' rfl rfl
    have f2 : Fr K N F' α ⟨z.s, z.o.set j (some xs')⟩ σ H' := by
      refine fr.after (pa := [a]) (fun b h => ?_) _ (by rw [List.length_set]) s1 s2 h1 h2 (fun b h => ?_) (fun i b ys e1 e2 h => ?_) fun i b ys e1 e2 h => ?_
      · have e : b = a := by simpa using h
        rw [e]
        exact List.mem_of_getElem? ea
      · have e : b = a := by simpa using h
        rw [e, hw']
        exact fun q => by cases q
      · have e : b = a := by simpa using h
        subst e
        have ij : i = j := by
          obtain ⟨g1, q1⟩ := List.getElem?_eq_some_iff.mp e1
          obtain ⟨g2, q2⟩ := List.getElem?_eq_some_iff.mp ea
          exact (List.getElem_inj fr.nd).mp (q1.trans q2.symm)
        subst ij
        rw [List.getElem?_set_self hj] at e2
        cases e2
        exact ⟨fa', ws', hw', dw'⟩
      · have ij : j ≠ i := fun q => by
          subst q
          rw [ea] at e1
          cases e1
          exact h (by simp)
        rw [List.getElem?_set_ne ij] at e2
        exact e2
    obtain ⟨α', o3, f3, r3⟩ := f2.answer fr.live fr.live0 hr
    exact q v F' α' H' (On.trans ⟨s1, [], by simp⟩ o3) f3 r3
/-- f(e, ..) -/
theorem de_call {ds : List D} {r : Rr} (G : FnOk X.prog X.w X.K X.mg X.base CX k f fd ps (spG X.K R)) (hr : Room k X.A) (hg : Gl X x) (hm : X.mg x = some (.ref f)) (hk : PySem.W.keepIn X.K (.ref f) = true) (hb : Binds X.K fd ps []) (hx : Passes CX X E)
    (ha : DAd X N z (e :: es) ds z1) (hR : R ds [] r []) (hdb : (x == ("__debug__" : Str)) = false := by decide) (he : starEach (e :: es) X.env = (false, eval e X.env) :: starEach es X.env := by rfl) (hpl : (backTo pos (starEach es X.env)).any (·.1) = false := by rfl) :
    DE X N z (.Call (.Name x p) (e :: es) [] pos) (rsOf z1 r) (zOf z1 r) :=
  PE.to (pe_call G hr hg hm hk hb .nil hx ha hdb he hpl) fun σ H Q ⟨F, α, fr, q⟩ => ⟨F, α, fr, fun vs F1 α1 H1 o1 fr1 d1 => by
    show spG X.K R (vs ++ []) H1 Q E
    rw [List.append_nil]
    exact sp_call0 fr1 d1 hR fun v F2 α2 H2 o2 f2 r2 => q v F2 α2 H2 (o1.trans o2) f2 r2⟩
theorem de_call1 {ds : List D} {r : Rr} {j : Nat} {xs xs' : List D} (G : FnOk X.prog X.w X.K X.mg X.base CX k f fd ps (spG X.K R)) (hr : Room k X.A) (hg : Gl X x) (hm : X.mg x = some (.ref f)) (hk : PySem.W.keepIn X.K (.ref f) = true) (hb : Binds X.K fd ps []) (hx : Passes CX X E)
    (ha : DAp X N z (e :: es) j ds z1) (eo : z1.o[j]? = some (some xs)) (hR : R ds [xs] r [xs']) (hdb : (x == ("__debug__" : Str)) = false := by decide) (he : starEach (e :: es) X.env = (false, eval e X.env) :: starEach es X.env := by rfl) (hpl : (backTo pos (starEach es X.env)).any (·.1) = false := by rfl) :
    DE X N z (.Call (.Name x p) (e :: es) [] pos) (rsOf ⟨z1.s, z1.o.set j (some xs')⟩ r) (zOf ⟨z1.s, z1.o.set j (some xs')⟩ r) :=
  PE.to (pe_call G hr hg hm hk hb .nil hx ha hdb he hpl) fun σ H Q ⟨F, α, fr, q⟩ => ⟨F, α, fr, fun a vs F1 α1 H1 o1 fr1 ea d1 => by
    show spG X.K R (V.ref a :: vs ++ []) H1 Q E
    rw [List.append_nil]
    exact sp_call1 fr1 d1 hR ea eo fun v F2 α2 H2 o2 f2 r2 => q v F2 α2 H2 (o1.trans o2) f2 r2⟩
end

/-! ### a def's body -/
def z0 (N : List Str) (π : List (List D)) (as : List D) : Z := ⟨(List.range π.length).map Sl.ptr ++ as.map Sl.d ++ List.replicate (N.length - (π.length + as.length)) Sl.no, π.map some⟩
def rrRs (π' : List (List D)) (r : Rr) (q : Rs) (z : Z) : Prop :=
  (∀ (j : Nat) (xs : List D), π'[j]? = some xs → z.o[j]? = some (some xs)) ∧ match r with | .d x => q = .d x | .new xs => ∃ k, q = .ptr k ∧ π'.length ≤ k ∧ z.o[k]? = some (some xs)
section
variable {P : Program} {w : World} {K : PySem.W.Frag} {mg : Str → Option Value} {base : Heap}
theorem mk_fn {x qual : Str} {st : Stmt} {f : Addr} {fd : FuncData} {Nm ps : List Str} {k : Nat} {R : List D → List (List D) → Rr → List (List D) → Prop} (F : Fun K x qual st f fd) (S : FnScope Nm ps (defScope st))
    (len : ∀ as π r π', R as π r π' → π.length + as.length = ps.length ∧ π.length = π'.length)
    (body : ∀ (cdv : Value) (A : Around) (outer : List Env) (s : Shared) (H : Hp) (E : XK) (N : EN) (as : List D) (π : List (List D)) (r : Rr) (π' : List (List D)), Room k (A.deeper (envOfC qual (defScope st) s.heap.objs.size f cdv)) → N.pa.length = π.length → R as π r π' →
      DS (cxOf CX0 P w K mg base Nm qual (defScope st) f cdv A outer s H E).nox N (z0 Nm π as) (defBody st) (fun z => rrRs π' r (.d .none) z) (fun q z => rrRs π' r q z)) :
    FnOk P w K mg base CX0 (k + 1) f fd ps (spG K R) := by
  refine F.ok S (fun vs H Q E h => ?_) (fun cdv A outer s H vs Q E hr h => ?_)
  · obtain ⟨pa, F, ws, as, π, π', r, hR, rfl, da, _, pk, _⟩ := h
    rw [List.length_append, List.length_map, DpAll.len da, pk.len]
    exact (len as π r π' hR).1
  · obtain ⟨pa, F0, ws, as, π, π', r, hR, rfl, da, sF, pk, nd, hl', q⟩ := h
    have hlen := (len as π r π' hR).1
    have hps : ps.length ≤ Nm.length := by have := congrArg List.length S.pre; rw [List.length_take] at this; omega
    have hda := DpAll.len da
    have hpl := pk.len
    have fr0 : Fr K ⟨H, F0, pa⟩ F0 pa (z0 Nm π as) (L2.start Nm (pa.map V.ref ++ ws)) H := by
      refine ⟨sF, fun a o e _ => e, fun a _ e => e, by show (π.map some).length = _; rw [List.length_map]; exact hpl.symm, ?_, nd, ⟨[], by simp, fun b h => by cases h⟩, fun a ha e => ?_, fun j a xs e1 e2 => ?_, fun i t e => ?_⟩
      · show ((List.range π.length).map Sl.ptr ++ as.map Sl.d ++ List.replicate (Nm.length - (π.length + as.length)) Sl.no).length = (L2.start Nm (pa.map V.ref ++ ws)).length
        unfold L2.start
        simp only [List.length_append, List.length_map, List.length_range, List.length_replicate]
        omega
      · obtain ⟨j, hj⟩ := List.getElem?_of_mem ha
        have hj2 : j < π.length := by rw [← hpl]; exact (List.getElem?_eq_some_iff.mp hj).1
        obtain ⟨_, vs, hv, _⟩ := pk.at_ j a π[j] hj (List.getElem?_eq_getElem hj2)
        have e : H a = none := e
        rw [hv] at e
        cases e
      · have e2 : (π.map some)[j]? = some (some xs) := e2
        rw [List.getElem?_map] at e2
        cases q2 : π[j]? with
        | none => rw [q2] at e2; cases e2
        | some ys =>
          rw [q2] at e2
          have e3 : ys = xs := by simpa using e2
          subst e3
          exact pk.at_ j a ys e1 q2
      · have e : ((List.range π.length).map Sl.ptr ++ as.map Sl.d ++ List.replicate (Nm.length - (π.length + as.length)) Sl.no)[i]? = some t := e
        show SlOk K F0 pa t (L2.start Nm (pa.map V.ref ++ ws))[i]?
        by_cases h1 : i < π.length
        · rw [List.append_assoc, List.getElem?_append_left (by simpa using h1), List.getElem?_map, List.getElem?_range h1] at e
          have e3 : Sl.ptr i = t := by simpa using e
          subst e3
          have hi : i < pa.length := by omega
          refine ⟨pa[i], List.getElem?_eq_getElem hi, ?_⟩
          unfold L2.start
          rw [List.getElem?_append_left (by simp; omega), List.getElem?_map, List.getElem?_append_left (by simpa using hi), List.getElem?_map, List.getElem?_eq_getElem hi]
          rfl
        · by_cases h2 : i < π.length + as.length
          · rw [List.getElem?_append_left (by simp; omega), List.getElem?_append_right (by simp; omega), List.getElem?_map] at e
            simp only [List.length_map, List.length_range] at e
            have h3 : i - π.length < as.length := by omega
            rw [List.getElem?_eq_getElem h3] at e
            have e3 : Sl.d as[i - π.length] = t := by simpa using e
            subst e3
            obtain ⟨v, hv, dv⟩ := DpAll.get da (List.getElem?_eq_getElem h3)
            refine ⟨v, ?_, dv⟩
            unfold L2.start
            rw [List.getElem?_append_left (by simp; omega), List.getElem?_map, List.getElem?_append_right (by simp; omega), List.length_map, hpl, hv]
            rfl
          · rw [List.getElem?_append_right (by simp; omega)] at e
            have := List.mem_of_getElem? e
            have e3 : t = Sl.no := List.eq_of_mem_replicate this
            subst e3
            trivial
    have fin : ∀ (v : V) (σ' : L2.St) (F' : Hp) (α' : List Addr) (H' : Hp) (rr : Rs) (z' : Z), Same F0 F' → Fr K ⟨H, F0, pa⟩ F' α' z' σ' H' → RsOk K F' α' rr v → rrRs π' r rr z' → Q v H' := by
        intro v σ' F' α' H' rr z' s1 fr1 r1 ⟨hp', hq⟩
        obtain ⟨β, eα, hβ⟩ := fr1.pre
        have eα : α' = pa ++ β := eα
        have hβ : ∀ b ∈ β, H b = none := hβ
        refine q v F' H' s1 fr1.sub (fun b o e hn => fr1.ent b o e hn) (fun b e1 e2 => fr1.fz b e1 e2) ⟨by omega, fun j a xs e1 e2 => ?_⟩ ?_
        · refine fr1.ob j a xs ?_ (hp' j xs e2)
          rw [eα, List.getElem?_append_left (List.getElem?_eq_some_iff.mp e1).1]
          exact e1
        · cases r with
          | d x =>
            have hq : rr = .d x := hq
            subst hq
            exact r1
          | new xs =>
            obtain ⟨j, e1, e2, e3⟩ := hq
            subst e1
            obtain ⟨a, e4, rfl⟩ := r1
            obtain ⟨fa, vs, hv, da'⟩ := fr1.ob j a xs e4 e3
            refine ⟨a, vs, rfl, ?_, fa, hv, da'⟩
            rw [eα, List.getElem?_append_right (by omega)] at e4
            exact hβ a (List.mem_of_getElem? e4)
    refine ⟨_, body cdv A outer s H E ⟨H, F0, pa⟩ as π r π' hr hpl hR, F0, pa, fr0, ?_, ?_⟩
    · intro σ' F' α' H' z' s1 fr1 h
      exact fin .non σ' F' α' H' (.d .none) z' s1 fr1 .non h
    · intro v σ' F' α' H' rr z' s1 fr1 r1 h
      exact fin v σ' F' α' H' rr z' s1 fr1 r1 h
end
end DL
/-! DL6: built-ins, subscripts, slices, lists' methods -/
namespace DL
open PySem PySem.Spec PyProof.Rows L2

section
variable {X : Cx} {N : EN} {z z1 z2 z3 : Z} {pos p p2 : Pos} {a b e : Expr} {es : List Expr} {x : Str} {nx : Z → Prop} {rt : Rs → Z → Prop}
/-! ### built-ins -/
theorem de_bt {id : String} {r : List V → Hp → VK → Prop} {ds : List D} {rw : Rs} (hc : CallR X (.builtin id) r) (hg : Gl X x) (hm : X.mg x = none) (hv : bootBuiltins x = some (.builtin id)) (ha : DAd X N z (e :: es) ds z1)
    (hr : ∀ (F : Hp) (α : List Addr) (σ : L2.St) (vs : List V) (H : Hp) (Q : VK), Fr X.K N F α z1 σ H → DpAll X.K F vs ds → (∀ o F' α' H', On F F' α α' → Fr X.K N F' α' z2 σ H' → RsOk X.K F' α' rw o → Q o H') → r vs H Q)
    (hn : x ≠ "__name__" := by decide) (hdb : (x == ("__debug__" : Str)) = false := by decide)
    (he : starEach (e :: es) X.env = (false, eval e X.env) :: starEach es X.env := by rfl) (hpl : (backTo pos (starEach es X.env)).any (·.1) = false := by rfl) : DE X N z (.Call (.Name x p) (e :: es) [] pos) rw z2 :=
  PE.to (pe_callB hc hg hm hv ha hn hdb he hpl) fun σ H Q ⟨F, α, fr, q⟩ => ⟨F, α, fr, fun vs F1 α1 H1 o1 fr1 d1 => hr F1 α1 σ vs H1 Q fr1 d1 fun o F2 α2 H2 o2 f2 r2 => q o F2 α2 H2 (o1.trans o2) f2 r2⟩
theorem de_ty {T : String} {r : List V → Hp → VK → Prop} {ds : List D} {rw : Rs} (hc : CallR X (.type T) r) (hg : Gl X x) (hm : X.mg x = none) (hv : bootBuiltins x = some (.type T)) (ha : DAd X N z (e :: es) ds z1)
    (hr : ∀ (F : Hp) (α : List Addr) (σ : L2.St) (vs : List V) (H : Hp) (Q : VK), Fr X.K N F α z1 σ H → DpAll X.K F vs ds → (∀ o F' α' H', On F F' α α' → Fr X.K N F' α' z2 σ H' → RsOk X.K F' α' rw o → Q o H') → r vs H Q)
    (hn : x ≠ "__name__" := by decide) (hdb : (x == ("__debug__" : Str)) = false := by decide)
    (he : starEach (e :: es) X.env = (false, eval e X.env) :: starEach es X.env := by rfl) (hpl : (backTo pos (starEach es X.env)).any (·.1) = false := by rfl) : DE X N z (.Call (.Name x p) (e :: es) [] pos) rw z2 :=
  PE.to (pe_callTy hc hg hm hv ha hn hdb he hpl) fun σ H Q ⟨F, α, fr, q⟩ => ⟨F, α, fr, fun vs F1 α1 H1 o1 fr1 d1 => hr F1 α1 σ vs H1 Q fr1 d1 fun o F2 α2 H2 o2 f2 r2 => q o F2 α2 H2 (o1.trans o2) f2 r2⟩
/-- .. an own list handed in first -/
theorem de_btP {id : String} {r : List V → Hp → VK → Prop} {ds : List D} {k : Nat} {rw : Rs} (hc : CallR X (.builtin id) r) (hg : Gl X x) (hm : X.mg x = none) (hv : bootBuiltins x = some (.builtin id)) (ha : DAp X N z (e :: es) k ds z1)
    (hr : ∀ (F : Hp) (α : List Addr) (σ : L2.St) (c : Addr) (vs : List V) (H : Hp) (Q : VK), Fr X.K N F α z1 σ H → α[k]? = some c → DpAll X.K F vs ds → (∀ o F' α' H', On F F' α α' → Fr X.K N F' α' z2 σ H' → RsOk X.K F' α' rw o → Q o H') → r (.ref c :: vs) H Q)
    (hn : x ≠ "__name__" := by decide) (hdb : (x == ("__debug__" : Str)) = false := by decide)
    (he : starEach (e :: es) X.env = (false, eval e X.env) :: starEach es X.env := by rfl) (hpl : (backTo pos (starEach es X.env)).any (·.1) = false := by rfl) : DE X N z (.Call (.Name x p) (e :: es) [] pos) rw z2 :=
  PE.to (pe_callB hc hg hm hv ha hn hdb he hpl) fun σ H Q ⟨F, α, fr, q⟩ => ⟨F, α, fr, fun c vs F1 α1 H1 o1 fr1 ec d1 => hr F1 α1 σ c vs H1 Q fr1 ec d1 fun o F2 α2 H2 o2 f2 r2 => q o F2 α2 H2 (o1.trans o2) f2 r2⟩
theorem de_tyP {T : String} {r : List V → Hp → VK → Prop} {ds : List D} {k : Nat} {rw : Rs} (hc : CallR X (.type T) r) (hg : Gl X x) (hm : X.mg x = none) (hv : bootBuiltins x = some (.type T)) (ha : DAp X N z (e :: es) k ds z1)
    (hr : ∀ (F : Hp) (α : List Addr) (σ : L2.St) (c : Addr) (vs : List V) (H : Hp) (Q : VK), Fr X.K N F α z1 σ H → α[k]? = some c → DpAll X.K F vs ds → (∀ o F' α' H', On F F' α α' → Fr X.K N F' α' z2 σ H' → RsOk X.K F' α' rw o → Q o H') → r (.ref c :: vs) H Q)
    (hn : x ≠ "__name__" := by decide) (hdb : (x == ("__debug__" : Str)) = false := by decide)
    (he : starEach (e :: es) X.env = (false, eval e X.env) :: starEach es X.env := by rfl) (hpl : (backTo pos (starEach es X.env)).any (·.1) = false := by rfl) : DE X N z (.Call (.Name x p) (e :: es) [] pos) rw z2 :=
  PE.to (pe_callTy hc hg hm hv ha hn hdb he hpl) fun σ H Q ⟨F, α, fr, q⟩ => ⟨F, α, fr, fun c vs F1 α1 H1 o1 fr1 ec d1 => hr F1 α1 σ c vs H1 Q fr1 ec d1 fun o F2 α2 H2 o2 f2 r2 => q o F2 α2 H2 (o1.trans o2) f2 r2⟩
/-- one data argument -/
theorem DpAll.one {K : PySem.W.Frag} {F : Hp} {vs : List V} {d : D} (h : DpAll K F vs [d]) : ∃ v, vs = [v] ∧ Dp K F v d := by
  cases h with
  | cons r t => cases t; exact ⟨_, rfl, r⟩
theorem DpAll.two {K : PySem.W.Frag} {F : Hp} {vs : List V} {d d' : D} (h : DpAll K F vs [d, d']) : ∃ v v', vs = [v, v'] ∧ Dp K F v d ∧ Dp K F v' d' := by
  cases h with
  | cons r t =>
    cases t with
    | cons r' t => cases t; exact ⟨_, _, rfl, r, r'⟩
/-- the list at an own place, read -/
theorem Fr.seq {K : PySem.W.Frag} {F : Hp} {α : List Addr} {σ : L2.St} {H : Hp} (fr : Fr K N F α z σ H) {k : Nat} {c : Addr} {xs : List D} (ec : α[k]? = some c) (eo : z.o[k]? = some (some xs)) : ∃ vs, H c = some (.lst vs) ∧ SqL K H c vs ∧ DpAll K F vs xs := by
  obtain ⟨_, vs, hv, da⟩ := fr.ob k c xs ec eo
  exact ⟨vs, hv, SqL.of hv, da⟩
variable {xs ys : List D} {k : Nat} {i j : Int}
abbrev S1 (X : Cx) (e : Expr) : Prop := starEach [e] X.env = (false, eval e X.env) :: starEach [] X.env
abbrev S2 (X : Cx) (e e' : Expr) : Prop := starEach [e, e'] X.env = (false, eval e X.env) :: starEach [e'] X.env
/-- len -/
theorem de_lenT (hg : Gl X "len") (hm : X.mg "len" = none) (h : DE X N z e (.d (.tuple xs)) z1) (hs : S1 X e := by rfl) : DE X N z (.Call (.Name "len" p) [e] [] pos) (.d (.int xs.length)) z1 :=
  de_bt call_len_seq hg hm PySem.boot_len (da_cons h da_nil hs) (fun F α σ vs H Q fr d q => by
    obtain ⟨v, rfl, dd⟩ := DpAll.one d
    obtain ⟨c, ws, rfl, h1, h2, h3⟩ := SqT_of_dp dd fr.sub
    refine ⟨c, ws, rfl, .inr h1, ?_⟩
    rw [DpAll.len h3]
    exact q _ F α H (On.refl F α) fr (.int _)) (he := hs)
theorem de_lenL (hg : Gl X "len") (hm : X.mg "len" = none) (h : DE X N z e (.d (.list xs)) z1) (hs : S1 X e := by rfl) : DE X N z (.Call (.Name "len" p) [e] [] pos) (.d (.int xs.length)) z1 :=
  de_bt call_len_seq hg hm PySem.boot_len (da_cons h da_nil hs) (fun F α σ vs H Q fr d q => by
    obtain ⟨v, rfl, dd⟩ := DpAll.one d
    obtain ⟨c, ws, rfl, h1, h2, h3⟩ := SqL_of_dp dd fr.sub
    refine ⟨c, ws, rfl, .inl h1, ?_⟩
    rw [DpAll.len h3]
    exact q _ F α H (On.refl F α) fr (.int _)) (he := hs)
theorem de_lenP (hg : Gl X "len") (hm : X.mg "len" = none) (h : DE X N z e (.ptr k) z1) (eo : z1.o[k]? = some (some xs) := by rfl) (hs : S1 X e := by rfl) : DE X N z (.Call (.Name "len" p) [e] [] pos) (.d (.int xs.length)) z1 :=
  de_btP call_len_seq hg hm PySem.boot_len (dap_cons h da_nil hs) (fun F α σ c vs H Q fr ec d q => by
    cases d
    obtain ⟨ws, hv, hs, da⟩ := fr.seq ec eo
    refine ⟨c, ws, rfl, .inl hs, ?_⟩
    rw [DpAll.len da]
    exact q _ F α H (On.refl F α) fr (.int _)) (he := hs)
/-- tuple(list) -/
theorem de_tupL (hg : Gl X "tuple") (hm : X.mg "tuple" = none) (h : DE X N z e (.d (.list xs)) z1) (hs : S1 X e := by rfl) : DE X N z (.Call (.Name "tuple" p) [e] [] pos) (.d (.tuple xs)) z1 :=
  de_ty call_tuple_of hg hm (by decide +kernel) (da_cons h da_nil hs) (fun F α σ vs H Q fr d q => by
    obtain ⟨v, rfl, dd⟩ := DpAll.one d
    obtain ⟨c, ws, rfl, h1, h2, h3⟩ := SqL_of_dp dd fr.sub
    refine ⟨c, ws, rfl, .inl ⟨h1, fun l hl => ?_⟩⟩
    obtain ⟨o2, fr2⟩ := fr.ext (o := .tup ws) hl
    exact q _ _ α _ o2 fr2 (.tup (SqT.of upd_same) (dmonoA o2.f h3))) (he := hs)
theorem de_tupT (hg : Gl X "tuple") (hm : X.mg "tuple" = none) (h : DE X N z e (.d (.tuple xs)) z1) (hs : S1 X e := by rfl) : DE X N z (.Call (.Name "tuple" p) [e] [] pos) (.d (.tuple xs)) z1 :=
  de_ty call_tuple_of hg hm (by decide +kernel) (da_cons h da_nil hs) (fun F α σ vs H Q fr d q => by
    obtain ⟨v, rfl, dd⟩ := DpAll.one d
    obtain ⟨c, ws, rfl, h1, h2, h3⟩ := SqT_of_dp dd fr.sub
    exact ⟨c, ws, rfl, .inr ⟨h1, q _ F α H (On.refl F α) fr dd⟩⟩) (he := hs)
theorem de_tupP (hg : Gl X "tuple") (hm : X.mg "tuple" = none) (h : DE X N z e (.ptr k) z1) (eo : z1.o[k]? = some (some xs)) (hs : S1 X e := by rfl) : DE X N z (.Call (.Name "tuple" p) [e] [] pos) (.d (.tuple xs)) z1 :=
  de_tyP call_tuple_of hg hm (by decide +kernel) (dap_cons h da_nil hs) (fun F α σ c vs H Q fr ec d q => by
    cases d
    obtain ⟨ws, hv, hs, da⟩ := fr.seq ec eo
    refine ⟨c, ws, rfl, .inl ⟨hs, fun l hl => ?_⟩⟩
    obtain ⟨o2, fr2⟩ := fr.ext (o := .tup ws) hl
    exact q _ _ α _ o2 fr2 (.tup (SqT.of upd_same) (dmonoA o2.f da))) (he := hs)
/-- list(..) -/
theorem de_listT (hg : Gl X "list") (hm : X.mg "list" = none) (h : DE X N z e (.d (.tuple xs)) z1) (hs : S1 X e := by rfl) : DE X N z (.Call (.Name "list" p) [e] [] pos) (.ptr z1.o.length) ⟨z1.s, z1.o ++ [some xs]⟩ :=
  de_ty call_list_of hg hm (by decide +kernel) (da_cons h da_nil hs) (fun F α σ vs H Q fr d q => by
    obtain ⟨v, rfl, dd⟩ := DpAll.one d
    obtain ⟨c, ws, rfl, h1, h2, h3⟩ := SqT_of_dp dd fr.sub
    refine ⟨c, ws, rfl, .inr h1, fun l hl => ?_⟩
    obtain ⟨o2, fr2, e2⟩ := fr.new hl h3
    exact q _ _ _ _ o2 fr2 ⟨l, e2, rfl⟩) (he := hs)
theorem de_listL (hg : Gl X "list") (hm : X.mg "list" = none) (h : DE X N z e (.d (.list xs)) z1) (hs : S1 X e := by rfl) : DE X N z (.Call (.Name "list" p) [e] [] pos) (.ptr z1.o.length) ⟨z1.s, z1.o ++ [some xs]⟩ :=
  de_ty call_list_of hg hm (by decide +kernel) (da_cons h da_nil hs) (fun F α σ vs H Q fr d q => by
    obtain ⟨v, rfl, dd⟩ := DpAll.one d
    obtain ⟨c, ws, rfl, h1, h2, h3⟩ := SqL_of_dp dd fr.sub
    refine ⟨c, ws, rfl, .inl h1, fun l hl => ?_⟩
    obtain ⟨o2, fr2, e2⟩ := fr.new hl h3
    exact q _ _ _ _ o2 fr2 ⟨l, e2, rfl⟩) (he := hs)
/-- sum of an own list of ints -/
theorem de_sumP {ns : List Int} (hc : X.calm = true) (hg : Gl X "sum") (hm : X.mg "sum" = none) (h : DE X N z e (.ptr k) z1) (eo : z1.o[k]? = some (some (ns.map PyData.int))) (hs : S1 X e := by rfl) : DE X N z (.Call (.Name "sum" p) [e] [] pos) (.d (.int ns.sum)) z1 :=
  de_btP (cr_sum hc) hg hm (by decide +kernel) (dap_cons h da_nil hs) (fun F α σ c vs H Q fr ec d q => by
    cases d
    obtain ⟨ws, hv, hs, da⟩ := fr.seq ec eo
    have e := DpAll.ints da
    subst e
    exact ⟨c, ns, rfl, hs, q _ F α H (On.refl F α) fr (.int _)⟩) (he := hs)
theorem de_sumL {ns : List Int} (hc : X.calm = true) (hg : Gl X "sum") (hm : X.mg "sum" = none) (h : DE X N z e (.d (.list (ns.map PyData.int))) z1) (hs : S1 X e := by rfl) : DE X N z (.Call (.Name "sum" p) [e] [] pos) (.d (.int ns.sum)) z1 :=
  de_bt (cr_sum hc) hg hm (by decide +kernel) (da_cons h da_nil hs) (fun F α σ vs H Q fr d q => by
    obtain ⟨v, rfl, dd⟩ := DpAll.one d
    obtain ⟨c, ws, rfl, h1, h2, h3⟩ := SqL_of_dp dd fr.sub
    have e := DpAll.ints h3
    subst e
    exact ⟨c, ns, rfl, h1, q _ F α H (On.refl F α) fr (.int _)⟩) (he := hs)
theorem de_abs (hg : Gl X "abs") (hm : X.mg "abs" = none) (h : DE X N z e (.d (.int i)) z1) (hs : S1 X e := by rfl) : DE X N z (.Call (.Name "abs" p) [e] [] pos) (.d (.int i.natAbs)) z1 :=
  de_bt call_abs hg hm (by decide +kernel) (da_cons h da_nil hs) (fun F α σ vs H Q fr d q => by
    obtain ⟨v, rfl, dd⟩ := DpAll.one d
    cases dd
    refine ⟨i, rfl, ?_⟩
    have e : (if i < 0 then -i else i) = (i.natAbs : Int) := by split <;> omega
    rw [e]
    exact q _ F α H (On.refl F α) fr (.int _)) (he := hs)
theorem de_max2 (hc : X.calm = true) (hg : Gl X "max") (hm : X.mg "max" = none) (h : DE X N z a (.d (.int i)) z1) (h' : DE X N z1 b (.d (.int j)) z2) (hs : S2 X a b := by rfl) (hs' : S1 X b := by rfl) (hpl : (backTo pos (starEach [b] X.env)).any (·.1) = false := by rfl) : DE X N z (.Call (.Name "max" p) [a, b] [] pos) (.d (.int (max i j))) z2 :=
  de_bt (call_max2 hc) hg hm (by decide +kernel) (da_cons h (da_cons h' da_nil hs') hs) (fun F α σ vs H Q fr d q => by
    obtain ⟨v, v', rfl, dd, dd'⟩ := DpAll.two d
    cases dd
    cases dd'
    refine ⟨i, j, rfl, ?_⟩
    have e : (if j > i then j else i) = max i j := by omega
    rw [e]
    exact q _ F α H (On.refl F α) fr (.int _)) (he := hs) (hpl := hpl)
theorem de_min2 (hc : X.calm = true) (hg : Gl X "min") (hm : X.mg "min" = none) (h : DE X N z a (.d (.int i)) z1) (h' : DE X N z1 b (.d (.int j)) z2) (hs : S2 X a b := by rfl) (hs' : S1 X b := by rfl) (hpl : (backTo pos (starEach [b] X.env)).any (·.1) = false := by rfl) : DE X N z (.Call (.Name "min" p) [a, b] [] pos) (.d (.int (min i j))) z2 :=
  de_bt (call_min2 hc) hg hm (by decide +kernel) (da_cons h (da_cons h' da_nil hs') hs) (fun F α σ vs H Q fr d q => by
    obtain ⟨v, v', rfl, dd, dd'⟩ := DpAll.two d
    cases dd
    cases dd'
    refine ⟨i, j, rfl, ?_⟩
    have e : (if j < i then j else i) = min i j := by omega
    rw [e]
    exact q _ F α H (On.refl F α) fr (.int _)) (he := hs) (hpl := hpl)
theorem de_intB {t : Bool} (hg : Gl X "int") (hm : X.mg "int" = none) (h : DE X N z e (.d (.bool t)) z1) (hs : S1 X e := by rfl) : DE X N z (.Call (.Name "int" p) [e] [] pos) (.d (.int (if t = true then 1 else 0))) z1 :=
  de_ty call_int1 hg hm (by decide +kernel) (da_cons h da_nil hs) (fun F α σ vs H Q fr d q => by
    obtain ⟨v, rfl, dd⟩ := DpAll.one d
    cases dd
    refine .inr ⟨t, rfl, ?_⟩
    exact q _ F α H (On.refl F α) fr (.int _)) (he := hs)
theorem de_allP {ns : List Bool} (hc : X.calm = true) (hg : Gl X "all") (hm : X.mg "all" = none) (h : DE X N z e (.ptr k) z1) (eo : z1.o[k]? = some (some (ns.map PyData.bool))) (hs : S1 X e := by rfl) : DE X N z (.Call (.Name "all" p) [e] [] pos) (.d (.bool (ns.all id))) z1 :=
  de_btP (cr_all hc) hg hm (by decide +kernel) (dap_cons h da_nil hs) (fun F α σ c vs H Q fr ec d q => by
    cases d
    obtain ⟨ws, hv, hs, da⟩ := fr.seq ec eo
    have e := DpAll.bools da
    subst e
    exact ⟨c, ns, rfl, hs, q _ F α H (On.refl F α) fr (.bl _)⟩) (he := hs)
theorem de_anyP {ns : List Bool} (hc : X.calm = true) (hg : Gl X "any") (hm : X.mg "any" = none) (h : DE X N z e (.ptr k) z1) (eo : z1.o[k]? = some (some (ns.map PyData.bool))) (hs : S1 X e := by rfl) : DE X N z (.Call (.Name "any" p) [e] [] pos) (.d (.bool (ns.any id))) z1 :=
  de_btP (cr_any hc) hg hm (by decide +kernel) (dap_cons h da_nil hs) (fun F α σ c vs H Q fr ec d q => by
    cases d
    obtain ⟨ws, hv, hs, da⟩ := fr.seq ec eo
    have e := DpAll.bools da
    subst e
    exact ⟨c, ns, rfl, hs, q _ F α H (On.refl F α) fr (.bl _)⟩) (he := hs)

/-! ### subscripts -/
theorem atI_all {K : PySem.W.Frag} {F : Hp} {vs : List V} {d : D} (h : DpAll K F vs xs) (e : atI xs i = some d) : ∃ v, atI vs i = some v ∧ Dp K F v d := by
  unfold atI at e ⊢
  rw [DpAll.len h]
  cases q : ixN xs.length i with
  | none => rw [q] at e; cases e
  | some j =>
    rw [q] at e
    exact DpAll.get h e
theorem de_ixT {d : D} (ha : DE X N z a (.d (.tuple xs)) z1) (hb : DE X N z1 b (.d (.int i)) z2) (h : atI xs i = some d) (hs : PlainIx b := by exact fun _ _ => rfl) : DE X N z (.Subscript a b pos) (.d d) z2 :=
  PE.to (pe_ix ix_tup ha hb hs) fun σ H Q ⟨F, α, fr, q⟩ => ⟨F, α, fr, fun v F1 α1 H1 o1 fr1 d1 => ⟨F1, α1, fr1, fun u F2 α2 H2 o2 fr2 d2 => by
    obtain ⟨c, vs, rfl, h1, h2, h3⟩ := SqT_of_dp (o2.dp (show Dp X.K F1 v (.tuple xs) from d1)) fr2.sub
    cases (d2 : Dp X.K F2 u (.int i))
    obtain ⟨w, e1, dw⟩ := atI_all h3 h
    exact ⟨c, vs, i, w, rfl, rfl, h1, e1, q _ F2 α2 H2 (o1.trans o2) fr2 dw⟩⟩⟩
theorem de_ixL {d : D} (ha : DE X N z a (.d (.list xs)) z1) (hb : DE X N z1 b (.d (.int i)) z2) (h : atI xs i = some d) (hs : PlainIx b := by exact fun _ _ => rfl) : DE X N z (.Subscript a b pos) (.d d) z2 :=
  PE.to (pe_ix ix_list ha hb hs) fun σ H Q ⟨F, α, fr, q⟩ => ⟨F, α, fr, fun v F1 α1 H1 o1 fr1 d1 => ⟨F1, α1, fr1, fun u F2 α2 H2 o2 fr2 d2 => by
    obtain ⟨c, vs, rfl, h1, h2, h3⟩ := SqL_of_dp (o2.dp (show Dp X.K F1 v (.list xs) from d1)) fr2.sub
    cases (d2 : Dp X.K F2 u (.int i))
    obtain ⟨w, e1, dw⟩ := atI_all h3 h
    exact ⟨c, vs, i, w, rfl, rfl, h1, e1, q _ F2 α2 H2 (o1.trans o2) fr2 dw⟩⟩⟩
theorem de_ixP {d : D} (ha : DE X N z a (.ptr k) z1) (hb : DE X N z1 b (.d (.int i)) z2) (eo : z2.o[k]? = some (some xs)) (h : atI xs i = some d) (hs : PlainIx b := by exact fun _ _ => rfl) : DE X N z (.Subscript a b pos) (.d d) z2 :=
  PE.to (pe_ix ix_list ha hb hs) fun σ H Q ⟨F, α, fr, q⟩ => ⟨F, α, fr, fun v F1 α1 H1 o1 fr1 d1 => ⟨F1, α1, fr1, fun u F2 α2 H2 o2 fr2 d2 => by
    obtain ⟨c, ec, rfl⟩ := o2.rs d1
    obtain ⟨vs, hv, hs, da⟩ := fr2.seq ec eo
    cases (d2 : Dp X.K F2 u (.int i))
    obtain ⟨w, e1, dw⟩ := atI_all da h
    exact ⟨c, vs, i, w, rfl, rfl, hs, e1, q _ F2 α2 H2 (o1.trans o2) fr2 dw⟩⟩⟩
theorem atI_at {ds : List D} {j : Nat} {d : D} (h : ds[j]? = some d) : atI ds (j : Int) = some d := atI_nat h
theorem atI_int {ns : List Int} (h0 : 0 ≤ i) (h1 : i < ns.length) : atI (ns.map PyData.int) i = some (.int (ns.getD i.toNat 0)) := by
  have e : ((i.toNat : Nat) : Int) = i := by omega
  have hl : i.toNat < ns.length := by omega
  have q : (ns.map PyData.int)[i.toNat]? = some (.int (ns.getD i.toNat 0)) := by
    rw [List.getElem?_map, List.getElem?_eq_getElem hl, List.getD_eq_getElem?_getD, List.getElem?_eq_getElem hl]
    rfl
  have := atI_nat q
  rw [e] at this
  exact this

/-! ### slices -/
def cutG {α : Type} (xs : List α) (lo hi : Option Int) : List α := (xs.drop (HT.sIx xs.length 0 lo)).take (HT.sIx xs.length xs.length hi - HT.sIx xs.length 0 lo)
theorem cut_all {K : PySem.W.Frag} {F : Hp} {vs : List V} (h : DpAll K F vs xs) (lo hi : Option Int) : DpAll K F (cutV vs lo hi) (cutG xs lo hi) := by
  unfold cutV cutG
  rw [DpAll.len h]
  exact DpAll.cut h _ _
theorem cutG_whole {α : Type} {xs : List α} {lo hi : Option Int} (h : HT.sIx xs.length 0 lo = 0 ∧ HT.sIx xs.length xs.length hi = xs.length) : cutG xs lo hi = xs := by
  unfold cutG
  rw [h.1, h.2]
  simp
theorem cutG_map {α β : Type} (g : α → β) (xs : List α) (lo hi : Option Int) : cutG (xs.map g) lo hi = (cutG xs lo hi).map g := by
  unfold cutG
  rw [List.length_map, List.map_take, List.map_drop]
def tDO (K : PySem.W.Frag) (N : EN) (z : Z) (o : Option Int) (z' : Z) : TO := fun σ H Q => ∃ F α, Fr K N F α z σ H ∧ ∀ F' α' H', On F F' α α' → Fr K N F' α' z' σ H' → Q o H'
abbrev DO (X : Cx) (N : EN) (z : Z) (e : Option Expr) (o : Option Int) (z' : Z) : Prop := PO X e (tDO X.K N z o z')
theorem PO.to {e : Option Expr} {t t' : TO} (h : PO X e t) (w : ∀ σ H Q, t' σ H Q → t σ H Q) : PO X e t' := ⟨fun pins s σ H Q I q => h.run pins s σ H Q I (w _ _ _ q)⟩
theorem do_none : DO X N z none none z := PO.to po_none fun σ H Q ⟨F, α, fr, q⟩ => q F α H (On.refl F α) fr
theorem do_some (h : DE X N z e (.d (.int i)) z1) : DO X N z (some e) (some i) z1 :=
  PO.to (po_some h) fun σ H Q ⟨F, α, fr, q⟩ => ⟨F, α, fr, fun v F1 α1 H1 o1 fr1 d1 => by
    cases (d1 : Dp X.K F1 v (.int i))
    exact ⟨i, rfl, q F1 α1 H1 o1 fr1⟩⟩
variable {lo hi : Option Expr} {l u : Option Int}
theorem de_slT (he : DE X N z e (.d (.tuple xs)) z1) (hl : DO X N z1 lo l z2) (hu : DO X N z2 hi u z3) : DE X N z (.Subscript e (.Slice lo hi none p2) pos) (.d (.tuple (cutG xs l u))) z3 :=
  PE.to (pe_slice sl_tupA he hl hu) fun σ H Q ⟨F, α, fr, q⟩ => ⟨F, α, fr, fun v F1 α1 H1 o1 fr1 d1 => ⟨F1, α1, fr1, fun F2 α2 H2 o2 fr2 => ⟨F2, α2, fr2, fun F3 α3 H3 o3 fr3 => by
    have dd := (o2.trans o3).dp (show Dp X.K F1 v (.tuple xs) from d1)
    obtain ⟨c, vs, rfl, h1, h2, h3⟩ := SqT_of_dp dd fr3.sub
    have hlen := DpAll.len h3
    refine ⟨c, vs, rfl, h1, fun hw => ?_, fun hw pp hp => ?_⟩
    · rw [hlen] at hw
      refine q _ F3 α3 H3 ((o1.trans o2).trans o3) fr3 ?_
      show Dp X.K F3 _ (.tuple (cutG xs l u))
      rw [cutG_whole hw]
      exact dd
    · obtain ⟨o4, fr4⟩ := fr3.ext (o := .tup (cutV vs l u)) hp
      exact q _ _ α3 _ (((o1.trans o2).trans o3).trans o4) fr4 (.tup (SqT.of upd_same) (dmonoA o4.f (cut_all h3 l u)))⟩⟩⟩
theorem de_slL (he : DE X N z e (.d (.list xs)) z1) (hl : DO X N z1 lo l z2) (hu : DO X N z2 hi u z3) : DE X N z (.Subscript e (.Slice lo hi none p2) pos) (.ptr z3.o.length) ⟨z3.s, z3.o ++ [some (cutG xs l u)]⟩ :=
  PE.to (pe_slice sl_list he hl hu) fun σ H Q ⟨F, α, fr, q⟩ => ⟨F, α, fr, fun v F1 α1 H1 o1 fr1 d1 => ⟨F1, α1, fr1, fun F2 α2 H2 o2 fr2 => ⟨F2, α2, fr2, fun F3 α3 H3 o3 fr3 => by
    have dd := (o2.trans o3).dp (show Dp X.K F1 v (.list xs) from d1)
    obtain ⟨c, vs, rfl, h1, h2, h3⟩ := SqL_of_dp dd fr3.sub
    refine ⟨c, vs, rfl, h1, fun pp hp => ?_⟩
    obtain ⟨o4, fr4, e4⟩ := fr3.new hp (cut_all h3 l u)
    exact q _ _ _ _ (((o1.trans o2).trans o3).trans o4) fr4 ⟨pp, e4, rfl⟩⟩⟩⟩
theorem de_slP (he : DE X N z e (.ptr k) z1) (hl : DO X N z1 lo l z2) (hu : DO X N z2 hi u z3) (eo : z3.o[k]? = some (some xs)) : DE X N z (.Subscript e (.Slice lo hi none p2) pos) (.ptr z3.o.length) ⟨z3.s, z3.o ++ [some (cutG xs l u)]⟩ :=
  PE.to (pe_slice sl_list he hl hu) fun σ H Q ⟨F, α, fr, q⟩ => ⟨F, α, fr, fun v F1 α1 H1 o1 fr1 d1 => ⟨F1, α1, fr1, fun F2 α2 H2 o2 fr2 => ⟨F2, α2, fr2, fun F3 α3 H3 o3 fr3 => by
    obtain ⟨c, ec, rfl⟩ := (o2.trans o3).rs d1
    obtain ⟨vs, hv, hs, da⟩ := fr3.seq ec eo
    refine ⟨c, vs, rfl, hs, fun pp hp => ?_⟩
    obtain ⟨o4, fr4, e4⟩ := fr3.new hp (cut_all da l u)
    exact q _ _ _ _ (((o1.trans o2).trans o3).trans o4) fr4 ⟨pp, e4, rfl⟩⟩⟩⟩
/-- xs[::-1] of a list -/
theorem de_revP {k1 : Nat} {q1 q2 q3 : Pos} (he : DE X N z e (.ptr k) z1) (eo : z1.o[k]? = some (some xs)) : DE X N z (.Subscript e (.Slice none none (some (.UnaryOp .USub (.Constant (.int 1) k1 q1) q2)) q3) pos) (.ptr z1.o.length) ⟨z1.s, z1.o ++ [some xs.reverse]⟩ :=
  PE.to (pe_revL he) fun σ H Q ⟨F, α, fr, q⟩ => ⟨F, α, fr, fun v F1 α1 H1 o1 fr1 d1 => by
    obtain ⟨c, ec, rfl⟩ := d1
    obtain ⟨vs, hv, hs, da⟩ := fr1.seq ec eo
    refine ⟨c, vs, rfl, hs, fun pp hp => ?_⟩
    obtain ⟨o4, fr4, e4⟩ := fr1.new hp (DpAll.reverse da)
    exact q _ _ _ _ (o1.trans o4) fr4 ⟨pp, e4, rfl⟩⟩

/-! ### joined, so many times -/
theorem de_catT (ha : DE X N z a (.d (.tuple xs)) z1) (hb : DE X N z1 b (.d (.tuple ys)) z2) (hz : xs.length + ys.length ≤ sizeLine) : DE X N z (.BinOp a .Add b pos) (.d (.tuple (xs ++ ys))) z2 :=
  de_opG op_catA ha hb fun F α σ v u H Q fr d1 d2 q => by
    obtain ⟨c, vs, rfl, h1, h2, h3⟩ := SqT_of_dp (show Dp X.K F v (.tuple xs) from d1) fr.sub
    obtain ⟨c', ws, rfl, k1, k2, k3⟩ := SqT_of_dp (show Dp X.K F u (.tuple ys) from d2) fr.sub
    have l1 := DpAll.len h3
    have l2 := DpAll.len k3
    refine ⟨c, c', vs, ws, rfl, rfl, h1, k1, by omega, fun e => ?_, fun _ e => ?_, fun _ _ pp hp => ?_⟩
    · have e2 : xs = [] := List.eq_nil_of_length_eq_zero (by rw [← l1, e]; rfl)
      refine q _ F α H (On.refl F α) fr ?_
      show Dp X.K F _ (.tuple (xs ++ ys))
      rw [e2]
      exact d2
    · have e2 : ys = [] := List.eq_nil_of_length_eq_zero (by rw [← l2, e]; rfl)
      refine q _ F α H (On.refl F α) fr ?_
      show Dp X.K F _ (.tuple (xs ++ ys))
      rw [e2, List.append_nil]
      exact d1
    · obtain ⟨o4, fr4⟩ := fr.ext (o := .tup (vs ++ ws)) hp
      exact q _ _ α _ o4 fr4 (.tup (SqT.of upd_same) (dmonoA o4.f (DpAll.append h3 k3)))
theorem de_catP {j : Nat} (ha : DE X N z a (.ptr k) z1) (hb : DE X N z1 b (.ptr j) z2) (eo : z2.o[k]? = some (some xs)) (ep : z2.o[j]? = some (some ys)) (hz : xs.length + ys.length ≤ sizeLine) : DE X N z (.BinOp a .Add b pos) (.ptr z2.o.length) ⟨z2.s, z2.o ++ [some (xs ++ ys)]⟩ :=
  de_opG op_cat ha hb fun F α σ v u H Q fr d1 d2 q => by
    obtain ⟨c, ec, rfl⟩ := d1
    obtain ⟨c', ec', rfl⟩ := d2
    obtain ⟨vs, hv, _, da⟩ := fr.seq ec eo
    obtain ⟨ws, hw, _, db⟩ := fr.seq ec' ep
    refine ⟨c, c', vs, ws, rfl, rfl, hv, hw, by rw [DpAll.len da, DpAll.len db]; exact hz, fun pp hp => ?_⟩
    obtain ⟨o4, fr4, e4⟩ := fr.new hp (DpAll.append da db)
    exact q _ _ _ _ o4 fr4 ⟨pp, e4, rfl⟩
theorem de_repP (ha : DE X N z a (.ptr k) z1) (hb : DE X N z1 b (.d (.int i)) z2) (eo : z2.o[k]? = some (some xs)) (h1 : -(2 ^ 63) ≤ i) (h2 : i < 2 ^ 63) (hz : xs.length * i.toNat ≤ sizeLine) : DE X N z (.BinOp a .Mult b pos) (.ptr z2.o.length) ⟨z2.s, z2.o ++ [some (List.replicate i.toNat xs).flatten]⟩ :=
  de_opG op_rep ha hb fun F α σ v u H Q fr d1 d2 q => by
    obtain ⟨c, ec, rfl⟩ := d1
    cases (d2 : Dp X.K F u (.int i))
    obtain ⟨vs, hv, _, da⟩ := fr.seq ec eo
    refine ⟨c, i, vs, rfl, rfl, hv, h1, h2, by rw [DpAll.len da]; exact hz, fun pp hp => ?_⟩
    obtain ⟨o4, fr4, e4⟩ := fr.new hp (DpAll.rep da i.toNat)
    exact q _ _ _ _ o4 fr4 ⟨pp, e4, rfl⟩

/-! ### lists that change -/
theorem de_app {d : D} {apos : Pos} (ha : DE X N z a (.ptr k) z1) (hb : DE X N z1 b (.d d) z2) (e1 : z1.o[k]? = some (some ys)) (eo : z2.o[k]? = some (some xs)) (hz : xs.length < sizeLine)
    (hbase : attributeBase a "append" X.env (eval a X.env) = eval a X.env := by rfl)
    (hfew : ((backTo pos (starEach [b] X.env)).all (fun x => !x.1) && (backToKw pos (keywordEach [] X.env)).all (fun x => x.1.isSome) && decide ([b].length + ([] : List Keyword).length + (if ([] : List Keyword).isEmpty then 0 else 1) < 30)) = true := by rfl)
    (hline : (apos.endLine == pos.line) = true := by rfl) (hs : S1 X b := by rfl) :
    DE X N z (.Call (.Attribute a "append" apos) [b] [] pos) (.d .none) ⟨z2.s, z2.o.set k (some (xs ++ [d]))⟩ :=
  PE.to (pe_bm PySem.F.plainAttrs_list PySem.F.slot_list_append PySem.F.type_list_append mt_append ha (da_cons hb da_nil hs) hbase hfew hline hs (by rfl)) fun σ H Q ⟨F, α, fr, q⟩ => ⟨F, α, fr, fun v F1 α1 H1 o1 fr1 d1 => by
    obtain ⟨c, ec, rfl⟩ := d1
    obtain ⟨vs0, _, hs0, _⟩ := fr1.seq ec e1
    refine ⟨.inl ⟨rfl, vs0, hs0⟩, F1, α1, fr1, fun ws F2 α2 H2 o2 fr2 d2 => ?_⟩
    obtain ⟨w, rfl, dw⟩ := DpAll.one d2
    obtain ⟨c', ec', hc'⟩ := o2.rs (K := X.K) (r := .ptr k) (v := .ref c) ⟨c, ec, rfl⟩
    cases hc'
    obtain ⟨vs, hv, _, da⟩ := fr2.seq ec' eo
    exact ⟨c, vs, w, rfl, rfl, hv, by rw [DpAll.len da]; exact hz, q _ F2 α2 _ (o1.trans o2) (fr2.mut ec' eo (DpAll.append da (.cons dw .nil))) .non⟩⟩
/-- xs[i] = e -/
theorem d1_setitem {d : D} {jn : Nat} {tpos : Pos} (he : DE X N z e (.d d) z1) (ha : DE X N z1 a (.ptr k) z2) (hb : DE X N z2 b (.d (.int i)) z3) (eo : z3.o[k]? = some (some xs)) (hj : ixN xs.length i = some jn) (h : nx ⟨z3.s, z3.o.set k (some (xs.set jn d))⟩)
    (hasg : ∀ v, assign (.Subscript a b tpos) X.env v = (do
      let ov ← holding [v] (eval a X.env)
      let iv ← holding [v, ov] (eval b X.env)
      standAt tpos
      holding [v, ov, iv] (setItem ov iv v)
      release [v, ov, iv] []) := by intro _; rfl)
    (hs : swapsWithSole [.Subscript a b tpos] e pos.line X.env = pure false := by rfl) (hw : swappedStores [.Subscript a b tpos] e X.env = pure none := by rfl) (h1 : (assignEach [.Subscript a b tpos] X.env).map (·.2) = [assign (.Subscript a b tpos) X.env] := by rfl) :
    D1 X N z (.Assign [.Subscript a b tpos] e pos) nx rt :=
  PS.to (ps_asg he (pg_sub ha hb set_list hasg) hs hw h1) fun E σ H ⟨F, α, fr, q, _⟩ => ⟨F, α, fr, fun v F1 α1 H1 o1 fr1 d1 => ⟨F1, α1, fr1, fun u F2 α2 H2 o2 fr2 d2 => ⟨F2, α2, fr2, fun w F3 α3 H3 o3 fr3 d3 => by
    obtain ⟨c, ec, rfl⟩ := o3.rs d2
    cases (d3 : Dp X.K F3 w (.int i))
    obtain ⟨vs, hv, _, da⟩ := fr3.seq ec eo
    refine ⟨c, vs, i, jn, rfl, rfl, hv, by rw [DpAll.len da]; exact hj, ?_⟩
    exact q σ F3 α3 _ _ ((o1.trans o2).trans o3).f (fr3.mut ec eo (DpAll.set ((o2.trans o3).dp (show Dp X.K F1 v d from d1)) jn da)) h⟩⟩⟩
/-- xs[i] += e of ints -/
def rGetL (K : PySem.W.Frag) : V → V → Hp → VK → Prop := fun o i H Q => rIxL K o i H Q
theorem get_list : PGet X (rGetL X.K) := by
  intro pins s σ H x y v u Q I rx ry h
  obtain ⟨p, xs, i, z, rfl, rfl, hq, he, q⟩ := h
  cases rx
  obtain ⟨t, rfl⟩ := ry
  obtain ⟨its, r, pl, hz⟩ := I.list hq
  obtain ⟨j, h1, h2, h3, h4, h5⟩ := atI_get he
  obtain ⟨w, ew, rw'⟩ := r.get h2
  have hl := r.length
  have hn := line63
  have fin : EP X pins σ Q w s := ⟨z, H, I, rw', q⟩
  by_cases h0 : 0 ≤ i
  · have hj : i.toNat = j := by
      rw [seqIndex_of h0 h5] at h1
      exact Option.some.inj h1
    exact wpAny_getItem_list pl.isList h0 (by omega) (by rw [hj]; simpa using ew) fin
  · have hj : (i + (its.toArray.size : Int)).toNat = j := by
      rw [seqIndex_neg (by omega) h4] at h1
      rw [List.size_toArray, ← hl]
      exact Option.some.inj h1
    exact wpAny_getItem_list_neg pl.isList (by omega) (by rw [List.size_toArray] <;> omega) (by omega) (by rw [hj]; simpa using ew) fin
theorem d1_augL {m n : Int} {jn : Nat} {tpos : Pos} (ha : DE X N z a (.ptr k) z1) (hb : DE X N z1 b (.d (.int i)) z2) (he : DE X N z2 e (.d (.int n)) z3) (e2 : z2.o[k]? = some (some ys)) (hm : atI ys i = some (.int m)) (eo : z3.o[k]? = some (some xs)) (hj : ixN xs.length i = some jn) (h : nx ⟨z3.s, z3.o.set k (some (xs.set jn (.int (m + n))))⟩)
    (hasg : ∀ ov iv new, augStore b ov iv new = (do holding [new, ov, iv] (setItem ov iv new); release [new, ov, iv] []; pure .next) := by intros; rfl) : D1 X N z (.AugAssign (.Subscript a b tpos) .Add e pos) nx rt :=
  PS.to (ps_augS ha hb get_list he ip_add set_list hasg) fun E σ H ⟨F, α, fr, q, _⟩ => ⟨F, α, fr, fun v F1 α1 H1 o1 fr1 d1 => ⟨F1, α1, fr1, fun u F2 α2 H2 o2 fr2 d2 => by
    obtain ⟨c, ec, rfl⟩ := o2.rs d1
    cases (d2 : Dp X.K F2 u (.int i))
    obtain ⟨ws, hw, hsw, dw⟩ := fr2.seq ec e2
    obtain ⟨w, e4, d4⟩ := atI_all dw hm
    cases d4
    refine ⟨c, ws, i, _, rfl, rfl, hsw, e4, F2, α2, fr2, fun w F3 α3 H3 o3 fr3 d3 => ?_⟩
    cases (d3 : Dp X.K F3 w (.int n))
    obtain ⟨c', ec', hc'⟩ := o3.rs (K := X.K) (r := .ptr k) (v := .ref c) ⟨c, ec, rfl⟩
    cases hc'
    obtain ⟨vs, hv, _, da⟩ := fr3.seq ec' eo
    refine ⟨m, n, rfl, rfl, c, vs, i, jn, rfl, rfl, hv, by rw [DpAll.len da]; exact hj, ?_⟩
    exact q σ F3 α3 _ _ ((o1.trans o2).trans o3).f (fr3.mut ec' eo (DpAll.set (.int _) jn da)) h⟩⟩
end
end DL
/-! DL7: defs of a text, short words -/
namespace DL
open PySem PySem.Spec PyProof.Rows L2

/-- a def as it stands behind the top -/
structure FunAt (K : PySem.W.Frag) (mg : Str → Option Value) (x : Str) (st : Stmt) (ps : List Str) : Prop where
  ex : ∃ f fd, Fun K x x st f fd ∧ mg x = some (.ref f) ∧ Binds K fd ps []
abbrev RT := List D → List (List D) → Rr → List (List D) → Prop
structure OkD (P : Program) (w : World) (K : PySem.W.Frag) (mg : Str → Option Value) (base : Heap) (x : Str) (k : Nat) (ps : List Str) (R : RT) : Prop where
  ex : ∃ f fd, FnOk P w K mg base CX0 k f fd ps (spG K R) ∧ mg x = some (.ref f) ∧ PySem.W.keepIn K (.ref f) = true ∧ Binds K fd ps [] ∧ ∃ oc od osl, K.lookup f = some ⟨oc, od, .func fd, osl⟩
/-- the built-in names stand -/
structure Bt (mg : Str → Option Value) : Prop where
  len : mg "len" = none
  range : mg "range" = none
  enumerate : mg "enumerate" = none
  zip : mg "zip" = none
  tuple : mg "tuple" = none
  list : mg "list" = none
  sum : mg "sum" = none
  abs : mg "abs" = none
  max : mg "max" = none
  min : mg "min" = none
  int : mg "int" = none
  all : mg "all" = none
  any : mg "any" = none
  isinstance : mg "isinstance" = none
  bool : mg "bool" = none
  str : mg "str" = none
  sorted : mg "sorted" = none
  dict : mg "dict" = none
section
variable {X : Cx} {N : EN} {z z1 z2 : Z} {pos p : Pos} {e a b : Expr} {es : List Expr} {k : Nat} {ps : List Str} {x : Str} {R : RT} {nx : Z → Prop} {rt : Rs → Z → Prop} {rest : List Stmt} {st : Stmt}
theorem de_cl {ds : List D} {r : Rr} {k' : Nat} (G : OkD X.prog X.w X.K X.mg X.base x k ps R) (hr : Room k' X.A) (hg : Gl X x) (ha : DAd X N z (e :: es) ds z1) (hR : R ds [] r []) (hk : k ≤ k' := by decide)
    (hdb : (x == ("__debug__" : Str)) = false := by decide) (he : starEach (e :: es) X.env = (false, eval e X.env) :: starEach es X.env := by rfl) (hpl : (backTo pos (starEach es X.env)).any (·.1) = false := by rfl) :
    DE X N z (.Call (.Name x p) (e :: es) [] pos) (rsOf z1 r) (zOf z1 r) := by
  obtain ⟨f, fd, G, hm, hkp, hb, _⟩ := G.ex
  exact de_call G (hr.mono hk) hg hm hkp hb pass0 ha hR hdb he hpl
/-- .. that answers data -/
theorem de_clD {ds : List D} {v : D} {k' : Nat} (G : OkD X.prog X.w X.K X.mg X.base x k ps R) (hr : Room k' X.A) (hg : Gl X x) (ha : DAd X N z (e :: es) ds z1) (hR : R ds [] (.d v) []) (hk : k ≤ k' := by decide)
    (hdb : (x == ("__debug__" : Str)) = false := by decide) (he : starEach (e :: es) X.env = (false, eval e X.env) :: starEach es X.env := by rfl) (hpl : (backTo pos (starEach es X.env)).any (·.1) = false := by rfl) :
    DE X N z (.Call (.Name x p) (e :: es) [] pos) (.d v) z1 := de_cl G hr hg ha hR hk hdb he hpl
/-- .. that answers a new list -/
theorem de_clN {ds xs : List D} {k' : Nat} (G : OkD X.prog X.w X.K X.mg X.base x k ps R) (hr : Room k' X.A) (hg : Gl X x) (ha : DAd X N z (e :: es) ds z1) (hR : R ds [] (.new xs) []) (hk : k ≤ k' := by decide)
    (hdb : (x == ("__debug__" : Str)) = false := by decide) (he : starEach (e :: es) X.env = (false, eval e X.env) :: starEach es X.env := by rfl) (hpl : (backTo pos (starEach es X.env)).any (·.1) = false := by rfl) :
    DE X N z (.Call (.Name x p) (e :: es) [] pos) (.ptr z1.o.length) ⟨z1.s, z1.o ++ [some xs]⟩ := de_cl G hr hg ha hR hk hdb he hpl
/-- an own list handed in; data answered -/
theorem de_cl1 {ds : List D} {v : D} {j k' : Nat} {xs xs' : List D} (G : OkD X.prog X.w X.K X.mg X.base x k ps R) (hr : Room k' X.A) (hg : Gl X x) (ha : DAp X N z (e :: es) j ds z1) (eo : z1.o[j]? = some (some xs)) (hR : R ds [xs] (.d v) [xs']) (hk : k ≤ k' := by decide)
    (hdb : (x == ("__debug__" : Str)) = false := by decide) (he : starEach (e :: es) X.env = (false, eval e X.env) :: starEach es X.env := by rfl) (hpl : (backTo pos (starEach es X.env)).any (·.1) = false := by rfl) :
    DE X N z (.Call (.Name x p) (e :: es) [] pos) (.d v) ⟨z1.s, z1.o.set j (some xs')⟩ := by
  obtain ⟨f, fd, G, hm, hkp, hb, _⟩ := G.ex
  exact de_call1 (r := .d v) G (hr.mono hk) hg hm hkp hb pass0 ha eo hR hdb he hpl
/-- a statement whose end is one state -/
theorem ds_seq (h1 : D1 X N z st (fun z' => z' = z1) rt) (h2 : DS X N z1 rest nx rt) : DS X N z (st :: rest) nx rt := ds_cons h1 fun z' e => by rw [e]; exact h2
theorem dt_cast {c c' : Bool} (h : DT X N z e c z1) (q : c = c') : DT X N z e c' z1 := q ▸ h
theorem ds_at (e : z = z1) (h : DS X N z1 rest nx rt) : DS X N z rest nx rt := by rw [e]; exact h
/-- what is forgotten: slot by slot, own lists behind the n-th -/
inductive WkS : List Sl → List Sl → Prop
  | nil : WkS [] []
  | keep {t s s'} : WkS s s' → WkS (t :: s) (t :: s')
  | drop {t s s'} : WkS s s' → WkS (t :: s) (.no :: s')
theorem WkS.len : ∀ {s s' : List Sl}, WkS s s' → s'.length = s.length
  | _, _, .nil => rfl
  | _, _, .keep h => congrArg Nat.succ h.len
  | _, _, .drop h => congrArg Nat.succ h.len
theorem WkS.at_ : ∀ {s s' : List Sl}, WkS s s' → ∀ (i : Nat) (t : Sl), s'[i]? = some t → t = .no ∨ s[i]? = some t
  | _, _, .nil, _, _, e => by simp at e
  | _, _, .keep h, 0, t, e => .inr (by simpa using e)
  | _, _, .keep h, i + 1, t, e => by
    rcases h.at_ i t (by simpa using e) with q | q
    · exact .inl q
    · exact .inr (by simpa using q)
  | _, _, .drop h, 0, t, e => .inl (by simpa using e.symm)
  | _, _, .drop h, i + 1, t, e => by
    rcases h.at_ i t (by simpa using e) with q | q
    · exact .inl q
    · exact .inr (by simpa using q)
def ptrOk (s : List Sl) (m : Nat) : Bool := s.all fun | .ptr k => decide (k < m) | _ => true
theorem ptrOk_at {s : List Sl} {m : Nat} (h : ptrOk s m = true) (i k : Nat) (e : s[i]? = some (.ptr k)) : k < m := by
  have := List.all_eq_true.mp h _ (List.mem_of_getElem? e)
  simpa using this
theorem ds_wk {s' : List Sl} {o' g : List (Option (List D))} (w : WkS z.s s') (ho : z.o = o' ++ g) (hp : N.pa.length ≤ o'.length) (hs : ptrOk s' o'.length = true) (h : DS X N ⟨s', o'⟩ rest nx rt) : DS X N z rest nx rt :=
  ds_weak (z1 := ⟨s', o'⟩) ⟨w.len, w.at_, by rw [ho]; simp⟩ hp (ptrOk_at hs) h
/-- items of tuples, lists of ints -/
abbrev tI (r : List Int) : D := .tuple (r.map PyData.int)
abbrev lI (r : List Int) : List D := r.map PyData.int
def at_ (r : List Int) (i : Int) : Int := r.getD i.toNat 0
variable {i j : Int} {ns : List Int}
theorem de_ixTI (ha : DE X N z a (.d (tI ns)) z1) (hb : DE X N z1 b (.d (.int i)) z2) (h0 : 0 ≤ i) (h1 : i < ns.length) (hs : PlainIx b := by exact fun _ _ => rfl) : DE X N z (.Subscript a b pos) (.d (.int (at_ ns i))) z2 := de_ixT ha hb (atI_int h0 h1) hs
theorem de_ixLI (ha : DE X N z a (.d (.list (lI ns))) z1) (hb : DE X N z1 b (.d (.int i)) z2) (h0 : 0 ≤ i) (h1 : i < ns.length) (hs : PlainIx b := by exact fun _ _ => rfl) : DE X N z (.Subscript a b pos) (.d (.int (at_ ns i))) z2 := de_ixL ha hb (atI_int h0 h1) hs
theorem de_ixPI {k : Nat} (ha : DE X N z a (.ptr k) z1) (hb : DE X N z1 b (.d (.int i)) z2) (eo : z2.o[k]? = some (some (lI ns))) (h0 : 0 ≤ i) (h1 : i < ns.length) (hs : PlainIx b := by exact fun _ _ => rfl) : DE X N z (.Subscript a b pos) (.d (.int (at_ ns i))) z2 := de_ixP ha hb eo (atI_int h0 h1) hs
theorem ixN_at {n : Nat} (h0 : 0 ≤ i) (h1 : i < n) : ixN n i = some i.toNat := by
  unfold ixN
  rw [if_pos h0, if_pos h1]
/-- the answer of a def -/
theorem rr0 {v : D} {z : Z} : rrRs [] (.d v) (.d v) z := ⟨fun j xs h => by simp at h, rfl⟩
theorem rr0e {v u : D} {z : Z} (e : u = v) : rrRs [] (.d v) (.d u) z := ⟨fun j xs h => by simp at h, by rw [e]⟩
theorem rrN {xs : List D} {k : Nat} {z : Z} (e : z.o[k]? = some (some xs)) : rrRs [] (.new xs) (.ptr k) z := ⟨fun j xs h => by simp at h, k, rfl, Nat.zero_le _, e⟩
theorem rr1 {v : D} {z : Z} {xs : List D} (e : z.o[0]? = some (some xs)) : rrRs [xs] (.d v) (.d v) z := ⟨fun j ys h => by
  cases j with
  | zero =>
    have h : xs = ys := by simpa using h
    rw [← h]
    exact e
  | succ j => simp at h, rfl⟩
end
section
variable {P : Program} {w : World} {K : PySem.W.Frag} {mg : Str → Option Value} {base : Heap}
theorem mk_def {x : Str} {st : Stmt} {Nm ps : List Str} {k : Nat} {R : RT} (F : FunAt K mg x st ps) (S : FnScope Nm ps (defScope st))
    (len : ∀ as π r π', R as π r π' → π.length + as.length = ps.length ∧ π.length = π'.length)
    (body : ∀ (f : Addr) (cdv : Value) (A : Around) (outer : List Env) (s : Shared) (H : Hp) (E : XK) (N : EN) (as : List D) (π : List (List D)) (r : Rr) (π' : List (List D)), Room k (A.deeper (envOfC x (defScope st) s.heap.objs.size f cdv)) → N.pa.length = π.length → R as π r π' →
      DS (cxOf CX0 P w K mg base Nm x (defScope st) f cdv A outer s H E).nox N (z0 Nm π as) (defBody st) (fun z => rrRs π' r (.d .none) z) (fun q z => rrRs π' r q z)) : OkD P w K mg base x (k + 1) ps R := by
  obtain ⟨f, fd, F, hm, hb⟩ := F.ex
  obtain ⟨oc, od, _, _, _, _, _, _, osl, _, lk, _⟩ := id F.ex
  exact ⟨f, fd, mk_fn F S len (body f), hm, F.kp, hb, oc, od, osl, lk⟩
end
end DL
/-! DL8: loops and comprehensions over items by place -/
namespace DL
open PySem PySem.Spec PyProof.Rows L2

structure Items (xs : List D) (n : Nat) (item : Nat → D) : Prop where
  len : xs.length = n
  get : ∀ (k : Nat) (d : D), xs[k]? = some d → d = item k
theorem Items.lt {xs : List D} {n : Nat} {item : Nat → D} (I : Items xs n item) {k : Nat} {d : D} (h : xs[k]? = some d) : k < n := by
  rw [← I.len]
  exact (List.getElem?_eq_some_iff.mp h).1
theorem it_rng {lo : Int} {n : Nat} : Items (rngD lo n) n (fun k => .int (lo + (k : Nat))) := ⟨rngD_len _ _, fun k d h => by
  have hk : k < n := by rw [← rngD_len lo n]; exact (List.getElem?_eq_some_iff.mp h).1
  rw [rngD_get hk] at h
  exact (Option.some.inj h).symm⟩
theorem it_rng0 {n : Nat} : Items (rngD 0 n) n (fun k => .int (k : Nat)) := ⟨rngD_len _ _, fun k d h => by
  have := it_rng.get k d h
  rw [Int.zero_add] at this
  exact this⟩
theorem getD_of {r : List Int} {k : Nat} {d : D} (h : (lI r)[k]? = some d) : d = .int (r.getD k 0) := by
  rw [List.getElem?_map] at h
  cases q : r[k]? with
  | none => rw [q] at h; cases h
  | some v =>
    rw [q] at h
    rw [List.getD_eq_getElem?_getD, q]
    exact (Option.some.inj h).symm
theorem it_ints {r : List Int} : Items (lI r) r.length (fun k => .int (r.getD k 0)) := ⟨by simp, fun k d h => getD_of h⟩
theorem it_enumI {r : List Int} : Items (enumD (lI r)) r.length (fun k => .tuple [.int (k : Nat), .int (r.getD k 0)]) := ⟨by simp [enumD_len], fun k d h => by
  have hk : k < (lI r).length := by rw [← enumD_len]; exact (List.getElem?_eq_some_iff.mp h).1
  have e := getD_of (List.getElem?_eq_getElem hk)
  rw [enumD_get (List.getElem?_eq_getElem hk), e] at h
  exact (Option.some.inj h).symm⟩
theorem it_zipI {r s : List Int} (hl : r.length = s.length) : Items (zipD (lI r) (lI s)) r.length (fun k => .tuple [.int (r.getD k 0), .int (s.getD k 0)]) := ⟨by rw [zipD_len]; simp [hl], fun k d h => by
  have hk : k < r.length := by
    have := (List.getElem?_eq_some_iff.mp h).1
    rw [zipD_len] at this
    simp at this
    omega
  have h1 : k < (lI r).length := by simpa using hk
  have h2 : k < (lI s).length := by simp; omega
  have e1 := getD_of (List.getElem?_eq_getElem h1)
  have e2 := getD_of (List.getElem?_eq_getElem h2)
  rw [zipD_get (List.getElem?_eq_getElem h1) (List.getElem?_eq_getElem h2), e1, e2] at h
  exact (Option.some.inj h).symm⟩
theorem it_list {xs : List D} : Items xs xs.length (fun k => xs.getD k .none) := ⟨rfl, fun k d h => by rw [List.getD_eq_getElem?_getD, h]; rfl⟩

section
variable {X : Cx} {N : EN} {z z1 : Z} {pos p : Pos} {tg iter elt : Expr} {nx : Z → Prop} {rt : Rs → Z → Prop} {rest body : List Stmt} {xs : List D} {n : Nat} {item : Nat → D} {g : TG} {f : D → List Sl → List Sl} {ok : D → Prop} {is : List Nat}
theorem ds_for (Pv : Nat → Z → Prop) (hp : PassesOwn (model X.prog X.w) X.A X.env X.xe) (hc : X.calm = true) (hi : DI X N z tg iter xs z1) (I : Items xs n item) (hg : PG X tg g) (gd : GD X.K g f ok is) (hok : ∀ k, k < n → ok (item k)) (h0 : Pv 0 z1)
    (hb : ∀ k z, k < n → Pv k z → DS X N ⟨f (item k) z.s, z.o⟩ body (Pv (k + 1)) rt) (hd : ∀ z, Pv n z → DS X N z rest nx rt)
    (hs : ∀ x, foldedSetIterable iter X.env x = pure x := by intro _; rfl) : DS X N z (.For tg iter body [] pos :: rest) nx rt :=
  ds_cons (mid := Pv n) (d1_for Pv hp hc hi hg gd h0 (fun k d h => by rw [I.get k d h]; exact hok k (I.lt h)) (fun k d z h pv => by rw [I.get k d h]; exact hb k z (I.lt h) pv) (fun z h => by rw [I.len] at h; exact h) hs) hd
variable {scope : Scope} {own : List (Str × Nat)}
abbrev BX (X : Cx) (scope : Scope) (s : Shared) (H : Hp) (C : Addr) (cl : List (Str × Addr)) (fp : List Addr) : Cx := X.blk s H scope (compEnvC scope cl C X.env) fp
/-- a comprehension without a test whose items change no own list -/
theorem de_lcR {y : Nat → D} {ze : Nat → Z} (hc : X.calm = true) (hN : X.N.Nodup) (hi : DI X N z tg iter xs z1) (I : Items xs n item) (okb : BlkOk X.N X.env.scope scope own)
    (hg : ∀ (s : Shared) (H : Hp) (C : Addr) (cl : List (Str × Addr)) (fp : List Addr), PG (BX X scope s H C cl fp) tg g) (gd : GD X.K g f ok is) (hiv : ∀ i ∈ is, i ∈ own.map (·.2)) (hok : ∀ k, k < n → ok (item k)) (hsm : n < sizeLine)
    (he : ∀ k, k < n → ∀ (s : Shared) (H : Hp) (C : Addr) (cl : List (Str × Addr)) (fp : List Addr), DE (BX X scope s H C cl fp) N ⟨f (item k) (wipeS z1.s (own.map (·.2))), z1.o ++ [some ((List.range k).map y)]⟩ elt (.d (y k)) (ze k))
    (hz : ∀ k, k < n → (ze k).o.take (z1.o.length + 1) = z1.o ++ [some ((List.range k).map y)])
    (hs : ∀ x, foldedSetIterable iter X.env x = pure x := by intro _; rfl) :
    DE X N z (.ListComp elt [⟨tg, iter, [], 0⟩] scope pos) (.ptr z1.o.length) ⟨z1.s, z1.o ++ [some ((List.range n).map y)]⟩ := by
  have := de_lc (X := X) (N := N) (z := z) (z1 := z1) (O := fun _ => z1.o) (acc := fun k => (List.range k).map y) (b := fun _ => true) (y := y) (zt := fun k d => ⟨f d (wipeS z1.s (own.map (·.2))), z1.o ++ [some ((List.range k).map y)]⟩) (ze := fun k _ => ze k) (ifs := []) (elt := elt) (pos := pos)
    hc hN hi okb hg gd hiv (fun k d h => by rw [I.get k d h]; exact hok k (I.lt h))
    ⟨rfl, rfl, fun k hk => by rw [List.length_map, List.length_range]; rw [I.len] at hk; omega, fun _ => rfl, fun k d h _ => ⟨hz k (I.lt h), by rw [List.range_succ, List.map_append]; rfl⟩, fun k d h e => by cases e⟩
    (fun k d h s H C cl fp => dts_nil) (fun k d h _ s H C cl fp => by rw [I.get k d h]; exact he k (I.lt h) s H C cl fp) hs
  rw [I.len] at this
  exact this
/-- .. of ints -/
theorem de_lcI {y : Nat → Int} {ze : Nat → Z} (hc : X.calm = true) (hN : X.N.Nodup) (hi : DI X N z tg iter xs z1) (I : Items xs n item) (okb : BlkOk X.N X.env.scope scope own)
    (hg : ∀ (s : Shared) (H : Hp) (C : Addr) (cl : List (Str × Addr)) (fp : List Addr), PG (BX X scope s H C cl fp) tg g) (gd : GD X.K g f ok is) (hiv : ∀ i ∈ is, i ∈ own.map (·.2)) (hok : ∀ k, k < n → ok (item k)) (hsm : n < sizeLine)
    (he : ∀ k, k < n → ∀ (s : Shared) (H : Hp) (C : Addr) (cl : List (Str × Addr)) (fp : List Addr), DE (BX X scope s H C cl fp) N ⟨f (item k) (wipeS z1.s (own.map (·.2))), z1.o ++ [some (lI ((List.range k).map y))]⟩ elt (.d (.int (y k))) (ze k))
    (hz : ∀ k, k < n → (ze k).o.take (z1.o.length + 1) = z1.o ++ [some (lI ((List.range k).map y))])
    (hs : ∀ x, foldedSetIterable iter X.env x = pure x := by intro _; rfl) :
    DE X N z (.ListComp elt [⟨tg, iter, [], 0⟩] scope pos) (.ptr z1.o.length) ⟨z1.s, z1.o ++ [some (lI ((List.range n).map y))]⟩ := by
  have e : ∀ k, (List.range k).map (fun i => PyData.int (y i)) = lI ((List.range k).map y) := fun k => (List.map_map (f := y) (g := PyData.int) (l := List.range k)).symm
  have := de_lcR (X := X) (N := N) (y := fun i => .int (y i)) (ze := ze) (elt := elt) (pos := pos) hc hN hi I okb hg gd hiv hok hsm (fun k hk s H C cl fp => by rw [e]; exact he k hk s H C cl fp) (fun k hk => by rw [e]; exact hz k hk) hs
  rw [e] at this
  exact this
theorem de_lcB {y : Nat → Bool} {ze : Nat → Z} (hc : X.calm = true) (hN : X.N.Nodup) (hi : DI X N z tg iter xs z1) (I : Items xs n item) (okb : BlkOk X.N X.env.scope scope own)
    (hg : ∀ (s : Shared) (H : Hp) (C : Addr) (cl : List (Str × Addr)) (fp : List Addr), PG (BX X scope s H C cl fp) tg g) (gd : GD X.K g f ok is) (hiv : ∀ i ∈ is, i ∈ own.map (·.2)) (hok : ∀ k, k < n → ok (item k)) (hsm : n < sizeLine)
    (he : ∀ k, k < n → ∀ (s : Shared) (H : Hp) (C : Addr) (cl : List (Str × Addr)) (fp : List Addr), DE (BX X scope s H C cl fp) N ⟨f (item k) (wipeS z1.s (own.map (·.2))), z1.o ++ [some (((List.range k).map y).map PyData.bool)]⟩ elt (.d (.bool (y k))) (ze k))
    (hz : ∀ k, k < n → (ze k).o.take (z1.o.length + 1) = z1.o ++ [some (((List.range k).map y).map PyData.bool)])
    (hs : ∀ x, foldedSetIterable iter X.env x = pure x := by intro _; rfl) :
    DE X N z (.ListComp elt [⟨tg, iter, [], 0⟩] scope pos) (.ptr z1.o.length) ⟨z1.s, z1.o ++ [some (((List.range n).map y).map PyData.bool)]⟩ := by
  have e : ∀ k, (List.range k).map (fun i => PyData.bool (y i)) = ((List.range k).map y).map PyData.bool := fun k => by rw [List.map_map]; rfl
  have := de_lcR (X := X) (N := N) (y := fun i => .bool (y i)) (ze := ze) (elt := elt) (pos := pos) hc hN hi I okb hg gd hiv hok hsm (fun k hk s H C cl fp => by rw [e]; exact he k hk s H C cl fp) (fun k hk => by rw [e]; exact hz k hk) hs
  rw [e] at this
  exact this
/-- a comprehension without a test whose items change own lists (O) -/
theorem de_lcS {y : Nat → D} {O : Nat → List (Option (List D))} {ze : Nat → Z} (hc : X.calm = true) (hN : X.N.Nodup) (hi : DI X N z tg iter xs z1) (I : Items xs n item) (okb : BlkOk X.N X.env.scope scope own)
    (hg : ∀ (s : Shared) (H : Hp) (C : Addr) (cl : List (Str × Addr)) (fp : List Addr), PG (BX X scope s H C cl fp) tg g) (gd : GD X.K g f ok is) (hiv : ∀ i ∈ is, i ∈ own.map (·.2)) (hok : ∀ k, k < n → ok (item k)) (hsm : n < sizeLine) (hO : O 0 = z1.o) (hOl : ∀ k, (O k).length = z1.o.length)
    (he : ∀ k, k < n → ∀ (s : Shared) (H : Hp) (C : Addr) (cl : List (Str × Addr)) (fp : List Addr), DE (BX X scope s H C cl fp) N ⟨f (item k) (wipeS z1.s (own.map (·.2))), O k ++ [some ((List.range k).map y)]⟩ elt (.d (y k)) (ze k))
    (hz : ∀ k, k < n → (ze k).o.take (z1.o.length + 1) = O (k + 1) ++ [some ((List.range k).map y)])
    (hs : ∀ x, foldedSetIterable iter X.env x = pure x := by intro _; rfl) :
    DE X N z (.ListComp elt [⟨tg, iter, [], 0⟩] scope pos) (.ptr z1.o.length) ⟨z1.s, O n ++ [some ((List.range n).map y)]⟩ := by
  have := de_lc (X := X) (N := N) (z := z) (z1 := z1) (O := O) (acc := fun k => (List.range k).map y) (b := fun _ => true) (y := y) (zt := fun k d => ⟨f d (wipeS z1.s (own.map (·.2))), O k ++ [some ((List.range k).map y)]⟩) (ze := fun k _ => ze k) (ifs := []) (elt := elt) (pos := pos)
    hc hN hi okb hg gd hiv (fun k d h => by rw [I.get k d h]; exact hok k (I.lt h))
    ⟨hO, rfl, fun k hk => by rw [List.length_map, List.length_range]; rw [I.len] at hk; omega, hOl, fun k d h _ => ⟨hz k (I.lt h), by rw [List.range_succ, List.map_append]; rfl⟩, fun k d h e => by cases e⟩
    (fun k d h s H C cl fp => dts_nil) (fun k d h _ s H C cl fp => by rw [I.get k d h]; exact he k (I.lt h) s H C cl fp) hs
  rw [I.len] at this
  exact this
theorem de_lcSI {y : Nat → Int} {O : Nat → List (Option (List D))} {ze : Nat → Z} (hc : X.calm = true) (hN : X.N.Nodup) (hi : DI X N z tg iter xs z1) (I : Items xs n item) (okb : BlkOk X.N X.env.scope scope own)
    (hg : ∀ (s : Shared) (H : Hp) (C : Addr) (cl : List (Str × Addr)) (fp : List Addr), PG (BX X scope s H C cl fp) tg g) (gd : GD X.K g f ok is) (hiv : ∀ i ∈ is, i ∈ own.map (·.2)) (hok : ∀ k, k < n → ok (item k)) (hsm : n < sizeLine) (hO : O 0 = z1.o) (hOl : ∀ k, (O k).length = z1.o.length)
    (he : ∀ k, k < n → ∀ (s : Shared) (H : Hp) (C : Addr) (cl : List (Str × Addr)) (fp : List Addr), DE (BX X scope s H C cl fp) N ⟨f (item k) (wipeS z1.s (own.map (·.2))), O k ++ [some (lI ((List.range k).map y))]⟩ elt (.d (.int (y k))) (ze k))
    (hz : ∀ k, k < n → (ze k).o.take (z1.o.length + 1) = O (k + 1) ++ [some (lI ((List.range k).map y))])
    (hs : ∀ x, foldedSetIterable iter X.env x = pure x := by intro _; rfl) :
    DE X N z (.ListComp elt [⟨tg, iter, [], 0⟩] scope pos) (.ptr z1.o.length) ⟨z1.s, O n ++ [some (lI ((List.range n).map y))]⟩ := by
  have e : ∀ k, (List.range k).map (fun i => PyData.int (y i)) = lI ((List.range k).map y) := fun k => (List.map_map (f := y) (g := PyData.int) (l := List.range k)).symm
  have := de_lcS (X := X) (N := N) (y := fun i => .int (y i)) (O := O) (ze := ze) (elt := elt) (pos := pos) hc hN hi I okb hg gd hiv hok hsm hO hOl (fun k hk s H C cl fp => by rw [e]; exact he k hk s H C cl fp) (fun k hk => by rw [e]; exact hz k hk) hs
  rw [e] at this
  exact this
/-- a while: the word by a measure; the state is one of the word's -/
theorem ds_while {c : Expr} (Pv : Nat → Z → Prop) (m0 : Nat) (t : Nat → Z → Bool) (hp : PassesOwn (model X.prog X.w) X.A X.env X.xe) (h0 : Pv m0 z) (hc : ∀ m z, Pv m z → DT X N z c (t m z) z)
    (hb : ∀ m z, Pv m z → t m z = true → DS X N z body (fun z' => ∃ m', m' < m ∧ Pv m' z') rt) (hd : ∀ m z, Pv m z → t m z = false → DS X N z rest nx rt) : DS X N z (.While c body [] pos :: rest) nx rt :=
  ds_cons (mid := fun z' => ∃ m, Pv m z' ∧ t m z' = false) (d1_while Pv hp m0 h0 t (fun _ z => z) hc hb fun m z h e => ⟨m, h, e⟩) fun z' ⟨m, h, e⟩ => hd m z' h e
end
section
variable {X : Cx} {N : EN} {z z1 z2 z3 : Z} {pos p apos tpos : Pos} {a b e : Expr} {k : Nat} {nx : Z → Prop} {rt : Rs → Z → Prop} {rest : List Stmt} {i v m n : Int} {ns ms : List Int} {xs : List D}
theorem lI_set (ns : List Int) (j : Nat) (v : Int) : (lI ns).set j (.int v) = lI (ns.set j v) := (List.map_set ..).symm
theorem lI_app (ns : List Int) (v : Int) : lI ns ++ [.int v] = lI (ns ++ [v]) := by simp
theorem lI_len (ns : List Int) : (lI ns).length = ns.length := by simp
/-- an own list of ints changes -/
theorem d1_setI (he : DE X N z e (.d (.int v)) z1) (ha : DE X N z1 a (.ptr k) z2) (hb : DE X N z2 b (.d (.int i)) z3) (eo : z3.o[k]? = some (some (lI ns))) (h0 : 0 ≤ i) (h1 : i < ns.length) (h : nx ⟨z3.s, z3.o.set k (some (lI (ns.set i.toNat v)))⟩)
    (hasg : ∀ v, assign (.Subscript a b tpos) X.env v = (do
      let ov ← holding [v] (eval a X.env)
      let iv ← holding [v, ov] (eval b X.env)
      standAt tpos
      holding [v, ov, iv] (setItem ov iv v)
      release [v, ov, iv] []) := by intro _; rfl)
    (hs : swapsWithSole [.Subscript a b tpos] e pos.line X.env = pure false := by rfl) (hw : swappedStores [.Subscript a b tpos] e X.env = pure none := by rfl) (hq : (assignEach [.Subscript a b tpos] X.env).map (·.2) = [assign (.Subscript a b tpos) X.env] := by rfl) :
    D1 X N z (.Assign [.Subscript a b tpos] e pos) nx rt :=
  d1_setitem he ha hb eo (by rw [lI_len]; exact ixN_at h0 h1) (by rw [lI_set]; exact h) hasg hs hw hq
theorem d1_augLI (ha : DE X N z a (.ptr k) z1) (hb : DE X N z1 b (.d (.int i)) z2) (he : DE X N z2 e (.d (.int n)) z3) (e2 : z2.o[k]? = some (some (lI ms))) (g0 : 0 ≤ i) (g1 : i < ms.length) (eo : z3.o[k]? = some (some (lI ns))) (h1 : i < ns.length) (h : nx ⟨z3.s, z3.o.set k (some (lI (ns.set i.toNat (at_ ms i + n))))⟩)
    (hasg : ∀ ov iv new, augStore b ov iv new = (do holding [new, ov, iv] (setItem ov iv new); release [new, ov, iv] []; pure .next) := by intros; rfl) : D1 X N z (.AugAssign (.Subscript a b tpos) .Add e pos) nx rt :=
  d1_augL ha hb he e2 (atI_int g0 g1) eo (by rw [lI_len]; exact ixN_at g0 h1) (by rw [lI_set]; exact h) hasg
theorem de_appI (ha : DE X N z a (.ptr k) z1) (hb : DE X N z1 b (.d (.int v)) z2) (e1 : z1.o[k]? = some (some (lI ms))) (eo : z2.o[k]? = some (some (lI ns))) (hz : ns.length < sizeLine)
    (hbase : attributeBase a "append" X.env (eval a X.env) = eval a X.env := by rfl)
    (hfew : ((backTo pos (starEach [b] X.env)).all (fun x => !x.1) && (backToKw pos (keywordEach [] X.env)).all (fun x => x.1.isSome) && decide ([b].length + ([] : List Keyword).length + (if ([] : List Keyword).isEmpty then 0 else 1) < 30)) = true := by rfl)
    (hline : (apos.endLine == pos.line) = true := by rfl) (hs : S1 X b := by rfl) :
    DE X N z (.Call (.Attribute a "append" apos) [b] [] pos) (.d .none) ⟨z2.s, z2.o.set k (some (lI (ns ++ [v])))⟩ := by
  have := de_app (pos := pos) (apos := apos) ha hb e1 eo (by rw [lI_len]; exact hz) hbase hfew hline hs
  rw [lI_app] at this
  exact this
/-- an own list becomes data -/
theorem ds_frz (k : Nat) (ho : z.o[k]? = some (some xs)) (hk : N.pa.length ≤ k) (h : DS X N (frz z k xs) rest nx rt) : DS X N z rest nx rt :=
  PSs.to h fun E σ H ⟨F, α, fr, q, r⟩ => by
    have hk2 : k < α.length := by rw [← fr.len]; exact (List.getElem?_eq_some_iff.mp ho).1
    obtain ⟨F2, o2, fr2, _⟩ := fr.frz (List.getElem?_eq_getElem hk2) ho hk
    exact ⟨F2, α, fr2, fun σ' F' α' H' z' s => q σ' F' α' H' z' (o2.f.trans s), fun v σ' F' α' H' rr z' s => r v σ' F' α' H' rr z' (o2.f.trans s)⟩
end
section
variable {X : Cx} {N : EN} {z z1 z2 z3 : Z} {pos : Pos} {a b : Expr} {k j : Nat} {i v : Int} {ns ms : List Int}
theorem de_repPI (ha : DE X N z a (.ptr k) z1) (hb : DE X N z1 b (.d (.int i)) z2) (eo : z2.o[k]? = some (some (lI [v]))) (h1 : -(2 ^ 63) ≤ i) (h2 : i < 2 ^ 63) (hz : i.toNat ≤ sizeLine) : DE X N z (.BinOp a .Mult b pos) (.ptr z2.o.length) ⟨z2.s, z2.o ++ [some (lI (List.replicate i.toNat v))]⟩ := by
  have := de_repP (pos := pos) ha hb eo h1 h2 (by simpa using hz)
  have e : (List.replicate i.toNat (lI [v])).flatten = lI (List.replicate i.toNat v) := Eq.trans List.flatten_replicate_singleton List.map_replicate.symm
  rw [e] at this
  exact this
theorem de_catPI (ha : DE X N z a (.ptr k) z1) (hb : DE X N z1 b (.ptr j) z2) (eo : z2.o[k]? = some (some (lI ns))) (ep : z2.o[j]? = some (some (lI ms))) (hz : ns.length + ms.length ≤ sizeLine) : DE X N z (.BinOp a .Add b pos) (.ptr z2.o.length) ⟨z2.s, z2.o ++ [some (lI (ns ++ ms))]⟩ := by
  have := de_catP (pos := pos) ha hb eo ep (by simpa using hz)
  rw [← List.map_append] at this
  exact this
end
section
variable {X : Cx} {N : EN} {z z1 z2 : Z} {pos : Pos} {a b c : Expr} {t : Bool} {i j : Int}
theorem de_ifI (hc : DT X N z c t z1) (ha : t = true → DE X N z1 a (.d (.int i)) z2) (hb : t = false → DE X N z1 b (.d (.int j)) z2) : DE X N z (.IfExp c a b pos) (.d (.int (if t = true then i else j))) z2 := by
  have := de_if (pos := pos) hc ha hb
  have e : (if t = true then PyData.int i else PyData.int j) = PyData.int (if t = true then i else j) := by split <;> rfl
  rw [e] at this
  exact this
end
theorem cutG_drop {α : Type} {xs : List α} {i : Int} (h0 : 0 ≤ i) (h1 : i ≤ xs.length) : cutG xs (some i) none = xs.drop i.toNat := by
  unfold cutG
  have e : HT.sIx xs.length 0 (some i) = i.toNat := by
    have e2 : i = ((i.toNat : Nat) : Int) := by omega
    rw [e2, HT.sIx_nat]
    simp
    omega
  rw [e, HT.sIx_none]
  exact List.take_of_length_le (by rw [List.length_drop]; exact Nat.le_refl _)
theorem cutG_take {α : Type} {xs : List α} {i : Int} (h0 : 0 ≤ i) (h1 : i ≤ xs.length) : cutG xs none (some i) = xs.take i.toNat := by
  unfold cutG
  have e : HT.sIx xs.length xs.length (some i) = i.toNat := by
    have e2 : i = ((i.toNat : Nat) : Int) := by omega
    rw [e2, HT.sIx_nat]
    simp
    omega
  rw [e, HT.sIx_none]
  simp
/-- tuples of ints told alike -/
theorem eqv_ints : ∀ (r s : List Int), PyData.eqvAll (lI r) (lI s) = decide (r = s)
  | [], [] => rfl
  | [], _ :: _ => rfl
  | _ :: _, [] => rfl
  | x :: r, y :: s => by
    show (PyData.eqv (.int x) (.int y) && PyData.eqvAll (lI r) (lI s)) = _
    rw [eqv_ints r s]
    show ((x == y) && decide (r = s)) = _
    by_cases h : x = y <;> by_cases h2 : r = s <;> simp [h, h2]
theorem eqv_tI (r s : List Int) : PyData.eqv (tI r) (tI s) = decide (r = s) := eqv_ints r s
theorem depth_ints : ∀ r : List Int, PyData.depthAll (lI r) ≤ 1
  | [] => by simp [PyData.depthAll]
  | x :: r => by
    have : PyData.depthAll (r.map PyData.int) ≤ 1 := depth_ints r
    simp only [List.map_cons, PyData.depthAll, PyData.depth]
    omega
theorem depth_tI (r : List Int) (y : D) : min (PyData.depth (tI r)) y.depth ≤ 64 := by
  have : PyData.depthAll (r.map PyData.int) ≤ 1 := depth_ints r
  simp only [PyData.depth]
  omega
end DL
/-! DL9: least and greatest; calls by keywords; the law's own end -/
namespace DL
open PySem PySem.Spec PyProof.Rows L2

section
variable {X : Cx}
theorem DpAll.none {K : PySem.W.Frag} {F : Hp} : ∀ {vs : List V} {ds : List D} {i : Nat}, DpAll K F vs ds → vs[i]? = Option.none → ds[i]? = Option.none := fun {vs ds i} h e => by
  have := DpAll.len h
  have h2 := List.getElem?_eq_none_iff.mp e
  exact List.getElem?_eq_none_iff.mpr (by omega)
/-- the item that data names -/
theorem item_of {pins : List (Addr × Obj)} {σ : L2.St} {H : Hp} {s : Shared} {xs : List V} {ds : List D} {its : List Value} {h' : Heap} {i : Nat} {v : Value} {d : D} {bs : List Addr} (I : Inv X pins σ H s) (da : DpAll X.K H xs ds) (rv : Vals xs its) (hv : its[i]? = some v)
    (hk : ∀ b o, s.heap.get? b = some o → h'.get? b = some o) (hd : Reads h' v d bs) : ∃ x, RelV x v ∧ Dp X.K H x d := by
  cases q : xs[i]? with
  | none => rw [rv.none_of q] at hv; cases hv
  | some x =>
    obtain ⟨u, hu, ru⟩ := rv.get q
    rw [hv] at hu
    cases hu
    obtain ⟨d', hd', dp⟩ := DpAll.getV da q
    obtain ⟨as, r⟩ := Dp.reads I d' x v dp ru
    have e : d' = d := SeqAt.plain_unique d' d v as bs (Dp.plain dp) (PySem.W.reads_keeps hk r) hd
    rw [← e]
    exact ⟨x, ru, dp⟩
def rMinT (K : PySem.W.Frag) : List V → Hp → VK → Prop := fun vs H Q => ∃ v x xs, vs = [v] ∧ (Dp K H v (.tuple (x :: xs)) ∨ Dp K H v (.list (x :: xs))) ∧ PySem.W.AlikeAll (x :: xs) ∧ PyData.depthAll (x :: xs) ≤ 60 ∧ ∀ u, Dp K H u (PySem.W.minD x xs) → Q u H
theorem cr_minD (hc : X.calm = true) (hu : X.A.units + 64 < cLine) : CallR X (.builtin "min") (rMinT X.K) := by
  intro pins s σ H vs us Q I r h
  obtain ⟨v, x, xs, rfl, hd, ha, hz, q⟩ := h
  obtain ⟨u, rfl, ru⟩ := r.one
  rcases hd with hd | hd
  · obtain ⟨c, ws, rfl, h1, _, da⟩ := SqT_of_dp hd (Same.refl H)
    cases ru
    obtain ⟨its, rv, p, _⟩ := I.tuple h1
    obtain ⟨as, hr⟩ := Dp.readsAll I _ _ its da rv
    refine PySem.W.min_tuple_data (I.ok.hd hc) (show s.heap.IsTuple c its.toArray from p) hr ha (by omega) fun i v h' tk bs hv hd' hk => ?_
    obtain ⟨y, ry, dy⟩ := item_of I da rv (by simpa using hv) hk hd'
    exact ⟨y, H, I.kept hk, ry, q y dy⟩
  · obtain ⟨c, ws, rfl, h1, _, da⟩ := SqL_of_dp hd (Same.refl H)
    cases ru
    obtain ⟨its, rv, p, _⟩ := I.list h1
    obtain ⟨as, hr⟩ := Dp.readsAll I _ _ its da rv
    refine PySem.W.min_list_data (I.ok.hd hc) p.isList hr ha (by omega) fun i v h' tk bs hv hd' hk => ?_
    obtain ⟨y, ry, dy⟩ := item_of I da rv (by simpa using hv) hk hd'
    exact ⟨y, H, I.kept hk, ry, q y dy⟩
def rMaxT (K : PySem.W.Frag) : List V → Hp → VK → Prop := fun vs H Q => ∃ v x xs, vs = [v] ∧ Dp K H v (.tuple (x :: xs)) ∧ PySem.W.AlikeAll (x :: xs) ∧ PyData.depthAll (x :: xs) ≤ 60 ∧ ∀ u, Dp K H u (PySem.W.maxD x xs) → Q u H
theorem cr_maxD (hc : X.calm = true) (hu : X.A.units + 64 < cLine) : CallR X (.builtin "max") (rMaxT X.K) := by
  intro pins s σ H vs us Q I r h
  obtain ⟨v, x, xs, rfl, hd, ha, hz, q⟩ := h
  obtain ⟨u, rfl, ru⟩ := r.one
  obtain ⟨c, ws, rfl, h1, _, da⟩ := SqT_of_dp hd (Same.refl H)
  cases ru
  obtain ⟨its, rv, p, _⟩ := I.tuple h1
  obtain ⟨as, hr⟩ := Dp.readsAll I _ _ its da rv
  refine PySem.W.max_tuple_data (I.ok.hd hc) (show s.heap.IsTuple c its.toArray from p) hr ha (by omega) fun i v h' tk bs hv hd' hk => ?_
  obtain ⟨y, ry, dy⟩ := item_of I da rv (by simpa using hv) hk hd'
  exact ⟨y, H, I.kept hk, ry, q y dy⟩
variable {N : EN} {z z1 : Z} {pos p : Pos} {e : Expr} {es : List Expr} {x : Str} {ns : List Int} {n : Int}
theorem alike_ints : PySem.W.AlikeAll (lI ns) := ⟨fun a ha b hb => by
  obtain ⟨i, _, rfl⟩ := List.mem_map.mp ha
  obtain ⟨j, _, rfl⟩ := List.mem_map.mp hb
  rfl, fun a ha => by
  obtain ⟨i, _, rfl⟩ := List.mem_map.mp ha
  exact fun q => by cases q⟩
theorem de_minTI (hc : X.calm = true) (hu : X.A.units + 64 < cLine) (hg : Gl X "min") (hm : X.mg "min" = none) (h : DE X N z e (.d (tI (n :: ns))) z1) (hs : S1 X e := by rfl) : DE X N z (.Call (.Name "min" p) [e] [] pos) (.d (.int (ns.foldl min n))) z1 :=
  de_bt (cr_minD hc hu) hg hm (by decide +kernel) (da_cons h da_nil hs) (fun F α σ vs H Q fr d q => by
    obtain ⟨v, rfl, dd⟩ := DpAll.one d
    have h2 : PyData.depthAll (lI (n :: ns)) ≤ 1 := depth_ints (n :: ns)
    refine ⟨v, .int n, lI ns, rfl, .inl (dmono fr.sub dd), alike_ints (ns := n :: ns), Nat.le_trans h2 (by decide), fun u du => ?_⟩
    rw [PySem.W.minD_ints] at du
    cases du
    exact q _ F α H (On.refl F α) fr (.int _)) (he := hs)
theorem de_maxTI (hc : X.calm = true) (hu : X.A.units + 64 < cLine) (hg : Gl X "max") (hm : X.mg "max" = none) (h : DE X N z e (.d (tI (n :: ns))) z1) (hs : S1 X e := by rfl) : DE X N z (.Call (.Name "max" p) [e] [] pos) (.d (.int (ns.foldl max n))) z1 :=
  de_bt (cr_maxD hc hu) hg hm (by decide +kernel) (da_cons h da_nil hs) (fun F α σ vs H Q fr d q => by
    obtain ⟨v, rfl, dd⟩ := DpAll.one d
    have h2 : PyData.depthAll (lI (n :: ns)) ≤ 1 := depth_ints (n :: ns)
    refine ⟨v, .int n, lI ns, rfl, dmono fr.sub dd, alike_ints (ns := n :: ns), Nat.le_trans h2 (by decide), fun u du => ?_⟩
    rw [PySem.W.maxD_ints] at du
    cases du
    exact q _ F α H (On.refl F α) fr (.int _)) (he := hs)
theorem foldl_min_bd {lo hi : Int} : ∀ (ns : List Int) (n : Int), lo ≤ n ∧ n < hi → (∀ v ∈ ns, lo ≤ v ∧ v < hi) → lo ≤ ns.foldl min n ∧ ns.foldl min n < hi
  | [], n, h, _ => h
  | m :: ns, n, h, hs => by
    have := hs m List.mem_cons_self
    exact foldl_min_bd ns (min n m) (by omega) fun v hv => hs v (List.mem_cons_of_mem _ hv)
theorem foldl_max_bd {lo hi : Int} : ∀ (ns : List Int) (n : Int), lo ≤ n ∧ n < hi → (∀ v ∈ ns, lo ≤ v ∧ v < hi) → lo ≤ ns.foldl max n ∧ ns.foldl max n < hi
  | [], n, h, _ => h
  | m :: ns, n, h, hs => by
    have := hs m List.mem_cons_self
    exact foldl_max_bd ns (max n m) (by omega) fun v hv => hs v (List.mem_cons_of_mem _ hv)
end

/-! ### calls by keywords alone -/
/-- how keywords ks bind: g puts their values in the parameters' order -/
structure OkK (P : Program) (w : World) (K : PySem.W.Frag) (mg : Str → Option Value) (base : Heap) (x : Str) (k : Nat) (ps ks : List Str) (g : {α : Type} → List α → List α) (R : RT) : Prop where
  ex : ∃ f fd, FnOk P w K mg base CX0 k f fd ps (spG K R) ∧ mg x = some (.ref f) ∧ PySem.W.keepIn K (.ref f) = true ∧ ∀ (s : Shared) (ws : List Value), ws.length = ks.length → BindsTo s fd ⟨[], ks.zip ws⟩ (ps.zip (g ws))
section
variable {X : Cx} {N : EN} {z z1 z2 : Z} {pos p kpos : Pos} {e : Expr} {kws : List Keyword} {k k' : Nat} {ps ks : List Str} {x : Str} {nm : Option Str} {R : RT} {g : {α : Type} → List α → List α}
abbrev DK (X : Cx) (N : EN) (z : Z) (kws : List Keyword) (ds : List D) (z' : Z) : Prop := PK X kws (tDAd X.K N z ds z')
theorem PK.to {t t' : TA} (h : PK X kws t) (w : ∀ σ H Q, t' σ H Q → t σ H Q) : PK X kws t' := ⟨fun pos pins s σ H Q I q => h.run pos pins s σ H Q I (w _ _ _ q)⟩
theorem dk_nil : DK X N z [] [] z := PK.to pk_nil fun σ H Q ⟨F, α, fr, q⟩ => q [] F α H (On.refl F α) fr .nil
theorem dk_cons {x : D} {ds : List D} (h : DE X N z e (.d x) z1) (hr : DK X N z1 kws ds z2) : DK X N z (⟨nm, e, kpos⟩ :: kws) (x :: ds) z2 :=
  PK.to (pk_cons h hr) fun σ H Q ⟨F, α, fr, q⟩ => ⟨F, α, fr, fun v F1 α1 H1 o1 fr1 d1 => ⟨F1, α1, fr1, fun vs F2 α2 H2 o2 fr2 d2 => q _ F2 α2 H2 (o1.trans o2) fr2 (.cons (o2.dp d1) d2)⟩⟩
theorem de_clK {ds : List D} {v : D} (G : OkK X.prog X.w X.K X.mg X.base x k ps ks g R) (hr : Room k' X.A) (hg : Gl X x) (ha : DK X N z kws ds z1) (hl : ds.length = ks.length) (hR : R (g ds) [] (.d v) [])
    (gV : ∀ {vs : List V} {us : List Value}, vs.length = ks.length → Vals vs us → Vals (g vs) (g us)) (gD : ∀ {K : PySem.W.Frag} {F : Hp} {vs : List V}, DpAll K F vs ds → DpAll K F (g vs) (g ds)) (hk : k ≤ k' := by decide)
    (hall : (backToKw pos (keywordEach kws X.env)).all (·.1.isSome) = true := by rfl) (hks : (backToKw pos (keywordEach kws X.env)).filterMap (·.1) = ks := by rfl) (hdb : (x == ("__debug__" : Str)) = false := by decide)
    (hpl : ((backTo pos (starEach [] X.env)).any (·.1) || (backToKw pos (keywordEach kws X.env)).any (·.1.isNone)) = false := by rfl) :
    DE X N z (.Call (.Name x p) [] kws pos) (.d v) z1 := by
  obtain ⟨f, fd, F, hm, hkp, hb⟩ := G.ex
  refine ⟨fun pins s σ H Q I h => ?_⟩
  obtain ⟨Fh, α, fr, q⟩ := h
  refine wpAny_Call_Name_kw (ld_glob I hg hm ?_ hdb)
  refine PySem.W.callWith_KW0 (h₀ := X.base) I.ok.mod.kin hkp hall ?_ hpl
  refine thn (ha.run pos pins s σ H (fun zs H2 => ∃ F2 α2, On Fh F2 α α2 ∧ Fr X.K N F2 α2 z1 σ H2 ∧ DpAll X.K F2 zs ds) I ⟨Fh, α, fr, fun vs F2 α2 H2 o2 fr2 d2 => ⟨F2, α2, o2, fr2, d2⟩⟩) fun ws s2 ⟨zs, H2, I2, rz, F2, α2, o2, fr2, d2⟩ => ⟨I2.kIn, ?_⟩
  rw [hks]
  have lz : zs.length = ks.length := (DpAll.len d2).trans hl
  have r2 := gV lz rz
  have hsp : spG X.K R (g zs) H2 Q E0 := sp_call0 (r := .d v) fr2 (gD d2) hR fun v F3 α3 H3 o3 f3 r3 => q v F3 α3 H3 (o2.trans o3) f3 r3
  refine wpAny_call (codeAny_mono (F.run X.A X.stack s2 H2 ⟨[], ks.zip ws⟩ (g ws) (g zs) Q E0 (hr.mono hk) I2.env0 (hb s2 ws (rz.length.symm.trans lz)) r2 hsp) fun r s' hq => ?_)
  cases r with
  | error e => exact pass0 (X := X) pins σ H2 s2 e s' I2 hq
  | ok fl =>
    cases fl with
    | ret u => exact I2.after hq
    | next => exact False.elim hq
    | brk => exact False.elim hq
    | cont => exact False.elim hq
end

/-! ### the end of a law -/
def spLaw (K : PySem.W.Frag) : Sp := fun vs H Q _ => ∃ (a : Addr) (ns : List Int), vs = [.ref a] ∧ SqL K H a (ns.map V.int) ∧ ns.length ≤ 63 ∧ ∀ H', Q (.bl true) H'
def RLaw : RT := fun as π r π' => ∃ ns : List Int, as = [.list (lI ns)] ∧ ns.length ≤ 63 ∧ π = [] ∧ π' = [] ∧ r = .d (.bool true)
theorem sp_law {K : PySem.W.Frag} {vs : List V} {H : Hp} {Q : VK} {E : XK} (h : spLaw K vs H Q E) : spG K RLaw vs H Q E := by
  obtain ⟨a, ns, rfl, hs, hl, q⟩ := h
  refine ⟨[], H, [.ref a], [.list (lI ns)], [], [], .d (.bool true), ⟨ns, rfl, hl, rfl, rfl, rfl⟩, rfl, .cons (.lst hs (dpAll_ints ns)) .nil, Same.refl H, ⟨rfl, fun k a xs e => by simp at e⟩, List.nodup_nil, rfl, fun v F' H' _ _ _ _ _ r => ?_⟩
  cases (r : Dp K F' v (.bool true))
  exact q H'
/-- a def behind the top, by the head's facts -/
structure Raw (K : PySem.W.Frag) (x : Str) (st : Stmt) : Prop where
  ex : ∃ (f : Addr) (oc : Value) (od an : Option Addr) (sl : Array (Option Value)) (kV dc pm cd ct : Value), PySem.W.nsIn K mainGlobals x = some (some (.ref f)) ∧
    K.lookup f = some ⟨oc, od, .func (PySem.W.fnOf x x (defArgs st) (defBody st) (defScope st) .none kV dc pm an cd ct), sl⟩ ∧ PySem.W.codeIn K cd x = true ∧ PySem.W.keepIn K (.ref f) = true
theorem raw_mk {K : PySem.W.Frag} {x : Str} {st : Stmt} {f : Addr} {oc : Value} {od an : Option Addr} {sl : Array (Option Value)} {kV dc pm cd ct : Value} (a : PySem.W.nsIn K mainGlobals x = some (some (.ref f)))
    (l : K.lookup f = some ⟨oc, od, .func (PySem.W.fnOf x x (defArgs st) (defBody st) (defScope st) .none kV dc pm an cd ct), sl⟩) (c : PySem.W.codeIn K cd x = true) (k : PySem.W.keepIn K (.ref f) = true) : Raw K x st := ⟨f, oc, od, an, sl, kV, dc, pm, cd, ct, a, l, c, k⟩
theorem Raw.at_ {K : PySem.W.Frag} {x : Str} {st : Stmt} {h : Heap} {mg : Str → Option Value} {ps : List Str} (R : Raw K x st) (X : K.In h) (G : h.Ns mainGlobals mg)
    (b : ∀ (kV doc pm : Value) (an : Option Addr) (cdv ct : Value) (us : List Value), us.length = ps.length → bindArgs (PySem.W.fnOf x x (defArgs st) (defBody st) (defScope st) .none kV doc pm an cdv ct) ⟨us, []⟩ = pure (ps.zip us)) : FunAt K mg x st ps := by
  obtain ⟨f, oc, od, an, sl, kV, dc, pm, cd, ct, a, l, c, k⟩ := R.ex
  have F := fun_mk (st := st) l c k
  exact ⟨f, _, F, PySem.W.mg_of X G a, F.binds b⟩
/-- the same with keywords -/
theorem OkD.kw {P : Program} {w : World} {K : PySem.W.Frag} {mg : Str → Option Value} {base : Heap} {x : Str} {k : Nat} {ps ks : List Str} {R : RT} {st : Stmt} {g : {α : Type} → List α → List α} (O : OkD P w K mg base x k ps R) (F : FunAt K mg x st ps)
    (b : ∀ (kV doc pm : Value) (an : Option Addr) (cdv ct : Value) (ws : List Value), ws.length = ks.length → bindArgs (PySem.W.fnOf x x (defArgs st) (defBody st) (defScope st) .none kV doc pm an cdv ct) ⟨[], ks.zip ws⟩ = pure (ps.zip (g ws))) : OkK P w K mg base x k ps ks g R := by
  obtain ⟨f, fd, G, hm, hkp, hb, oc, od, osl, lk⟩ := O.ex
  obtain ⟨f', fd', F', hm', _⟩ := F.ex
  rw [hm] at hm'
  cases hm'
  obtain ⟨oc', od', kV, doc, pm, an, cdv, ct, osl', e, lk', _⟩ := F'.ex
  rw [lk] at lk'
  cases lk'
  exact ⟨f, fd, G, hm, hkp, fun s ws hl => .of_eq (by rw [e]; exact b kV doc pm an cdv ct ws hl)⟩
theorem vals_rev0 : ∀ {vs : List V} {us : List Value}, Vals vs us → Vals vs.reverse us.reverse
  | _, _, .nil => .nil
  | _, _, .cons r t => by
    rw [List.reverse_cons, List.reverse_cons]
    exact (vals_rev0 t).append (.cons r .nil)
theorem vals_rev {vs : List V} {us : List Value} {n : Nat} (_ : vs.length = n) (h : Vals vs us) : Vals vs.reverse us.reverse := vals_rev0 h
theorem dps_rev {K : PySem.W.Frag} {F : Hp} {vs : List V} {ds : List D} (h : DpAll K F vs ds) : DpAll K F vs.reverse ds.reverse := DpAll.reverse h
theorem neq1 {r s : List Int} (h : r = s) : (!PyData.eqv (tI r) (tI s)) = false := by rw [eqv_tI, decide_eq_true h]; rfl
theorem neq2 {r s u v : List Int} (h : r = s) (h2 : u = v) : (!PyData.eqv (tI r) (tI s) || !PyData.eqv (tI u) (tI v)) = false := by rw [neq1 h, neq1 h2]; rfl
theorem walk {l : PySem.W.OpenLaw} {q : Program} {loose : List Str} {XP : (Str → Option Value) → Heap → Prop} {YP : World → Heap → Prop} {d : DefRec} {K : Params → PySem.W.Frag} {k : Nat} (hr : Room k callerA) (hn : l.most = some 63) (hdf : d.params.defaults = [])
    (hY : ∀ (w : World) (h : Heap), YP w h → (K w.params).In h)
    (F : ∀ (w : World) (mg : Str → Option Value) (fa : Addr) (h : Heap), (K w.params).In h → h.Ns mainGlobals mg → mg d.name = some (.ref fa) →
      ∃ fd : FuncData, (∀ (s : Shared) (u : Value), BindsTo s fd ⟨[u], []⟩ [("script", u)]) ∧ ∀ base : Heap, (K w.params).In base → base.Ns mainGlobals mg → FnOk l.prog w (K w.params) mg base CX0 k fa fd ["script"] (spG (K w.params) RLaw)) :
    PySem.W.WalkO q loose XP YP l.row.toRowW d [] (fun f vs => PySem.call f vs) :=
  L2.walk_of (n := 63) (k := k) (x := "script") (CX := fun _ => CX0) (sp := fun w => spLaw (K w.params)) hn (by decide) hdf hr hY (fun w mg fa h KX G hm => by
    obtain ⟨fd, h1, h2⟩ := F w mg fa h KX G hm
    exact ⟨fd, h1, fun base a b => (h2 base a b).imp fun vs H Q E z => sp_law z⟩) (fun _ _ a ns hl _ hS => ⟨a, ns, rfl, hS, hl, fun _ => rfl⟩) fun _ _ _ _ _ z => z
end DL
/-! MR: days of a ring, in plain Lean -/
namespace DL
def tab (n : Nat) (g : Nat → Int) : List Int := (List.range n).map g
theorem tab_len (n : Nat) (g : Nat → Int) : (tab n g).length = n := by simp [tab]
theorem tab_get (n : Nat) (g : Nat → Int) (k : Nat) (h : k < n) : (tab n g).getD k 0 = g k := by simp [tab, List.getD_eq_getElem?_getD, h]
theorem tab_get? (n : Nat) (g : Nat → Int) (k : Nat) (h : k < n) : (tab n g)[k]? = some (g k) := by simp [tab, h]
theorem list_ext {r s : List Int} (hl : r.length = s.length) (h : ∀ k, k < r.length → r.getD k 0 = s.getD k 0) : r = s := by
  apply List.ext_getElem hl
  intro i h1 h2
  have := h i h1
  rw [List.getD_eq_getElem?_getD, List.getD_eq_getElem?_getD, List.getElem?_eq_getElem h1, List.getElem?_eq_getElem h2] at this
  simpa using this
theorem tab_self (r : List Int) : tab r.length (fun k => r.getD k 0) = r := list_ext (tab_len _ _) fun k hk => by
  rw [tab_len] at hk
  exact tab_get _ _ k hk
theorem tab_congr {n : Nat} {g g' : Nat → Int} (h : ∀ k, k < n → g k = g' k) : tab n g = tab n g' := list_ext (by rw [tab_len, tab_len]) fun k hk => by
  rw [tab_len] at hk
  rw [tab_get _ _ k hk, tab_get _ _ k hk, h k hk]
theorem map_tab (n : Nat) (g : Nat → Int) (f : Int → Int) : (tab n g).map f = tab n fun k => f (g k) := by
  unfold tab
  rw [List.map_map]
  rfl
theorem map_getD (r : List Int) (f : Int → Int) : r.map f = tab r.length fun k => f (r.getD k 0) := by
  have := map_tab r.length (fun k => r.getD k 0) f
  rw [tab_self] at this
  exact this

theorem tab_succ (n : Nat) (g : Nat → Int) : tab (n + 1) g = tab n g ++ [g n] := by
  unfold tab
  rw [List.range_succ, List.map_append]
  rfl
/-- the ring going round -/
def F (r : List Int) (h : Nat) : Int := r.getD (h % r.length) 0
theorem F_at (r : List Int) (h : Nat) (hh : h < r.length) : F r h = r.getD h 0 := by unfold F; rw [Nat.mod_eq_of_lt hh]
theorem F_per (r : List Int) (h : Nat) : F r (h + r.length) = F r h := by unfold F; rw [Nat.add_mod_right]
theorem F_mod (r : List Int) (h : Nat) : F r (h % r.length) = F r h := by unfold F; rw [Nat.mod_mod]
def dayM (o n : Int) (r : List Int) : List Int := tab r.length fun k => o * r.getD k 0 + n * F r (k + 1)
theorem dayM_len (o n : Int) (r : List Int) : (dayM o n r).length = r.length := tab_len _ _
theorem F_day (o n : Int) (r : List Int) (h : Nat) : F (dayM o n r) h = o * F r h + n * F r (h + 1) := by
  by_cases h0 : r.length = 0
  · have e : r = [] := List.eq_nil_of_length_eq_zero h0
    subst e
    simp [F, dayM, tab]
  · unfold F dayM
    rw [tab_len, tab_get _ _ _ (Nat.mod_lt _ (by omega))]
    unfold F
    rw [Nat.mod_add_mod]
def laterM (o n : Int) (r : List Int) : Nat → List Int
  | 0 => r
  | k + 1 => dayM o n (laterM o n r k)
theorem laterM_len (o n : Int) (r : List Int) : ∀ k, (laterM o n r k).length = r.length
  | 0 => rfl
  | k + 1 => (dayM_len o n _).trans (laterM_len o n r k)
theorem laterM_add (o n : Int) (r : List Int) (a : Nat) : ∀ b, laterM o n r (a + b) = laterM o n (laterM o n r a) b
  | 0 => rfl
  | b + 1 => congrArg (dayM o n) (laterM_add o n r a b)
theorem laterM_succ (o n : Int) (r : List Int) (k : Nat) : laterM o n r (k + 1) = laterM o n (dayM o n r) k := by
  rw [Nat.add_comm, laterM_add]
  rfl
theorem ring_ext {r s : List Int} (hl : r.length = s.length) (h : ∀ k, k < r.length → F r k = F s k) : r = s := list_ext hl fun k hk => by
  rw [← F_at r k hk, ← F_at s k (by omega)]
  exact h k hk

/-! ### sums -/
def sumR (n : Nat) (g : Nat → Int) : Int := ((List.range n).map g).sum
theorem sumR_zero (g : Nat → Int) : sumR 0 g = 0 := rfl
theorem sumR_succ (n : Nat) (g : Nat → Int) : sumR (n + 1) g = sumR n g + g n := by
  unfold sumR
  rw [List.range_succ, List.map_append, List.sum_append]
  simp
theorem sumR_congr {n : Nat} {g g' : Nat → Int} (h : ∀ k, k < n → g k = g' k) : sumR n g = sumR n g' := by
  induction n with
  | zero => rfl
  | succ n ih => rw [sumR_succ, sumR_succ, ih fun k hk => h k (by omega), h n (by omega)]
theorem sumR_add (n : Nat) (g g' : Nat → Int) : sumR n (fun k => g k + g' k) = sumR n g + sumR n g' := by
  induction n with
  | zero => rfl
  | succ n ih => rw [sumR_succ, sumR_succ, sumR_succ, ih]; omega
theorem sumR_mul (n : Nat) (c : Int) (g : Nat → Int) : sumR n (fun k => c * g k) = c * sumR n g := by
  induction n with
  | zero => simp [sumR_zero]
  | succ n ih => rw [sumR_succ, sumR_succ, ih, Int.mul_add]
theorem sumR_const0 (n : Nat) : sumR n (fun _ => 0) = 0 := by
  induction n with
  | zero => rfl
  | succ n ih => rw [sumR_succ, ih]; rfl
theorem sumR_comm (n m : Nat) (g : Nat → Nat → Int) : sumR n (fun a => sumR m fun b => g a b) = sumR m (fun b => sumR n fun a => g a b) := by
  induction n with
  | zero => simp only [sumR_zero]; rw [sumR_const0]
  | succ n ih =>
    rw [sumR_succ, ih, ← sumR_add]
    exact sumR_congr fun k _ => (sumR_succ n fun a => g a k).symm
theorem sumR_succ' (n : Nat) (g : Nat → Int) : sumR (n + 1) g = g 0 + sumR n (fun k => g (k + 1)) := by
  induction n with
  | zero => rw [sumR_succ, sumR_zero, sumR_zero]; omega
  | succ n ih => rw [sumR_succ, ih, sumR_succ]; omega
/-- a sum over a whole round, begun elsewhere -/
theorem sumR_shift1 (n : Nat) (g : Nat → Int) (hp : ∀ h, g (h + n) = g h) : sumR n (fun k => g (k + 1)) = sumR n g := by
  cases n with
  | zero => rfl
  | succ n =>
    rw [sumR_succ, sumR_succ']
    have := hp 0
    rw [Nat.zero_add] at this
    rw [this]; omega
theorem sumR_shift (n : Nat) (g : Nat → Int) (hp : ∀ h, g (h + n) = g h) (a : Nat) : sumR n (fun k => g (k + a)) = sumR n g := by
  induction a with
  | zero => rfl
  | succ a ih =>
    rw [← ih]
    have := sumR_shift1 n (fun k => g (k + a)) fun h => by
      show g (h + n + a) = g (h + a)
      rw [Nat.add_right_comm, hp]
    rw [← this]
    exact sumR_congr fun k _ => by rw [Nat.add_right_comm]; rfl

/-! ### rests -/
/-- alike by m -/
def Cg (m a b : Int) : Prop := m ∣ a - b
theorem Cg.refl (m a : Int) : Cg m a a := ⟨0, by omega⟩
theorem Cg.symm {m a b : Int} (h : Cg m a b) : Cg m b a := by
  obtain ⟨q, e⟩ := h
  exact ⟨-q, by rw [Int.mul_neg, ← e]; omega⟩
theorem Cg.trans {m a b c : Int} (h : Cg m a b) (h' : Cg m b c) : Cg m a c := by
  obtain ⟨q, e⟩ := h
  obtain ⟨q', e'⟩ := h'
  exact ⟨q + q', by rw [Int.mul_add, ← e, ← e']; omega⟩
theorem Cg.add {m a b c d : Int} (h : Cg m a b) (h' : Cg m c d) : Cg m (a + c) (b + d) := by
  obtain ⟨q, e⟩ := h
  obtain ⟨q', e'⟩ := h'
  exact ⟨q + q', by rw [Int.mul_add, ← e, ← e']; omega⟩
theorem Cg.mul {m a b : Int} (c : Int) (h : Cg m a b) : Cg m (c * a) (c * b) := by
  obtain ⟨q, e⟩ := h
  exact ⟨c * q, by rw [← Int.mul_sub, e, Int.mul_left_comm]⟩
theorem Cg.mulR {m a b : Int} (c : Int) (h : Cg m a b) : Cg m (a * c) (b * c) := by
  rw [Int.mul_comm a, Int.mul_comm b]
  exact h.mul c
theorem Cg.mod (m a : Int) : Cg m (a % m) a := ⟨-(a / m), by have := Int.emod_add_mul_ediv a m; rw [Int.mul_neg]; omega⟩
theorem Cg.emod {m a b : Int} (h : Cg m a b) : a % m = b % m := Int.emod_eq_emod_iff_emod_sub_eq_zero.mpr (Int.emod_eq_zero_of_dvd h)
theorem Cg.of {m a b : Int} (h : a % m = b % m) : Cg m a b := Int.dvd_of_emod_eq_zero (Int.emod_eq_emod_iff_emod_sub_eq_zero.mp h)
theorem Cg.sum {m : Int} {n : Nat} {g g' : Nat → Int} (h : ∀ k, k < n → Cg m (g k) (g' k)) : Cg m (sumR n g) (sumR n g') := by
  induction n with
  | zero => exact Cg.refl _ _
  | succ n ih => rw [sumR_succ, sumR_succ]; exact (ih fun k hk => h k (by omega)).add (h n (by omega))

/-! ### one go for two goes -/
/-- what a list weighs -/
def dot (n : Nat) (c : List Int) (g : Nat → Int) : Int := sumR n fun s => c.getD s 0 * g s
theorem getD_set (f : List Int) (s : Nat) (v : Int) (j : Nat) (hs : s < f.length) : (f.set s v).getD j 0 = if s = j then v else f.getD j 0 := by
  rw [List.getD_eq_getElem?_getD, List.getD_eq_getElem?_getD, List.getElem?_set]
  by_cases h : s = j
  · rw [if_pos h, if_pos h, if_pos hs]; rfl
  · rw [if_neg h, if_neg h]
theorem dot_set0 (f : List Int) (s : Nat) (v : Int) (g : Nat → Int) (hs : s < f.length) : ∀ m, dot m (f.set s v) g = dot m f g + if s < m then (v - f.getD s 0) * g s else 0
  | 0 => by simp [dot, sumR_zero]
  | m + 1 => by
    have ih := dot_set0 f s v g hs m
    unfold dot at ih ⊢
    rw [sumR_succ, sumR_succ, ih, getD_set f s v m hs]
    by_cases h : s = m
    · subst h
      rw [if_pos rfl, if_neg (by omega), if_pos (by omega), Int.sub_mul]
      omega
    · rw [if_neg h]
      by_cases h2 : s < m
      · rw [if_pos h2, if_pos (by omega)]; omega
      · rw [if_neg h2, if_neg (by omega)]; omega
theorem dot_set (n : Nat) (f : List Int) (s : Nat) (v : Int) (g : Nat → Int) (hs : s < n) (hl : f.length = n) : dot n (f.set s v) g = dot n f g + (v - f.getD s 0) * g s := by
  rw [dot_set0 f s v g (by omega) n, if_pos hs]
def timesIn (n : Nat) (by_ first : Int) (left : Nat) (other : List Int) (f : List Int) : Nat → List Int
  | 0 => f
  | r + 1 => (timesIn n by_ first left other f r).set ((left + r) % n) (((timesIn n by_ first left other f r).getD ((left + r) % n) 0 + first * other.getD r 0) % by_)
def timesOut (n : Nat) (by_ : Int) (one other : List Int) : Nat → List Int
  | 0 => List.replicate n 0
  | l + 1 => timesIn n by_ (one.getD l 0) l other (timesOut n by_ one other l) other.length
def timesM (by_ : Int) (one other : List Int) : List Int := timesOut one.length by_ one other one.length
theorem timesIn_len (n : Nat) (by_ first : Int) (left : Nat) (other f : List Int) : ∀ r, (timesIn n by_ first left other f r).length = f.length
  | 0 => rfl
  | r + 1 => by unfold timesIn; rw [List.length_set]; exact timesIn_len n by_ first left other f r
theorem timesOut_len (n : Nat) (by_ : Int) (one other : List Int) : ∀ l, (timesOut n by_ one other l).length = n
  | 0 => by simp [timesOut]
  | l + 1 => by unfold timesOut; rw [timesIn_len]; exact timesOut_len n by_ one other l
theorem timesM_len (by_ : Int) (one other : List Int) : (timesM by_ one other).length = one.length := timesOut_len _ _ _ _ _
/-- every item lies below by -/
def Low (by_ : Int) (f : List Int) : Prop := ∀ v ∈ f, 0 ≤ v ∧ v < by_
theorem Low.getD {by_ : Int} {f : List Int} (h : Low by_ f) (h0 : 0 < by_) (k : Nat) : 0 ≤ f.getD k 0 ∧ f.getD k 0 < by_ := by
  rw [List.getD_eq_getElem?_getD]
  cases e : f[k]? with
  | none => exact ⟨Int.le_refl 0, h0⟩
  | some v => exact h v (List.mem_of_getElem? e)
theorem Low.set {by_ : Int} {f : List Int} (h : Low by_ f) (h0 : 0 < by_) (s : Nat) (x : Int) : Low by_ (f.set s (x % by_)) := fun v hv => by
  rcases List.mem_or_eq_of_mem_set hv with hv | rfl
  · exact h v hv
  · exact ⟨Int.emod_nonneg _ (by omega), Int.emod_lt_of_pos _ h0⟩
theorem low_in (n : Nat) (by_ first : Int) (left : Nat) (other f : List Int) (h0 : 0 < by_) (h : Low by_ f) : ∀ r, Low by_ (timesIn n by_ first left other f r)
  | 0 => h
  | r + 1 => (low_in n by_ first left other f h0 h r).set h0 _ _
theorem low_out (n : Nat) (by_ : Int) (one other : List Int) (h0 : 0 < by_) : ∀ l, Low by_ (timesOut n by_ one other l)
  | 0 => fun v hv => by
    have e : v = 0 := List.eq_of_mem_replicate hv
    subst e
    exact ⟨Int.le_refl 0, h0⟩
  | l + 1 => low_in n by_ _ l other _ h0 (low_out n by_ one other h0 l) _
theorem low_times (by_ : Int) (one other : List Int) (h0 : 0 < by_) : Low by_ (timesM by_ one other) := low_out _ _ _ _ h0 _
theorem dot_in (n : Nat) (by_ first : Int) (left : Nat) (other f : List Int) (g : Nat → Int) (hn : 0 < n) (hl : f.length = n) : ∀ r, Cg by_ (dot n (timesIn n by_ first left other f r) g) (dot n f g + first * sumR r fun k => other.getD k 0 * g ((left + k) % n))
  | 0 => by
    rw [sumR_zero, Int.mul_zero, Int.add_zero]
    exact Cg.refl _ _
  | r + 1 => by
    have ih := dot_in n by_ first left other f g hn hl r
    have hs : (left + r) % n < n := Nat.mod_lt _ hn
    show Cg by_ (dot n ((timesIn n by_ first left other f r).set ((left + r) % n) _) g) _
    rw [dot_set n _ _ _ g hs (by rw [timesIn_len]; exact hl), sumR_succ, Int.mul_add, ← Int.add_assoc]
    refine ih.add ?_
    rw [← Int.mul_assoc]
    refine Cg.mulR _ ?_
    have := Cg.mod by_ ((timesIn n by_ first left other f r).getD ((left + r) % n) 0 + first * other.getD r 0)
    obtain ⟨q, e⟩ := this
    exact ⟨q, by rw [← e]; omega⟩
theorem dot_out (n : Nat) (by_ : Int) (one other : List Int) (g : Nat → Int) (hn : 0 < n) : ∀ l, Cg by_ (dot n (timesOut n by_ one other l) g) (sumR l fun a => one.getD a 0 * sumR other.length fun k => other.getD k 0 * g ((a + k) % n))
  | 0 => by
    rw [sumR_zero]
    have e : dot n (List.replicate n 0) g = 0 := by
      unfold dot
      refine Eq.trans (sumR_congr (g' := fun _ => 0) fun k hk => ?_) (sumR_const0 n)
      rw [List.getD_eq_getElem?_getD, List.getElem?_replicate, if_pos hk]
      simp
    show Cg by_ (dot n (List.replicate n 0) g) 0
    rw [e]
    exact Cg.refl _ _
  | l + 1 => by
    have ih := dot_out n by_ one other g hn l
    rw [sumR_succ]
    exact (dot_in n by_ (one.getD l 0) l other _ g hn (timesOut_len n by_ one other l) other.length).trans (ih.add (Cg.refl _ _))
/-- the houses taken together -/
def act (n : Nat) (c : List Int) (f : Nat → Int) (h : Nat) : Int := sumR n fun j => c.getD j 0 * f (h + j)
theorem act_times (n : Nat) (by_ : Int) (one other : List Int) (f : Nat → Int) (hp : ∀ h, f (h + n) = f h) (hn : 0 < n) (h1 : one.length = n) (h2 : other.length = n) (h : Nat) :
    Cg by_ (act n (timesM by_ one other) f h) (act n one (act n other f) h) := by
  have hm : ∀ a h, f (h + a % n) = f (h + a) := fun a h => by
    have key : ∀ q b, f (b + n * q) = f b := fun q => by
      induction q with
      | zero => intro b; rfl
      | succ q ih => intro b; rw [Nat.mul_succ, ← Nat.add_assoc, hp, ih]
    have := key (a / n) (h + a % n)
    rw [Nat.add_assoc, Nat.mod_add_div] at this
    exact this.symm
  have q := dot_out n by_ one other (fun s => f (h + s)) hn n
  unfold timesM
  rw [h1]
  refine Cg.trans q ?_
  unfold act
  rw [h2]
  refine Cg.sum fun a _ => Cg.mul _ (Cg.sum fun k _ => ?_)
  rw [hm, Nat.add_assoc]
  exact Cg.refl _ _
theorem act_per (n : Nat) (c : List Int) (f : Nat → Int) (hp : ∀ h, f (h + n) = f h) (h : Nat) : act n c f (h + n) = act n c f h := by
  unfold act
  exact sumR_congr fun k _ => by rw [Nat.add_right_comm, hp]
theorem act_cg {m : Int} (n : Nat) (c : List Int) {f f' : Nat → Int} (hf : ∀ h, Cg m (f h) (f' h)) (h : Nat) : Cg m (act n c f h) (act n c f' h) := Cg.sum fun k _ => Cg.mul _ (hf _)
def iter (n : Nat) (c : List Int) (f : Nat → Int) : Nat → Nat → Int
  | 0 => f
  | k + 1 => act n c (iter n c f k)
theorem iter_per (n : Nat) (c : List Int) (f : Nat → Int) (hp : ∀ h, f (h + n) = f h) : ∀ k h, iter n c f k (h + n) = iter n c f k h
  | 0, h => hp h
  | k + 1, h => act_per n c _ (iter_per n c f hp k) h
/-- two goes in one -/
theorem iter_two {m : Int} (n : Nat) (c : List Int) (f : Nat → Int) (hp : ∀ h, f (h + n) = f h) (hn : 0 < n) (hc : c.length = n) : ∀ k h, Cg m (iter n (timesM m c c) f k h) (iter n c f (2 * k) h)
  | 0, h => Cg.refl _ _
  | k + 1, h => by
    have ih := iter_two (m := m) n c f hp hn hc k
    show Cg m (act n (timesM m c c) (iter n (timesM m c c) f k) h) (act n c (act n c (iter n c f (2 * k))) h)
    refine (act_times n m c c _ (fun h => iter_per n (timesM m c c) f hp k h) hn hc hc h).trans ?_
    exact act_cg n c (act_cg n c ih) h
/-- the rule as a list of weights -/
def step0 (N : Nat) (o n : Int) : List Int := ((List.replicate N 0).set 0 (0 + o)).set (1 % N) ((((List.replicate N 0).set 0 (0 + o)).getD (1 % N) 0) + n)
theorem step0_len (N : Nat) (o n : Int) : (step0 N o n).length = N := by simp [step0]
theorem act_step0 (N : Nat) (o n : Int) (f : Nat → Int) (hp : ∀ h, f (h + N) = f h) (hN : 0 < N) (h : Nat) : act N (step0 N o n) f h = o * f h + n * f (h + 1) := by
  have h1 : 1 % N < N := Nat.mod_lt _ hN
  show dot N (step0 N o n) (fun j => f (h + j)) = _
  unfold step0
  rw [dot_set N _ (1 % N) _ _ h1 (by simp), dot_set N _ 0 _ _ hN (by simp)]
  have e0 : dot N (List.replicate N 0) (fun j => f (h + j)) = 0 := by
    unfold dot
    refine Eq.trans (sumR_congr (g' := fun _ => 0) fun k hk => ?_) (sumR_const0 N)
    rw [List.getD_eq_getElem?_getD, List.getElem?_replicate, if_pos hk]
    simp
  have e1 : (List.replicate N (0 : Int)).getD 0 0 = 0 := by
    rw [List.getD_eq_getElem?_getD, List.getElem?_replicate, if_pos hN]
    rfl
  rw [e0, e1]
  have e2 : f (h + 1 % N) = f (h + 1) := by
    by_cases hN1 : N = 1
    · subst hN1
      exact (hp h).symm
    · rw [Nat.mod_eq_of_lt (by omega)]
  show 0 + (0 + o - 0) * f (h + 0) + (((List.replicate N 0).set 0 (0 + o)).getD (1 % N) 0 + n - ((List.replicate N 0).set 0 (0 + o)).getD (1 % N) 0) * f (h + 1 % N) = _
  rw [e2]
  have e3 : (((List.replicate N 0).set 0 (0 + o)).getD (1 % N) 0 + n - ((List.replicate N 0).set 0 (0 + o)).getD (1 % N) 0) = n := by omega
  rw [e3]
  have e4 : 0 + o - 0 = o := by omega
  rw [e4, Nat.add_zero]
  omega
theorem iter_step0 (o n : Int) (r : List Int) (hN : 0 < r.length) : ∀ k h, iter r.length (step0 r.length o n) (F r) k h = F (laterM o n r k) h
  | 0, h => rfl
  | k + 1, h => by
    show act r.length (step0 r.length o n) (iter r.length (step0 r.length o n) (F r) k) h = F (dayM o n (laterM o n r k)) h
    rw [act_step0 _ _ _ _ (fun h => iter_per _ _ _ (F_per r) k h) hN, F_day, iter_step0 o n r hN k h, iter_step0 o n r hN k (h + 1)]
/-- what the loop of rests keeps -/
structure RInv (N : Nat) (m : Int) (T : Nat → (Nat → Int) → Nat → Int) (D : Nat) (W S : List Int) (d : Nat) : Prop where
  w : W.length = N
  s : S.length = N
  inv : ∀ f : Nat → Int, (∀ h, f (h + N) = f h) → ∀ h, Cg m (act N W (iter N S f d) h) (T D f h)
theorem RInv.even {N : Nat} {m : Int} {T : Nat → (Nat → Int) → Nat → Int} {D : Nat} {W S : List Int} {d : Nat} (I : RInv N m T D W S d) (hN : 0 < N) (h2 : d % 2 = 0) : RInv N m T D W (timesM m S S) (d / 2) :=
  ⟨I.w, (timesM_len _ _ _).trans I.s, fun f hp h => by
    have q := I.inv f hp h
    have e : d = 2 * (d / 2) := by omega
    rw [e] at q
    exact (act_cg N W (iter_two N S f hp hN I.s (d / 2)) h).trans q⟩
theorem RInv.odd {N : Nat} {m : Int} {T : Nat → (Nat → Int) → Nat → Int} {D : Nat} {W S : List Int} {d : Nat} (I : RInv N m T D W S d) (hN : 0 < N) (h2 : d % 2 = 1) : RInv N m T D (timesM m W S) (timesM m S S) (d / 2) :=
  ⟨(timesM_len _ _ _).trans I.w, (timesM_len _ _ _).trans I.s, fun f hp h => by
    have q := I.inv f hp h
    have e : d = 2 * (d / 2) + 1 := by omega
    rw [e] at q
    refine (act_times N m W S _ (fun h => iter_per N _ f hp _ h) hN I.w I.s h).trans ?_
    refine (act_cg N W (fun h => act_cg N S (iter_two N S f hp hN I.s (d / 2)) h) h).trans ?_
    exact q⟩
def one0 (N : Nat) (m : Int) : List Int := [1 % m] ++ List.replicate ((N : Int) - 1).toNat 0
theorem one0_len (N : Nat) (m : Int) (hN : 0 < N) : (one0 N m).length = N := by simp [one0]; omega
theorem act_one0 (N : Nat) (m : Int) (f : Nat → Int) (hN : 0 < N) (h : Nat) : Cg m (act N (one0 N m) f h) (f h) := by
  cases N with
  | zero => omega
  | succ N =>
    unfold act
    rw [sumR_succ']
    have e : (sumR N fun k => (one0 (N + 1) m).getD (k + 1) 0 * f (h + (k + 1))) = 0 := by
      refine Eq.trans (sumR_congr (g' := fun _ => 0) fun k hk => ?_) (sumR_const0 N)
      have e1 : (one0 (N + 1) m).getD (k + 1) 0 = 0 := by
        show ([1 % m] ++ List.replicate ((N + 1 : Nat) - 1 : Int).toNat 0).getD (k + 1) 0 = 0
        rw [List.getD_eq_getElem?_getD]
        show ((List.replicate ((N + 1 : Nat) - 1 : Int).toNat (0 : Int))[k]?).getD 0 = 0
        rw [List.getElem?_replicate, if_pos (by omega)]
        rfl
      rw [e1]
      omega
    rw [e, Int.add_zero]
    show Cg m (1 % m * f (h + 0)) (f h)
    have := (Cg.mod m 1).mulR (f h)
    rw [Int.one_mul] at this
    exact this
theorem RInv.start (o n : Int) (r : List Int) (m : Int) (D : Nat) (hN : 0 < r.length) : RInv r.length m (fun D f h => iter r.length (step0 r.length o n) f D h) D (one0 r.length m) (step0 r.length o n) D :=
  ⟨one0_len _ _ hN, step0_len _ _ _, fun f hp h => act_one0 _ m _ hN h⟩
def restsM (o n : Int) (r : List Int) (D : Nat) (m : Int) : List Int := (laterM o n r D).map (· % m)
theorem RInv.done {o n : Int} {r : List Int} {m : Int} {D : Nat} {W S : List Int} (I : RInv r.length m (fun D f h => iter r.length (step0 r.length o n) f D h) D W S 0) (hN : 0 < r.length) :
    tab r.length (fun h => (sumR r.length fun far => W.getD far 0 * F r (h + far)) % m) = restsM o n r D m := by
  unfold restsM
  rw [map_getD, laterM_len]
  refine tab_congr fun h hh => ?_
  have q := (I.inv (F r) (F_per r) h).emod
  have e : iter r.length (step0 r.length o n) (F r) D h = F (laterM o n r D) h := iter_step0 o n r hN D h
  rw [e, F_at _ _ (by rw [laterM_len]; exact hh)] at q
  exact q
theorem restsM_len (o n : Int) (r : List Int) (D : Nat) (m : Int) : (restsM o n r D m).length = r.length := by simp [restsM, laterM_len]
theorem getD_all {f : List Int} {p : Int → Prop} (h : ∀ v ∈ f, p v) (h0 : p 0) (k : Nat) : p (f.getD k 0) := by
  rw [List.getD_eq_getElem?_getD]
  cases e : f[k]? with
  | none => exact h0
  | some v => exact h v (List.mem_of_getElem? e)
theorem one0_bd (N : Nat) (m : Int) (hm : 0 < m) (k : Nat) : -(2 ^ 64) < (one0 N m).getD k 0 ∧ (one0 N m).getD k 0 < 2 ^ 64 := by
  refine getD_all (p := fun v => -(2 ^ 64) < v ∧ v < 2 ^ 64) (fun v hv => ?_) (by decide) k
  have h3 := Int.emod_nonneg 1 (show m ≠ 0 by omega)
  have h4 : 1 % m ≤ 1 := by
    by_cases h : m = 1
    · subst h; decide
    · rw [Int.emod_eq_of_lt (by omega) (by omega)]; omega
  rcases List.mem_append.mp hv with h | h
  · have : v = 1 % m := by simpa using h
    omega
  · have : v = 0 := List.eq_of_mem_replicate h
    omega
theorem step0_bd (N : Nat) (o n : Int) (ho : -9 ≤ o ∧ o ≤ 9) (hn : -9 ≤ n ∧ n ≤ 9) (k : Nat) : -(2 ^ 64) < (step0 N o n).getD k 0 ∧ (step0 N o n).getD k 0 < 2 ^ 64 := by
  have h5 : ∀ v ∈ (List.replicate N (0 : Int)).set 0 (0 + o), v = 0 ∨ v = o := fun v hv => by
    rcases List.mem_or_eq_of_mem_set hv with hv | rfl
    · exact .inl (List.eq_of_mem_replicate hv)
    · right; omega
  have h6 : ∀ j, ((List.replicate N (0 : Int)).set 0 (0 + o)).getD j 0 = 0 ∨ ((List.replicate N (0 : Int)).set 0 (0 + o)).getD j 0 = o := fun j => getD_all (p := fun v => v = 0 ∨ v = o) h5 (.inl rfl) j
  refine getD_all (p := fun v => -(2 ^ 64) < v ∧ v < 2 ^ 64) (fun v hv => ?_) (by decide) k
  rcases List.mem_or_eq_of_mem_set hv with hv | rfl
  · rcases h5 v hv with h | h <;> omega
  · rcases h6 (1 % N) with h | h <;> rw [h] <;> omega
end DL
/-! MD: the laws' draws, in plain Lean -/
namespace DL
structure RuleS (o n : Int) : Prop where
  o1 : -9 ≤ o
  o2 : o ≤ 9
  n1 : -9 ≤ n
  n2 : n ≤ 9
/-- the loop of a draw: found, wide, the second number -/
def drawL (many : Int) : Nat → Int → Int → Int → Int × Int
  | 0, f, _, b => (f, b)
  | k + 1, f, w, b => if w < many then drawL many k (f * 268435456 + (b * 69621 % 2147483647) * (b * 69621 % 2147483647 / 128 + 3) % 2147483629 / 8) (w * 268435456) (b * 69621 % 2147483647) else (f, b)
def drawM (s : Int × Int) (many : Int) : Int × Int × Int :=
  if 0 < s.1 then (s.1 % many, s.1 / many, s.2) else ((drawL many 8 0 1 s.2).1 % many, s.1, (drawL many 8 0 1 s.2).2)
def drawV (s : Int × Int) (many : Int) : Int := (drawM s many).1
def drawS (s : Int × Int) (many : Int) : Int × Int := (drawM s many).2
theorem drawV_low (s : Int × Int) (many : Int) (h : 0 < many) : 0 ≤ drawV s many ∧ drawV s many < many := by
  unfold drawV drawM
  split
  · exact ⟨Int.emod_nonneg _ (by omega), Int.emod_lt_of_pos _ h⟩
  · exact ⟨Int.emod_nonneg _ (by omega), Int.emod_lt_of_pos _ h⟩
/-- after so many draws by one number -/
def drawN (s : Int × Int) (many : Int) : Nat → Int × Int
  | 0 => s
  | k + 1 => drawS (drawN s many k) many
def drawsM (ns : List Int) (k : Int) : Int × Int :=
  let cell := if k < ns.length then (ns.getD k.toNat 0) % (10 ^ 60 * 10 ^ 60 * 10 ^ 60 * 10 ^ 60 * 10 ^ 60) else if 0 < ns.length then ns.getD (k % ns.length).toNat 0 % 10 ^ 15 + 15485863 * k else 15485863 * k
  (cell * (if 10 ^ 18 ≤ cell then 1 else 0), 1 + (cell * 69621 + 86028121 * (k + 1)) % 2147483646)
/-! the greatest common divisor, by steps -/
def cm : Nat → Int → Int → Int
  | 0, a, _ => a
  | m + 1, a, b => if b = 0 then a else cm m b (a.fmod b)
def cmOk : Nat → Int → Int → Bool
  | 0, _, b => decide (b = 0)
  | m + 1, a, b => if b = 0 then true else cmOk m b (a.fmod b)
def commonM (a b : Int) : Int := (cm 20 a b).natAbs
theorem nine {p : Int → Bool} (h : ((List.range 19).all fun i => p ((i : Int) - 9)) = true) (a : Int) (h1 : -9 ≤ a) (h2 : a ≤ 9) : p a = true := by
  have q := List.all_eq_true.mp h (a + 9).toNat (List.mem_range.mpr (by omega))
  have e : (((a + 9).toNat : Nat) : Int) - 9 = a := by omega
  rw [e] at q
  exact q
theorem nine2 {p : Int → Int → Bool} (h : ((List.range 19).all fun i => (List.range 19).all fun j => p ((i : Int) - 9) ((j : Int) - 9)) = true) (a b : Int) (h1 : -9 ≤ a) (h2 : a ≤ 9) (h3 : -9 ≤ b) (h4 : b ≤ 9) : p a b = true :=
  nine (p := p a) (nine (p := fun a => (List.range 19).all fun j => p a ((j : Int) - 9)) h a h1 h2) b h3 h4
theorem cmOk_nine (a b : Int) (h1 : -9 ≤ a) (h2 : a ≤ 9) (h3 : -9 ≤ b) (h4 : b ≤ 9) : cmOk 20 a b = true := nine2 (p := cmOk 20) (by decide +kernel) a b h1 h2 h3 h4
def nextN (n : Int) : Int := if n < 9 then n + 1 else -9
def ruleL (o : Int) : Nat → Int → Int
  | 0, n => n
  | m + 1, n => if commonM o n = 1 then n else ruleL o m (nextN n)
def ruleOk (o : Int) : Nat → Int → Bool
  | 0, n => decide (commonM o n = 1)
  | m + 1, n => if commonM o n = 1 then true else ruleOk o m (nextN n)
theorem ruleOk_nine (a b : Int) (h1 : -9 ≤ a) (h2 : a ≤ 9) (h3 : -9 ≤ b) (h4 : b ≤ 9) : ruleOk a 18 b = true := nine2 (p := fun a b => ruleOk a 18 b) (by decide +kernel) a b h1 h2 h3 h4
theorem ruleL_nine (a b : Int) (h1 : -9 ≤ a) (h2 : a ≤ 9) (h3 : -9 ≤ b) (h4 : b ≤ 9) : commonM a (ruleL a 18 b) = 1 ∧ -9 ≤ ruleL a 18 b ∧ ruleL a 18 b ≤ 9 := by
  have := nine2 (p := fun a b => decide (commonM a (ruleL a 18 b) = 1 ∧ -9 ≤ ruleL a 18 b ∧ ruleL a 18 b ≤ 9)) (by decide +kernel) a b h1 h2 h3 h4
  exact of_decide_eq_true this
def ruleO (s : Int × Int) : Int := drawV s 19 - 9
def ruleN (s : Int × Int) : Int := ruleL (ruleO s) 18 (drawV (drawS s 19) 19 - 9)
def ruleList (o n : Int) : List (Int × Int) := [(o, n), (1, 1), (1, -1), (-1, 1), (2, 1), (1, 2), (3, -2), (1, 0), (0, -1), (1, 3)]
def ruleM (s : Int × Int) : Int × Int := (ruleList (ruleO s) (ruleN s)).getD (drawV (drawS (drawS s 19) 19) 10).toNat (1, 1)
def ruleS' (s : Int × Int) : Int × Int := drawS (drawS (drawS s 19) 19) 10
/-- a rule: small, without a common divisor -/
structure RuleC (o n : Int) : Prop extends RuleS o n where
  c : commonM o n = 1
theorem rule_ok (s : Int × Int) : RuleC (ruleM s).1 (ruleM s).2 := by
  have h1 := drawV_low s 19 (by decide)
  have h2 := drawV_low (drawS s 19) 19 (by decide)
  have h3 := ruleL_nine (ruleO s) (drawV (drawS s 19) 19 - 9) (by unfold ruleO; omega) (by unfold ruleO; omega) (by omega) (by omega)
  have key : ∀ p ∈ ruleList (ruleO s) (ruleN s), RuleC p.1 p.2 := fun p hp => by
    simp only [ruleList, List.mem_cons, List.not_mem_nil, or_false] at hp
    rcases hp with rfl | rfl | rfl | rfl | rfl | rfl | rfl | rfl | rfl | rfl
    · exact ⟨⟨by unfold ruleO; omega, by unfold ruleO; omega, h3.2.1, h3.2.2⟩, h3.1⟩
    all_goals exact ⟨⟨by decide, by decide, by decide, by decide⟩, by decide +kernel⟩
  unfold ruleM
  rw [List.getD_eq_getElem?_getD]
  cases e : (ruleList (ruleO s) (ruleN s))[(drawV (drawS (drawS s 19) 19) 10).toNat]? with
  | none => exact key (1, 1) (by simp [ruleList])
  | some p => exact key p (List.mem_of_getElem? e)
/-! a ring -/
def farM (s : Int × Int) : Int := [2, 7, 50, 10 ^ 30].getD (drawV s 4).toNat 0
theorem farM_bd (s : Int × Int) : 0 ≤ farM s ∧ farM s ≤ 10 ^ 30 := getD_all (p := fun v => 0 ≤ v ∧ v ≤ 10 ^ 30) (fun v hv => by
  simp only [List.mem_cons, List.not_mem_nil, or_false] at hv
  rcases hv with rfl | rfl | rfl | rfl <;> decide) (by decide) _
def ringM (s : Int × Int) (many : Nat) : List Int := tab many fun k => drawV (drawN (drawS s 4) (2 * farM s + 1) k) (2 * farM s + 1) - farM s
def ringS (s : Int × Int) (many : Nat) : Int × Int := drawN (drawS s 4) (2 * farM s + 1) many
theorem ringM_len (s : Int × Int) (many : Nat) : (ringM s many).length = many := tab_len _ _
/-! a case -/
structure CaseM where
  o : Int
  n : Int
  ring : List Int
  days : Nat
  s : Int × Int
def caseMany (s : Int × Int) : Nat := (1 + drawV (ruleS' s) 9).toNat
def caseS1 (s : Int × Int) : Int × Int := ringS (drawS (ruleS' s) 9) (caseMany s)
def caseDays (s : Int × Int) : Nat := ([0, 0, 1, 2, drawV (caseS1 s) 12].getD (drawV (drawS (caseS1 s) 12) 5).toNat 0).toNat
def caseS2 (s : Int × Int) : Int × Int := drawS (drawS (caseS1 s) 12) 5
def caseRing0 (s : Int × Int) : List Int := if drawV (caseS2 s) 4 = 0 then (ringM (drawS (ruleS' s) 9) (caseMany s)).map fun x => x - (ringM (drawS (ruleS' s) 9) (caseMany s)).getD 0 0 else ringM (drawS (ruleS' s) 9) (caseMany s)
def caseM (s : Int × Int) : CaseM := ⟨(ruleM s).1, (ruleM s).2, laterM (ruleM s).1 (ruleM s).2 (caseRing0 s) (caseDays s), caseDays s, drawS (caseS2 s) 4⟩
theorem caseMany_bd (s : Int × Int) : 1 ≤ caseMany s ∧ caseMany s ≤ 9 := by
  have := drawV_low (ruleS' s) 9 (by decide)
  unfold caseMany
  omega
theorem caseRing0_len (s : Int × Int) : (caseRing0 s).length = caseMany s := by
  unfold caseRing0
  split
  · rw [List.length_map, ringM_len]
  · rw [ringM_len]
theorem case_len (s : Int × Int) : (caseM s).ring.length = caseMany s := (laterM_len _ _ _ _).trans (caseRing0_len s)
theorem case_rule (s : Int × Int) : RuleC (caseM s).o (caseM s).n := rule_ok s
theorem caseDays_bd (s : Int × Int) : caseDays s ≤ 12 := by
  have h := drawV_low (caseS1 s) 12 (by decide)
  have := getD_all (f := [0, 0, 1, 2, drawV (caseS1 s) 12]) (p := fun v => v ≤ 12) (fun v hv => by
    simp only [List.mem_cons, List.not_mem_nil, or_false] at hv
    rcases hv with rfl | rfl | rfl | rfl | rfl <;> omega) (by decide) (drawV (drawS (caseS1 s) 12) 5).toNat
  unfold caseDays
  omega
end DL
/-! MK02: days of sums, of rings turned round, by rests -/
namespace DL
def laterF (o n : Int) : Nat → (Nat → Int) → Nat → Int
  | 0, f => f
  | k + 1, f => fun h => o * laterF o n k f h + n * laterF o n k f (h + 1)
theorem F_later (o n : Int) (r : List Int) : ∀ k h, F (laterM o n r k) h = laterF o n k (F r) h
  | 0, h => rfl
  | k + 1, h => by
    show F (dayM o n (laterM o n r k)) h = _
    rw [F_day, F_later o n r k h, F_later o n r k (h + 1)]
    rfl
theorem laterF_add (o n : Int) (f g : Nat → Int) : ∀ k h, laterF o n k (fun h => f h + g h) h = laterF o n k f h + laterF o n k g h
  | 0, h => rfl
  | k + 1, h => by
    show o * laterF o n k (fun h => f h + g h) h + n * laterF o n k (fun h => f h + g h) (h + 1) = (o * laterF o n k f h + n * laterF o n k f (h + 1)) + (o * laterF o n k g h + n * laterF o n k g (h + 1))
    rw [laterF_add o n f g k h, laterF_add o n f g k (h + 1), Int.mul_add, Int.mul_add]
    omega
theorem laterF_mul (o n c : Int) (f : Nat → Int) : ∀ k h, laterF o n k (fun h => c * f h) h = c * laterF o n k f h
  | 0, h => rfl
  | k + 1, h => by
    show o * laterF o n k (fun h => c * f h) h + n * laterF o n k (fun h => c * f h) (h + 1) = c * (o * laterF o n k f h + n * laterF o n k f (h + 1))
    rw [laterF_mul o n c f k h, laterF_mul o n c f k (h + 1), Int.mul_add, Int.mul_left_comm c o, Int.mul_left_comm c n]
theorem laterF_shift (o n : Int) (a : Nat) (f : Nat → Int) : ∀ k h, laterF o n k (fun h => f (h + a)) h = laterF o n k f (h + a)
  | 0, h => rfl
  | k + 1, h => by
    show o * laterF o n k (fun h => f (h + a)) h + n * laterF o n k (fun h => f (h + a)) (h + 1) = o * laterF o n k f (h + a) + n * laterF o n k f (h + a + 1)
    rw [laterF_shift o n a f k h, laterF_shift o n a f k (h + 1), Nat.add_right_comm]
theorem laterF_cg (o n m : Int) {f g : Nat → Int} (hf : ∀ h, Cg m (f h) (g h)) : ∀ k h, Cg m (laterF o n k f h) (laterF o n k g h)
  | 0, h => hf h
  | k + 1, h => ((laterF_cg o n m hf k h).mul o).add ((laterF_cg o n m hf k (h + 1)).mul n)
theorem F_map (r : List Int) (g : Int → Int) (g0 : g 0 = 0 ∨ 0 < r.length) (h : Nat) : F (r.map g) h = g (F r h) := by
  unfold F
  rw [List.length_map, List.getD_eq_getElem?_getD, List.getD_eq_getElem?_getD, List.getElem?_map]
  cases e : r[h % r.length]? with
  | some v => rfl
  | none =>
    rcases g0 with g0 | g0
    · exact g0.symm
    · have := List.getElem?_eq_none_iff.mp e
      exact absurd (Nat.mod_lt h g0) (by omega)
theorem restsM_add (o n : Int) (r : List Int) (a b : Nat) (m : Int) (hr : 0 < r.length) : restsM o n (restsM o n r a m) b m = restsM o n r (a + b) m := by
  have l1 : (laterM o n r a).length = r.length := laterM_len _ _ _ _
  unfold restsM
  refine ring_ext (by rw [List.length_map, List.length_map, laterM_len, laterM_len, List.length_map, l1]) fun k hk => ?_
  rw [F_map _ _ (.inl (by simp)), F_map _ _ (.inl (by simp)), laterM_add]
  refine Cg.emod ?_
  rw [F_later, F_later o n (laterM o n r a)]
  refine laterF_cg o n m (fun h => ?_) b k
  rw [F_map _ _ (.inl (by simp))]
  exact Cg.mod _ _
def plusM (r s : List Int) : List Int := tab r.length fun k => r.getD k 0 + s.getD k 0
theorem plusM_len (r s : List Int) : (plusM r s).length = r.length := tab_len _ _
theorem F_plus (r s : List Int) (hl : r.length = s.length) (h : Nat) : F (plusM r s) h = F r h + F s h := by
  unfold F
  rw [plusM_len, ← hl]
  by_cases h0 : r.length = 0
  · have e : r = [] := List.eq_nil_of_length_eq_zero h0
    have e2 : s = [] := List.eq_nil_of_length_eq_zero (by omega)
    subst e e2
    simp [plusM, tab]
  · exact tab_get _ _ _ (Nat.mod_lt _ (by omega))
theorem later_plus (o n : Int) (r s : List Int) (hl : r.length = s.length) (k : Nat) : laterM o n (plusM r s) k = plusM (laterM o n r k) (laterM o n s k) := by
  refine ring_ext (by rw [laterM_len, plusM_len, plusM_len, laterM_len]) fun h _ => ?_
  rw [F_later, F_plus _ _ (by rw [laterM_len, laterM_len, hl]), F_later, F_later, ← laterF_add]
  congr 1
  funext x
  exact F_plus r s hl x
theorem later_mul (o n c : Int) (r : List Int) (k : Nat) : laterM o n (r.map fun x => c * x) k = (laterM o n r k).map fun x => c * x := by
  refine ring_ext (by rw [laterM_len, List.length_map, List.length_map, laterM_len]) fun h _ => ?_
  rw [F_later, F_map _ _ (.inl (by simp)), F_later, ← laterF_mul]
  congr 1
  funext x
  exact F_map r _ (.inl (by simp)) x
def rotM (r : List Int) (a : Nat) : List Int := r.drop a ++ r.take a
theorem rotM_len (r : List Int) (a : Nat) : (rotM r a).length = r.length := by
  unfold rotM
  rw [List.length_append, List.length_drop, List.length_take]
  omega
theorem F_rot (r : List Int) (a : Nat) (ha : a ≤ r.length) (h : Nat) : F (rotM r a) h = F r (h + a) := by
  by_cases h0 : r.length = 0
  · have e : r = [] := List.eq_nil_of_length_eq_zero h0
    subst e
    simp [rotM, F]
  · unfold F
    rw [rotM_len]
    have hm := Nat.mod_lt h (show 0 < r.length by omega)
    have e1 : (h + a) % r.length = (h % r.length + a) % r.length := by rw [Nat.mod_add_mod]
    rw [e1]
    unfold rotM
    rw [List.getD_eq_getElem?_getD, List.getD_eq_getElem?_getD]
    by_cases hlt : h % r.length < r.length - a
    · rw [List.getElem?_append_left (by rw [List.length_drop]; exact hlt), List.getElem?_drop, Nat.mod_eq_of_lt (show h % r.length + a < r.length by omega), Nat.add_comm a]
    · rw [List.getElem?_append_right (by rw [List.length_drop]; omega), List.length_drop, List.getElem?_take_of_lt (by omega)]
      have this : (h % r.length + a) % r.length = h % r.length - (r.length - a) := by
        have e : h % r.length + a = (h % r.length - (r.length - a)) + r.length := by omega
        rw [e, Nat.add_mod_right, Nat.mod_eq_of_lt (by omega)]
      rw [this]
theorem later_rot (o n : Int) (r : List Int) (a : Nat) (ha : a ≤ r.length) (k : Nat) : laterM o n (rotM r a) k = rotM (laterM o n r k) a := by
  refine ring_ext (by rw [laterM_len, rotM_len, rotM_len, laterM_len]) fun h _ => ?_
  rw [F_later, F_rot _ _ (by rw [laterM_len]; exact ha), F_later, ← laterF_shift]
  congr 1
  funext x
  exact F_rot r a ha x
theorem rests_rot (o n : Int) (r : List Int) (a : Nat) (ha : a ≤ r.length) (k : Nat) (m : Int) : restsM o n (rotM r a) k m = rotM (restsM o n r k m) a := by
  unfold restsM
  rw [later_rot o n r a ha]
  unfold rotM
  rw [List.map_append, List.map_drop, List.map_take]
theorem restsM_low (o n : Int) (r : List Int) (k : Nat) (m : Int) (hm : 0 < m) : ∀ v ∈ restsM o n r k m, 0 ≤ v ∧ v < m := fun v hv => by
  obtain ⟨x, _, rfl⟩ := List.mem_map.mp hv
  exact ⟨Int.emod_nonneg _ (by omega), Int.emod_lt_of_pos _ hm⟩
end DL
namespace DL
open PySem PySem.Spec PyProof.Rows L2
def topS (i : Nat) : Stmt := PySem.Challenge.pw_ringage_k02_whole_days_and_rests.main.body.getD i (.Pass ⟨0, 0, 0, 0⟩)
section
variable {P : Program} {w : World} {K : PySem.W.Frag} {mg : Str → Option Value} {base : Heap}
abbrev rl (o n : Int) : D := .tuple [.int o, .int n]
abbrev sNextOf : Stmt := topS 1
theorem scNextOf : FnScope ["ring", "house"] ["ring", "house"] (defScope sNextOf) := ⟨rfl, rfl, rfl, by decide +kernel, rfl, by decide +kernel, by decide +kernel⟩
def RNextOf : RT := fun as π r π' => ∃ (ring : List Int) (h : Int), as = [tI ring, .int h] ∧ 0 < ring.length ∧ π = [] ∧ π' = [] ∧ r = .d (.int (at_ ring ((h + 1) % (ring.length : Int))))
theorem ok_next_of (B : Bt mg) (F : FunAt K mg "next_of" sNextOf ["ring", "house"]) : OkD P w K mg base "next_of" 1 ["ring", "house"] RNextOf := by
  refine mk_def F scNextOf (fun as π r π' h => ?_) (fun f cdv A outer s H E N as π r π' hr hpa hR => ?_)
  · obtain ⟨ring, h, rfl, _, rfl, rfl, rfl⟩ := h
    exact ⟨rfl, rfl⟩
  · obtain ⟨ring, h, rfl, h0, rfl, rfl, rfl⟩ := hR
    have e : ((ring.map PyData.int).length : Int) = ring.length := by simp
    refine ds_last (d1_ret (de_ixTI (de_var (pv 0)) (de_modP (de_add (de_var (pv 1)) de_int) (de_lenT (by rfl) B.len (de_var (pv 0))) (by rw [e]; omega)) ?_ ?_) ?_)
    · rw [e]; exact Int.emod_nonneg _ (by omega)
    · rw [e]; exact Int.emod_lt_of_pos _ (by omega)
    · exact rr0e (by rw [e])
abbrev sDayLater : Stmt := topS 2
abbrev nmDayLater : List Str := ["rule", "ring", "own", "other", "house", "number"]
theorem scDayLater : FnScope nmDayLater ["rule", "ring"] (defScope sDayLater) := ⟨rfl, rfl, rfl, by decide +kernel, rfl, by decide +kernel, by decide +kernel⟩
def RDayLater : RT := fun as π r π' => ∃ (o n : Int) (ring : List Int), as = [rl o n, tI ring] ∧ RuleS o n ∧ ring.length ≤ 1000 ∧ π = [] ∧ π' = [] ∧ r = .d (tI (dayM o n ring))
theorem ok_day_later (B : Bt mg) (Gnext_of : OkD P w K mg base "next_of" 1 ["ring", "house"] RNextOf) (F : FunAt K mg "day_later" sDayLater ["rule", "ring"]) : OkD P w K mg base "day_later" 2 ["rule", "ring"] RDayLater := by
  refine mk_def F scDayLater (fun as π r π' h => ?_) (fun f cdv A outer s H E N as π r π' hr hpa hR => ?_)
  · obtain ⟨o, n, ring, rfl, _, _, rfl, rfl, rfl⟩ := h
    exact ⟨rfl, rfl⟩
  · obtain ⟨o, n, ring, rfl, R, hl, rfl, rfl, rfl⟩ := hR
    have := R.o1; have := R.o2; have := R.n1; have := R.n2
    refine ds_seq (d1_asg (de_var (pv 0)) (pg_tup (n := 2) rfl (pgs_cons (pg_name (i := 2) scDayLater.nd rfl (.inr rfl)) (pgs_cons (pg_name (i := 3) scDayLater.nd rfl (.inr rfl)) pgs_nil))) (gd_tup (is := [2, 3]) (gsd_cons (gsd_cons gsd_nil))) ⟨_, rfl, rfl⟩ rfl) ?_
    refine ds_last (d1_ret (de_tupP (by rfl) B.tuple (de_lcI (own := [("house", 4), ("number", 5)]) rfl scDayLater.nd (di_enumT (by rfl) B.enumerate (de_var (pv 1))) it_enumI (blkOk_by (N := nmDayLater) (sc := defScope sDayLater) (by decide +kernel)) (fun _ _ _ _ _ => pg_tup (n := 2) rfl (pgs_cons (pg_name (i := 4) scDayLater.nd rfl (.inl rfl)) (pgs_cons (pg_name (i := 5) scDayLater.nd rfl (.inl rfl)) pgs_nil))) (gd_tup (is := [4, 5]) (gsd_cons (gsd_cons gsd_nil))) (by decide) (fun k hk => ⟨_, rfl, rfl⟩) (small1000 hl)
      (fun k hk _ _ _ _ _ => (de_add (de_mul (de_var (pv 2)) (de_var (pv 5)) (.inl ⟨by omega, by omega⟩)) (de_mul (de_var (pv 3)) (de_clD Gnext_of hr (by rfl) (da_cons (de_var (pv 1)) (da_cons (de_var (pv 4)) da_nil)) ⟨ring, k, rfl, by omega, rfl, rfl, rfl⟩) (.inl ⟨by omega, by omega⟩)))) (fun k hk => rfl)) rfl) rr0)
abbrev sLater : Stmt := topS 3
theorem scLater : FnScope ["rule", "ring", "days", "day"] ["rule", "ring", "days"] (defScope sLater) := ⟨rfl, rfl, rfl, by decide +kernel, rfl, by decide +kernel, by decide +kernel⟩
def RLater : RT := fun as π r π' => ∃ (o n : Int) (ring : List Int) (days : Int), as = [rl o n, tI ring, .int days] ∧ RuleS o n ∧ ring.length ≤ 1000 ∧ 0 ≤ days ∧ days < 2 ^ 62 ∧ π = [] ∧ π' = [] ∧ r = .d (tI (laterM o n ring days.toNat))
theorem ok_later (B : Bt mg) (Gday_later : OkD P w K mg base "day_later" 2 ["rule", "ring"] RDayLater) (F : FunAt K mg "later" sLater ["rule", "ring", "days"]) : OkD P w K mg base "later" 3 ["rule", "ring", "days"] RLater := by
  refine mk_def F scLater (fun as π r π' h => ?_) (fun f cdv A outer s H E N as π r π' hr hpa hR => ?_)
  · obtain ⟨o, n, ring, days, rfl, _, _, _, _, rfl, rfl, rfl⟩ := h
    exact ⟨rfl, rfl⟩
  · obtain ⟨o, n, ring, days, rfl, R, hl, h0, h1, rfl, rfl, rfl⟩ := hR
    refine ds_for (fun k z => ∃ sl, z = ⟨[.d (rl o n), .d (tI (laterM o n ring k)), .d (.int days), sl], []⟩) PassesOwn.never rfl (di_range1 (by rfl) B.range (de_var (pv 2)) (by omega) h1) it_rng (pg_name (i := 3) scLater.nd rfl (.inl rfl)) (gd_name 3) (fun _ _ => trivial) ⟨_, rfl⟩ ?_ ?_
    · rintro k _ hk ⟨sl, rfl⟩
      refine ds_seq (d1_set (i := 1) scLater.nd rfl (.inl rfl) (de_clD Gday_later hr (by rfl) (da_cons (de_var (pv 0)) (da_cons (de_var (pv 1)) da_nil)) ⟨o, n, _, rfl, R, by rw [laterM_len]; exact hl, rfl, rfl, rfl⟩) rfl) ?_
      exact ds_nil ⟨_, rfl⟩
    · rintro _ ⟨sl, rfl⟩
      exact ds_last (d1_ret (de_var (pv 1)) rr0)
abbrev sTimes : Stmt := topS 4
abbrev nmTimes : List Str := ["one", "other", "by", "many", "found", "left", "first", "right", "second", "spot"]
theorem scTimes : FnScope nmTimes ["one", "other", "by"] (defScope sTimes) := ⟨rfl, rfl, rfl, by decide +kernel, rfl, by decide +kernel, by decide +kernel⟩
def RTimes : RT := fun as π r π' => ∃ (one other : List Int) (by_ : Int), as = [.list (lI one), .list (lI other), .int by_] ∧ (0 < one.length ∧ one.length ≤ 1000 ∧ other.length ≤ 1000) ∧ (∀ k, -(2 ^ 64) < one.getD k 0 ∧ one.getD k 0 < 2 ^ 64) ∧ 0 < by_ ∧ π = [] ∧ π' = [] ∧ r = .new (lI (timesM by_ one other))
theorem spot_at (l k n : Nat) : (((l : Int) + (k : Int)) % (n : Int)).toNat = (l + k) % n := by
  rw [← Int.natCast_add, ← Int.natCast_emod]
  rfl
theorem ok_times (B : Bt mg) (F : FunAt K mg "times" sTimes ["one", "other", "by"]) : OkD P w K mg base "times" 1 ["one", "other", "by"] RTimes := by
  refine mk_def F scTimes (fun as π r π' h => ?_) (fun f cdv A outer s H E N as π r π' hr hpa hR => ?_)
  · obtain ⟨one, other, by_, rfl, _, _, _, rfl, rfl, rfl⟩ := h
    exact ⟨rfl, rfl⟩
  · obtain ⟨one, other, by_, rfl, ⟨hn, hn1, hn2⟩, hsm, hby, rfl, rfl, rfl⟩ := hR
    have el : ((lI one).length : Int) = one.length := by simp
    have hz : (1000 : Nat) ≤ sizeLine := by decide
    refine ds_seq (d1_set (i := 3) scTimes.nd rfl (.inl rfl) (de_cast (de_lenL (by rfl) B.len (de_var (pv 0))) (congrArg PyData.int el)) rfl) ?_
    refine ds_seq (d1_set (i := 4) scTimes.nd rfl (.inl rfl) (de_repPI (v := 0) (de_lst (da_cons de_int da_nil)) (de_var (pv 3)) rfl (by omega) (by omega) (by omega)) rfl) ?_
    refine ds_for (fun l z => ∃ s5 s6 s7 s8 s9, z = ⟨[.d (.list (lI one)), .d (.list (lI other)), .d (.int by_), .d (.int one.length), .ptr 1, s5, s6, s7, s8, s9], [some [.int 0], some (lI (timesOut one.length by_ one other l))]⟩) PassesOwn.never rfl (di_enumL (by rfl) B.enumerate (de_var (pv 0))) it_enumI (pg_tup (n := 2) rfl (pgs_cons (pg_name (i := 5) scTimes.nd rfl (.inl rfl)) (pgs_cons (pg_name (i := 6) scTimes.nd rfl (.inl rfl)) pgs_nil))) (gd_tup (is := [5, 6]) (gsd_cons (gsd_cons gsd_nil))) (fun k hk => ⟨_, rfl, rfl⟩) ⟨_, _, _, _, _, rfl⟩ ?_ ?_
    · rintro l _ hl ⟨s5, s6, s7, s8, s9, rfl⟩
      refine ds_for (fun k z => ∃ s7 s8 s9, z = ⟨[.d (.list (lI one)), .d (.list (lI other)), .d (.int by_), .d (.int one.length), .ptr 1, .d (.int l), .d (.int (one.getD l 0)), s7, s8, s9], [some [.int 0], some (lI (timesIn one.length by_ (one.getD l 0) l other (timesOut one.length by_ one other l) k))]⟩) PassesOwn.never rfl (di_enumL (by rfl) B.enumerate (de_var (pv 1))) it_enumI (pg_tup (n := 2) rfl (pgs_cons (pg_name (i := 7) scTimes.nd rfl (.inl rfl)) (pgs_cons (pg_name (i := 8) scTimes.nd rfl (.inl rfl)) pgs_nil))) (gd_tup (is := [7, 8]) (gsd_cons (gsd_cons gsd_nil))) (fun k hk => ⟨_, rfl, rfl⟩) ⟨_, _, _, rfl⟩ ?_ ?_
      · rintro k _ hk ⟨s7, s8, s9, rfl⟩
        have hlen : (timesIn one.length by_ (one.getD l 0) l other (timesOut one.length by_ one other l) k).length = one.length := by rw [timesIn_len, timesOut_len]
        have h0 : 0 ≤ ((l : Int) + (k : Int)) % (one.length : Int) := Int.emod_nonneg _ (by omega)
        have h1 : ((l : Int) + (k : Int)) % (one.length : Int) < one.length := Int.emod_lt_of_pos _ (by omega)
        refine ds_seq (d1_set (i := 9) scTimes.nd rfl (.inl rfl) (de_modP (de_add (de_var (pv 5)) (de_var (pv 7))) (de_var (pv 3)) (by omega)) rfl) ?_
        refine ds_seq (d1_setI (de_modP (de_add (de_ixPI (de_ptr (pv 4)) (de_var (pv 9)) rfl h0 (by rw [hlen]; exact h1)) (de_mul (de_var (pv 6)) (de_var (pv 8)) (.inl (hsm l)))) (de_var (pv 2)) hby) (de_ptr (pv 4)) (de_var (pv 9)) rfl h0 (by rw [hlen]; exact h1) rfl) ?_
        exact ds_nil ⟨_, _, _, rfl⟩
      · rintro _ ⟨s7, s8, s9, rfl⟩
        exact ds_nil ⟨_, _, _, _, _, rfl⟩
    · rintro _ ⟨s5, s6, s7, s8, s9, rfl⟩
      exact ds_last (d1_ret (de_ptr (pv 4)) (rrN rfl))
abbrev sRests : Stmt := topS 5
abbrev nmRests : List Str := ["rule", "ring", "days", "by", "many", "step", "whole", "found", "house", "far"]
theorem scRests : FnScope nmRests ["rule", "ring", "days", "by"] (defScope sRests) := ⟨rfl, rfl, rfl, by decide +kernel, rfl, by decide +kernel, by decide +kernel⟩
def RRests : RT := fun as π r π' => ∃ (o n : Int) (ring : List Int) (days by_ : Int), as = [rl o n, tI ring, .int days, .int by_] ∧ RuleS o n ∧ (0 < ring.length ∧ ring.length ≤ 1000) ∧ 0 ≤ days ∧ (0 < by_ ∧ by_ < 2 ^ 64) ∧ π = [] ∧ π' = [] ∧ r = .d (tI (restsM o n ring days.toNat by_))
theorem ok_rests (B : Bt mg) (Gtimes : OkD P w K mg base "times" 1 ["one", "other", "by"] RTimes) (F : FunAt K mg "rests" sRests ["rule", "ring", "days", "by"]) : OkD P w K mg base "rests" 2 ["rule", "ring", "days", "by"] RRests := by
  refine mk_def F scRests (fun as π r π' h => ?_) (fun f cdv A outer s H E N as π r π' hr hpa hR => ?_)
  · obtain ⟨o, n, ring, days, by_, rfl, _, _, _, _, rfl, rfl, rfl⟩ := h
    exact ⟨rfl, rfl⟩
  · obtain ⟨o, n, ring, days, by_, rfl, R, ⟨hn, hn1⟩, hd, ⟨hb0, hb1⟩, rfl, rfl, rfl⟩ := hR
    have hz : (1000 : Nat) ≤ sizeLine := by decide
    have el : ((lI ring).length : Int) = ring.length := by simp
    have hp0 : N.pa.length ≤ 0 := by rw [hpa]; decide
    have hp1 : N.pa.length ≤ 1 := by omega
    have hp4 : N.pa.length ≤ 4 := by omega
    have hRo := R.o1; have hRo2 := R.o2; have hRn := R.n1; have hRn2 := R.n2
    refine ds_seq (d1_set (i := 4) scRests.nd rfl (.inr rfl) (de_cast (de_lenT (by rfl) B.len (de_var (pv 1))) (congrArg PyData.int el)) rfl) ?_
    refine ds_seq (d1_set (i := 5) scRests.nd rfl (.inl rfl) (de_repPI (v := 0) (de_lst (da_cons de_int da_nil)) (de_var (pv 4)) rfl (by omega) (by omega) (by omega)) rfl) ?_
    refine ds_seq (d1_augLI (de_ptr (pv 5)) de_int (de_ixT (de_var (pv 0)) de_int rfl) rfl (by omega) (by simp; omega) rfl (by simp; omega) rfl) ?_
    refine ds_seq (d1_augLI (de_ptr (pv 5)) (de_modP de_int (de_var (pv 4)) (by omega)) (de_ixT (de_var (pv 0)) de_int rfl) rfl (Int.emod_nonneg _ (by omega)) (by rw [List.length_set, List.length_replicate]; exact Int.emod_lt_of_pos _ (by omega)) rfl (by rw [List.length_set, List.length_replicate]; exact Int.emod_lt_of_pos _ (by omega)) rfl) ?_
    have e0 : at_ (List.replicate ring.length 0) 0 = 0 := by
      show (List.replicate ring.length (0 : Int)).getD 0 0 = 0
      rw [List.getD_eq_getElem?_getD, List.getElem?_replicate, if_pos hn]
      rfl
    have e1 : ((List.replicate ring.length 0).set 0 (at_ (List.replicate ring.length 0) 0 + o)).set (1 % ring.length) (at_ ((List.replicate ring.length 0).set 0 (at_ (List.replicate ring.length 0) 0 + o)) ((1 : Int) % (ring.length : Int)) + n) = step0 ring.length o n := by
      rw [e0]
      rfl
    refine ds_at (z1 := ⟨[.d (rl o n), .d (tI ring), .d (.int days), .d (.int by_), .d (.int ring.length), .ptr 1, .no, .no, .no, .no], [some [.int 0], some (lI (step0 ring.length o n))]⟩) (by rw [← e1]; rfl) ?_
    refine ds_seq (d1_set (i := 6) scRests.nd rfl (.inr rfl) (de_catPI (ns := [1 % by_]) (de_lst (da_cons (de_modP de_int (de_var (pv 3)) hb0) da_nil)) (de_repPI (v := 0) (de_lst (da_cons de_int da_nil)) (de_sub (de_var (pv 4)) de_int) rfl (by omega) (by omega) (by omega)) rfl rfl (by simp; omega)) rfl) ?_
    refine ds_frz 1 rfl hp1 (ds_frz 5 rfl (by omega) ?_)
    refine ds_wk (s' := [.d (rl o n), .d (tI ring), .d (.int days), .d (.int by_), .d (.int ring.length), .d (.list (lI (step0 ring.length o n))), .d (.list (lI (one0 ring.length by_))), .no, .no, .no]) (o' := []) (.keep (.keep (.keep (.keep (.keep (.keep (.keep (.keep (.keep (.keep .nil)))))))))) rfl hp0 rfl ?_
    refine ds_while (fun m z => ∃ (W S : List Int) (d : Nat), z = ⟨[.d (rl o n), .d (tI ring), .d (.int d), .d (.int by_), .d (.int ring.length), .d (.list (lI S)), .d (.list (lI W)), .no, .no, .no], []⟩ ∧ m = d ∧ RInv ring.length by_ (fun D f h => iter ring.length (step0 ring.length o n) f D h) days.toNat W S d ∧ (∀ k, -(2 ^ 64) < W.getD k 0 ∧ W.getD k 0 < 2 ^ 64) ∧ (∀ k, -(2 ^ 64) < S.getD k 0 ∧ S.getD k 0 < 2 ^ 64)) days.toNat (fun m z => decide (0 < m)) PassesOwn.never ⟨_, _, days.toNat, by rw [Int.toNat_of_nonneg hd], rfl, RInv.start o n ring by_ days.toNat hn, one0_bd _ _ hb0, step0_bd _ _ _ ⟨hRo, hRo2⟩ ⟨hRn, hRn2⟩⟩ ?_ ?_ ?_
    · rintro m _ ⟨W, S, d, rfl, rfl, _⟩
      exact dt_cast (dt_gt (de_var (pv 2)) de_int) (by simp)
    · rintro m _ ⟨W, S, d, rfl, rfl, I, hW, hS⟩ ht
      have hm : 0 < m := by simpa using ht
      refine ds_cons (mid := fun z' => ∃ W' : List Int, z' = ⟨[.d (rl o n), .d (tI ring), .d (.int m), .d (.int by_), .d (.int ring.length), .d (.list (lI S)), .d (.list (lI W')), .no, .no, .no], []⟩ ∧ RInv ring.length by_ (fun D f h => iter ring.length (step0 ring.length o n) f D h) days.toNat W' (timesM by_ S S) (m / 2) ∧ (∀ k, -(2 ^ 64) < W'.getD k 0 ∧ W'.getD k 0 < 2 ^ 64)) (d1_if (dt_eqI (de_modP (de_var (pv 2)) de_int (by decide)) de_int) (fun hb => ?_) (fun hb => ?_)) (fun z' hz => ?_)
      · have h2 : m % 2 = 1 := by simp at hb; omega
        refine ds_seq (d1_set (i := 6) scRests.nd rfl (.inr rfl) (de_clN Gtimes hr (by rfl) (da_cons (de_var (pv 6)) (da_cons (de_var (pv 5)) (da_cons (de_var (pv 3)) da_nil))) ⟨W, S, by_, rfl, ⟨by rw [I.w]; exact hn, by rw [I.w]; exact hn1, by rw [I.s]; exact hn1⟩, hW, hb0, rfl, rfl, rfl⟩) rfl) ?_
        refine ds_frz 0 rfl hp0 ?_
        refine ds_wk (s' := [.d (rl o n), .d (tI ring), .d (.int m), .d (.int by_), .d (.int ring.length), .d (.list (lI S)), .d (.list (lI (timesM by_ W S))), .no, .no, .no]) (o' := []) (.keep (.keep (.keep (.keep (.keep (.keep (.keep (.keep (.keep (.keep .nil)))))))))) rfl hp0 rfl ?_
        refine ds_nil ⟨_, rfl, I.odd hn h2, fun k => ?_⟩
        have := (low_times by_ W S hb0).getD hb0 k
        omega
      · have h2 : m % 2 = 0 := by simp at hb; omega
        exact ds_nil ⟨W, rfl, I.even hn h2, hW⟩
      · obtain ⟨W', rfl, I', hW'⟩ := hz
        refine ds_seq (d1_set (i := 5) scRests.nd rfl (.inl rfl) (de_clN Gtimes hr (by rfl) (da_cons (de_var (pv 5)) (da_cons (de_var (pv 5)) (da_cons (de_var (pv 3)) da_nil))) ⟨S, S, by_, rfl, ⟨by rw [I.s]; exact hn, by rw [I.s]; exact hn1, by rw [I.s]; exact hn1⟩, hS, hb0, rfl, rfl, rfl⟩) rfl) ?_
        refine ds_frz 0 rfl hp0 ?_
        refine ds_wk (s' := [.d (rl o n), .d (tI ring), .d (.int m), .d (.int by_), .d (.int ring.length), .d (.list (lI (timesM by_ S S))), .d (.list (lI W')), .no, .no, .no]) (o' := []) (.keep (.keep (.keep (.keep (.keep (.keep (.keep (.keep (.keep (.keep .nil)))))))))) rfl hp0 rfl ?_
        refine ds_seq (d1_set (i := 2) scRests.nd rfl (.inl rfl) (de_divP (de_var (pv 2)) de_int ⟨by decide, by decide⟩) rfl) ?_
        have e : ((m : Int) / 2) = ((m / 2 : Nat) : Int) := by omega
        refine ds_at (z1 := ⟨[.d (rl o n), .d (tI ring), .d (.int ((m / 2 : Nat) : Int)), .d (.int by_), .d (.int ring.length), .d (.list (lI (timesM by_ S S))), .d (.list (lI W')), .no, .no, .no], []⟩) (by rw [← e]; rfl) ?_
        refine ds_nil ⟨m / 2, by omega, W', _, m / 2, rfl, rfl, I', hW', fun k => ?_⟩
        have := (low_times by_ S S hb0).getD hb0 k
        omega
    · rintro m _ ⟨W, S, d, rfl, rfl, I, hW, hS⟩ ht
      have hm : m = 0 := by simp at ht; omega
      subst hm
      refine ds_seq (d1_set (i := 7) scRests.nd rfl (.inl rfl) (de_lst da_nil) rfl) ?_
      refine ds_for (fun k z => ∃ sl, z = ⟨[.d (rl o n), .d (tI ring), .d (.int (0 : Nat)), .d (.int by_), .d (.int ring.length), .d (.list (lI S)), .d (.list (lI W)), .ptr 0, sl, .no], [some (lI (tab k (fun h => (sumR ring.length fun far => W.getD far 0 * DL.F ring (h + far)) % by_)))]⟩) PassesOwn.never rfl (di_range1 (by rfl) B.range (de_var (pv 4)) (by omega) (by omega)) it_rng (pg_name (i := 8) scRests.nd rfl (.inr rfl)) (gd_name 8) (fun _ _ => trivial) ⟨_, rfl⟩ ?_ ?_
      · rintro k _ hk ⟨sl, rfl⟩
        have hk : k < ring.length := by omega
        refine ds_seq (d1_expr (de_appI (ns := tab k (fun h => (sumR ring.length fun far => W.getD far 0 * DL.F ring (h + far)) % by_)) (de_ptr (pv 7)) (de_modP (de_sumP rfl (by rfl) B.sum (de_lcI (own := [("far", 9)]) (y := fun far => W.getD far 0 * DL.F ring (k + far)) rfl scRests.nd (di_range1 (by rfl) B.range (de_var (pv 4)) (by omega) (by omega)) it_rng (blkOk_by (N := nmRests) (sc := defScope sRests) (by decide +kernel)) (fun _ _ _ _ _ => pg_name (i := 9) scRests.nd rfl (.inl rfl)) (gd_name 9) (by decide) (fun _ _ => trivial) (small1000 (by omega)) (fun far hfar _ _ _ _ _ => de_cast (de_mul (de_ixLI (de_var (pv 6)) (de_var (pv 9)) (by omega) (by rw [I.w]; omega)) (de_ixTI (de_var (pv 1)) (de_modP (de_add (de_var (pv 8)) (de_var (pv 9))) (de_var (pv 4)) (by omega)) (Int.emod_nonneg _ (by omega)) (Int.emod_lt_of_pos _ (by omega))) (.inl (hW _))) (by
          have e3 : ((0 : Int) + (far : Int)).toNat = far := by omega
          have e4 : ((0 + (k : Int) + (0 + (far : Int))) % (ring.length : Int)).toNat = (k + far) % ring.length := by
            rw [Int.zero_add, Int.zero_add]
            exact spot_at k far ring.length
          show PyData.int (at_ W (0 + (far : Int)) * at_ ring _) = _
          unfold at_ DL.F
          rw [e3, e4])) (fun far hfar => rfl)) rfl) (de_var (pv 3)) hb0) rfl rfl (small1000 (by rw [tab_len]; omega))) rfl) ?_
        refine ds_wk (s' := [.d (rl o n), .d (tI ring), .d (.int (0 : Nat)), .d (.int by_), .d (.int ring.length), .d (.list (lI S)), .d (.list (lI W)), .ptr 0, .d (.int (0 + (k : Int))), .no]) (o' := [some (lI (tab (k + 1) (fun h => (sumR ring.length fun far => W.getD far 0 * DL.F ring (h + far)) % by_)))]) (.keep (.keep (.keep (.keep (.keep (.keep (.keep (.keep (.keep (.keep .nil)))))))))) (by
            have : tab (k + 1) (fun h => (sumR ring.length fun far => W.getD far 0 * DL.F ring (h + far)) % by_) = tab k (fun h => (sumR ring.length fun far => W.getD far 0 * DL.F ring (h + far)) % by_) ++ [(sumR ring.length fun far => W.getD far 0 * DL.F ring (k + far)) % by_] := by
              unfold tab
              rw [List.range_succ, List.map_append]
              rfl
            rw [this]
            rfl) (by show _ ≤ 1; omega) rfl ?_
        exact ds_nil ⟨_, rfl⟩
      · rintro _ ⟨sl, rfl⟩
        refine ds_last (d1_ret (de_tupP (by rfl) B.tuple (de_ptr (pv 7)) rfl) (rr0e ?_))
        have e6 : ((ring.length : Int)).toNat = ring.length := by omega
        rw [e6, I.done hn]
abbrev sLawDraw : Stmt := topS 7
abbrev nmLawDraw : List Str := ["draws", "many", "found", "wide"]
theorem scLawDraw : FnScope nmLawDraw ["draws", "many"] (defScope sLawDraw) := ⟨rfl, rfl, rfl, by decide +kernel, rfl, by decide +kernel, by decide +kernel⟩
abbrev dI (s : Int × Int) : List D := lI [s.1, s.2]
def RLawDraw : RT := fun as π r π' => ∃ (s : Int × Int) (many : Int), as = [.int many] ∧ 0 < many ∧ many ≤ 10 ^ 40 ∧ π = [dI s] ∧ π' = [dI (drawS s many)] ∧ r = .d (.int (drawV s many))
theorem cdivW {i j : Int} (h : 0 < j) (h' : j ≤ 10 ^ 40) : CDivW i j := wide_div (b := 200) h (by omega) (by decide) (by decide)
theorem ok_law_draw (B : Bt mg) (F : FunAt K mg "_law_draw" sLawDraw ["draws", "many"]) : OkD P w K mg base "_law_draw" 1 ["draws", "many"] RLawDraw := by
  refine mk_def F scLawDraw (fun as π r π' h => ?_) (fun f cdv A outer s H E N as π r π' hr hpa hR => ?_)
  · obtain ⟨s, many, rfl, _, _, rfl, rfl, rfl⟩ := h
    exact ⟨rfl, rfl⟩
  · obtain ⟨s, many, rfl, h0, h1, rfl, rfl, rfl⟩ := hR
    refine ds_ifR (dt_gt (i := s.1) (de_ixPI (ns := [s.1, s.2]) (de_ptr (pv 0)) de_int rfl (by decide) (by show (0 : Int) < 2; decide)) de_int) (fun hb => ?_) (fun hb => ?_)
    · have hs : 0 < s.1 := of_decide_eq_true hb
      refine ds_seq (d1_set (i := 2) scLawDraw.nd rfl (.inl rfl) (de_modP (de_ixPI (ns := [s.1, s.2]) (de_ptr (pv 0)) de_int rfl (by decide) (by show (0 : Int) < 2; decide)) (de_var (pv 1)) h0) rfl) ?_
      refine ds_seq (d1_setI (ns := [s.1, s.2]) (de_divW (de_ixPI (ns := [s.1, s.2]) (de_ptr (pv 0)) de_int rfl (by decide) (by show (0 : Int) < 2; decide)) (de_var (pv 1)) (cdivW h0 h1)) (de_ptr (pv 0)) de_int rfl (by decide) (by show (0 : Int) < 2; decide) rfl) ?_
      have e : drawM s many = (s.1 % many, s.1 / many, s.2) := by unfold drawM; rw [if_pos hs]
      have e1 : drawV s many = s.1 % many := by unfold drawV; rw [e]
      have e2 : drawS s many = (s.1 / many, s.2) := by unfold drawS; rw [e]
      rw [e1, e2]
      exact ds_last (d1_ret (de_var (pv 2)) (rr1 rfl))
    · have hs : ¬ 0 < s.1 := of_decide_eq_false hb
      have e : drawM s many = ((drawL many 8 0 1 s.2).1 % many, s.1, (drawL many 8 0 1 s.2).2) := by unfold drawM; rw [if_neg hs]
      have e1 : drawV s many = (drawL many 8 0 1 s.2).1 % many := by unfold drawV; rw [e]
      have e2 : drawS s many = (s.1, (drawL many 8 0 1 s.2).2) := by unfold drawS; rw [e]
      rw [e1, e2]
      refine ds_seq (d1_set (i := 2) scLawDraw.nd rfl (.inl rfl) de_int rfl) ?_
      refine ds_seq (d1_set (i := 3) scLawDraw.nd rfl (.inl rfl) de_int rfl) ?_
      refine ds_while (fun m z => ∃ f w b, z = ⟨[.ptr 0, .d (.int many), .d (.int f), .d (.int w)], [some (lI [s.1, b])]⟩ ∧ drawL many m f w b = drawL many 8 0 1 s.2 ∧ many ≤ w * 268435456 ^ m) 8 (fun m z => match z.s with | [_, _, _, .d (.int w)] => decide (w < many) | _ => false) PassesOwn.never ⟨0, 1, s.2, rfl, rfl, by omega⟩ ?_ ?_ ?_
      · rintro m _ ⟨f, w, b, rfl, _, _⟩
        exact dt_lt (de_var (pv 3)) (de_var (pv 1))
      · rintro m _ ⟨f, w, b, rfl, hd, hm⟩ ht
        have hw : w < many := of_decide_eq_true ht
        cases m with
        | zero => omega
        | succ m =>
          have hb0 := Int.emod_nonneg (b * 69621) (show (2147483647 : Int) ≠ 0 by decide)
          have hb1 := Int.emod_lt_of_pos (b * 69621) (show (0 : Int) < 2147483647 by decide)
          have hbd : -(2 ^ 64) < b * 69621 % 2147483647 ∧ b * 69621 % 2147483647 < 2 ^ 64 := ⟨by omega, by omega⟩
          refine ds_seq (d1_setI (ns := [s.1, b]) (de_modP (de_mul (de_ixPI (ns := [s.1, b]) (de_ptr (pv 0)) de_int rfl (by decide) (by show (1 : Int) < 2; decide)) de_int (.inr ⟨by decide, by decide⟩)) de_int (by decide)) (de_ptr (pv 0)) de_int rfl (by decide) (by show (1 : Int) < 2; decide) rfl) ?_
          refine ds_at (z1 := ⟨[.ptr 0, .d (.int many), .d (.int f), .d (.int w)], [some (lI [s.1, b * 69621 % 2147483647])]⟩) rfl ?_
          refine ds_seq (d1_set (i := 2) scLawDraw.nd rfl (.inl rfl) (de_add (de_mul (de_var (pv 2)) de_int (.inr ⟨by decide, by decide⟩)) (de_divP (de_modP (de_mul (de_ixPI (ns := [s.1, b * 69621 % 2147483647]) (de_ptr (pv 0)) de_int rfl (by decide) (by show (1 : Int) < 2; decide)) (de_add (de_divP (de_ixPI (ns := [s.1, b * 69621 % 2147483647]) (de_ptr (pv 0)) de_int rfl (by decide) (by show (1 : Int) < 2; decide)) de_int ⟨by decide, by decide⟩) de_int) (.inl hbd)) de_int (by decide)) de_int ⟨by decide, by decide⟩)) rfl) ?_
          refine ds_seq (d1_set (i := 3) scLawDraw.nd rfl (.inl rfl) (de_mul (de_var (pv 3)) de_int (.inr ⟨by decide, by decide⟩)) rfl) ?_
          refine ds_nil ⟨m, Nat.lt_succ_self m, _, _, _, rfl, ?_, ?_⟩
          · rw [← hd]
            show _ = if w < many then _ else _
            rw [if_pos hw]
            rfl
          · rw [Int.pow_succ, Int.mul_comm (268435456 ^ m), ← Int.mul_assoc] at hm
            exact hm
      · rintro m _ ⟨f, w, b, rfl, hd, hm⟩ ht
        have hw : ¬ w < many := of_decide_eq_false ht
        have e3 : drawL many m f w b = (f, b) := by
          cases m with
          | zero => rfl
          | succ m =>
            show (if w < many then _ else _) = _
            rw [if_neg hw]
        rw [← hd, e3]
        exact ds_last (d1_ret (de_modP (de_var (pv 2)) (de_var (pv 1)) h0) (rr1 rfl))
abbrev sLawDraws : Stmt := topS 8
abbrev nmLawDraws : List Str := ["script", "k", "cell"]
theorem scLawDraws : FnScope nmLawDraws ["script", "k"] (defScope sLawDraws) := ⟨rfl, rfl, rfl, by decide +kernel, rfl, by decide +kernel, by decide +kernel⟩
def RLawDraws : RT := fun as π r π' => ∃ (ns : List Int) (k : Int), as = [.list (lI ns), .int k] ∧ 0 ≤ k ∧ π = [] ∧ π' = [] ∧ r = .new (dI (drawsM ns k))
theorem ok_law_draws (B : Bt mg) (F : FunAt K mg "_law_draws" sLawDraws ["script", "k"]) : OkD P w K mg base "_law_draws" 1 ["script", "k"] RLawDraws := by
  refine mk_def F scLawDraws (fun as π r π' h => ?_) (fun f cdv A outer s H E N as π r π' hr hpa hR => ?_)
  · obtain ⟨ns, k, rfl, _, rfl, rfl, rfl⟩ := h
    exact ⟨rfl, rfl⟩
  · obtain ⟨ns, k, rfl, h0, rfl, rfl, rfl⟩ := hR
    have el : ((lI ns).length : Int) = ns.length := by simp
    refine ds_seq (d1_set (i := 2) scLawDraws.nd rfl (.inl rfl) (de_mul de_int (de_var (pv 1)) (.inl ⟨by decide, by decide⟩)) rfl) ?_
    refine ds_cons (mid := fun z' => ∃ c, z' = ⟨[.d (.list (lI ns)), .d (.int k), .d (.int c)], []⟩ ∧ c = if k < ns.length then (ns.getD k.toNat 0) % (10 ^ 60 * 10 ^ 60 * 10 ^ 60 * 10 ^ 60 * 10 ^ 60) else if 0 < ns.length then ns.getD (k % ns.length).toNat 0 % 10 ^ 15 + 15485863 * k else 15485863 * k) (d1_if (dt_lt (de_var (pv 1)) (de_cast (de_lenL (by rfl) B.len (de_var (pv 0))) (congrArg PyData.int el))) (fun hb => ?_) (fun hb => ?_)) ?_
    · have hk : k < ns.length := of_decide_eq_true hb
      refine ds_seq (d1_set (i := 2) scLawDraws.nd rfl (.inl rfl) (de_modP (de_ixLI (de_var (pv 0)) (de_var (pv 1)) h0 hk) (de_mulW (de_mulW (de_mulW (de_mulW (de_pow de_int de_int ⟨by decide, by decide, by decide⟩) (de_pow de_int de_int ⟨by decide, by decide, by decide⟩) (wide_mul (a := 200) (b := 200) (by decide +kernel) (by decide +kernel) (by decide) (by decide) (by decide))) (de_pow de_int de_int ⟨by decide, by decide, by decide⟩) (wide_mul (a := 400) (b := 200) (by decide +kernel) (by decide +kernel) (by decide) (by decide) (by decide))) (de_pow de_int de_int ⟨by decide, by decide, by decide⟩) (wide_mul (a := 600) (b := 200) (by decide +kernel) (by decide +kernel) (by decide) (by decide) (by decide))) (de_pow de_int de_int ⟨by decide, by decide, by decide⟩) (wide_mul (a := 800) (b := 200) (by decide +kernel) (by decide +kernel) (by decide) (by decide) (by decide))) (by decide +kernel)) rfl) ?_
      exact ds_nil ⟨_, rfl, by rw [if_pos hk]; rfl⟩
    · have hk : ¬ k < ns.length := of_decide_eq_false hb
      refine ds_last (d1_if (dt_gt (de_cast (de_lenL (by rfl) B.len (de_var (pv 0))) (congrArg PyData.int el)) de_int) (fun hb => ?_) (fun hb => ?_))
      · have hn : (0 : Int) < ns.length := of_decide_eq_true hb
        refine ds_seq (d1_set (i := 2) scLawDraws.nd rfl (.inl rfl) (de_add (de_modP (de_ixLI (de_var (pv 0)) (de_modP (de_var (pv 1)) (de_cast (de_lenL (by rfl) B.len (de_var (pv 0))) (congrArg PyData.int el)) hn) (Int.emod_nonneg _ (by omega)) (Int.emod_lt_of_pos _ hn)) (de_pow de_int de_int ⟨by decide, by decide, by decide⟩) (by decide +kernel)) (de_mul de_int (de_var (pv 1)) (.inl ⟨by decide, by decide⟩))) rfl) ?_
        exact ds_nil ⟨_, rfl, by rw [if_neg hk, if_pos (by omega)]; rfl⟩
      · have hn : ¬ (0 : Int) < ns.length := of_decide_eq_false hb
        exact ds_nil ⟨_, rfl, by rw [if_neg hk, if_neg (by omega)]⟩
    · rintro _ ⟨c, rfl, hc⟩
      have e : drawsM ns k = (c * (if 10 ^ 18 ≤ c then 1 else 0), 1 + (c * 69621 + 86028121 * (k + 1)) % 2147483646) := by
        unfold drawsM
        rw [← hc]
      have hi : (if decide ((10 : Int) ^ (18 : Int).toNat ≤ c) = true then (1 : Int) else 0) = if 10 ^ 18 ≤ c then 1 else 0 := by
        show (if decide ((10 : Int) ^ 18 ≤ c) = true then (1 : Int) else 0) = _
        by_cases h : (10 : Int) ^ 18 ≤ c
        · rw [if_pos h, if_pos (decide_eq_true h)]
        · rw [if_neg h, if_neg (by rw [decide_eq_false h]; decide)]
      refine ds_last (d1_ret (de_lst (da_cons (de_mul (de_var (pv 2)) (de_cast (de_intB (by rfl) B.int (de_ge (de_var (pv 2)) (de_pow de_int de_int ⟨by decide, by decide, by decide⟩))) (congrArg PyData.int hi)) (.inr (by split <;> exact ⟨by decide, by decide⟩))) (da_cons (de_add de_int (de_modP (de_add (de_mul (de_var (pv 2)) de_int (.inr ⟨by decide, by decide⟩)) (de_mul de_int (de_add (de_var (pv 1)) de_int) (.inl ⟨by decide, by decide⟩))) de_int (by decide))) da_nil))) ?_)
      rw [e]
      exact rrN rfl
abbrev sLawCommon : Stmt := topS 9
abbrev nmLawCommon : List Str := ["one", "other"]
theorem scLawCommon : FnScope nmLawCommon ["one", "other"] (defScope sLawCommon) := ⟨rfl, rfl, rfl, by decide +kernel, rfl, by decide +kernel, by decide +kernel⟩
def RLawCommon : RT := fun as π r π' => ∃ (a b : Int), as = [.int a, .int b] ∧ cmOk 20 a b = true ∧ π = [] ∧ π' = [] ∧ r = .d (.int (commonM a b))
theorem ok_law_common (B : Bt mg) (F : FunAt K mg "_law_common" sLawCommon ["one", "other"]) : OkD P w K mg base "_law_common" 1 ["one", "other"] RLawCommon := by
  refine mk_def F scLawCommon (fun as π r π' h => ?_) (fun f cdv A outer s H E N as π r π' hr hpa hR => ?_)
  · obtain ⟨a, b, rfl, _, rfl, rfl, rfl⟩ := h
    exact ⟨rfl, rfl⟩
  · obtain ⟨a, b, rfl, h0, rfl, rfl, rfl⟩ := hR
    refine ds_while (fun m z => ∃ c d, z = ⟨[.d (.int c), .d (.int d)], []⟩ ∧ cmOk m c d = true ∧ cm m c d = cm 20 a b) 20 (fun m z => match z.s with | [_, .d (.int d)] => !decide (d = 0) | _ => false) PassesOwn.never ⟨a, b, rfl, h0, rfl⟩ ?_ ?_ ?_
    · rintro m _ ⟨c, d, rfl, _, _⟩
      exact dt_neI (de_var (pv 1)) de_int
    · rintro m _ ⟨c, d, rfl, h1, h2⟩ ht
      have hd : d ≠ 0 := by
        have ht : (!decide (d = 0)) = true := ht
        simpa using ht
      cases m with
      | zero => exact absurd (of_decide_eq_true h1) hd
      | succ m =>
        refine ds_seq (d1_par (i := 0) (j := 1) rfl scLawCommon.nd rfl rfl (by decide) rfl rfl (da_cons (de_var (pv 1)) (da_cons (de_modN (de_var (pv 0)) (de_var (pv 1)) hd) da_nil)) (by rfl) rfl) ?_
        refine ds_nil ⟨m, Nat.lt_succ_self m, _, _, rfl, ?_, ?_⟩
        · have h1 : (if d = 0 then true else cmOk m d (c.fmod d)) = true := h1
          rw [if_neg hd] at h1
          exact h1
        · have h2 : (if d = 0 then c else cm m d (c.fmod d)) = cm 20 a b := h2
          rw [if_neg hd] at h2
          exact h2
    · rintro m _ ⟨c, d, rfl, h1, h2⟩ ht
      have hd : d = 0 := by
        have ht : (!decide (d = 0)) = false := ht
        simpa using ht
      have e : cm m c d = c := by
        cases m with
        | zero => rfl
        | succ m =>
          show (if d = 0 then c else _) = c
          rw [if_pos hd]
      refine ds_last (d1_ret (de_abs (by rfl) B.abs (de_var (pv 0))) ?_)
      unfold commonM
      rw [← h2, e]
      exact rr0
abbrev sLawOf : Stmt := topS 10
abbrev nmLawOf : List Str := ["draws", "some"]
theorem scLawOf : FnScope nmLawOf ["draws", "some"] (defScope sLawOf) := ⟨rfl, rfl, rfl, by decide +kernel, rfl, by decide +kernel, by decide +kernel⟩
def RLawOf : RT := fun as π r π' => ∃ (s : Int × Int) (xs : List D), as = [.list xs] ∧ 0 < xs.length ∧ xs.length ≤ 1000 ∧ π = [dI s] ∧ π' = [dI (drawS s xs.length)] ∧ r = .d (xs.getD (drawV s xs.length).toNat .none)
theorem atI_getD {xs : List D} {i : Int} (h0 : 0 ≤ i) (h1 : i < xs.length) : atI xs i = some (xs.getD i.toNat .none) := by
  have e : ((i.toNat : Nat) : Int) = i := by omega
  have hl : i.toNat < xs.length := by omega
  have := atI_nat (show xs[i.toNat]? = some (xs.getD i.toNat .none) by rw [List.getD_eq_getElem?_getD, List.getElem?_eq_getElem hl]; rfl)
  rw [e] at this
  exact this
theorem ok_law_of (B : Bt mg) (G_law_draw : OkD P w K mg base "_law_draw" 1 ["draws", "many"] RLawDraw) (F : FunAt K mg "_law_of" sLawOf ["draws", "some"]) : OkD P w K mg base "_law_of" 2 ["draws", "some"] RLawOf := by
  refine mk_def F scLawOf (fun as π r π' h => ?_) (fun f cdv A outer s H E N as π r π' hr hpa hR => ?_)
  · obtain ⟨s, xs, rfl, _, _, rfl, rfl, rfl⟩ := h
    exact ⟨rfl, rfl⟩
  · obtain ⟨s, xs, rfl, h0, h1, rfl, rfl, rfl⟩ := hR
    have hd := drawV_low s xs.length (by omega)
    exact ds_last (d1_ret (de_ixL (de_var (pv 1)) (de_cl1 G_law_draw hr (by rfl) (dap_cons (de_ptr (pv 0)) (da_cons (de_lenL (by rfl) B.len (de_var (pv 1))) da_nil)) rfl ⟨s, xs.length, rfl, by omega, by omega, rfl, rfl, rfl⟩) (atI_getD hd.1 hd.2)) (rr1 rfl))
abbrev sLawRule : Stmt := topS 11
abbrev nmLawRule : List Str := ["draws", "own", "other"]
theorem scLawRule : FnScope nmLawRule ["draws"] (defScope sLawRule) := ⟨rfl, rfl, rfl, by decide +kernel, rfl, by decide +kernel, by decide +kernel⟩
def RLawRule : RT := fun as π r π' => ∃ (s : Int × Int), as = [] ∧ π = [dI s] ∧ π' = [dI (ruleS' s)] ∧ r = .d (rl (ruleM s).1 (ruleM s).2)
theorem ok_law_rule (B : Bt mg) (G_law_draw : OkD P w K mg base "_law_draw" 1 ["draws", "many"] RLawDraw) (G_law_common : OkD P w K mg base "_law_common" 1 ["one", "other"] RLawCommon) (G_law_of : OkD P w K mg base "_law_of" 2 ["draws", "some"] RLawOf) (F : FunAt K mg "_law_rule" sLawRule ["draws"]) : OkD P w K mg base "_law_rule" 3 ["draws"] RLawRule := by
  refine mk_def F scLawRule (fun as π r π' h => ?_) (fun f cdv A outer s H E N as π r π' hr hpa hR => ?_)
  · obtain ⟨s, rfl, rfl, rfl, rfl⟩ := h
    exact ⟨rfl, rfl⟩
  · obtain ⟨s, rfl, rfl, rfl, rfl⟩ := hR
    have h1 := drawV_low s 19 (by decide)
    have h2 := drawV_low (drawS s 19) 19 (by decide)
    have ho1 : -9 ≤ ruleO s := by unfold ruleO; omega
    have ho2 : ruleO s ≤ 9 := by unfold ruleO; omega
    refine ds_seq (d1_par (i := 1) (j := 2) rfl scLawRule.nd rfl rfl (by decide) rfl rfl (da_cons (de_sub (de_cl1 G_law_draw hr (by rfl) (dap_cons (de_ptr (pv 0)) (da_cons de_int da_nil)) rfl ⟨s, 19, rfl, by decide, by decide, rfl, rfl, rfl⟩) de_int) (da_cons (de_sub (de_cl1 G_law_draw hr (by rfl) (dap_cons (de_ptr (pv 0)) (da_cons de_int da_nil)) rfl ⟨drawS s 19, 19, rfl, by decide, by decide, rfl, rfl, rfl⟩) de_int) da_nil)) (by rfl) rfl) ?_
    refine ds_while (fun m z => ∃ n, z = ⟨[.ptr 0, .d (.int (ruleO s)), .d (.int n)], [some (dI (drawS (drawS s 19) 19))]⟩ ∧ ruleOk (ruleO s) m n = true ∧ ruleL (ruleO s) m n = ruleN s ∧ -9 ≤ n ∧ n ≤ 9) 18 (fun m z => match z.s with | [_, _, .d (.int n)] => !decide (commonM (ruleO s) n = 1) | _ => false) PassesOwn.never ⟨_, rfl, ruleOk_nine _ _ ho1 ho2 (by omega) (by omega), rfl, by omega, by omega⟩ ?_ ?_ ?_
    · rintro m _ ⟨n, rfl, _, _, h3, h4⟩
      exact dt_neI (de_clD G_law_common hr (by rfl) (da_cons (de_var (pv 1)) (da_cons (de_var (pv 2)) da_nil)) ⟨_, _, rfl, cmOk_nine _ _ ho1 ho2 h3 h4, rfl, rfl, rfl⟩) de_int
    · rintro m _ ⟨n, rfl, h5, h6, h3, h4⟩ ht
      have hd : ¬ commonM (ruleO s) n = 1 := by
        have ht : (!decide (commonM (ruleO s) n = 1)) = true := ht
        simpa using ht
      cases m with
      | zero => exact absurd (of_decide_eq_true h5) hd
      | succ m =>
        refine ds_seq (d1_set (i := 2) scLawRule.nd rfl (.inl rfl) (de_if (dt_lt (de_var (pv 2)) de_int) (fun hb => (de_add (de_var (pv 2)) de_int)) fun hb => (de_neg de_int)) rfl) ?_
        have e : (if decide (n < 9) = true then PyData.int (n + 1) else PyData.int (-9)) = .int (nextN n) := by
          unfold nextN
          by_cases h : n < 9
          · rw [if_pos h, if_pos (decide_eq_true h)]
          · rw [if_neg h, if_neg (by rw [decide_eq_false h]; decide)]
        refine ds_at (z1 := ⟨[.ptr 0, .d (.int (ruleO s)), .d (.int (nextN n))], [some (dI (drawS (drawS s 19) 19))]⟩) (by rw [← e]; rfl) ?_
        refine ds_nil ⟨m, Nat.lt_succ_self m, _, rfl, ?_, ?_, by unfold nextN; split <;> omega, by unfold nextN; split <;> omega⟩
        · have h5 : (if commonM (ruleO s) n = 1 then true else ruleOk (ruleO s) m (nextN n)) = true := h5
          rw [if_neg hd] at h5
          exact h5
        · have h6 : (if commonM (ruleO s) n = 1 then n else ruleL (ruleO s) m (nextN n)) = ruleN s := h6
          rw [if_neg hd] at h6
          exact h6
    · rintro m _ ⟨n, rfl, h5, h6, h3, h4⟩ ht
      have hd : commonM (ruleO s) n = 1 := by
        have ht : (!decide (commonM (ruleO s) n = 1)) = false := ht
        simpa using ht
      have e : ruleL (ruleO s) m n = n := by
        cases m with
        | zero => rfl
        | succ m =>
          show (if commonM (ruleO s) n = 1 then n else _) = n
          rw [if_pos hd]
      rw [e] at h6
      subst h6
      refine ds_last (d1_ret (de_cl1 (v := rl (ruleM s).1 (ruleM s).2) G_law_of hr (by rfl) (dap_cons (de_ptr (pv 0)) (da_cons (de_frz (de_lst (da_cons (de_tup (da_cons (de_var (pv 1)) (da_cons (de_var (pv 2)) da_nil))) (da_cons (de_tup (da_cons de_int (da_cons de_int da_nil))) (da_cons (de_tup (da_cons de_int (da_cons (de_neg de_int) da_nil))) (da_cons (de_tup (da_cons (de_neg de_int) (da_cons de_int da_nil))) (da_cons (de_tup (da_cons de_int (da_cons de_int da_nil))) (da_cons (de_tup (da_cons de_int (da_cons de_int da_nil))) (da_cons (de_tup (da_cons de_int (da_cons (de_neg de_int) da_nil))) (da_cons (de_tup (da_cons de_int (da_cons de_int da_nil))) (da_cons (de_tup (da_cons de_int (da_cons (de_neg de_int) da_nil))) (da_cons (de_tup (da_cons de_int (da_cons de_int da_nil))) da_nil))))))))))) rfl (Nat.le_of_eq hpa)) da_nil)) rfl ⟨drawS (drawS s 19) 19, (ruleList (ruleO s) (ruleN s)).map fun p => rl p.1 p.2, rfl, (by show 0 < 10; decide), (by show 10 ≤ 1000; decide), rfl, rfl, ?_⟩) (rr1 rfl))
      show Rr.d (rl (ruleM s).1 (ruleM s).2) = .d (((ruleList (ruleO s) (ruleN s)).map fun p => rl p.1 p.2).getD (drawV (drawS (drawS s 19) 19) 10).toNat .none)
      have h7 := drawV_low (drawS (drawS s 19) 19) 10 (by decide)
      have h8 : (drawV (drawS (drawS s 19) 19) 10).toNat < (ruleList (ruleO s) (ruleN s)).length := by show _ < 10; omega
      unfold ruleM
      rw [List.getD_eq_getElem?_getD, List.getD_eq_getElem?_getD, List.getElem?_map, List.getElem?_eq_getElem h8]
      rfl
abbrev sLawRing : Stmt := topS 12
abbrev nmLawRing : List Str := ["draws", "many", "far", "house"]
theorem scLawRing : FnScope nmLawRing ["draws", "many"] (defScope sLawRing) := ⟨rfl, rfl, rfl, by decide +kernel, rfl, by decide +kernel, by decide +kernel⟩
def RLawRing : RT := fun as π r π' => ∃ (s : Int × Int) (many : Nat), as = [.int many] ∧ many ≤ 1000 ∧ π = [dI s] ∧ π' = [dI (ringS s many)] ∧ r = .d (tI (ringM s many))
theorem ok_law_ring (B : Bt mg) (G_law_draw : OkD P w K mg base "_law_draw" 1 ["draws", "many"] RLawDraw) (F : FunAt K mg "_law_ring" sLawRing ["draws", "many"]) : OkD P w K mg base "_law_ring" 2 ["draws", "many"] RLawRing := by
  refine mk_def F scLawRing (fun as π r π' h => ?_) (fun f cdv A outer s H E N as π r π' hr hpa hR => ?_)
  · obtain ⟨s, many, rfl, _, rfl, rfl, rfl⟩ := h
    exact ⟨rfl, rfl⟩
  · obtain ⟨s, many, rfl, hm, rfl, rfl, rfl⟩ := hR
    have h1 := drawV_low s 4 (by decide)
    have hf := farM_bd s
    have hp1 : N.pa.length ≤ 1 := Nat.le_of_eq hpa
    refine ds_seq (d1_set (i := 2) scLawRing.nd rfl (.inr rfl) (de_ixPI (ns := [2, 7, 50, 10 ^ 30]) (de_lst (da_cons de_int (da_cons de_int (da_cons de_int (da_cons (de_pow de_int de_int ⟨by decide, by decide, by decide⟩) da_nil))))) (de_cl1 G_law_draw hr (by rfl) (dap_cons (de_ptr (pv 0)) (da_cons de_int da_nil)) rfl ⟨s, 4, rfl, by decide, by decide, rfl, rfl, rfl⟩) rfl h1.1 h1.2) rfl) ?_
    refine ds_wk (s' := [.ptr 0, .d (.int many), .d (.int (farM s)), .no]) (o' := [some (dI (drawS s 4))]) (.keep (.keep (.keep (.keep .nil)))) rfl hp1 rfl ?_
    exact ds_last (d1_ret (de_tupP (xs := lI (ringM s many)) (by rfl) B.tuple (de_lcSI (own := [("house", 3)]) (O := fun k => [some (dI (drawN (drawS s 4) (2 * farM s + 1) k))]) rfl scLawRing.nd (di_range1 (by rfl) B.range (de_var (pv 1)) (by omega) (by omega)) it_rng (blkOk_by (N := nmLawRing) (sc := defScope sLawRing) (by decide +kernel)) (fun _ _ _ _ _ => pg_name (i := 3) scLawRing.nd rfl (.inl rfl)) (gd_name 3) (by decide) (fun _ _ => trivial) (small1000 (by omega)) rfl (fun _ => rfl)
      (fun k hk _ _ _ _ _ => de_sub (de_cl1 G_law_draw hr (by rfl) (dap_cons (de_ptr (pv 0)) (da_cons (de_add (de_mul de_int (de_var (pv 2)) (.inl ⟨by decide, by decide⟩)) de_int) da_nil)) rfl ⟨drawN (drawS s 4) (2 * farM s + 1) k, 2 * farM s + 1, rfl, by omega, by omega, rfl, rfl, rfl⟩) (de_var (pv 2))) (fun k hk => rfl)) rfl) (rr1 rfl))
abbrev sLawDay : Stmt := topS 13
abbrev nmLawDay : List Str := ["rule_d", "ring_d", "found", "house"]
theorem scLawDay : FnScope nmLawDay ["rule_d", "ring_d"] (defScope sLawDay) := ⟨rfl, rfl, rfl, by decide +kernel, rfl, by decide +kernel, by decide +kernel⟩
def RLawDay : RT := fun as π r π' => ∃ (o n : Int) (ring : List Int), as = [rl o n, tI ring] ∧ RuleS o n ∧ ring.length ≤ 1000 ∧ π = [] ∧ π' = [] ∧ r = .d (tI (dayM o n ring))
theorem ok_law_day (B : Bt mg) (F : FunAt K mg "_law_day" sLawDay ["rule_d", "ring_d"]) : OkD P w K mg base "_law_day" 1 ["rule_d", "ring_d"] RLawDay := by
  refine mk_def F scLawDay (fun as π r π' h => ?_) (fun f cdv A outer s H E N as π r π' hr hpa hR => ?_)
  · obtain ⟨o, n, ring, rfl, _, _, rfl, rfl, rfl⟩ := h
    exact ⟨rfl, rfl⟩
  · obtain ⟨o, n, ring, rfl, R, hl, rfl, rfl, rfl⟩ := hR
    have := R.o1; have := R.o2; have := R.n1; have := R.n2
    have el : ((lI ring).length : Int) = ring.length := by simp
    refine ds_seq (d1_set (i := 2) scLawDay.nd rfl (.inl rfl) (de_lst da_nil) rfl) ?_
    refine ds_for (fun k z => ∃ sl, z = ⟨[.d (rl o n), .d (tI ring), .ptr 0, sl], [some (lI (tab k fun k => o * ring.getD k 0 + n * DL.F ring (k + 1)))]⟩) PassesOwn.never rfl (di_range1 (by rfl) B.range (de_cast (de_lenT (by rfl) B.len (de_var (pv 1))) (congrArg PyData.int el)) (by omega) (by omega)) it_rng0 (pg_name (i := 3) scLawDay.nd rfl (.inl rfl)) (gd_name 3) (fun _ _ => trivial) ⟨_, rfl⟩ ?_ ?_
    · rintro k _ hk ⟨sl, rfl⟩
      have hk : k < ring.length := by omega
      refine ds_seq (d1_expr (de_appI (v := o * ring.getD k 0 + n * DL.F ring (k + 1)) (ns := tab k fun k => o * ring.getD k 0 + n * DL.F ring (k + 1)) (de_ptr (pv 2)) (de_cast (de_add (de_mul (de_ixT (de_var (pv 0)) de_int rfl) (de_ixTI (de_var (pv 1)) (de_var (pv 3)) (by omega) (by omega)) (.inl ⟨by omega, by omega⟩)) (de_mul (de_ixT (de_var (pv 0)) de_int rfl) (de_ixTI (de_var (pv 1)) (de_ifI (dt_lt (de_add (de_var (pv 3)) de_int) (de_cast (de_lenT (by rfl) B.len (de_var (pv 1))) (congrArg PyData.int el))) (fun hb => (de_add (de_var (pv 3)) de_int)) fun hb => de_int) (by split <;> omega) (by split <;> (try omega); rename_i h; exact of_decide_eq_true h)) (.inl ⟨by omega, by omega⟩))) ?_) rfl rfl (small1000 (by rw [tab_len]; omega))) rfl) ?_
      · have e1 : at_ ring (k : Int) = ring.getD k 0 := by unfold at_; rw [Int.toNat_natCast]
        have e2 : at_ ring (if decide ((k : Int) + 1 < ring.length) = true then (k : Int) + 1 else 0) = DL.F ring (k + 1) := by
          unfold at_ DL.F
          by_cases h : k + 1 < ring.length
          · rw [if_pos (decide_eq_true (by omega)), Nat.mod_eq_of_lt h]
            congr 1
          · have e : k + 1 = ring.length := by omega
            rw [if_neg (by rw [decide_eq_false (by omega)]; decide), e, Nat.mod_self]
            rfl
        rw [e1, e2]
      · exact ds_nil ⟨.d (.int k), by rw [tab_succ]; rfl⟩
    · rintro _ ⟨sl, rfl⟩
      exact ds_last (d1_ret (de_tupP (by rfl) B.tuple (de_ptr (pv 2)) rfl) rr0)
abbrev sLawCase : Stmt := topS 14
abbrev nmLawCase : List Str := ["draws", "rule_d", "many", "ring_d", "days_d", "day", "number"]
theorem scLawCase : FnScope nmLawCase ["draws"] (defScope sLawCase) := ⟨rfl, rfl, rfl, by decide +kernel, rfl, by decide +kernel, by decide +kernel⟩
def RLawCase : RT := fun as π r π' => ∃ (s : Int × Int), as = [] ∧ π = [dI s] ∧ π' = [dI (caseM s).s] ∧ r = .d (.tuple [rl (caseM s).o (caseM s).n, tI (caseM s).ring, .int (caseM s).days])
theorem ok_law_case (B : Bt mg) (G_law_draw : OkD P w K mg base "_law_draw" 1 ["draws", "many"] RLawDraw) (G_law_rule : OkD P w K mg base "_law_rule" 3 ["draws"] RLawRule) (G_law_ring : OkD P w K mg base "_law_ring" 2 ["draws", "many"] RLawRing) (G_law_day : OkD P w K mg base "_law_day" 1 ["rule_d", "ring_d"] RLawDay) (F : FunAt K mg "_law_case" sLawCase ["draws"]) : OkD P w K mg base "_law_case" 4 ["draws"] RLawCase := by
  refine mk_def F scLawCase (fun as π r π' h => ?_) (fun f cdv A outer s H E N as π r π' hr hpa hR => ?_)
  · obtain ⟨s, rfl, rfl, rfl, rfl⟩ := h
    exact ⟨rfl, rfl⟩
  · obtain ⟨s, rfl, rfl, rfl, rfl⟩ := hR
    have h1 := drawV_low (ruleS' s) 9 (by decide)
    have hm := caseMany_bd s
    have em : 1 + drawV (ruleS' s) 9 = (caseMany s : Int) := by unfold caseMany; omega
    have hp1 : N.pa.length ≤ 1 := Nat.le_of_eq hpa
    have h2 := drawV_low (drawS (caseS1 s) 12) 5 (by decide)
    have h3 := drawV_low (caseS1 s) 12 (by decide)
    have hd := caseDays_bd s
    refine ds_seq (d1_par (i := 1) (j := 2) rfl scLawCase.nd rfl rfl (by decide) rfl rfl (da_cons (de_cl1 G_law_rule hr (by rfl) (dap_cons (de_ptr (pv 0)) da_nil) rfl ⟨s, rfl, rfl, rfl, rfl⟩) (da_cons (de_cast (de_add de_int (de_cl1 G_law_draw hr (by rfl) (dap_cons (de_ptr (pv 0)) (da_cons de_int da_nil)) rfl ⟨ruleS' s, 9, rfl, by decide, by decide, rfl, rfl, rfl⟩)) (congrArg PyData.int em)) da_nil)) (by rfl) rfl) ?_
    have ed : at_ [0, 0, 1, 2, drawV (caseS1 s) 12] (drawV (drawS (caseS1 s) 12) 5) = (caseDays s : Int) := by
      have : 0 ≤ at_ [0, 0, 1, 2, drawV (caseS1 s) 12] (drawV (drawS (caseS1 s) 12) 5) := getD_all (p := fun v => 0 ≤ v) (fun v hv => by
        simp only [List.mem_cons, List.not_mem_nil, or_false] at hv
        rcases hv with rfl | rfl | rfl | rfl | rfl <;> omega) (by decide) _
      unfold caseDays
      unfold at_ at this ⊢
      omega
    refine ds_seq (d1_asg (de_tup (da_cons (de_cl1 G_law_ring hr (by rfl) (dap_cons (de_ptr (pv 0)) (da_cons (de_var (pv 2)) da_nil)) rfl ⟨drawS (ruleS' s) 9, caseMany s, rfl, by omega, rfl, rfl, rfl⟩) (da_cons (de_cast (de_ixPI (ns := [0, 0, 1, 2, drawV (caseS1 s) 12]) (de_lst (da_cons de_int (da_cons de_int (da_cons de_int (da_cons de_int (da_cons (de_cl1 G_law_draw hr (by rfl) (dap_cons (de_ptr (pv 0)) (da_cons de_int da_nil)) rfl ⟨caseS1 s, 12, rfl, by decide, by decide, rfl, rfl, rfl⟩) da_nil)))))) (de_cl1 G_law_draw hr (by rfl) (dap_cons (de_ptr (pv 0)) (da_cons de_int da_nil)) rfl ⟨drawS (caseS1 s) 12, 5, rfl, by decide, by decide, rfl, rfl, rfl⟩) rfl h2.1 h2.2) (congrArg PyData.int ed)) da_nil))) (pg_tup (n := 2) rfl (pgs_cons (pg_name (i := 3) scLawCase.nd rfl (.inr rfl)) (pgs_cons (pg_name (i := 4) scLawCase.nd rfl (.inl rfl)) pgs_nil))) (gd_tup (is := [3, 4]) (gsd_cons (gsd_cons gsd_nil))) ⟨_, rfl, rfl⟩ rfl) ?_
    refine ds_wk (s' := [.ptr 0, .d (rl (caseM s).o (caseM s).n), .d (.int (caseMany s)), .d (tI (ringM (drawS (ruleS' s) 9) (caseMany s))), .d (.int (caseDays s)), .no, .no]) (o' := [some (dI (caseS2 s))]) (.keep (.keep (.keep (.keep (.keep (.keep (.keep .nil))))))) rfl hp1 rfl ?_
    refine ds_cons (mid := fun z' => z' = ⟨[.ptr 0, .d (rl (caseM s).o (caseM s).n), .d (.int (caseMany s)), .d (tI (caseRing0 s)), .d (.int (caseDays s)), .no, .no], [some (dI (caseM s).s)]⟩) (d1_if (dt_eqI (de_cl1 G_law_draw hr (by rfl) (dap_cons (de_ptr (pv 0)) (da_cons de_int da_nil)) rfl ⟨caseS2 s, 4, rfl, by decide, by decide, rfl, rfl, rfl⟩) de_int) (fun hb => ?_) (fun hb => ?_)) ?_
    · have hb : drawV (caseS2 s) 4 = 0 := of_decide_eq_true hb
      refine ds_seq (d1_set (i := 3) scLawCase.nd rfl (.inr rfl) (de_tupP (xs := lI (caseRing0 s)) (by rfl) B.tuple (de_lcI (own := [("number", 6)]) rfl scLawCase.nd (di_tup (de_var (pv 3))) it_ints (blkOk_by (N := nmLawCase) (sc := defScope sLawCase) (by decide +kernel)) (fun _ _ _ _ _ => pg_name (i := 6) scLawCase.nd rfl (.inl rfl)) (gd_name 6) (by decide) (fun _ _ => trivial) (small1000 (by rw [ringM_len]; omega)) (fun k hk _ _ _ _ _ => de_sub (de_var (pv 6)) (de_ixTI (de_var (pv 3)) de_int (by decide) (by rw [ringM_len]; omega))) (fun k hk => rfl)) ?_) rfl) ?_
      · have e : caseRing0 s = (List.range (ringM (drawS (ruleS' s) 9) (caseMany s)).length).map fun k => (ringM (drawS (ruleS' s) 9) (caseMany s)).getD k 0 - at_ (ringM (drawS (ruleS' s) 9) (caseMany s)) 0 := by
          unfold caseRing0
          rw [if_pos hb, map_getD]
          rfl
        rw [e]
        rfl
      · exact ds_wk (s' := [.ptr 0, .d (rl (caseM s).o (caseM s).n), .d (.int (caseMany s)), .d (tI (caseRing0 s)), .d (.int (caseDays s)), .no, .no]) (o' := [some (dI (caseM s).s)]) (.keep (.keep (.keep (.keep (.keep (.keep (.keep .nil))))))) rfl hp1 rfl (ds_nil rfl)
    · have hb : ¬ drawV (caseS2 s) 4 = 0 := of_decide_eq_false hb
      refine ds_nil ?_
      have e : caseRing0 s = ringM (drawS (ruleS' s) 9) (caseMany s) := by unfold caseRing0; rw [if_neg hb]
      rw [e]
      rfl
    · rintro _ rfl
      refine ds_for (fun k z => ∃ sl, z = ⟨[.ptr 0, .d (rl (caseM s).o (caseM s).n), .d (.int (caseMany s)), .d (tI (laterM (caseM s).o (caseM s).n (caseRing0 s) k)), .d (.int (caseDays s)), sl, .no], [some (dI (caseM s).s)]⟩) PassesOwn.never rfl (di_range1 (by rfl) B.range (de_var (pv 4)) (by omega) (by omega)) it_rng0 (pg_name (i := 5) scLawCase.nd rfl (.inl rfl)) (gd_name 5) (fun _ _ => trivial) ⟨_, rfl⟩ ?_ ?_
      · rintro k _ hk ⟨sl, rfl⟩
        refine ds_seq (d1_set (i := 3) scLawCase.nd rfl (.inr rfl) (de_clD G_law_day hr (by rfl) (da_cons (de_var (pv 1)) (da_cons (de_var (pv 3)) da_nil)) ⟨_, _, _, rfl, (case_rule s).toRuleS, by rw [laterM_len, caseRing0_len]; omega, rfl, rfl, rfl⟩) rfl) ?_
        exact ds_nil ⟨_, rfl⟩
      · rintro _ ⟨sl, rfl⟩
        have e : ((caseDays s : Int)).toNat = caseDays s := rfl
        exact ds_last (d1_ret (de_tup (da_cons (de_var (pv 1)) (da_cons (de_var (pv 3)) (da_cons (de_var (pv 4)) da_nil)))) (rr1 rfl))
abbrev sLawPlus : Stmt := topS 15
abbrev nmLawPlus : List Str := ["one", "other", "left", "right"]
theorem scLawPlus : FnScope nmLawPlus ["one", "other"] (defScope sLawPlus) := ⟨rfl, rfl, rfl, by decide +kernel, rfl, by decide +kernel, by decide +kernel⟩
def RLawPlus : RT := fun as π r π' => ∃ (one other : List Int), as = [tI one, tI other] ∧ one.length = other.length ∧ one.length ≤ 1000 ∧ π = [] ∧ π' = [] ∧ r = .d (tI (plusM one other))
theorem ok_law_plus (B : Bt mg) (F : FunAt K mg "_law_plus" sLawPlus ["one", "other"]) : OkD P w K mg base "_law_plus" 1 ["one", "other"] RLawPlus := by
  refine mk_def F scLawPlus (fun as π r π' h => ?_) (fun f cdv A outer s H E N as π r π' hr hpa hR => ?_)
  · obtain ⟨one, other, rfl, _, _, rfl, rfl, rfl⟩ := h
    exact ⟨rfl, rfl⟩
  · obtain ⟨one, other, rfl, h0, h1, rfl, rfl, rfl⟩ := hR
    exact ds_last (d1_ret (de_tupP (by rfl) B.tuple (de_lcI (own := [("left", 2), ("right", 3)]) rfl scLawPlus.nd (di_zipT (by rfl) B.zip (de_var (pv 0)) (de_var (pv 1))) (it_zipI h0) (blkOk_by (N := nmLawPlus) (sc := defScope sLawPlus) (by decide +kernel)) (fun _ _ _ _ _ => pg_tup (n := 2) rfl (pgs_cons (pg_name (i := 2) scLawPlus.nd rfl (.inl rfl)) (pgs_cons (pg_name (i := 3) scLawPlus.nd rfl (.inl rfl)) pgs_nil))) (gd_tup (is := [2, 3]) (gsd_cons (gsd_cons gsd_nil))) (by decide) (fun k hk => ⟨_, rfl, rfl⟩) (small1000 h1) (fun k hk _ _ _ _ _ => (de_add (de_var (pv 2)) (de_var (pv 3)))) (fun k hk => rfl)) rfl) rr0)
abbrev sLawTurnedSo : Stmt := topS 16
abbrev nmLawTurnedSo : List Str := ["draws", "rule_d", "ring_d", "told", "far", "at", "rest", "other"]
theorem scLawTurnedSo : FnScope nmLawTurnedSo ["draws", "rule_d", "ring_d", "told", "far"] (defScope sLawTurnedSo) := ⟨rfl, rfl, rfl, by decide +kernel, rfl, by decide +kernel, by decide +kernel⟩
def RLawTurnedSo : RT := fun as π r π' => ∃ (s : Int × Int) (o n : Int) (ring : List Int) (days far by_ : Int), as = [rl o n, tI ring, .tuple [.int days, tI (laterM o n ring days.toNat)], .tuple [.int far, .int by_]] ∧ RuleS o n ∧ (0 < ring.length ∧ ring.length ≤ 1000) ∧ (0 ≤ days ∧ days < 2 ^ 62) ∧ 0 ≤ far ∧ (0 < by_ ∧ by_ < 2 ^ 64) ∧ π = [dI s] ∧ π' = [dI (drawS s ring.length)] ∧ r = .d (.bool true)
theorem ok_law_turned_so (B : Bt mg) (G_law_draw : OkD P w K mg base "_law_draw" 1 ["draws", "many"] RLawDraw) (Glater : OkD P w K mg base "later" 3 ["rule", "ring", "days"] RLater) (Grests : OkD P w K mg base "rests" 2 ["rule", "ring", "days", "by"] RRests) (F : FunAt K mg "_law_turned_so" sLawTurnedSo ["draws", "rule_d", "ring_d", "told", "far"]) : OkD P w K mg base "_law_turned_so" 4 ["draws", "rule_d", "ring_d", "told", "far"] RLawTurnedSo := by
  refine mk_def F scLawTurnedSo (fun as π r π' h => ?_) (fun f cdv A outer s H E N as π r π' hr hpa hR => ?_)
  · obtain ⟨s, o, n, ring, days, far, by_, rfl, _, _, _, _, _, rfl, rfl, rfl⟩ := h
    exact ⟨rfl, rfl⟩
  · obtain ⟨s, o, n, ring, days, far, by_, rfl, R, ⟨h0, h1⟩, ⟨hd0, hd1⟩, hf, ⟨hb0, hb1⟩, rfl, rfl, rfl⟩ := hR
    have hz : (2000 : Nat) ≤ sizeLine := by decide
    have el : ((lI ring).length : Int) = ring.length := by simp
    have hd := drawV_low s ring.length (by omega)
    -- a ring turned round
    have rot : ∀ r : List Int, r.length = ring.length → cutG (lI r) (some (drawV s ring.length)) none ++ cutG (lI r) none (some (drawV s ring.length)) = lI (rotM r (drawV s ring.length).toNat) := fun r hl => by
      rw [cutG_map, cutG_map, ← List.map_append, cutG_drop hd.1 (by omega), cutG_take hd.1 (by omega)]
      rfl
    have clen : ∀ (xs : List D) (l u : Option Int), (cutG xs l u).length ≤ xs.length := fun xs l u => by unfold cutG; rw [List.length_take, List.length_drop]; omega
    have csum : ∀ (r : List Int) (l u l' u' : Option Int), r.length ≤ 1000 → (cutG (lI r) l u).length + (cutG (lI r) l' u').length ≤ sizeLine := fun r l u l' u' hl => by
      have h1 := clen (lI r) l u
      have h2 := clen (lI r) l' u'
      rw [lI_len] at h1 h2
      omega
    refine ds_seq (d1_par (i := 5) (j := 6) rfl scLawTurnedSo.nd rfl rfl (by decide) rfl rfl (da_cons (de_cl1 G_law_draw hr (by rfl) (dap_cons (de_ptr (pv 0)) (da_cons (de_cast (de_lenT (by rfl) B.len (de_var (pv 2))) (congrArg PyData.int el)) da_nil)) rfl ⟨s, ring.length, rfl, by omega, by omega, rfl, rfl, rfl⟩) (da_cons (de_clD Grests hr (by rfl) (da_cons (de_var (pv 1)) (da_cons (de_var (pv 2)) (da_cons (de_ixT (de_var (pv 4)) de_int rfl) (da_cons (de_ixT (de_var (pv 4)) de_int rfl) da_nil)))) ⟨o, n, ring, far, by_, rfl, R, ⟨h0, h1⟩, hf, ⟨hb0, hb1⟩, rfl, rfl, rfl⟩) da_nil)) (by rfl) rfl) ?_
    refine ds_seq (d1_set (i := 7) scLawTurnedSo.nd rfl (.inl rfl) (de_cast (de_catT (de_slT (de_var (pv 2)) (do_some (de_var (pv 5))) do_none) (de_slT (de_var (pv 2)) do_none (do_some (de_var (pv 5)))) (csum ring _ _ _ _ h1)) (congrArg PyData.tuple (rot ring rfl))) rfl) ?_
    have ha : (drawV s ring.length).toNat ≤ ring.length := by omega
    have hl1 := laterM_len o n ring days.toNat
    have hl2 := restsM_len o n ring far.toNat by_
    refine ds_ifR (dt_cast (dt_ne hr.units (de_clD Glater hr (by rfl) (da_cons (de_var (pv 1)) (da_cons (de_var (pv 7)) (da_cons (de_ixT (de_var (pv 3)) de_int rfl) da_nil))) ⟨o, n, rotM ring _, days, rfl, R, by rw [rotM_len]; exact h1, hd0, hd1, rfl, rfl, rfl⟩) (de_cast (de_catT (de_slT (de_ixT (de_var (pv 3)) de_int rfl) (do_some (de_var (pv 5))) do_none) (de_slT (de_ixT (de_var (pv 3)) de_int rfl) do_none (do_some (de_var (pv 5)))) (csum _ _ _ _ _ (by omega))) (congrArg PyData.tuple (rot _ hl1))) (depth_tI _ _)) (show (!PyData.eqv (tI _) (tI _)) = false by rw [eqv_tI, later_rot _ _ _ _ ha, decide_eq_true rfl]; rfl)) (fun hb => by cases hb) (fun hb => ?_)
    refine ds_last (d1_ret (de_cast (de_eq hr.units (de_clD Grests hr (by rfl) (da_cons (de_var (pv 1)) (da_cons (de_var (pv 7)) (da_cons (de_ixT (de_var (pv 4)) de_int rfl) (da_cons (de_ixT (de_var (pv 4)) de_int rfl) da_nil)))) ⟨o, n, rotM ring _, far, by_, rfl, R, ⟨by rw [rotM_len]; exact h0, by rw [rotM_len]; exact h1⟩, hf, ⟨hb0, hb1⟩, rfl, rfl, rfl⟩) (de_cast (de_catT (de_slT (de_var (pv 6)) (do_some (de_var (pv 5))) do_none) (de_slT (de_var (pv 6)) do_none (do_some (de_var (pv 5)))) (csum _ _ _ _ _ (by omega))) (congrArg PyData.tuple (rot _ hl2))) (depth_tI _ _)) (show PyData.bool (PyData.eqv (tI _) (tI _)) = .bool true by rw [eqv_tI, rests_rot _ _ _ _ ha, decide_eq_true rfl])) (rr1 rfl))
abbrev sLaw : Stmt := topS 17
abbrev nmLaw : List Str := ["script", "k", "draws", "rule_d", "ring_d", "aged", "days_d", "by_d", "due", "day", "left", "far", "more", "whole", "other", "times_d", "number", "one"]
theorem scLaw : FnScope nmLaw ["script"] (defScope sLaw) := ⟨rfl, rfl, rfl, by decide +kernel, rfl, by decide +kernel, by decide +kernel⟩
theorem ok_law {f : Addr} {fd : FuncData} (B : Bt mg) (G_law_draws : OkD P w K mg base "_law_draws" 1 ["script", "k"] RLawDraws) (G_law_draw : OkD P w K mg base "_law_draw" 1 ["draws", "many"] RLawDraw) (G_law_case : OkD P w K mg base "_law_case" 4 ["draws"] RLawCase) (G_law_ring : OkD P w K mg base "_law_ring" 2 ["draws", "many"] RLawRing) (G_law_day : OkD P w K mg base "_law_day" 1 ["rule_d", "ring_d"] RLawDay) (G_law_plus : OkD P w K mg base "_law_plus" 1 ["one", "other"] RLawPlus) (Glater : OkD P w K mg base "later" 3 ["rule", "ring", "days"] RLater) (Grests : OkD P w K mg base "rests" 2 ["rule", "ring", "days", "by"] RRests) (G_law_turned_so : OkD P w K mg base "_law_turned_so" 4 ["draws", "rule_d", "ring_d", "told", "far"] RLawTurnedSo)
    (Klater : OkK P w K mg base "later" 3 ["rule", "ring", "days"] ["days", "ring", "rule"] (fun {α} l => l.reverse) RLater) (Krests : OkK P w K mg base "rests" 2 ["rule", "ring", "days", "by"] ["by", "days", "ring", "rule"] (fun {α} l => l.reverse) RRests)
    (F : Fun K "law" "law" sLaw f fd) : FnOk P w K mg base CX0 6 f fd ["script"] (spG K RLaw) := by
  refine mk_fn F scLaw (fun as π r π' h => ?_) (fun cdv A outer s H E N as π r π' hr hpa hR => ?_)
  · obtain ⟨ns, rfl, _, rfl, rfl, rfl⟩ := h
    exact ⟨rfl, rfl⟩
  · obtain ⟨ns, rfl, hns, rfl, rfl, rfl⟩ := hR
    have hp0 : N.pa.length ≤ 0 := Nat.le_of_eq hpa
    have hp1 : N.pa.length ≤ 1 := Nat.le_trans hp0 (by decide)
    have low_draw : ∀ (s : Int × Int) (m : Int), 0 < m → 0 ≤ drawV s m ∧ drawV s m < m := drawV_low
    refine ds_for (fun k z => ∃ s1 s2 s3 s4 s5 s6 s7 s8 s9 s10 s11 s12 s13 s14 s15 s16 s17, z = ⟨[.d (.list (lI ns)), s1, s2, s3, s4, s5, s6, s7, s8, s9, s10, s11, s12, s13, s14, s15, s16, s17], []⟩) PassesOwn.never rfl (di_range1 (by rfl) B.range (de_max2 rfl (by rfl) B.max de_int (de_min2 rfl (by rfl) B.min de_int (de_lenL (by rfl) B.len (de_var (pv 0))))) (by omega) (by omega)) it_rng0 (pg_name (i := 1) scLaw.nd rfl (.inl rfl)) (gd_name 1) (fun _ _ => trivial) ⟨_, _, _, _, _, _, _, _, _, _, _, _, _, _, _, _, _, rfl⟩ ?_ ?_
    · rintro k _ hk ⟨s1, s2, s3, s4, s5, s6, s7, s8, s9, s10, s11, s12, s13, s14, s15, s16, s17, rfl⟩
      refine ds_seq (d1_set (i := 2) scLaw.nd rfl (.inl rfl) (de_clN G_law_draws hr (by rfl) (da_cons (de_var (pv 0)) (da_cons (de_var (pv 1)) da_nil)) ⟨ns, (k : Int), rfl, by omega, rfl, rfl, rfl⟩) rfl) ?_
      refine ds_at (z1 := ⟨[.d (.list (lI ns)), .d (.int k), .ptr 0, s3, s4, s5, s6, s7, s8, s9, s10, s11, s12, s13, s14, s15, s16, s17], [some (dI (drawsM ns k))]⟩) rfl ?_
      generalize drawsM ns k = d0
      refine ds_seq (d1_asg (de_cl1 G_law_case hr (by rfl) (dap_cons (de_ptr (pv 2)) da_nil) rfl ⟨d0, rfl, rfl, rfl, rfl⟩) (pg_tup (n := 3) rfl (pgs_cons (pg_name (i := 3) scLaw.nd rfl (.inl rfl)) (pgs_cons (pg_name (i := 4) scLaw.nd rfl (.inl rfl)) (pgs_cons (pg_name (i := 5) scLaw.nd rfl (.inl rfl)) pgs_nil)))) (gd_tup (is := [3, 4, 5]) (gsd_cons (gsd_cons (gsd_cons gsd_nil)))) ⟨_, rfl, rfl⟩ rfl) ?_
      refine ds_at (z1 := ⟨[.d (.list (lI ns)), .d (.int k), .ptr 0, .d (rl (caseM d0).o (caseM d0).n), .d (tI (caseM d0).ring), .d (.int (caseM d0).days), s6, s7, s8, s9, s10, s11, s12, s13, s14, s15, s16, s17], [some (dI (caseM d0).s)]⟩) rfl ?_
      have R := (case_rule d0).toRuleS
      have hlen : 0 < (caseM d0).ring.length ∧ (caseM d0).ring.length ≤ 9 := by
        have := case_len d0
        have := caseMany_bd d0
        omega
      generalize caseM d0 = c at R hlen
      obtain ⟨o, n, ring, aged, e1⟩ := c
      replace hlen : 0 < ring.length ∧ ring.length ≤ 9 := hlen
      obtain ⟨hl0, hl9⟩ := hlen
      replace R : RuleS o n := R
      -- days_d, by_d
      have hx := low_draw (drawS (drawS e1 20) 201) 2 (by decide)
      have hy := low_draw (drawS (drawS (drawS e1 20) 201) 2) 3 (by decide)
      have hm : 0 < at_ [3, 100, 10 ^ 9] (drawV (drawS (drawS (drawS e1 20) 201) 2) 3) ∧ at_ [3, 100, 10 ^ 9] (drawV (drawS (drawS (drawS e1 20) 201) 2) 3) ≤ 10 ^ 9 := by
        have : drawV (drawS (drawS (drawS e1 20) 201) 2) 3 = 0 ∨ drawV (drawS (drawS (drawS e1 20) 201) 2) 3 = 1 ∨ drawV (drawS (drawS (drawS e1 20) 201) 2) 3 = 2 := by omega
        rcases this with h | h | h <;> rw [h] <;> decide
      have hd : 0 ≤ at_ [drawV e1 20, drawV (drawS e1 20) 201] (drawV (drawS (drawS e1 20) 201) 2) ∧ at_ [drawV e1 20, drawV (drawS e1 20) 201] (drawV (drawS (drawS e1 20) 201) 2) ≤ 200 := by
        have a1 := low_draw e1 20 (by decide)
        have a2 := low_draw (drawS e1 20) 201 (by decide)
        have : drawV (drawS (drawS e1 20) 201) 2 = 0 ∨ drawV (drawS (drawS e1 20) 201) 2 = 1 := by omega
        rcases this with h | h <;> rw [h]
        · show 0 ≤ drawV e1 20 ∧ drawV e1 20 ≤ 200
          omega
        · show 0 ≤ drawV (drawS e1 20) 201 ∧ drawV (drawS e1 20) 201 ≤ 200
          omega
      have hv := low_draw (drawS (drawS (drawS (drawS e1 20) 201) 2) 3) _ hm.1
      refine ds_seq (d1_asg (de_tup (da_cons (de_ixPI (ns := [drawV e1 20, drawV (drawS e1 20) 201]) (de_lst (da_cons (de_cl1 G_law_draw hr (by rfl) (dap_cons (de_ptr (pv 2)) (da_cons de_int da_nil)) rfl ⟨e1, 20, rfl, by decide, by decide, rfl, rfl, rfl⟩) (da_cons (de_cl1 G_law_draw hr (by rfl) (dap_cons (de_ptr (pv 2)) (da_cons de_int da_nil)) rfl ⟨drawS e1 20, 201, rfl, by decide, by decide, rfl, rfl, rfl⟩) da_nil))) (de_cl1 G_law_draw hr (by rfl) (dap_cons (de_ptr (pv 2)) (da_cons de_int da_nil)) rfl ⟨drawS (drawS e1 20) 201, 2, rfl, by decide, by decide, rfl, rfl, rfl⟩) rfl hx.1 hx.2) (da_cons (de_add de_int (de_cl1 G_law_draw hr (by rfl) (dap_cons (de_ptr (pv 2)) (da_cons (de_ixPI (ns := [3, 100, 10 ^ 9]) (de_lst (da_cons de_int (da_cons de_int (da_cons (de_pow de_int de_int ⟨by decide, by decide, by decide⟩) da_nil)))) (de_cl1 G_law_draw hr (by rfl) (dap_cons (de_ptr (pv 2)) (da_cons de_int da_nil)) rfl ⟨drawS (drawS (drawS e1 20) 201) 2, 3, rfl, by decide, by decide, rfl, rfl, rfl⟩) rfl hy.1 hy.2) da_nil)) rfl ⟨drawS (drawS (drawS (drawS e1 20) 201) 2) 3, _, rfl, hm.1, by omega, rfl, rfl, rfl⟩)) da_nil))) (pg_tup (n := 2) rfl (pgs_cons (pg_name (i := 6) scLaw.nd rfl (.inl rfl)) (pgs_cons (pg_name (i := 7) scLaw.nd rfl (.inr rfl)) pgs_nil))) (gd_tup (is := [6, 7]) (gsd_cons (gsd_cons gsd_nil))) ⟨_, rfl, rfl⟩ rfl) ?_
      refine ds_wk (s' := [.d (.list (lI ns)), .d (.int k), .ptr 0, .d (rl o n), .d (tI ring), .d (.int aged), .d (.int (at_ [drawV e1 20, drawV (drawS e1 20) 201] (drawV (drawS (drawS e1 20) 201) 2))), .d (.int (1 + drawV (drawS (drawS (drawS (drawS e1 20) 201) 2) 3) (at_ [3, 100, 10 ^ 9] (drawV (drawS (drawS (drawS e1 20) 201) 2) 3)))), .no, .no, .no, .no, .no, .no, .no, .no, .no, .no]) (o' := [some (dI (drawS (drawS (drawS (drawS (drawS e1 20) 201) 2) 3) (at_ [3, 100, 10 ^ 9] (drawV (drawS (drawS (drawS e1 20) 201) 2) 3))))]) (.keep (.keep (.keep (.keep (.keep (.keep (.keep (.keep (.drop (.drop (.drop (.drop (.drop (.drop (.drop (.drop (.drop (.drop .nil)))))))))))))))))) rfl hp1 rfl ?_
      generalize at_ [drawV e1 20, drawV (drawS e1 20) 201] (drawV (drawS (drawS e1 20) 201) 2) = days at hd
      generalize drawS (drawS (drawS (drawS (drawS e1 20) 201) 2) 3) (at_ [3, 100, 10 ^ 9] (drawV (drawS (drawS (drawS e1 20) 201) 2) 3)) = e2
      have hb : 0 < 1 + drawV (drawS (drawS (drawS (drawS e1 20) 201) 2) 3) (at_ [3, 100, 10 ^ 9] (drawV (drawS (drawS (drawS e1 20) 201) 2) 3)) ∧ 1 + drawV (drawS (drawS (drawS (drawS e1 20) 201) 2) 3) (at_ [3, 100, 10 ^ 9] (drawV (drawS (drawS (drawS e1 20) 201) 2) 3)) ≤ 10 ^ 9 := by omega
      generalize 1 + drawV (drawS (drawS (drawS (drawS e1 20) 201) 2) 3) (at_ [3, 100, 10 ^ 9] (drawV (drawS (drawS (drawS e1 20) 201) 2) 3)) = by_ at hb
      clear hx hy hm hv
      obtain ⟨hd0, hd1⟩ := hd
      obtain ⟨hb0, hb1⟩ := hb
      obtain ⟨dn, rfl⟩ : ∃ dn : Nat, days = (dn : Int) := ⟨days.toNat, by omega⟩
      -- due
      refine ds_seq (d1_set (i := 8) scLaw.nd rfl (.inl rfl) (de_var (pv 4)) rfl) ?_
      refine ds_for (fun j z => ∃ sl, z = ⟨[.d (.list (lI ns)), .d (.int k), .ptr 0, .d (rl o n), .d (tI ring), .d (.int aged), .d (.int dn), .d (.int by_), .d (tI (laterM o n ring j)), sl, .no, .no, .no, .no, .no, .no, .no, .no], [some (dI e2)]⟩) PassesOwn.never rfl (di_range1 (by rfl) B.range (de_var (pv 6)) (by omega) (by omega)) it_rng0 (pg_name (i := 9) scLaw.nd rfl (.inl rfl)) (gd_name 9) (fun _ _ => trivial) ⟨_, rfl⟩ ?_ ?_
      · rintro j _ hj ⟨sl, rfl⟩
        refine ds_seq (d1_set (i := 8) scLaw.nd rfl (.inl rfl) (de_clD G_law_day hr (by rfl) (da_cons (de_var (pv 3)) (da_cons (de_var (pv 8)) da_nil)) ⟨o, n, _, rfl, R, by rw [laterM_len]; omega, rfl, rfl, rfl⟩) rfl) ?_
        exact ds_nil ⟨_, rfl⟩
      rintro _ ⟨sl, rfl⟩
      have hll := laterM_len o n ring dn
      have e0 : ((dn : Int)).toNat = dn := rfl
      have eR : ∀ r : List Int, (List.range r.length).map (fun k => r.getD k 0 % by_) = r.map (· % by_) := fun r => (map_getD r (· % by_)).symm
      refine ds_seq (d1_set (i := 10) scLaw.nd rfl (.inl rfl) (de_tupP (xs := lI (restsM o n ring dn by_)) (by rfl) B.tuple (de_lcI (own := [("number", 16)]) rfl scLaw.nd (di_tup (de_var (pv 8))) it_ints (blkOk_by (N := nmLaw) (sc := defScope sLaw) (by decide +kernel)) (fun _ _ _ _ _ => pg_name (i := 16) scLaw.nd rfl (.inl rfl)) (gd_name 16) (by decide) (fun _ _ => trivial) (small1000 (by rw [e0, hll]; omega)) (fun k hk _ _ _ _ _ => (de_modP (de_var (pv 16)) (de_var (pv 7)) hb0)) (fun k hk => rfl)) (by rw [e0]; exact congrArg (fun l => some (some (lI l))) (eR _))) rfl) ?_
      refine ds_ifR (dt_cast (dt_w (dw_or (dt_ne hr.units (de_clD Glater hr (by rfl) (da_cons (de_var (pv 3)) (da_cons (de_var (pv 4)) (da_cons (de_var (pv 6)) da_nil))) ⟨o, n, ring, dn, rfl, R, by omega, by omega, by omega, rfl, rfl, rfl⟩) (de_var (pv 8)) (depth_tI _ _)) fun hb => (dw_or1 (dt_ne hr.units (de_clD Grests hr (by rfl) (da_cons (de_var (pv 3)) (da_cons (de_var (pv 4)) (da_cons (de_var (pv 6)) (da_cons (de_var (pv 7)) da_nil)))) ⟨o, n, ring, dn, by_, rfl, R, ⟨by omega, by omega⟩, by omega, ⟨hb0, by omega⟩, rfl, rfl, rfl⟩) (de_var (pv 10)) (depth_tI _ _))))) (neq2 rfl rfl)) (fun hb => by cases hb) (fun hb => ?_)
      refine ds_seq (d1_set (i := 10) scLaw.nd rfl (.inl rfl) (de_tupP (xs := lI (restsM o n ring 0 by_)) (by rfl) B.tuple (de_lcI (own := [("number", 16)]) rfl scLaw.nd (di_tup (de_var (pv 4))) it_ints (blkOk_by (N := nmLaw) (sc := defScope sLaw) (by decide +kernel)) (fun _ _ _ _ _ => pg_name (i := 16) scLaw.nd rfl (.inl rfl)) (gd_name 16) (by decide) (fun _ _ => trivial) (small1000 (show ring.length ≤ 1000 by omega)) (fun k hk _ _ _ _ _ => (de_modP (de_var (pv 16)) (de_var (pv 7)) hb0)) (fun k hk => rfl)) (congrArg (fun l => some (some (lI l))) (eR _))) rfl) ?_
      refine ds_ifR (dt_cast (dt_w (dw_or (dt_ne hr.units (de_clK Klater hr (by rfl) (dk_cons de_int (dk_cons (de_var (pv 4)) (dk_cons (de_var (pv 3)) dk_nil))) rfl ⟨o, n, ring, 0, rfl, R, by omega, by omega, by omega, rfl, rfl, rfl⟩ vals_rev dps_rev) (de_var (pv 4)) (depth_tI _ _)) fun hb => (dw_or1 (dt_ne hr.units (de_clK Krests hr (by rfl) (dk_cons (de_var (pv 7)) (dk_cons de_int (dk_cons (de_var (pv 4)) (dk_cons (de_var (pv 3)) dk_nil)))) rfl ⟨o, n, ring, 0, by_, rfl, R, ⟨by omega, by omega⟩, by omega, ⟨hb0, by omega⟩, rfl, rfl, rfl⟩ vals_rev dps_rev) (de_var (pv 10)) (depth_tI _ _))))) (neq2 rfl rfl)) (fun hb => by cases hb) (fun hb => ?_)
      have hf := low_draw e2 (10 ^ 17) (by decide)
      have hm := low_draw (drawS e2 (10 ^ 17)) (9 * 10 ^ 17) (by decide)
      refine ds_seq (d1_par (i := 11) (j := 12) rfl scLaw.nd rfl rfl (by decide) rfl rfl (da_cons (de_cl1 G_law_draw hr (by rfl) (dap_cons (de_ptr (pv 2)) (da_cons (de_pow de_int de_int ⟨by decide, by decide, by decide⟩) da_nil)) rfl ⟨e2, 10 ^ 17, rfl, by decide, by decide, rfl, rfl, rfl⟩) (da_cons (de_cl1 G_law_draw hr (by rfl) (dap_cons (de_ptr (pv 2)) (da_cons (de_mul de_int (de_pow de_int de_int ⟨by decide, by decide, by decide⟩) (.inl ⟨by decide, by decide⟩)) da_nil)) rfl ⟨drawS e2 (10 ^ 17), 9 * 10 ^ 17, rfl, by decide, by decide, rfl, rfl, rfl⟩) da_nil)) (by rfl) rfl) ?_
      refine ds_wk (s' := [.d (.list (lI ns)), .d (.int k), .ptr 0, .d (rl o n), .d (tI ring), .d (.int aged), .d (.int dn), .d (.int by_), .d (tI (laterM o n ring dn)), .no, .no, .d (.int (drawV e2 (10 ^ 17))), .d (.int (drawV (drawS e2 (10 ^ 17)) (9 * 10 ^ 17))), .no, .no, .no, .no, .no]) (o' := [some (dI (drawS (drawS e2 (10 ^ 17)) (9 * 10 ^ 17)))]) (.keep (.keep (.keep (.keep (.keep (.keep (.keep (.keep (.keep (.drop (.drop (.keep (.keep (.drop (.drop (.drop (.drop (.drop .nil)))))))))))))))))) rfl hp1 rfl ?_
      generalize drawS (drawS e2 (10 ^ 17)) (9 * 10 ^ 17) = e3
      generalize drawV e2 (10 ^ 17) = far at hf
      generalize drawV (drawS e2 (10 ^ 17)) (9 * 10 ^ 17) = more at hm
      obtain ⟨hf0, hf1⟩ := hf
      obtain ⟨hm0, hm1⟩ := hm
      refine ds_seq (d1_set (i := 13) scLaw.nd rfl (.inl rfl) (de_clD Grests hr (by rfl) (da_cons (de_var (pv 3)) (da_cons (de_var (pv 4)) (da_cons (de_add (de_var (pv 11)) (de_var (pv 12))) (da_cons (de_var (pv 7)) da_nil)))) ⟨o, n, ring, far + more, by_, rfl, R, ⟨by omega, by omega⟩, by omega, ⟨hb0, by omega⟩, rfl, rfl, rfl⟩) rfl) ?_
      have eF : (far + more).toNat = far.toNat + more.toNat := by omega
      have hlr := restsM_len o n ring far.toNat by_
      refine ds_ifR (dt_cast (dt_ne hr.units (de_var (pv 13)) (de_clD Grests hr (by rfl) (da_cons (de_var (pv 3)) (da_cons (de_clD Grests hr (by rfl) (da_cons (de_var (pv 3)) (da_cons (de_var (pv 4)) (da_cons (de_var (pv 11)) (da_cons (de_var (pv 7)) da_nil)))) ⟨o, n, ring, far, by_, rfl, R, ⟨by omega, by omega⟩, by omega, ⟨hb0, by omega⟩, rfl, rfl, rfl⟩) (da_cons (de_var (pv 12)) (da_cons (de_var (pv 7)) da_nil)))) ⟨o, n, restsM o n ring far.toNat by_, more, by_, rfl, R, ⟨by omega, by omega⟩, by omega, ⟨hb0, by omega⟩, rfl, rfl, rfl⟩) (depth_tI _ _)) (show (!PyData.eqv (tI _) (tI _)) = false by rw [eqv_tI, eF, restsM_add _ _ _ _ _ _ hl0, decide_eq_true rfl]; rfl)) (fun hb => by cases hb) (fun hb => ?_)
      have hlow := restsM_low o n ring (far + more).toNat by_ hb0
      have hlw := restsM_len o n ring (far + more).toNat by_
      obtain ⟨w0, ws, ew⟩ : ∃ w0 ws, restsM o n ring (far + more).toNat by_ = w0 :: ws := by
        cases h : restsM o n ring (far + more).toNat by_ with
        | nil => rw [h] at hlw; simp at hlw; omega
        | cons a l => exact ⟨a, l, rfl⟩
      rw [ew] at hlow ⊢
      have h0w := hlow w0 List.mem_cons_self
      have htw : ∀ v ∈ ws, 0 ≤ v ∧ v < by_ := fun v hv => hlow v (List.mem_cons_of_mem _ hv)
      have hmin := foldl_min_bd ws w0 h0w htw
      have hmax := foldl_max_bd ws w0 h0w htw
      refine ds_ifR (dt_cast (dt_w (dw_or (dt_lt (de_minTI rfl hr.units (by rfl) B.min (de_var (pv 13))) de_int) fun hb => (dw_or1 (dt_ge (de_maxTI rfl hr.units (by rfl) B.max (de_var (pv 13))) (de_var (pv 7)))))) (show (decide (_ < _) || decide (_ ≤ _)) = false by rw [decide_eq_false (by omega), decide_eq_false (by omega)]; rfl)) (fun hb => by cases hb) (fun hb => ?_)
      have el : ((lI ring).length : Int) = ring.length := by simp
      have ht := low_draw (ringS e3 ring.length) 99 (by decide)
      refine ds_seq (d1_asg (de_tup (da_cons (de_cl1 G_law_ring hr (by rfl) (dap_cons (de_ptr (pv 2)) (da_cons (de_cast (de_lenT (by rfl) B.len (de_var (pv 4))) (congrArg PyData.int el)) da_nil)) rfl ⟨e3, ring.length, rfl, by omega, rfl, rfl, rfl⟩) (da_cons (de_sub (de_cl1 G_law_draw hr (by rfl) (dap_cons (de_ptr (pv 2)) (da_cons de_int da_nil)) rfl ⟨ringS e3 ring.length, 99, rfl, by decide, by decide, rfl, rfl, rfl⟩) de_int) da_nil))) (pg_tup (n := 2) rfl (pgs_cons (pg_name (i := 14) scLaw.nd rfl (.inl rfl)) (pgs_cons (pg_name (i := 15) scLaw.nd rfl (.inr rfl)) pgs_nil))) (gd_tup (is := [14, 15]) (gsd_cons (gsd_cons gsd_nil))) ⟨_, rfl, rfl⟩ rfl) ?_
      refine ds_wk (s' := [.d (.list (lI ns)), .d (.int k), .ptr 0, .d (rl o n), .d (tI ring), .d (.int aged), .d (.int dn), .d (.int by_), .d (tI (laterM o n ring dn)), .no, .no, .d (.int far), .no, .no, .d (tI (ringM e3 ring.length)), .d (.int (drawV (ringS e3 ring.length) 99 - 40)), .no, .no]) (o' := [some (dI (drawS (ringS e3 ring.length) 99))]) (.keep (.keep (.keep (.keep (.keep (.keep (.keep (.keep (.keep (.drop (.drop (.keep (.drop (.drop (.keep (.keep (.drop (.drop .nil)))))))))))))))))) rfl hp1 rfl ?_
      have hol := ringM_len e3 ring.length
      have htt : -40 ≤ drawV (ringS e3 ring.length) 99 - 40 ∧ drawV (ringS e3 ring.length) 99 - 40 ≤ 58 := by omega
      generalize ringM e3 ring.length = other at hol
      generalize drawV (ringS e3 ring.length) 99 - 40 = times_d at htt
      generalize drawS (ringS e3 ring.length) 99 = e4
      have hlo := laterM_len o n other dn
      have hpl := plusM_len ring other
      refine ds_ifR (dt_cast (dt_ne hr.units (de_clD Glater hr (by rfl) (da_cons (de_var (pv 3)) (da_cons (de_clD G_law_plus hr (by rfl) (da_cons (de_var (pv 4)) (da_cons (de_var (pv 14)) da_nil)) ⟨ring, other, rfl, hol.symm, by omega, rfl, rfl, rfl⟩) (da_cons (de_var (pv 6)) da_nil))) ⟨o, n, plusM ring other, dn, rfl, R, by omega, by omega, by omega, rfl, rfl, rfl⟩) (de_clD G_law_plus hr (by rfl) (da_cons (de_var (pv 8)) (da_cons (de_clD Glater hr (by rfl) (da_cons (de_var (pv 3)) (da_cons (de_var (pv 14)) (da_cons (de_var (pv 6)) da_nil))) ⟨o, n, other, dn, rfl, R, by omega, by omega, by omega, rfl, rfl, rfl⟩) da_nil)) ⟨laterM o n ring dn, laterM o n other dn, rfl, by omega, by omega, rfl, rfl, rfl⟩) (depth_tI _ _)) (show (!PyData.eqv (tI _) (tI _)) = false by rw [eqv_tI, e0, later_plus _ _ _ _ hol.symm, decide_eq_true rfl]; rfl)) (fun hb => by cases hb) (fun hb => ?_)
      have eM : ∀ r : List Int, (List.range r.length).map (fun k => times_d * r.getD k 0) = r.map (times_d * ·) := fun r => (map_getD r (times_d * ·)).symm
      have hml : ∀ r : List Int, (r.map (times_d * ·)).length = r.length := fun r => List.length_map ..
      refine ds_ifR (dt_cast (dt_ne hr.units (de_clD Glater hr (by rfl) (da_cons (de_var (pv 3)) (da_cons (de_tupP (xs := lI (ring.map (times_d * ·))) (by rfl) B.tuple (de_lcI (own := [("one", 17)]) rfl scLaw.nd (di_tup (de_var (pv 4))) it_ints (blkOk_by (N := nmLaw) (sc := defScope sLaw) (by decide +kernel)) (fun _ _ _ _ _ => pg_name (i := 17) scLaw.nd rfl (.inl rfl)) (gd_name 17) (by decide) (fun _ _ => trivial) (small1000 (by omega)) (fun k hk _ _ _ _ _ => (de_mul (de_var (pv 15)) (de_var (pv 17)) (.inl ⟨by omega, by omega⟩))) (fun k hk => rfl)) (congrArg (fun l => some (some (lI l))) (eM _))) (da_cons (de_var (pv 6)) da_nil))) ⟨o, n, ring.map (times_d * ·), dn, rfl, R, by rw [hml]; omega, by omega, by omega, rfl, rfl, rfl⟩) (de_tupP (xs := lI ((laterM o n ring dn).map (times_d * ·))) (by rfl) B.tuple (de_lcI (own := [("one", 17)]) rfl scLaw.nd (di_tup (de_var (pv 8))) it_ints (blkOk_by (N := nmLaw) (sc := defScope sLaw) (by decide +kernel)) (fun _ _ _ _ _ => pg_name (i := 17) scLaw.nd rfl (.inl rfl)) (gd_name 17) (by decide) (fun _ _ => trivial) (small1000 (by omega)) (fun k hk _ _ _ _ _ => (de_mul (de_var (pv 15)) (de_var (pv 17)) (.inl ⟨by omega, by omega⟩))) (fun k hk => rfl)) (congrArg (fun l => some (some (lI l))) (eM _))) (depth_tI _ _)) (show (!PyData.eqv (tI _) (tI _)) = false by rw [eqv_tI, e0, later_mul, decide_eq_true rfl]; rfl)) (fun hb => by cases hb) (fun hb => ?_)
      refine ds_ifR (dt_not (dt_val (de_cl1 G_law_turned_so hr (by rfl) (dap_cons (de_ptr (pv 2)) (da_cons (de_var (pv 3)) (da_cons (de_var (pv 4)) (da_cons (de_tup (da_cons (de_var (pv 6)) (da_cons (de_var (pv 8)) da_nil))) (da_cons (de_tup (da_cons (de_var (pv 11)) (da_cons (de_var (pv 7)) da_nil))) da_nil))))) rfl ⟨e4, o, n, ring, dn, far, by_, rfl, R, ⟨by omega, by omega⟩, ⟨by omega, by omega⟩, by omega, ⟨hb0, by omega⟩, rfl, rfl, rfl⟩))) (fun hb => by cases hb) (fun hb => ?_)
      refine ds_wk (s' := [.d (.list (lI ns)), .no, .no, .no, .no, .no, .no, .no, .no, .no, .no, .no, .no, .no, .no, .no, .no, .no]) (o' := []) (.keep (.drop (.drop (.drop (.drop (.drop (.drop (.drop (.drop (.drop (.drop (.drop (.drop (.drop (.drop (.drop (.drop (.drop .nil)))))))))))))))))) rfl hp0 rfl ?_
      exact ds_nil ⟨_, _, _, _, _, _, _, _, _, _, _, _, _, _, _, _, _, rfl⟩
    · rintro _ ⟨s1, s2, s3, s4, s5, s6, s7, s8, s9, s10, s11, s12, s13, s14, s15, s16, s17, rfl⟩
      exact ds_last (d1_ret de_bl rr0)
end
theorem all_mk {l : PySem.W.OpenLaw} {w : World} {K : PySem.W.Frag} {h : Heap} {mg : Str → Option Value} {fa : Addr} (X : K.In h) (G : h.Ns mainGlobals mg) (hfa : mg "law" = some (.ref fa))
    (Tnext_of : Raw K "next_of" (topS 1))
    (Tday_later : Raw K "day_later" (topS 2))
    (Tlater : Raw K "later" (topS 3))
    (Ttimes : Raw K "times" (topS 4))
    (Trests : Raw K "rests" (topS 5))
    (T_law_draw : Raw K "_law_draw" (topS 7))
    (T_law_draws : Raw K "_law_draws" (topS 8))
    (T_law_common : Raw K "_law_common" (topS 9))
    (T_law_of : Raw K "_law_of" (topS 10))
    (T_law_rule : Raw K "_law_rule" (topS 11))
    (T_law_ring : Raw K "_law_ring" (topS 12))
    (T_law_day : Raw K "_law_day" (topS 13))
    (T_law_case : Raw K "_law_case" (topS 14))
    (T_law_plus : Raw K "_law_plus" (topS 15))
    (T_law_turned_so : Raw K "_law_turned_so" (topS 16))
    (Tlaw : Raw K "law" (topS 17))
    (zlen : PySem.W.nsIn K mainGlobals "len" = some none)
    (zrange : PySem.W.nsIn K mainGlobals "range" = some none)
    (zenumerate : PySem.W.nsIn K mainGlobals "enumerate" = some none)
    (zzip : PySem.W.nsIn K mainGlobals "zip" = some none)
    (ztuple : PySem.W.nsIn K mainGlobals "tuple" = some none)
    (zlist : PySem.W.nsIn K mainGlobals "list" = some none)
    (zsum : PySem.W.nsIn K mainGlobals "sum" = some none)
    (zabs : PySem.W.nsIn K mainGlobals "abs" = some none)
    (zmax : PySem.W.nsIn K mainGlobals "max" = some none)
    (zmin : PySem.W.nsIn K mainGlobals "min" = some none)
    (zint : PySem.W.nsIn K mainGlobals "int" = some none)
    (zall : PySem.W.nsIn K mainGlobals "all" = some none)
    (zany : PySem.W.nsIn K mainGlobals "any" = some none)
    (zisinstance : PySem.W.nsIn K mainGlobals "isinstance" = some none)
    (zbool : PySem.W.nsIn K mainGlobals "bool" = some none)
    (zstr : PySem.W.nsIn K mainGlobals "str" = some none)
    (zsorted : PySem.W.nsIn K mainGlobals "sorted" = some none)
    (zdict : PySem.W.nsIn K mainGlobals "dict" = some none)
    : ∃ fd : FuncData, (∀ (s : Shared) (v : Value), BindsTo s fd ⟨[v], []⟩ [("script", v)]) ∧ ∀ base : Heap, K.In base → base.Ns mainGlobals mg → FnOk l.prog w K mg base CX0 6 fa fd ["script"] (spG K RLaw) := by
  have B : Bt mg := ⟨PySem.W.mg_none_of X G zlen, PySem.W.mg_none_of X G zrange, PySem.W.mg_none_of X G zenumerate, PySem.W.mg_none_of X G zzip, PySem.W.mg_none_of X G ztuple, PySem.W.mg_none_of X G zlist, PySem.W.mg_none_of X G zsum, PySem.W.mg_none_of X G zabs, PySem.W.mg_none_of X G zmax, PySem.W.mg_none_of X G zmin, PySem.W.mg_none_of X G zint, PySem.W.mg_none_of X G zall, PySem.W.mg_none_of X G zany, PySem.W.mg_none_of X G zisinstance, PySem.W.mg_none_of X G zbool, PySem.W.mg_none_of X G zstr, PySem.W.mg_none_of X G zsorted, PySem.W.mg_none_of X G zdict⟩
  have Fnext_of := Tnext_of.at_ (ps := ["ring", "house"]) X G (fun _ _ _ _ _ _ us hl => match us, hl with | [_, _], _ => rfl)
  have Fday_later := Tday_later.at_ (ps := ["rule", "ring"]) X G (fun _ _ _ _ _ _ us hl => match us, hl with | [_, _], _ => rfl)
  have Flater := Tlater.at_ (ps := ["rule", "ring", "days"]) X G (fun _ _ _ _ _ _ us hl => match us, hl with | [_, _, _], _ => rfl)
  have Ftimes := Ttimes.at_ (ps := ["one", "other", "by"]) X G (fun _ _ _ _ _ _ us hl => match us, hl with | [_, _, _], _ => rfl)
  have Frests := Trests.at_ (ps := ["rule", "ring", "days", "by"]) X G (fun _ _ _ _ _ _ us hl => match us, hl with | [_, _, _, _], _ => rfl)
  have F_law_draw := T_law_draw.at_ (ps := ["draws", "many"]) X G (fun _ _ _ _ _ _ us hl => match us, hl with | [_, _], _ => rfl)
  have F_law_draws := T_law_draws.at_ (ps := ["script", "k"]) X G (fun _ _ _ _ _ _ us hl => match us, hl with | [_, _], _ => rfl)
  have F_law_common := T_law_common.at_ (ps := ["one", "other"]) X G (fun _ _ _ _ _ _ us hl => match us, hl with | [_, _], _ => rfl)
  have F_law_of := T_law_of.at_ (ps := ["draws", "some"]) X G (fun _ _ _ _ _ _ us hl => match us, hl with | [_, _], _ => rfl)
  have F_law_rule := T_law_rule.at_ (ps := ["draws"]) X G (fun _ _ _ _ _ _ us hl => match us, hl with | [_], _ => rfl)
  have F_law_ring := T_law_ring.at_ (ps := ["draws", "many"]) X G (fun _ _ _ _ _ _ us hl => match us, hl with | [_, _], _ => rfl)
  have F_law_day := T_law_day.at_ (ps := ["rule_d", "ring_d"]) X G (fun _ _ _ _ _ _ us hl => match us, hl with | [_, _], _ => rfl)
  have F_law_case := T_law_case.at_ (ps := ["draws"]) X G (fun _ _ _ _ _ _ us hl => match us, hl with | [_], _ => rfl)
  have F_law_plus := T_law_plus.at_ (ps := ["one", "other"]) X G (fun _ _ _ _ _ _ us hl => match us, hl with | [_, _], _ => rfl)
  have F_law_turned_so := T_law_turned_so.at_ (ps := ["draws", "rule_d", "ring_d", "told", "far"]) X G (fun _ _ _ _ _ _ us hl => match us, hl with | [_, _, _, _, _], _ => rfl)
  obtain ⟨f, oc, od, an, sl, kV, dc, pm, cd, ct, a, lk, c, kp⟩ := Tlaw.ex
  have e := hfa.symm.trans (PySem.W.mg_of X G a)
  cases e
  refine ⟨PySem.W.fnOf "law" "law" (defArgs sLaw) (defBody sLaw) (defScope sLaw) .none kV dc pm an cd ct, fun s v => .of_eq rfl, fun base _ _ => ?_⟩
  have Gnext_of := ok_next_of (P := l.prog) (w := w) (base := base) B Fnext_of
  have Gday_later := ok_day_later (P := l.prog) (w := w) (base := base) B Gnext_of Fday_later
  have Glater := ok_later (P := l.prog) (w := w) (base := base) B Gday_later Flater
  have Gtimes := ok_times (P := l.prog) (w := w) (base := base) B Ftimes
  have Grests := ok_rests (P := l.prog) (w := w) (base := base) B Gtimes Frests
  have G_law_draw := ok_law_draw (P := l.prog) (w := w) (base := base) B F_law_draw
  have G_law_draws := ok_law_draws (P := l.prog) (w := w) (base := base) B F_law_draws
  have G_law_common := ok_law_common (P := l.prog) (w := w) (base := base) B F_law_common
  have G_law_of := ok_law_of (P := l.prog) (w := w) (base := base) B G_law_draw F_law_of
  have G_law_rule := ok_law_rule (P := l.prog) (w := w) (base := base) B G_law_draw G_law_common G_law_of F_law_rule
  have G_law_ring := ok_law_ring (P := l.prog) (w := w) (base := base) B G_law_draw F_law_ring
  have G_law_day := ok_law_day (P := l.prog) (w := w) (base := base) B F_law_day
  have G_law_case := ok_law_case (P := l.prog) (w := w) (base := base) B G_law_draw G_law_rule G_law_ring G_law_day F_law_case
  have G_law_plus := ok_law_plus (P := l.prog) (w := w) (base := base) B F_law_plus
  have G_law_turned_so := ok_law_turned_so (P := l.prog) (w := w) (base := base) B G_law_draw Glater Grests F_law_turned_so
  exact ok_law B G_law_draws G_law_draw G_law_case G_law_ring G_law_day G_law_plus Glater Grests G_law_turned_so (Glater.kw Flater (fun _ _ _ _ _ _ ws hl => match ws, hl with | [_, _, _], _ => rfl)) (Grests.kw Frests (fun _ _ _ _ _ _ ws hl => match ws, hl with | [_, _, _, _], _ => rfl)) (fun_mk (st := sLaw) lk c kp)
end DL

open PySem PySem.W PyProof.Rows in
set_option maxRecDepth 100000 in
set_option maxHeartbeats 0 in
theorem PySem.Challenge.cw_ringage_k02_whole_days_and_rests_holds : PySem.Challenge.rw_ringage_k02_whole_days_and_rests.Holds := by
  w_on; o_law; k_head; (case hw => w_witness2)
  k_fill
  refine DL.walk (l := PySem.Challenge.rw_ringage_k02_whole_days_and_rests) (k := 6) ⟨rfl, by decide, by decide⟩ rfl rfl (fun w h Y => PySem.W.kIn_of Y) ?F
  case F =>
    intro w mg fa h KX G hmg
    refine' DL.all_mk KX G hmg (DL.raw_mk ?a0 ?l0 ?c0 ?k0) (DL.raw_mk ?a1 ?l1 ?c1 ?k1) (DL.raw_mk ?a2 ?l2 ?c2 ?k2) (DL.raw_mk ?a3 ?l3 ?c3 ?k3) (DL.raw_mk ?a4 ?l4 ?c4 ?k4) (DL.raw_mk ?a5 ?l5 ?c5 ?k5) (DL.raw_mk ?a6 ?l6 ?c6 ?k6) (DL.raw_mk ?a7 ?l7 ?c7 ?k7) (DL.raw_mk ?a8 ?l8 ?c8 ?k8) (DL.raw_mk ?a9 ?l9 ?c9 ?k9) (DL.raw_mk ?a10 ?l10 ?c10 ?k10) (DL.raw_mk ?a11 ?l11 ?c11 ?k11) (DL.raw_mk ?a12 ?l12 ?c12 ?k12) (DL.raw_mk ?a13 ?l13 ?c13 ?k13) (DL.raw_mk ?a14 ?l14 ?c14 ?k14) (DL.raw_mk ?a15 ?l15 ?c15 ?k15) ?zlen ?zrange ?zenumerate ?zzip ?ztuple ?zlist ?zsum ?zabs ?zmax ?zmin ?zint ?zall ?zany ?zisinstance ?zbool ?zstr ?zsorted ?zdict
    (case a0 => k_is)
    (case l0 => k_is)
    (case c0 => k_is)
    (case k0 => k_is)
    (case a1 => k_is)
    (case l1 => k_is)
    (case c1 => k_is)
    (case k1 => k_is)
    (case a2 => k_is)
    (case l2 => k_is)
    (case c2 => k_is)
    (case k2 => k_is)
    (case a3 => k_is)
    (case l3 => k_is)
    (case c3 => k_is)
    (case k3 => k_is)
    (case a4 => k_is)
    (case l4 => k_is)
    (case c4 => k_is)
    (case k4 => k_is)
    (case a5 => k_is)
    (case l5 => k_is)
    (case c5 => k_is)
    (case k5 => k_is)
    (case a6 => k_is)
    (case l6 => k_is)
    (case c6 => k_is)
    (case k6 => k_is)
    (case a7 => k_is)
    (case l7 => k_is)
    (case c7 => k_is)
    (case k7 => k_is)
    (case a8 => k_is)
    (case l8 => k_is)
    (case c8 => k_is)
    (case k8 => k_is)
    (case a9 => k_is)
    (case l9 => k_is)
    (case c9 => k_is)
    (case k9 => k_is)
    (case a10 => k_is)
    (case l10 => k_is)
    (case c10 => k_is)
    (case k10 => k_is)
    (case a11 => k_is)
    (case l11 => k_is)
    (case c11 => k_is)
    (case k11 => k_is)
    (case a12 => k_is)
    (case l12 => k_is)
    (case c12 => k_is)
    (case k12 => k_is)
    (case a13 => k_is)
    (case l13 => k_is)
    (case c13 => k_is)
    (case k13 => k_is)
    (case a14 => k_is)
    (case l14 => k_is)
    (case c14 => k_is)
    (case k14 => k_is)
    (case a15 => k_is)
    (case l15 => k_is)
    (case c15 => k_is)
    (case k15 => k_is)
    (case zlen => k_is)
    (case zrange => k_is)
    (case zenumerate => k_is)
    (case zzip => k_is)
    (case ztuple => k_is)
    (case zlist => k_is)
    (case zsum => k_is)
    (case zabs => k_is)
    (case zmax => k_is)
    (case zmin => k_is)
    (case zint => k_is)
    (case zall => k_is)
    (case zany => k_is)
    (case zisinstance => k_is)
    (case zbool => k_is)
    (case zstr => k_is)
    (case zsorted => k_is)
    (case zdict => k_is)
#print axioms PySem.Challenge.cw_ringage_k02_whole_days_and_rests_holds
