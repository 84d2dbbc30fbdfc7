import PyProof.Rows.All
import Wide.All
import OpenK.AllK
import Wide.FinOn
import HandS.ForMost
import HandS.Wide
import HandS.Zip
import HandS.TupAny
import HandS.TupMul
import HandS.IsInst
import HandS.Style
import HandS.Flow
import KE.DataEq
import KE.GoesEnum
import KE.DataMinMax
import PyProof.ListMulRoad
import PyProof.FactsAll.tuple_2
import KE.LtData
import KE.DataCmp
import HandS.Strs
import KE.KTupSum
import KE.KRevSl
import PyProof.Rows.IntBool
import HandS.More
import PySem.Challenge.RW_ringage_k01_what_are_rules_and_rings
set_option Elab.async false
set_option linter.all false
set_option maxRecDepth 100000
set_option maxHeartbeats 4000000
set_option autoImplicit false
/-! DL: judgements over plain data, on top of the hand layer -/
namespace DL
open PySem L2

abbrev D := PyData

theorem same_t {K : PySem.W.Frag} {H H' : Hp} {a : Addr} {xs : List V} (e : Same H H') (h : SqT K H a xs) : SqT K H' a xs := by
  rcases h with (h | ⟨o, h⟩) | h
  · exact .inl (.inl (e _ _ h))
  · exact .inl (.inr ⟨o, e _ _ h⟩)
  · exact .inr h
mutual
theorem dmono {K : PySem.W.Frag} {F F' : Hp} (e : Same F F') : ∀ {v : V} {d : D}, Dp K F v d → Dp K F' v d
  | _, _, .non => .non
  | _, _, .bl b => .bl b
  | _, _, .int i => .int i
  | _, _, .str x => .str x
  | _, _, .lst h a => .lst (e.seq h) (dmonoA e a)
  | _, _, .tup h a => .tup (same_t e h) (dmonoA e a)
theorem dmonoA {K : PySem.W.Frag} {F F' : Hp} (e : Same F F') : ∀ {vs : List V} {ds : List D}, DpAll K F vs ds → DpAll K F' vs ds
  | _, _, .nil => .nil
  | _, _, .cons h t => .cons (dmono e h) (dmonoA e t)
end
mutual
theorem Dp.plain {K : PySem.W.Frag} {F : Hp} : ∀ {v : V} {d : D}, Dp K F v d → d.plain = true
  | _, _, .non => rfl
  | _, _, .bl b => rfl
  | _, _, .int i => rfl
  | _, _, .str x => rfl
  | _, _, .lst h a => by simp only [PyData.plain]; exact DpAll.plain a
  | _, _, .tup h a => by simp only [PyData.plain]; exact DpAll.plain a
theorem DpAll.plain {K : PySem.W.Frag} {F : Hp} : ∀ {vs : List V} {ds : List D}, DpAll K F vs ds → PyData.plainAll ds = true
  | _, _, .nil => rfl
  | _, _, .cons h t => by simp only [PyData.plainAll, Dp.plain h, DpAll.plain t, Bool.and_self]
end
theorem DpAll.len {K : PySem.W.Frag} {F : Hp} : ∀ {vs : List V} {ds : List D}, DpAll K F vs ds → vs.length = ds.length
  | _, _, .nil => rfl
  | _, _, .cons _ t => congrArg Nat.succ (DpAll.len t)
theorem DpAll.get {K : PySem.W.Frag} {F : Hp} : ∀ {vs : List V} {ds : List D} {i : Nat} {d : D}, DpAll K F vs ds → ds[i]? = some d → ∃ v, vs[i]? = some v ∧ Dp K F v d
  | _, _, _, _, .nil, h => by simp at h
  | _, _, 0, _, .cons r _, h => by simp at h; subst h; exact ⟨_, rfl, r⟩
  | _, _, i + 1, d, .cons _ t, h => by
    obtain ⟨v, h1, h2⟩ := DpAll.get (i := i) t (by simpa using h)
    exact ⟨v, by simpa using h1, h2⟩
theorem DpAll.getV {K : PySem.W.Frag} {F : Hp} : ∀ {vs : List V} {ds : List D} {i : Nat} {v : V}, DpAll K F vs ds → vs[i]? = some v → ∃ d, ds[i]? = some d ∧ Dp K F v d
  | _, _, _, _, .nil, h => by simp at h
  | _, _, 0, _, .cons r _, h => by simp at h; subst h; exact ⟨_, rfl, r⟩
  | _, _, i + 1, d, .cons _ t, h => by
    obtain ⟨v, h1, h2⟩ := DpAll.getV (i := i) t (by simpa using h)
    exact ⟨v, by simpa using h1, h2⟩
theorem DpAll.append {K : PySem.W.Frag} {F : Hp} : ∀ {vs : List V} {ds : List D} {ws : List V} {es : List D}, DpAll K F vs ds → DpAll K F ws es → DpAll K F (vs ++ ws) (ds ++ es)
  | _, _, _, _, .nil, s => s
  | _, _, _, _, .cons r t, s => .cons r (DpAll.append t s)
theorem DpAll.take {K : PySem.W.Frag} {F : Hp} : ∀ (n : Nat) {vs : List V} {ds : List D}, DpAll K F vs ds → DpAll K F (vs.take n) (ds.take n)
  | 0, _, _, _ => by simp only [List.take_zero]; exact .nil
  | _ + 1, _, _, .nil => .nil
  | n + 1, _, _, .cons r t => .cons r (DpAll.take n t)
theorem DpAll.drop {K : PySem.W.Frag} {F : Hp} : ∀ (n : Nat) {vs : List V} {ds : List D}, DpAll K F vs ds → DpAll K F (vs.drop n) (ds.drop n)
  | 0, _, _, r => by simpa using r
  | _ + 1, _, _, .nil => .nil
  | n + 1, _, _, .cons _ t => DpAll.drop n t
theorem DpAll.set {K : PySem.W.Frag} {F : Hp} {v : V} {d : D} (r : Dp K F v d) : ∀ (i : Nat) {vs : List V} {ds : List D}, DpAll K F vs ds → DpAll K F (vs.set i v) (ds.set i d)
  | _, _, _, .nil => .nil
  | 0, _, _, .cons _ t => .cons r t
  | i + 1, _, _, .cons q t => .cons q (DpAll.set r i t)
theorem DpAll.reverse {K : PySem.W.Frag} {F : Hp} : ∀ {vs : List V} {ds : List D}, DpAll K F vs ds → DpAll K F vs.reverse ds.reverse
  | _, _, .nil => .nil
  | _, _, .cons r t => by
    rw [List.reverse_cons, List.reverse_cons]
    exact DpAll.append (DpAll.reverse t) (.cons r .nil)
theorem DpAll.eraseIdx {K : PySem.W.Frag} {F : Hp} : ∀ (i : Nat) {vs : List V} {ds : List D}, DpAll K F vs ds → DpAll K F (vs.eraseIdx i) (ds.eraseIdx i)
  | _, _, _, .nil => .nil
  | 0, _, _, .cons _ t => t
  | i + 1, _, _, .cons q t => .cons q (DpAll.eraseIdx i t)
theorem DpAll.rep {K : PySem.W.Frag} {F : Hp} {vs : List V} {ds : List D} (h : DpAll K F vs ds) : ∀ k : Nat, DpAll K F (List.replicate k vs).flatten (List.replicate k ds).flatten
  | 0 => .nil
  | k + 1 => by
    rw [List.replicate_succ, List.replicate_succ, List.flatten_cons, List.flatten_cons]
    exact DpAll.append h (DpAll.rep h k)
theorem DpAll.cut {K : PySem.W.Frag} {F : Hp} {vs : List V} {ds : List D} (h : DpAll K F vs ds) (n k : Nat) : DpAll K F ((vs.drop n).take k) ((ds.drop n).take k) := DpAll.take k (DpAll.drop n h)
/-- ints -/
theorem DpAll.ints {K : PySem.W.Frag} {F : Hp} : ∀ {vs : List V} {ns : List Int}, DpAll K F vs (ns.map PyData.int) → vs = ns.map V.int
  | [], [], _ => rfl
  | [], _ :: _, h => by cases h
  | _ :: _, [], h => by cases h
  | v :: vs, n :: ns, h => by
    cases h with
    | cons r t =>
      cases r
      rw [List.map_cons, DpAll.ints t]
theorem dpAll_ints {K : PySem.W.Frag} {F : Hp} : ∀ (ns : List Int), DpAll K F (ns.map V.int) (ns.map PyData.int)
  | [] => .nil
  | n :: ns => .cons (.int n) (dpAll_ints ns)
theorem DpAll.bools {K : PySem.W.Frag} {F : Hp} : ∀ {vs : List V} {ns : List Bool}, DpAll K F vs (ns.map PyData.bool) → vs = ns.map V.bl
  | [], [], _ => rfl
  | [], _ :: _, h => by cases h
  | _ :: _, [], h => by cases h
  | v :: vs, n :: ns, h => by
    cases h with
    | cons r t =>
      cases r
      rw [List.map_cons, DpAll.bools t]

/-! ### states -/
/-- what a slot holds: nothing known, data, the k-th of the own lists, a tuple without a dict of its own -/
inductive Sl where | no | d (x : D) | ptr (k : Nat) | q (xs : List D)
/-- a tuple whose object is known -/
structure Kn (K : PySem.W.Frag) (F : Hp) (v : V) (ds : List D) : Prop where
  ex : ∃ (a : Addr) (ob : Obj) (vs : List V), v = .ref a ∧ F a = some (.frz ob (.tup vs)) ∧ ob.dict = none ∧ DpAll K F vs ds
theorem Kn.mono {K : PySem.W.Frag} {F F' : Hp} {v : V} {ds : List D} (e : Same F F') (h : Kn K F v ds) : Kn K F' v ds := by
  obtain ⟨a, ob, vs, rfl, h1, h2, h3⟩ := h.ex
  exact ⟨a, ob, vs, rfl, e _ _ h1, h2, dmonoA e h3⟩
theorem Kn.dp {K : PySem.W.Frag} {F : Hp} {v : V} {ds : List D} (h : Kn K F v ds) : Dp K F v (.tuple ds) := by
  obtain ⟨a, ob, vs, rfl, h1, h2, h3⟩ := h.ex
  exact .tup (.inl (.inr ⟨ob, h1⟩)) h3
/-- the slots; the own lists (none: given up) -/
structure Z where
  s : List Sl
  o : List (Option (List D))
/-- a def's entry: the heap, its frozen part, the lists handed in to be changed -/
structure EN where
  H0 : Hp
  F0 : Hp
  pa : List Addr

def SlOk (K : PySem.W.Frag) (F : Hp) (α : List Addr) : Sl → Option (Option V) → Prop
  | .no, _ => True
  | .d x, o => ∃ v, o = some (some v) ∧ Dp K F v x
  | .ptr k, o => ∃ a, α[k]? = some a ∧ o = some (some (.ref a))
  | .q xs, o => ∃ v, o = some (some v) ∧ Kn K F v xs

structure Fr (K : PySem.W.Frag) (N : EN) (F : Hp) (α : List Addr) (z : Z) (σ : L2.St) (H : Hp) : Prop where
  sub : Same F H
  ent : ∀ a o, N.H0 a = some o → a ∉ N.pa → H a = some o
  fz : ∀ a, N.H0 a ≠ none → N.F0 a = none → F a = none
  len : z.o.length = α.length
  slen : z.s.length = σ.length
  nd : α.Nodup
  pre : ∃ β, α = N.pa ++ β ∧ ∀ b ∈ β, N.H0 b = none
  live : ∀ a ∈ α, H a ≠ none
  ob : ∀ (k : Nat) (a : Addr) (xs : List D), α[k]? = some a → z.o[k]? = some (some xs) → F a = none ∧ ∃ vs, H a = some (.lst vs) ∧ DpAll K F vs xs
  sl : ∀ (i : Nat) (s : Sl), z.s[i]? = some s → SlOk K F α s σ[i]?

theorem SlOk.mono {K : PySem.W.Frag} {F F' : Hp} {α β : List Addr} {s : Sl} {o : Option (Option V)} (e : Same F F') (h : SlOk K F α s o) : SlOk K F' (α ++ β) s o := by
  cases s with
  | no => trivial
  | d x => obtain ⟨v, e1, d⟩ := h; exact ⟨v, e1, dmono e d⟩
  | q x => obtain ⟨v, e1, d⟩ := h; exact ⟨v, e1, d.mono e⟩
  | ptr k =>
    obtain ⟨a, e1, e2⟩ := h
    refine ⟨a, ?_, e2⟩
    rw [List.getElem?_append_left (List.getElem?_eq_some_iff.mp e1).1]
    exact e1

/-- an expression's result: data, the k-th own list -/
inductive Rs where | d (x : D) | ptr (k : Nat)
def RsOk (K : PySem.W.Frag) (F : Hp) (α : List Addr) : Rs → V → Prop
  | .d x, v => Dp K F v x
  | .ptr k, v => ∃ a, α[k]? = some a ∧ v = .ref a
theorem RsOk.mono {K : PySem.W.Frag} {F F' : Hp} {α β : List Addr} {r : Rs} {v : V} (e : Same F F') (h : RsOk K F α r v) : RsOk K F' (α ++ β) r v := by
  cases r with
  | d x => exact dmono e h
  | ptr k =>
    obtain ⟨a, e1, e2⟩ := h
    refine ⟨a, ?_, e2⟩
    rw [List.getElem?_append_left (List.getElem?_eq_some_iff.mp e1).1]
    exact e1
inductive RsAll (K : PySem.W.Frag) (F : Hp) (α : List Addr) : List Rs → List V → Prop
  | nil : RsAll K F α [] []
  | cons {r v rs vs} : RsOk K F α r v → RsAll K F α rs vs → RsAll K F α (r :: rs) (v :: vs)

/-- the state has gone on -/
structure On (F F' : Hp) (α α' : List Addr) : Prop where
  f : Same F F'
  a : ∃ β, α' = α ++ β
theorem On.refl (F : Hp) (α : List Addr) : On F F α α := ⟨Same.refl F, [], by simp⟩
theorem On.trans {F F1 F2 : Hp} {α α1 α2 : List Addr} (p : On F F1 α α1) (q : On F1 F2 α1 α2) : On F F2 α α2 := by
  obtain ⟨f, β, rfl⟩ := p
  obtain ⟨g, γ, rfl⟩ := q
  exact ⟨f.trans g, β ++ γ, by simp⟩
theorem On.rs {K : PySem.W.Frag} {F F' : Hp} {α α' : List Addr} (p : On F F' α α') {r : Rs} {v : V} (h : RsOk K F α r v) : RsOk K F' α' r v := by
  obtain ⟨f, β, rfl⟩ := p
  exact h.mono f
theorem On.rsAll {K : PySem.W.Frag} {F F' : Hp} {α α' : List Addr} (p : On F F' α α') : ∀ {rs : List Rs} {vs : List V}, RsAll K F α rs vs → RsAll K F' α' rs vs
  | _, _, .nil => .nil
  | _, _, .cons r t => .cons (p.rs r) (p.rsAll t)
theorem On.sl {K : PySem.W.Frag} {F F' : Hp} {α α' : List Addr} (p : On F F' α α') {s : Sl} {o : Option (Option V)} (h : SlOk K F α s o) : SlOk K F' α' s o := by
  obtain ⟨f, β, rfl⟩ := p
  exact h.mono f
theorem On.dp {K : PySem.W.Frag} {F F' : Hp} {α α' : List Addr} (p : On F F' α α') {v : V} {d : D} (h : Dp K F v d) : Dp K F' v d := dmono p.f h

/-! ### readings -/
def tD (K : PySem.W.Frag) (N : EN) (z : Z) (r : Rs) (z' : Z) : TE := fun σ H Q => ∃ F α, Fr K N F α z σ H ∧ ∀ v F' α' H', On F F' α α' → Fr K N F' α' z' σ H' → RsOk K F' α' r v → Q v H'
def tDT (K : PySem.W.Frag) (N : EN) (z : Z) (b : Bool) (z' : Z) : TT := fun σ H Q => ∃ F α, Fr K N F α z σ H ∧ ∀ F' α' H', On F F' α α' → Fr K N F' α' z' σ H' → Q b H'
def tDA (K : PySem.W.Frag) (N : EN) (z : Z) (rs : List Rs) (z' : Z) : TA := fun σ H Q => ∃ F α, Fr K N F α z σ H ∧ ∀ vs F' α' H', On F F' α α' → Fr K N F' α' z' σ H' → RsAll K F' α' rs vs → Q vs H'
def tDS (K : PySem.W.Frag) (N : EN) (z : Z) (nx : Z → Prop) (rt : Rs → Z → Prop) : TS := fun E σ H => ∃ F α, Fr K N F α z σ H ∧
  (∀ σ' F' α' H' z', Same F F' → Fr K N F' α' z' σ' H' → nx z' → E.nx σ' H') ∧
  (∀ v σ' F' α' H' r z', Same F F' → Fr K N F' α' z' σ' H' → RsOk K F' α' r v → rt r z' → E.rt v H')

abbrev DE (X : Cx) (N : EN) (z : Z) (e : Expr) (r : Rs) (z' : Z) : Prop := PE X e (tD X.K N z r z')
abbrev DT (X : Cx) (N : EN) (z : Z) (e : Expr) (b : Bool) (z' : Z) : Prop := PT X e (tDT X.K N z b z')
abbrev DW (X : Cx) (N : EN) (z : Z) (e : Expr) (b : Bool) (z' : Z) : Prop := PW X e (tDT X.K N z b z')
abbrev DA (X : Cx) (N : EN) (z : Z) (es : List Expr) (rs : List Rs) (z' : Z) : Prop := PA X es (tDA X.K N z rs z')
abbrev DS (X : Cx) (N : EN) (z : Z) (sts : List Stmt) (nx : Z → Prop) (rt : Rs → Z → Prop) : Prop := PSs X sts (tDS X.K N z nx rt)
abbrev D1 (X : Cx) (N : EN) (z : Z) (st : Stmt) (nx : Z → Prop) (rt : Rs → Z → Prop) : Prop := PS X st (tDS X.K N z nx rt)

section
variable {X : Cx}
theorem PE.to {e : Expr} {t t' : TE} (h : PE X e t) (w : ∀ σ H Q, t' σ H Q → t σ H Q) : PE X e t' := ⟨fun pins s σ H Q I q => h.run pins s σ H Q I (w _ _ _ q)⟩
theorem PT.to {e : Expr} {t t' : TT} (h : PT X e t) (w : ∀ σ H Q, t' σ H Q → t σ H Q) : PT X e t' := ⟨fun pins s σ H Q I q => h.run pins s σ H Q I (w _ _ _ q)⟩
theorem PW.to {e : Expr} {t t' : TT} (h : PW X e t) (w : ∀ σ H Q, t' σ H Q → t σ H Q) : PW X e t' := ⟨fun wh pins s σ H Q I q => h.run wh pins s σ H Q I (w _ _ _ q)⟩
theorem PA.to {es : List Expr} {t t' : TA} (h : PA X es t) (w : ∀ σ H Q, t' σ H Q → t σ H Q) : PA X es t' := ⟨fun pos pins s σ H Q I q => h.run pos pins s σ H Q I (w _ _ _ q)⟩
theorem PS.to {st : Stmt} {t t' : TS} (h : PS X st t) (w : ∀ E σ H, t' E σ H → t E σ H) : PS X st t' := ⟨fun pins s σ H E I q => h.run pins s σ H E I (w _ _ _ q)⟩
theorem PSs.to {st : List Stmt} {t t' : TS} (h : PSs X st t) (w : ∀ E σ H, t' E σ H → t E σ H) : PSs X st t' := ⟨fun pins s σ H E I q => h.run pins s σ H E I (w _ _ _ q)⟩
/-- under a fact -/
theorem PE.guard {p : Prop} {e : Expr} {t : TE} (h : p → PE X e t) : PE X e (fun σ H Q => p ∧ t σ H Q) := ⟨fun pins s σ H Q I q => (h q.1).run pins s σ H Q I q.2⟩
theorem PT.guard {p : Prop} {e : Expr} {t : TT} (h : p → PT X e t) : PT X e (fun σ H Q => p ∧ t σ H Q) := ⟨fun pins s σ H Q I q => (h q.1).run pins s σ H Q I q.2⟩
theorem PW.guard {p : Prop} {e : Expr} {t : TT} (h : p → PW X e t) : PW X e (fun σ H Q => p ∧ t σ H Q) := ⟨fun wh pins s σ H Q I q => (h q.1).run wh pins s σ H Q I q.2⟩
theorem PSs.guard {p : Prop} {e : List Stmt} {t : TS} (h : p → PSs X e t) : PSs X e (fun E σ H => p ∧ t E σ H) := ⟨fun pins s σ H Q I q => (h q.1).run pins s σ H Q I q.2⟩
/-- some one of many -/
theorem PE.some {ι : Type} {e : Expr} {t : ι → TE} (h : ∀ i, PE X e (t i)) : PE X e (fun σ H Q => ∃ i, t i σ H Q) := ⟨fun pins s σ H Q I ⟨i, q⟩ => (h i).run pins s σ H Q I q⟩
theorem PT.some {ι : Type} {e : Expr} {t : ι → TT} (h : ∀ i, PT X e (t i)) : PT X e (fun σ H Q => ∃ i, t i σ H Q) := ⟨fun pins s σ H Q I ⟨i, q⟩ => (h i).run pins s σ H Q I q⟩
theorem PTs.some {ι : Type} {e : List Expr} {t : ι → TT} (h : ∀ i, PTs X e (t i)) : PTs X e (fun σ H Q => ∃ i, t i σ H Q) := ⟨fun pins s σ H Q I ⟨i, q⟩ => (h i).run pins s σ H Q I q⟩
theorem PTs.to {e : List Expr} {t t' : TT} (h : PTs X e t) (w : ∀ σ H Q, t' σ H Q → t σ H Q) : PTs X e t' := ⟨fun pins s σ H Q I q => h.run pins s σ H Q I (w _ _ _ q)⟩
theorem PSs.some {ι : Type} {e : List Stmt} {t : ι → TS} (h : ∀ i, PSs X e (t i)) : PSs X e (fun E σ H => ∃ i, t i E σ H) := ⟨fun pins s σ H Q I ⟨i, q⟩ => (h i).run pins s σ H Q I q⟩
end

/-! ### frames: how they go on -/
section
variable {K : PySem.W.Frag} {N : EN} {F : Hp} {α : List Addr} {z : Z} {σ : L2.St} {H : Hp}
theorem same_upd {F : Hp} {p : Addr} {o : HO} (h : F p = none) : Same F (upd F p o) := fun b x e => by
  rw [upd_ne (ne_of_none e h)]
  exact e
theorem Fr.free (fr : Fr K N F α z σ H) {p : Addr} (h : H p = none) : F p = none := fr.sub.free h
theorem Fr.free0 (fr : Fr K N F α z σ H) {p : Addr} (h : H p = none) : N.H0 p = none := by
  cases e : N.H0 p with
  | none => rfl
  | some o =>
    by_cases hp : p ∈ N.pa
    · obtain ⟨β, rfl, _⟩ := fr.pre
      exact absurd h (fr.live p (List.mem_append_left _ hp))
    · rw [fr.ent p o e hp] at h
      cases h
/-- a new frozen object -/
theorem Fr.ext (fr : Fr K N F α z σ H) {p : Addr} {o : HO} (h : H p = none) : On F (upd F p o) α α ∧ Fr K N (upd F p o) α z σ (upd H p o) := by
  have hF := fr.free h
  have h0 := fr.free0 h
  have on : On F (upd F p o) α α := ⟨same_upd hF, [], by simp⟩
  have np : ∀ a ∈ α, a ≠ p := fun a ha e => fr.live a ha (by rw [e]; exact h)
  refine ⟨on, fun b u e => ?_, fun a u e ha => ?_, fun a e1 e2 => ?_, fr.len, fr.slen, fr.nd, fr.pre, fun a ha => ?_, fun k a xs e1 e2 => ?_, fun i s e => on.sl (fr.sl i s e)⟩
  · by_cases hb : b = p
    · rw [hb, upd_same] at e
      rw [hb, upd_same]
      exact e
    · rw [upd_ne hb] at e ⊢
      exact fr.sub _ _ e
  · have hb : a ≠ p := fun q => by rw [q, h0] at e; cases e
    rw [upd_ne hb]
    exact fr.ent a u e ha
  · have hb : a ≠ p := fun q => e1 (by rw [q]; exact h0)
    rw [upd_ne hb]
    exact fr.fz a e1 e2
  · rw [upd_ne (np a ha)]
    exact fr.live a ha
  · obtain ⟨f, vs, e3, da⟩ := fr.ob k a xs e1 e2
    have hb := np a (List.mem_of_getElem? e1)
    rw [upd_ne hb, upd_ne hb]
    exact ⟨f, vs, e3, dmonoA on.f da⟩
/-- a new own list -/
theorem Fr.new (fr : Fr K N F α z σ H) {p : Addr} {vs : List V} {xs : List D} (h : H p = none) (da : DpAll K F vs xs) :
    On F F α (α ++ [p]) ∧ Fr K N F (α ++ [p]) ⟨z.s, z.o ++ [some xs]⟩ σ (upd H p (.lst vs)) ∧ (α ++ [p])[z.o.length]? = some p := by
  have hF := fr.free h
  have h0 := fr.free0 h
  have on : On F F α (α ++ [p]) := ⟨Same.refl F, [p], rfl⟩
  have np : ∀ a ∈ α, a ≠ p := fun a ha e => fr.live a ha (by rw [e]; exact h)
  refine ⟨on, ⟨fun b u e => ?_, fun a u e ha => ?_, fr.fz, ?_, fr.slen, ?_, ?_, fun a ha => ?_, fun k a ys e1 e2 => ?_, fun i s e => on.sl (fr.sl i s e)⟩, ?_⟩
  · have hb : b ≠ p := fun q => by rw [q, hF] at e; cases e
    rw [upd_ne hb]
    exact fr.sub _ _ e
  · have hb : a ≠ p := fun q => by rw [q, h0] at e; cases e
    rw [upd_ne hb]
    exact fr.ent a u e ha
  · show (z.o ++ [some xs]).length = (α ++ [p]).length
    rw [List.length_append, List.length_append, fr.len]
    rfl
  · refine List.nodup_append.mpr ⟨fr.nd, by simp, fun a ha b hb => ?_⟩
    have e : b = p := by simpa using hb
    rw [e]
    exact np a ha
  · obtain ⟨β, e, hβ⟩ := fr.pre
    refine ⟨β ++ [p], by rw [e, List.append_assoc], fun b hb => ?_⟩
    rcases List.mem_append.mp hb with hb | hb
    · exact hβ b hb
    · have e : b = p := by simpa using hb
      rw [e]
      exact h0
  · rcases List.mem_append.mp ha with ha | ha
    · rw [upd_ne (np a ha)]
      exact fr.live a ha
    · have e : a = p := by simpa using ha
      rw [e, upd_same]
      exact fun q => by cases q
  · have e2 : (z.o ++ [some xs])[k]? = some (some ys) := e2
    by_cases hk : k < α.length
    · rw [List.getElem?_append_left hk] at e1
      rw [List.getElem?_append_left (by rw [fr.len]; exact hk)] at e2
      rw [upd_ne (np a (List.mem_of_getElem? e1))]
      exact fr.ob k a ys e1 e2
    · have hk2 : k = α.length := by
        have := (List.getElem?_eq_some_iff.mp e1).1
        rw [List.length_append] at this
        simp at this
        omega
      subst hk2
      rw [List.getElem?_append_right (Nat.le_refl _), Nat.sub_self] at e1
      have e3 : a = p := by simpa using e1.symm
      rw [← fr.len, List.getElem?_append_right (Nat.le_refl _), Nat.sub_self] at e2
      have e4 : xs = ys := by simpa using e2
      subst e3 e4
      rw [upd_same]
      exact ⟨hF, vs, rfl, da⟩
  · rw [fr.len, List.getElem?_append_right (Nat.le_refl _), Nat.sub_self]
    rfl
/-- an own list changes -/
theorem Fr.mut (fr : Fr K N F α z σ H) {k : Nat} {a : Addr} {xs ys : List D} {vs : List V} (ha : α[k]? = some a) (ho : z.o[k]? = some (some xs)) (da : DpAll K F vs ys) :
    Fr K N F α ⟨z.s, z.o.set k (some ys)⟩ σ (upd H a (.lst vs)) := by
  obtain ⟨fa, ws, hw, _⟩ := fr.ob k a xs ha ho
  have hk : k < α.length := (List.getElem?_eq_some_iff.mp ha).1
  refine ⟨fun b u e => ?_, fun b u e hb => ?_, fr.fz, by show (z.o.set k (some ys)).length = _; rw [List.length_set]; exact fr.len, fr.slen, fr.nd, fr.pre, fun b hb => ?_, fun j b zs e1 e2 => ?_, fr.sl⟩
  · have hb : b ≠ a := fun q => by rw [q, fa] at e; cases e
    rw [upd_ne hb]
    exact fr.sub _ _ e
  · have hne : b ≠ a := fun q => by
      obtain ⟨β, e2, hβ⟩ := fr.pre
      have hm : a ∈ N.pa ++ β := by rw [← e2]; exact List.mem_of_getElem? ha
      rcases List.mem_append.mp hm with hm | hm
      · exact hb (by rw [q]; exact hm)
      · rw [q, hβ a hm] at e
        cases e
    rw [upd_ne hne]
    exact fr.ent b u e hb
  · by_cases hne : b = a
    · rw [hne, upd_same]
      exact fun q => by cases q
    · rw [upd_ne hne]
      exact fr.live b hb
  · have e2 : (z.o.set k (some ys))[j]? = some (some zs) := e2
    by_cases hj : k = j
    · subst hj
      rw [ha] at e1
      cases e1
      rw [List.getElem?_set_self (by rw [fr.len]; exact hk)] at e2
      cases e2
      rw [upd_same]
      exact ⟨fa, vs, rfl, da⟩
    · rw [List.getElem?_set_ne hj] at e2
      have hne : b ≠ a := fun q => by
        obtain ⟨h1, q1⟩ := List.getElem?_eq_some_iff.mp e1
        obtain ⟨h2, q2⟩ := List.getElem?_eq_some_iff.mp ha
        exact hj ((List.getElem_inj fr.nd).mp (q2.trans (q.symm.trans q1.symm)))
      rw [upd_ne hne]
      exact fr.ob j b zs e1 e2
/-- a slot is stored -/
theorem Fr.setD (fr : Fr K N F α z σ H) {i : Nat} {v : V} {s : Sl} (h : SlOk K F α s (some (some v))) : Fr K N F α ⟨z.s.set i s, z.o⟩ (σ.set i (some v)) H := by
  refine ⟨fr.sub, fr.ent, fr.fz, fr.len, by show (z.s.set i s).length = _; rw [List.length_set, List.length_set]; exact fr.slen, fr.nd, fr.pre, fr.live, fr.ob, fun j t e => ?_⟩
  have e : (z.s.set i s)[j]? = some t := e
  by_cases hj : i = j
  · subst hj
    have hi : i < z.s.length := by
      have := (List.getElem?_eq_some_iff.mp e).1
      rw [List.length_set] at this
      exact this
    rw [List.getElem?_set_self hi] at e
    cases e
    rw [List.getElem?_set_self (by rw [← fr.slen]; exact hi)]
    exact h
  · rw [List.getElem?_set_ne hj] at e
    rw [List.getElem?_set_ne hj]
    exact fr.sl j t e

/-- what is forgotten: slots, own lists behind -/
structure Wk (z z' : Z) : Prop where
  s : z'.s.length = z.s.length
  sl : ∀ (i : Nat) (t : Sl), z'.s[i]? = some t → t = .no ∨ z.s[i]? = some t
  o : z'.o = z.o.take z'.o.length
theorem Wk.refl (z : Z) : Wk z z := ⟨rfl, fun _ _ h => .inr h, by simp⟩
end
end DL
/-! DL2: expressions -/
namespace DL
open PySem L2

section
variable {X : Cx} {N : EN} {z z1 z2 z3 : Z} {pos : Pos}
/-! ### names, constants -/
theorem de_var {i : Nat} {x : D} {e : Expr} (pe : PE X e (tVar i)) (h : z.s[i]? = some (.d x) := by rfl) : DE X N z e (.d x) z :=
  PE.to pe fun σ H Q ⟨F, α, fr, q⟩ => by
    obtain ⟨v, e1, d⟩ := fr.sl i _ h
    exact ⟨v, e1, q v F α H (On.refl F α) fr d⟩
theorem de_ptr {i k : Nat} {e : Expr} (pe : PE X e (tVar i)) (h : z.s[i]? = some (.ptr k) := by rfl) : DE X N z e (.ptr k) z :=
  PE.to pe fun σ H Q ⟨F, α, fr, q⟩ => by
    obtain ⟨a, e1, e2⟩ := fr.sl i _ h
    exact ⟨.ref a, e2, q _ F α H (On.refl F α) fr ⟨a, e1, rfl⟩⟩
theorem de_c {e : Expr} {v : V} {x : D} (pe : PE X e (tC v)) (h : ∀ F, Dp X.K F v x) : DE X N z e (.d x) z :=
  PE.to pe fun σ H Q ⟨F, α, fr, q⟩ => q v F α H (On.refl F α) fr (h F)
theorem de_int {i j} : DE X N z (.Constant (.int i) j pos) (.d (.int i)) z := de_c pe_int fun _ => .int i
theorem de_str {i j} : DE X N z (.Constant (.str i) j pos) (.d (.str i)) z := de_c pe_str fun _ => .str i
theorem de_bl {i j} : DE X N z (.Constant (.bool i) j pos) (.d (.bool i)) z := de_c pe_bl fun _ => .bl i
theorem de_non {j} : DE X N z (.Constant .none j pos) (.d .none) z := de_c pe_non fun _ => .non
/-- a constant of the module -/
theorem de_glob {x : Str} {v : V} {u : Value} {d : D} (hg : Gl X x) (hm : X.mg x = some u) (r : RelV v u) (h : ∀ F, Dp X.K F v d) (hd : (x == ("__debug__" : Str)) = false := by decide) : DE X N z (.Name x pos) (.d d) z :=
  de_c (pe_glob hg hm r hd) h

/-! ### operators -/
theorem de_opG {op : Operator} {r : R2} {a b : Expr} {rx ry rw : Rs} (ho : OpR X (binaryOp op) r) (ha : DE X N z a rx z1) (hb : DE X N z1 b ry z2)
    (hr : ∀ (F : Hp) (α : List Addr) (σ : L2.St) (v u : V) (H : Hp) (Q : VK), Fr X.K N F α z2 σ H → RsOk X.K F α rx v → RsOk X.K F α ry u →
      (∀ o F' α' H', On F F' α α' → Fr X.K N F' α' z3 σ H' → RsOk X.K F' α' rw o → Q o H') → r v u H Q) : DE X N z (.BinOp a op b pos) rw z3 :=
  PE.to (pe_op ho ha hb) fun σ H Q ⟨F, α, fr, q⟩ => ⟨F, α, fr, fun v F1 α1 H1 o1 fr1 d1 => ⟨F1, α1, fr1, fun u F2 α2 H2 o2 fr2 d2 =>
    hr F2 α2 σ v u H2 Q fr2 (o2.rs d1) d2 fun o F3 α3 H3 o3 fr3 d3 => q o F3 α3 H3 ((o1.trans o2).trans o3) fr3 d3⟩⟩
theorem de_ii {op : Operator} {r : R2} {a b : Expr} {i j k : Int} (ho : OpR X (binaryOp op) r) (ha : DE X N z a (.d (.int i)) z1) (hb : DE X N z1 b (.d (.int j)) z2)
    (hr : ∀ (H : Hp) (Q : VK), Q (.int k) H → r (.int i) (.int j) H Q) : DE X N z (.BinOp a op b pos) (.d (.int k)) z2 :=
  de_opG ho ha hb fun F α σ v u H Q fr d1 d2 q => by
    cases (d1 : Dp X.K F v (.int i))
    cases (d2 : Dp X.K F u (.int j))
    exact hr H Q (q _ F α H (On.refl F α) fr (.int k))
variable {a b c e : Expr} {i j k : Int}
theorem de_add (ha : DE X N z a (.d (.int i)) z1) (hb : DE X N z1 b (.d (.int j)) z2) : DE X N z (.BinOp a .Add b pos) (.d (.int (i + j))) z2 := de_ii op_add ha hb fun _ _ q => ⟨i, j, rfl, rfl, q⟩
theorem de_sub (ha : DE X N z a (.d (.int i)) z1) (hb : DE X N z1 b (.d (.int j)) z2) : DE X N z (.BinOp a .Sub b pos) (.d (.int (i - j))) z2 := de_ii op_sub ha hb fun _ _ q => ⟨i, j, rfl, rfl, q⟩
theorem de_mul (ha : DE X N z a (.d (.int i)) z1) (hb : DE X N z1 b (.d (.int j)) z2) (h : CMul i j) : DE X N z (.BinOp a .Mult b pos) (.d (.int (i * j))) z2 := de_ii op_mul ha hb fun _ _ q => ⟨i, j, rfl, rfl, h, q⟩
theorem de_mulW (ha : DE X N z a (.d (.int i)) z1) (hb : DE X N z1 b (.d (.int j)) z2) (h : CMulW i j) : DE X N z (.BinOp a .Mult b pos) (.d (.int (i * j))) z2 := de_ii op_mulW ha hb fun _ _ q => ⟨i, j, rfl, rfl, h, q⟩
theorem de_divP (ha : DE X N z a (.d (.int i)) z1) (hb : DE X N z1 b (.d (.int j)) z2) (h : CDiv i j) : DE X N z (.BinOp a .FloorDiv b pos) (.d (.int (i / j))) z2 := de_ii op_fdiv ha hb fun _ _ q => ⟨i, j, rfl, rfl, h, q⟩
theorem de_divN (ha : DE X N z a (.d (.int i)) z1) (hb : DE X N z1 b (.d (.int j)) z2) (h : CDivN i j) : DE X N z (.BinOp a .FloorDiv b pos) (.d (.int (i.fdiv j))) z2 := de_ii op_fdivN ha hb fun _ _ q => ⟨i, j, rfl, rfl, h, q⟩
theorem de_divW (ha : DE X N z a (.d (.int i)) z1) (hb : DE X N z1 b (.d (.int j)) z2) (h : CDivW i j) : DE X N z (.BinOp a .FloorDiv b pos) (.d (.int (i / j))) z2 := de_ii op_fdivW ha hb fun _ _ q => ⟨i, j, rfl, rfl, h, q⟩
theorem de_modP (ha : DE X N z a (.d (.int i)) z1) (hb : DE X N z1 b (.d (.int j)) z2) (h : 0 < j) : DE X N z (.BinOp a .Mod b pos) (.d (.int (i % j))) z2 := de_ii op_mod ha hb fun _ _ q => ⟨i, j, rfl, rfl, h, q⟩
theorem de_modN (ha : DE X N z a (.d (.int i)) z1) (hb : DE X N z1 b (.d (.int j)) z2) (h : j ≠ 0) : DE X N z (.BinOp a .Mod b pos) (.d (.int (i.fmod j))) z2 := de_ii op_modN ha hb fun _ _ q => ⟨i, j, rfl, rfl, h, q⟩
theorem de_pow (ha : DE X N z a (.d (.int i)) z1) (hb : DE X N z1 b (.d (.int j)) z2) (h : CPow i j) : DE X N z (.BinOp a .Pow b pos) (.d (.int (i ^ j.toNat))) z2 := de_ii op_pow ha hb fun _ _ q => ⟨i, j, rfl, rfl, h, q⟩
theorem de_neg (ha : DE X N z a (.d (.int i)) z1) : DE X N z (.UnaryOp .USub a pos) (.d (.int (-i))) z1 :=
  PE.to (pe_un un_neg ha) fun σ H Q ⟨F, α, fr, q⟩ => ⟨F, α, fr, fun v F1 α1 H1 o1 fr1 d1 => by
    cases (d1 : Dp X.K F1 v (.int i))
    exact ⟨i, rfl, q _ F1 α1 H1 o1 fr1 (.int (-i))⟩⟩
theorem de_cast {x y : D} (h : DE X N z e (.d x) z1) (e1 : x = y) : DE X N z e (.d y) z1 := e1 ▸ h
theorem de_castZ {r : Rs} (h : DE X N z e r z1) (e1 : z1 = z2) : DE X N z e r z2 := e1 ▸ h

/-! ### comparisons -/
section
variable {op : CmpOp} {r : R2} {rx ry : Rs} {t : Bool}
abbrev CmpOk (X : Cx) (N : EN) (z2 : Z) (r : R2) (rx ry : Rs) (t : Bool) : Prop := ∀ (F : Hp) (α : List Addr) (σ : L2.St) (v u : V) (H : Hp) (Q : VK), Fr X.K N F α z2 σ H → RsOk X.K F α rx v → RsOk X.K F α ry u → Q (.bl t) H → r v u H Q
theorem de_cmp (ho : OpR X (compareOp op) r) (ha : DE X N z a rx z1) (hb : DE X N z1 b ry z2) (hr : CmpOk X N z2 r rx ry t) (hm : behindInMarks op b = false) : DE X N z (.Compare a [op] [b] pos) (.d (.bool t)) z2 :=
  PE.to (pe_cmpR ho ha hb hm) fun σ H Q ⟨F, α, fr, q⟩ => ⟨F, α, fr, fun v F1 α1 H1 o1 fr1 d1 => ⟨F1, α1, fr1, fun u F2 α2 H2 o2 fr2 d2 =>
    hr F2 α2 σ v u H2 Q fr2 (o2.rs d1) d2 (q _ F2 α2 H2 (o1.trans o2) fr2 (.bl t))⟩⟩
theorem dt_cmp (ho : OpR X (compareOp op) r) (ha : DE X N z a rx z1) (hb : DE X N z1 b ry z2) (hr : CmpOk X N z2 r rx ry t) (hm : behindInMarks op b = false) : DT X N z (.Compare a [op] [b] pos) t z2 :=
  PT.to (pt_cmpR ho ha hb hm) fun σ H Q ⟨F, α, fr, q⟩ => ⟨F, α, fr, fun v F1 α1 H1 o1 fr1 d1 => ⟨F1, α1, fr1, fun u F2 α2 H2 o2 fr2 d2 =>
    hr F2 α2 σ v u H2 _ fr2 (o2.rs d1) d2 ⟨t, rfl, q F2 α2 H2 (o1.trans o2) fr2⟩⟩⟩
end
theorem ok_ii {g : Int → Int → Bool} : CmpOk X N z2 (rI0 fun i j => .bl (g i j)) (.d (.int i)) (.d (.int j)) (g i j) := fun F α σ v u H Q _ d1 d2 q => by
  cases (d1 : Dp X.K F v (.int i))
  cases (d2 : Dp X.K F u (.int j))
  exact ⟨i, j, rfl, rfl, q⟩
theorem de_lt (ha : DE X N z a (.d (.int i)) z1) (hb : DE X N z1 b (.d (.int j)) z2) : DE X N z (.Compare a [.Lt] [b] pos) (.d (.bool (decide (i < j)))) z2 := de_cmp op_lt ha hb ok_ii (nomark _)
theorem de_le (ha : DE X N z a (.d (.int i)) z1) (hb : DE X N z1 b (.d (.int j)) z2) : DE X N z (.Compare a [.LtE] [b] pos) (.d (.bool (decide (i ≤ j)))) z2 := de_cmp op_le ha hb ok_ii (nomark _)
theorem de_gt (ha : DE X N z a (.d (.int i)) z1) (hb : DE X N z1 b (.d (.int j)) z2) : DE X N z (.Compare a [.Gt] [b] pos) (.d (.bool (decide (j < i)))) z2 := de_cmp op_gt ha hb ok_ii (nomark _)
theorem de_ge (ha : DE X N z a (.d (.int i)) z1) (hb : DE X N z1 b (.d (.int j)) z2) : DE X N z (.Compare a [.GtE] [b] pos) (.d (.bool (decide (j ≤ i)))) z2 := de_cmp op_ge ha hb ok_ii (nomark _)
theorem dt_lt (ha : DE X N z a (.d (.int i)) z1) (hb : DE X N z1 b (.d (.int j)) z2) : DT X N z (.Compare a [.Lt] [b] pos) (decide (i < j)) z2 := dt_cmp op_lt ha hb ok_ii (nomark _)
theorem dt_le (ha : DE X N z a (.d (.int i)) z1) (hb : DE X N z1 b (.d (.int j)) z2) : DT X N z (.Compare a [.LtE] [b] pos) (decide (i ≤ j)) z2 := dt_cmp op_le ha hb ok_ii (nomark _)
theorem dt_gt (ha : DE X N z a (.d (.int i)) z1) (hb : DE X N z1 b (.d (.int j)) z2) : DT X N z (.Compare a [.Gt] [b] pos) (decide (j < i)) z2 := dt_cmp op_gt ha hb ok_ii (nomark _)
theorem dt_ge (ha : DE X N z a (.d (.int i)) z1) (hb : DE X N z1 b (.d (.int j)) z2) : DT X N z (.Compare a [.GtE] [b] pos) (decide (j ≤ i)) z2 := dt_cmp op_ge ha hb ok_ii (nomark _)
/-- == of data -/
def rEqP (K : PySem.W.Frag) : R2 := fun x y H Q => ∃ d e, Dp K H x d ∧ Dp K H y e ∧ min d.depth e.depth ≤ 64 ∧ Q (.bl (PyData.eqv d e)) H
def rNeP (K : PySem.W.Frag) : R2 := fun x y H Q => ∃ d e, Dp K H x d ∧ Dp K H y e ∧ min d.depth e.depth ≤ 64 ∧ Q (.bl (!PyData.eqv d e)) H
theorem op_eqP (hu : X.A.units + 64 < cLine) : OpR X (compareOp .Eq) (rEqP X.K) := by
  intro pins s σ H x y v u Q I rx ry h
  obtain ⟨d, e, hd, he, hm, q⟩ := h
  obtain ⟨as, r1⟩ := Dp.reads I d x v hd rx
  obtain ⟨bs, r2⟩ := Dp.reads I e y u he ry
  exact SeqAt.eq_plain r1 r2 (Dp.plain hd) (Dp.plain he) (by omega) ⟨.bl _, H, I, rfl, q⟩
theorem op_neP (hu : X.A.units + 64 < cLine) : OpR X (compareOp .NotEq) (rNeP X.K) := by
  intro pins s σ H x y v u Q I rx ry h
  obtain ⟨d, e, hd, he, hm, q⟩ := h
  obtain ⟨as, r1⟩ := Dp.reads I d x v hd rx
  obtain ⟨bs, r2⟩ := Dp.reads I e y u he ry
  exact SeqAt.ne_plain r1 r2 (Dp.plain hd) (Dp.plain he) (by omega) ⟨.bl _, H, I, rfl, q⟩
variable {x y : D}
theorem ok_eq (hm : min x.depth y.depth ≤ 64) : CmpOk X N z2 (rEqP X.K) (.d x) (.d y) (PyData.eqv x y) := fun F α σ v u H Q fr d1 d2 q => ⟨x, y, dmono fr.sub d1, dmono fr.sub d2, hm, q⟩
theorem ok_ne (hm : min x.depth y.depth ≤ 64) : CmpOk X N z2 (rNeP X.K) (.d x) (.d y) (!PyData.eqv x y) := fun F α σ v u H Q fr d1 d2 q => ⟨x, y, dmono fr.sub d1, dmono fr.sub d2, hm, q⟩
theorem de_eq (hu : X.A.units + 64 < cLine) (ha : DE X N z a (.d x) z1) (hb : DE X N z1 b (.d y) z2) (hm : min x.depth y.depth ≤ 64) : DE X N z (.Compare a [.Eq] [b] pos) (.d (.bool (PyData.eqv x y))) z2 := de_cmp (op_eqP hu) ha hb (ok_eq hm) (nomark _)
theorem de_ne (hu : X.A.units + 64 < cLine) (ha : DE X N z a (.d x) z1) (hb : DE X N z1 b (.d y) z2) (hm : min x.depth y.depth ≤ 64) : DE X N z (.Compare a [.NotEq] [b] pos) (.d (.bool (!PyData.eqv x y))) z2 := de_cmp (op_neP hu) ha hb (ok_ne hm) (nomark _)
theorem dt_eq (hu : X.A.units + 64 < cLine) (ha : DE X N z a (.d x) z1) (hb : DE X N z1 b (.d y) z2) (hm : min x.depth y.depth ≤ 64) : DT X N z (.Compare a [.Eq] [b] pos) (PyData.eqv x y) z2 := dt_cmp (op_eqP hu) ha hb (ok_eq hm) (nomark _)
theorem dt_ne (hu : X.A.units + 64 < cLine) (ha : DE X N z a (.d x) z1) (hb : DE X N z1 b (.d y) z2) (hm : min x.depth y.depth ≤ 64) : DT X N z (.Compare a [.NotEq] [b] pos) (!PyData.eqv x y) z2 := dt_cmp (op_neP hu) ha hb (ok_ne hm) (nomark _)
/-- .. of ints -/
theorem ok_eqI : CmpOk X N z2 rEq (.d (.int i)) (.d (.int j)) (decide (i = j)) := fun F α σ v u H Q fr d1 d2 q => by
  cases (d1 : Dp X.K F v (.int i))
  cases (d2 : Dp X.K F u (.int j))
  refine ⟨rfl, ?_⟩
  have e : decide (V.int i = V.int j) = decide (i = j) := by by_cases h : i = j <;> simp [h]
  rw [e]
  exact q
theorem ok_neI : CmpOk X N z2 rNe (.d (.int i)) (.d (.int j)) (!decide (i = j)) := fun F α σ v u H Q fr d1 d2 q => by
  cases (d1 : Dp X.K F v (.int i))
  cases (d2 : Dp X.K F u (.int j))
  refine ⟨rfl, ?_⟩
  have e : decide (V.int i = V.int j) = decide (i = j) := by by_cases h : i = j <;> simp [h]
  rw [e]
  exact q
theorem de_eqI (ha : DE X N z a (.d (.int i)) z1) (hb : DE X N z1 b (.d (.int j)) z2) : DE X N z (.Compare a [.Eq] [b] pos) (.d (.bool (decide (i = j)))) z2 := de_cmp op_eq ha hb ok_eqI (nomark _)
theorem de_neI (ha : DE X N z a (.d (.int i)) z1) (hb : DE X N z1 b (.d (.int j)) z2) : DE X N z (.Compare a [.NotEq] [b] pos) (.d (.bool (!decide (i = j)))) z2 := de_cmp op_ne ha hb ok_neI (nomark _)
theorem dt_eqI (ha : DE X N z a (.d (.int i)) z1) (hb : DE X N z1 b (.d (.int j)) z2) : DT X N z (.Compare a [.Eq] [b] pos) (decide (i = j)) z2 := dt_cmp op_eq ha hb ok_eqI (nomark _)
theorem dt_neI (ha : DE X N z a (.d (.int i)) z1) (hb : DE X N z1 b (.d (.int j)) z2) : DT X N z (.Compare a [.NotEq] [b] pos) (!decide (i = j)) z2 := dt_cmp op_ne ha hb ok_neI (nomark _)
/-- is None -/
def isN : D → Bool | .none => true | _ => false
theorem Dp.isN {K : PySem.W.Frag} {F : Hp} {v : V} {x : D} (h : Dp K F v x) : decide (v = .non) = isN x := by cases h <;> rfl
theorem ok_isN : CmpOk X N z2 (fun x y H Q => y = .non ∧ Q (.bl (decide (x = .non))) H) (.d x) (.d .none) (isN x) := fun F α σ v u H Q fr d1 d2 q => by
  cases (d2 : Dp X.K F u .none)
  exact ⟨rfl, by rw [Dp.isN d1]; exact q⟩
theorem ok_notN : CmpOk X N z2 (fun x y H Q => y = .non ∧ Q (.bl (!decide (x = .non))) H) (.d x) (.d .none) (!isN x) := fun F α σ v u H Q fr d1 d2 q => by
  cases (d2 : Dp X.K F u .none)
  exact ⟨rfl, by rw [Dp.isN d1]; exact q⟩
theorem de_isN (ha : DE X N z a (.d x) z1) (hb : DE X N z1 b (.d .none) z2) : DE X N z (.Compare a [.Is] [b] pos) (.d (.bool (isN x))) z2 := de_cmp op_isN ha hb ok_isN (nomark _)
theorem de_notN (ha : DE X N z a (.d x) z1) (hb : DE X N z1 b (.d .none) z2) : DE X N z (.Compare a [.IsNot] [b] pos) (.d (.bool (!isN x))) z2 := de_cmp op_notN ha hb ok_notN (nomark _)
theorem dt_isN (ha : DE X N z a (.d x) z1) (hb : DE X N z1 b (.d .none) z2) : DT X N z (.Compare a [.Is] [b] pos) (isN x) z2 := dt_cmp op_isN ha hb ok_isN (nomark _)
theorem dt_notN (ha : DE X N z a (.d x) z1) (hb : DE X N z1 b (.d .none) z2) : DT X N z (.Compare a [.IsNot] [b] pos) (!isN x) z2 := dt_cmp op_notN ha hb ok_notN (nomark _)

/-! ### tests -/
variable {t t' : Bool} {es : List Expr}
theorem dt_val (h : DE X N z e (.d (.bool t)) z1) (he : ∀ whole, isTrue e X.env whole = (do let v ← whole; standAt e.pos; holding [v] (truthy v)) := by intro _; rfl) : DT X N z e t z1 :=
  PT.to (pt_val h he) fun σ H Q ⟨F, α, fr, q⟩ => ⟨F, α, fr, fun v F1 α1 H1 o1 fr1 d1 => by
    cases (d1 : Dp X.K F1 v (.bool t))
    exact ⟨t, rfl, q F1 α1 H1 o1 fr1⟩⟩
theorem dt_not (h : DT X N z e t z1) : DT X N z (.UnaryOp .Not e pos) (!t) z1 :=
  PT.to (pt_not h) fun σ H Q ⟨F, α, fr, q⟩ => ⟨F, α, fr, fun F1 α1 H1 o1 fr1 => q F1 α1 H1 o1 fr1⟩
theorem de_not (h : DE X N z e (.d (.bool t)) z1) : DE X N z (.UnaryOp .Not e pos) (.d (.bool (!t))) z1 :=
  PE.to (pe_not h) fun σ H Q ⟨F, α, fr, q⟩ => ⟨F, α, fr, fun v F1 α1 H1 o1 fr1 d1 => by
    cases (d1 : Dp X.K F1 v (.bool t))
    exact ⟨t, rfl, q _ F1 α1 H1 o1 fr1 (.bl _)⟩⟩
theorem dw_and1 (h : DT X N z e t z1) : DW X N z (.BoolOp .And [e] pos) t z1 := pw_and1 h
theorem dw_or1 (h : DT X N z e t z1) : DW X N z (.BoolOp .Or [e] pos) t z1 := pw_or1 h
theorem dw_andG (h : DT X N z a t z1) (h2 : t = true → DW X N z1 (.BoolOp .And (b :: es) pos) t' z2) (hz : t = false → z1 = z2) : DW X N z (.BoolOp .And (a :: b :: es) pos) (t && t') z2 :=
  PW.to (pw_and h (PW.guard h2)) fun σ H Q ⟨F, α, fr, q⟩ => ⟨F, α, fr, fun F1 α1 H1 o1 fr1 => by
    cases t with
    | true => exact ⟨rfl, F1, α1, fr1, fun F2 α2 H2 o2 fr2 => q F2 α2 H2 (o1.trans o2) fr2⟩
    | false => exact q F1 α1 H1 o1 (hz rfl ▸ fr1)⟩
theorem dw_orG (h : DT X N z a t z1) (h2 : t = false → DW X N z1 (.BoolOp .Or (b :: es) pos) t' z2) (hz : t = true → z1 = z2) : DW X N z (.BoolOp .Or (a :: b :: es) pos) (t || t') z2 :=
  PW.to (pw_or h (PW.guard h2)) fun σ H Q ⟨F, α, fr, q⟩ => ⟨F, α, fr, fun F1 α1 H1 o1 fr1 => by
    cases t with
    | false => exact ⟨rfl, F1, α1, fr1, fun F2 α2 H2 o2 fr2 => q F2 α2 H2 (o1.trans o2) fr2⟩
    | true => exact q F1 α1 H1 o1 (hz rfl ▸ fr1)⟩
theorem dw_and (h : DT X N z a t z1) (h2 : t = true → DW X N z1 (.BoolOp .And (b :: es) pos) t' z1) : DW X N z (.BoolOp .And (a :: b :: es) pos) (t && t') z1 := dw_andG h h2 fun _ => rfl
theorem dw_or (h : DT X N z a t z1) (h2 : t = false → DW X N z1 (.BoolOp .Or (b :: es) pos) t' z1) : DW X N z (.BoolOp .Or (a :: b :: es) pos) (t || t') z1 := dw_orG h h2 fun _ => rfl
theorem dt_w (h : DW X N z e t z1) : DT X N z e t z1 := PW.pt h
/-- .. as values -/
theorem de_one {op : BoolOp} {x : D} (h : DE X N z e (.d x) z1) : DE X N z (.BoolOp op [e] pos) (.d x) z1 := pe_one h
theorem de_and {op2 : D} (h : DE X N z a (.d (.bool t)) z1) (h2 : t = true → DE X N z1 (.BoolOp .And (b :: es) pos) (.d (.bool t')) z1) : DE X N z (.BoolOp .And (a :: b :: es) pos) (.d (.bool (t && t'))) z1 :=
  PE.to (pe_and h (PE.guard h2)) fun σ H Q ⟨F, α, fr, q⟩ => ⟨F, α, fr, fun v F1 α1 H1 o1 fr1 d1 => by
    cases (d1 : Dp X.K F1 v (.bool t))
    refine ⟨t, rfl, ?_⟩
    cases t with
    | true => exact ⟨rfl, F1, α1, fr1, fun v F2 α2 H2 o2 fr2 d2 => q v F2 α2 H2 (o1.trans o2) fr2 d2⟩
    | false => exact q _ F1 α1 H1 o1 fr1 (.bl false)⟩
theorem de_or (h : DE X N z a (.d (.bool t)) z1) (h2 : t = false → DE X N z1 (.BoolOp .Or (b :: es) pos) (.d (.bool t')) z1) : DE X N z (.BoolOp .Or (a :: b :: es) pos) (.d (.bool (t || t'))) z1 :=
  PE.to (pe_or h (PE.guard h2)) fun σ H Q ⟨F, α, fr, q⟩ => ⟨F, α, fr, fun v F1 α1 H1 o1 fr1 d1 => by
    cases (d1 : Dp X.K F1 v (.bool t))
    refine ⟨t, rfl, ?_⟩
    cases t with
    | false => exact ⟨rfl, F1, α1, fr1, fun v F2 α2 H2 o2 fr2 d2 => q v F2 α2 H2 (o1.trans o2) fr2 d2⟩
    | true => exact q _ F1 α1 H1 o1 fr1 (.bl true)⟩
/-- a if c else b -/
theorem de_if {x y : D} (hc : DT X N z c t z1) (ha : t = true → DE X N z1 a (.d x) z2) (hb : t = false → DE X N z1 b (.d y) z2) : DE X N z (.IfExp c a b pos) (.d (if t = true then x else y)) z2 :=
  PE.to (pe_ifExp hc (PE.guard ha) (PE.guard hb)) fun σ H Q ⟨F, α, fr, q⟩ => ⟨F, α, fr, fun F1 α1 H1 o1 fr1 => by
    cases t with
    | true => exact ⟨rfl, F1, α1, fr1, fun v F2 α2 H2 o2 fr2 d2 => q v F2 α2 H2 (o1.trans o2) fr2 d2⟩
    | false => exact ⟨rfl, F1, α1, fr1, fun v F2 α2 H2 o2 fr2 d2 => q v F2 α2 H2 (o1.trans o2) fr2 d2⟩⟩
/-- .. the states apart -/
theorem de_ifZ {x y : D} {za zb : Z} (hc : DT X N z c t z1) (ha : t = true → DE X N z1 a (.d x) za) (hb : t = false → DE X N z1 b (.d y) zb) : DE X N z (.IfExp c a b pos) (.d (if t = true then x else y)) (if t = true then za else zb) := by
  cases t with
  | true => exact de_if hc ha (fun e => by cases e)
  | false => exact de_if (x := x) hc (fun e => by cases e) hb

/-! ### arguments, displays -/
/-- all data -/
def tDAd (K : PySem.W.Frag) (N : EN) (z : Z) (ds : List D) (z' : Z) : TA := fun σ H Q => ∃ F α, Fr K N F α z σ H ∧ ∀ vs F' α' H', On F F' α α' → Fr K N F' α' z' σ H' → DpAll K F' vs ds → Q vs H'
abbrev DAd (X : Cx) (N : EN) (z : Z) (es : List Expr) (ds : List D) (z' : Z) : Prop := PA X es (tDAd X.K N z ds z')
/-- an own list first -/
def tDAp (K : PySem.W.Frag) (N : EN) (z : Z) (k : Nat) (ds : List D) (z' : Z) : TA := fun σ H Q => ∃ F α, Fr K N F α z σ H ∧ ∀ a vs F' α' H', On F F' α α' → Fr K N F' α' z' σ H' → α'[k]? = some a → DpAll K F' vs ds → Q (.ref a :: vs) H'
abbrev DAp (X : Cx) (N : EN) (z : Z) (es : List Expr) (k : Nat) (ds : List D) (z' : Z) : Prop := PA X es (tDAp X.K N z k ds z')
theorem da_nil : DAd X N z [] [] z := PA.to pa_nil fun σ H Q ⟨F, α, fr, q⟩ => q [] F α H (On.refl F α) fr .nil
theorem da_cons {x : D} {ds : List D} (h : DE X N z e (.d x) z1) (hr : DAd X N z1 es ds z2) (hs : starEach (e :: es) X.env = (false, eval e X.env) :: starEach es X.env := by rfl) : DAd X N z (e :: es) (x :: ds) z2 :=
  PA.to (pa_cons h hr hs) fun σ H Q ⟨F, α, fr, q⟩ => ⟨F, α, fr, fun v F1 α1 H1 o1 fr1 d1 => ⟨F1, α1, fr1, fun vs F2 α2 H2 o2 fr2 d2 => q _ F2 α2 H2 (o1.trans o2) fr2 (.cons (o2.dp d1) d2)⟩⟩
theorem dap_cons {k : Nat} {ds : List D} (h : DE X N z e (.ptr k) z1) (hr : DAd X N z1 es ds z2) (hs : starEach (e :: es) X.env = (false, eval e X.env) :: starEach es X.env := by rfl) : DAp X N z (e :: es) k ds z2 :=
  PA.to (pa_cons h hr hs) fun σ H Q ⟨F, α, fr, q⟩ => ⟨F, α, fr, fun v F1 α1 H1 o1 fr1 d1 => ⟨F1, α1, fr1, fun vs F2 α2 H2 o2 fr2 d2 => by
    obtain ⟨a, e1, rfl⟩ := d1
    obtain ⟨f, β, rfl⟩ := o2
    refine q a vs F2 _ H2 (o1.trans ⟨f, β, rfl⟩) fr2 ?_ d2
    rw [List.getElem?_append_left (List.getElem?_eq_some_iff.mp e1).1]
    exact e1⟩⟩
theorem de_tup {ds : List D} {k1 : Nat} (h : DAd X N z es ds z1) (hz : ds.length ≤ sizeLine := by exact Nat.le_of_ble_eq_true rfl) : DE X N z (.Tuple es k1 pos) (.d (.tuple ds)) z1 :=
  PE.to (pe_tup h) fun σ H Q ⟨F, α, fr, q⟩ => ⟨F, α, fr, fun vs F1 α1 H1 o1 fr1 d1 => ⟨by rw [DpAll.len d1]; exact hz, fun p hp => by
    obtain ⟨o2, fr2⟩ := fr1.ext (o := .tup vs) hp
    exact q _ _ α1 _ (o1.trans o2) fr2 (.tup (SqT.of upd_same) (dmonoA o2.f d1))⟩⟩
theorem de_lst {ds : List D} (h : DAd X N z es ds z1) (hz : ds.length ≤ sizeLine := by exact Nat.le_of_ble_eq_true rfl) : DE X N z (.List es pos) (.ptr z1.o.length) ⟨z1.s, z1.o ++ [some ds]⟩ :=
  PE.to (pe_lst h) fun σ H Q ⟨F, α, fr, q⟩ => ⟨F, α, fr, fun vs F1 α1 H1 o1 fr1 d1 => ⟨by rw [DpAll.len d1]; exact hz, fun p hp => by
    obtain ⟨o2, fr2, e2⟩ := fr1.new hp d1
    exact q _ _ _ _ (o1.trans o2) fr2 ⟨p, e2, rfl⟩⟩⟩

/-! ### an own list is given up: data from now on -/
def frzS (k : Nat) (xs : List D) : Sl → Sl
  | .ptr j => if j = k then .d (.list xs) else .ptr j
  | t => t
def frz (z : Z) (k : Nat) (xs : List D) : Z := ⟨z.s.map (frzS k xs), z.o.set k none⟩
theorem Fr.frz {K : PySem.W.Frag} {F : Hp} {α : List Addr} {σ : L2.St} {H : Hp} (fr : Fr K N F α z σ H) {k : Nat} {a : Addr} {xs : List D} (ha : α[k]? = some a) (ho : z.o[k]? = some (some xs)) (hk : N.pa.length ≤ k) :
    ∃ F', On F F' α α ∧ Fr K N F' α (frz z k xs) σ H ∧ Dp K F' (.ref a) (.list xs) := by
  obtain ⟨fa, vs, hv, da⟩ := fr.ob k a xs ha ho
  have on : On F (upd F a (.lst vs)) α α := ⟨same_upd fa, [], by simp⟩
  have hd : Dp K (upd F a (.lst vs)) (.ref a) (.list xs) := .lst (SqL.of upd_same) (dmonoA on.f da)
  have h0 : N.H0 a = none := by
    obtain ⟨β, e, hβ⟩ := fr.pre
    rw [e, List.getElem?_append_right hk] at ha
    exact hβ a (List.mem_of_getElem? ha)
  have hkl : k < α.length := (List.getElem?_eq_some_iff.mp ha).1
  refine ⟨_, on, ⟨fun b u e => ?_, fr.ent, fun b e1 e2 => ?_, by show (z.o.set k none).length = _; rw [List.length_set]; exact fr.len, by show (z.s.map _).length = _; rw [List.length_map]; exact fr.slen, fr.nd, fr.pre, fr.live, fun j b ys e1 e2 => ?_, fun i s e => ?_⟩, hd⟩
  · by_cases hb : b = a
    · rw [hb, upd_same] at e
      cases e
      rw [hb]
      exact hv
    · rw [upd_ne hb] at e
      exact fr.sub _ _ e
  · have hb : b ≠ a := fun q => e1 (by rw [q]; exact h0)
    rw [upd_ne hb]
    exact fr.fz b e1 e2
  · have e2 : (z.o.set k none)[j]? = some (some ys) := e2
    by_cases hj : k = j
    · subst hj
      rw [List.getElem?_set_self (by rw [fr.len]; exact hkl)] at e2
      cases e2
    · rw [List.getElem?_set_ne hj] at e2
      have hne : b ≠ a := fun q => by
        obtain ⟨h1, q1⟩ := List.getElem?_eq_some_iff.mp e1
        obtain ⟨h2, q2⟩ := List.getElem?_eq_some_iff.mp ha
        exact hj ((List.getElem_inj fr.nd).mp (q2.trans (q.symm.trans q1.symm)))
      obtain ⟨f, ws, e3, d⟩ := fr.ob j b ys e1 e2
      rw [upd_ne hne]
      exact ⟨f, ws, e3, dmonoA on.f d⟩
  · have e : (z.s.map (frzS k xs))[i]? = some s := e
    rw [List.getElem?_map] at e
    cases q : z.s[i]? with
    | none => rw [q] at e; cases e
    | some t =>
      rw [q] at e
      have e : frzS k xs t = s := Option.some.inj e
      have h := on.sl (fr.sl i t q)
      cases t with
      | no => rw [← e]; exact h
      | d x => rw [← e]; exact h
      | q x => rw [← e]; exact h
      | ptr j =>
        have e : (if j = k then Sl.d (.list xs) else Sl.ptr j) = s := e
        by_cases hj : j = k
        · rw [if_pos hj] at e
          rw [← e]
          obtain ⟨b, e1, e2⟩ := h
          rw [hj, ha] at e1
          cases e1
          exact ⟨_, e2, hd⟩
        · rw [if_neg hj] at e
          rw [← e]
          exact h
theorem de_frz {k : Nat} {xs : List D} (h : DE X N z e (.ptr k) z1) (ho : z1.o[k]? = some (some xs)) (hk : N.pa.length ≤ k) : DE X N z e (.d (.list xs)) (frz z1 k xs) :=
  PE.to h fun σ H Q ⟨F, α, fr, q⟩ => ⟨F, α, fr, fun v F1 α1 H1 o1 fr1 d1 => by
    obtain ⟨a, e1, rfl⟩ := d1
    obtain ⟨F2, o2, fr2, d2⟩ := fr1.frz e1 ho hk
    exact q _ F2 α1 H1 (o1.trans o2) fr2 d2⟩
/-! ### forgetting -/
theorem Fr.weak {K : PySem.W.Frag} {F : Hp} {α : List Addr} {σ : L2.St} {H : Hp} (fr : Fr K N F α z σ H) (w : Wk z z1) (hp : N.pa.length ≤ z1.o.length) (hs : ∀ (i k : Nat), z1.s[i]? = some (.ptr k) → k < z1.o.length) :
    Fr K N F (α.take z1.o.length) z1 σ H := by
  have hle : z1.o.length ≤ z.o.length := by
    have := congrArg List.length w.o
    rw [List.length_take] at this
    omega
  have hla : z1.o.length ≤ α.length := by rw [← fr.len]; exact hle
  refine ⟨fr.sub, fr.ent, fr.fz, ?_, w.s.trans fr.slen, fr.nd.sublist (List.take_sublist _ _), ?_, fun a ha => fr.live a (List.mem_of_mem_take ha), fun k a xs e1 e2 => ?_, fun i s e => ?_⟩
  · rw [List.length_take]
    omega
  · obtain ⟨β, e, hβ⟩ := fr.pre
    refine ⟨β.take (z1.o.length - N.pa.length), ?_, fun b hb => hβ b (List.mem_of_mem_take hb)⟩
    rw [e, List.take_append, List.take_of_length_le hp]
  · have hk : k < z1.o.length := (List.getElem?_eq_some_iff.mp e2).1
    rw [List.getElem?_take_of_lt hk] at e1
    rw [w.o, List.getElem?_take_of_lt hk] at e2
    exact fr.ob k a xs e1 e2
  · rcases w.sl i s e with rfl | e'
    · trivial
    · have h := fr.sl i s e'
      cases s with
      | no => trivial
      | d x => exact h
      | q x => exact h
      | ptr k =>
        obtain ⟨a, e1, e2⟩ := h
        refine ⟨a, ?_, e2⟩
        rw [List.getElem?_take_of_lt (hs i k e)]
        exact e1
end
end DL
/-! DL3: what is walked -/
namespace DL
open PySem PySem.Spec PyProof.Rows L2

/-! ### enumerate(tuple) -/
theorem meets_enum_new1 {v : Value} {o : Obj} {H : Heap → Prop} (B : Begins v o H) :
    Meets (Builtin.«enumerate.__new__» ⟨[.type "enumerate", v], []⟩) (fun _ R s => H s.heap ∧
      R (.ok (.ret (.ref (s.heap.push o).objs.size))) { s with heap := (s.heap.push o).push { cls := .type "enumerate", data := .fields #[.none, .bool false, .ref s.heap.objs.size, rawInt 0, .none, .none] } }) :=
  .of_wp fun prog w A R s h => by
    obtain ⟨hp, g, d, tk, os⟩ := s; obtain ⟨h1, h⟩ := h
    have hsub := sub_enumerate
    have q1 : ∀ {A' : Around} {E : Value → Shared → Prop} {Q : Value → Shared → Prop}, Q (.ref hp.objs.size) ⟨hp.push o, g, d, tk, os⟩ → wpAny (model prog w) A' (pyIter v) Q E ⟨hp, g, d, tk, os⟩ :=
      fun q => B.iter prog w _ _ ⟨hp, g, d, tk, os⟩ _ h1 q
    wp_walk using q1
    refine wpAny_stack_any fun st => wpAny_pure ?_
    split
    · rename_i c _ _ _ _ _
      cases (c == Value.type "enumerate")
      · wp_walk using q1
        exact ⟨_, rfl, h⟩
      · wp_walk using q1
        exact ⟨_, rfl, h⟩
    · wp_walk using q1
      exact ⟨_, rfl, h⟩
section
variable {prog : Program} {w : World} {A : Around} {E : Value → Shared → Prop} {s : Shared}
theorem enum_begins1 {v : Value} {o : Obj} {H : Heap → Prop} {Q : Value → Shared → Prop} (B : Begins v o H) (h1 : H s.heap)
    (h : ∀ h', IsEnum h' (s.heap.objs.size + 1) s.heap.objs.size 0 .none → h'.get? s.heap.objs.size = some o → h'.objs.size = s.heap.objs.size + 2 →
      (∀ b o, s.heap.get? b = some o → h'.get? b = some o) → Q (.ref (s.heap.objs.size + 1)) { s with heap := h' }) :
    wpAny (model prog w) A (call (.type "enumerate") [v]) Q E s := by
  refine callType_new F.called_enumerate (by decide) (F.typeCall_enumerate_1 _) (F.newCall_enumerate_1 _) (fun obj => F.args_object_init_2 obj _) F.entry_enumerate_new
    (meets_enum_new1 B) ⟨h1, ?_⟩
  have hz : (s.heap.push o).objs.size = s.heap.objs.size + 1 := Heap.size_push ..
  show _ ∧ _
  rw [hz]
  have he : IsEnum ((s.heap.push o).push { cls := .type "enumerate", data := .fields #[.none, .bool false, .ref s.heap.objs.size, rawInt 0, .none, .none] }) (s.heap.objs.size + 1) s.heap.objs.size 0 .none := by
    have := Heap.get?_push_size (s.heap.push o) (o := { cls := .type "enumerate", data := .fields #[.none, .bool false, .ref s.heap.objs.size, rawInt 0, .none, .none] }) rfl
    rw [hz] at this; exact this
  refine ⟨⟨_, he, rfl⟩, h _ he (Heap.get?_push_of_some _ (Heap.get?_push_size _ B.free)) (by rw [Heap.size_push, hz]) fun b o x => Heap.get?_push_of_some _ (Heap.get?_push_of_some _ x)⟩
end
/-- the tuple at a, each item in a new pair -/
def ItnT (K : PySem.W.Frag) (a : Addr) : It :=
  ⟨fun i H => ∃ (xs : List V) (x : V), SqT K H a xs ∧ xs[i]? = some x, fun i H v H' => ∃ T x, v = .ref T ∧ H T = none ∧ H' = upd H T (.tup [.int (i : Nat), x]) ∧ ∀ xs, SqT K H a xs → xs[i]? = some x, fun i H => ∃ xs : List V, SqT K H a xs ∧ xs.length ≤ i⟩
theorem turn_enumT {P : Program} {w : World} {K : PySem.W.Frag} {elts : List Expr} {kk : Nat} {tpos : Pos} (a e it : Addr) (hea : e ≠ a) (hia : a ≠ it) :
    Turn P w K (.Tuple elts kk tpos) (ItnT K a) [e, it] e (fun i h => (∃ old, IsEnum h e it ((i : Nat) : Int) old) ∧ h.IsTupleIter it a i ∧ e ≠ it) where
  mem := by simp
  obj := fun i h st b hb => by
    obtain ⟨⟨old, he⟩, ⟨o, ho, hc, hd⟩, _⟩ := st
    have e' : b = e ∨ b = it := by simpa using hb
    rcases e' with z | z
    · rw [z]; exact ⟨_, he, fun v q => nomatch q⟩
    · rw [z]; exact ⟨o, ho, fun v q => by rw [hd] at q; cases q⟩
  keep := fun i h h' st k => let ⟨⟨old, he⟩, hi, hne⟩ := st; ⟨⟨old, k e (by simp) _ he⟩, hi.at fun o q => k it (by simp) o q, hne⟩
  item := by
    intro X hP hw hK hc i pins s σ H E I hf st hg
    subst hP hw hK
    obtain ⟨⟨old, he⟩, hit, hne⟩ := st
    obtain ⟨xs, x, hq, hx⟩ := hg
    obtain ⟨its, rv, p, hz⟩ := I.tuple hq
    obtain ⟨u, hu, ru⟩ := rv.get hx
    have hlen : i < its.toArray.size := by
      have := (List.getElem?_eq_some_iff.mp hu).1
      simpa using this
    have hel : e < s.heap.objs.size := Heap.lt_size he
    have hil : it < s.heap.objs.size := by obtain ⟨_, q, _⟩ := hit; exact Heap.lt_size q
    have hef : e ∉ [it, a] := by simp [hne, hea]
    refine wpAny_pyNext_enum_itemD (Draws.tuple (A := X.A.in1) (I.ok.hd hc) it a hia its.toArray) he ⟨hit, (show s.heap.IsTuple a its.toArray from p)⟩ hlen hne hef fun x' h' tk hP ho hs' hT hsz hk => ?_
    have ex : x' = u := by
      have h1 : its.toArray[i]? = some x' := hP
      have h2 : its.toArray[i]? = some u := by simpa using hu
      exact Option.some.inj (h1.symm.trans h2)
    subst ex
    refine ⟨_, rfl, wpAny_letOwnedTupleGo_enum (s := { s with heap := h', toks := tk + 1 }) ho fun h'' he' sb => ?_⟩
    have hT2 : h''.get? s.heap.objs.size = some { cls := .type "tuple", data := .seq #[.int i tk, x'] } := (sb.2 _ (Nat.ne_of_gt hel)).trans hT
    have new : ObjOk X.prog X.w (upd H s.heap.objs.size (.tup [.int (i : Nat), x])) h'' s.heap.objs.size (.tup [.int (i : Nat), x]) :=
      ⟨by show 2 ≤ sizeLine; decide, [.int i tk, x'], .cons ⟨_, rfl⟩ (.cons ru .nil), ⟨_, hT2, rfl, _, rfl⟩⟩
    have I1 : Inv X pins σ (upd H s.heap.objs.size (.tup [.int (i : Nat), x])) { s with heap := h'', toks := tk + 1 } :=
      I.turnedNew (ch := [e, it]) (fun b ob hb q => (sb.2 b (fun z => hb (by simp [z]))).trans (hk b ob (fun z => hb (by simp [z])) (fun z => hb (by simp [z])) q)) hf (Nat.le_refl _) new
    refine ⟨.ref s.heap.objs.size, _, I1, rfl, ⟨_, x, rfl, I.hok.fresh (Nat.le_refl _), rfl, fun ys hy => by rw [I.tuple_inj hy hq]; exact hx⟩, ⟨⟨x', ?_⟩, hs'.1.at fun o q => (sb.2 it (Ne.symm hne)).trans q, hne⟩, fun b hb => ?_⟩
    · have e1 : ((i + 1 : Nat) : Int) = (i : Int) + 1 := by omega
      rw [e1]; exact he'
    · have hb' : b < s.heap.objs.size := by
        have e' : b = e ∨ b = it := by simpa using hb
        rcases e' with z | z
        · rw [z]; exact hel
        · rw [z]; exact hil
      rw [upd_ne (Nat.ne_of_lt hb')]
      exact (hf b hb).1
  done := by
    intro X hP hw hK hc i pins s σ H E I hf st hg
    subst hP hw hK
    obtain ⟨⟨old, he⟩, hit, hne⟩ := st
    obtain ⟨xs, hq, hx⟩ := hg
    obtain ⟨its, rv, p, hz⟩ := I.tuple hq
    obtain ⟨f0, f1, f2, f3, f4, f5⟩ := hf it (by simp)
    have hl := rv.length
    have hT : s.TypeIs (.ref e) "enumerate" := ⟨_, he, rfl⟩
    unfold pyNext
    refine wpAny_bind (wpAny_attempt (wpAny_callSpecial?_slot (name := Str.ofString "__next__") hT F.slot_enumerate_next
      (wpAny_call_entry F.slot_enumerate_next hT F.entry_enumerate_next ?_ (F.args_enumerate_next_1 _))))
    show wpAny _ _ (field (.ref e) 2 >>= _) _ _ _
    refine wpAny_bind (wpAny_field he rfl (x := .ref it) rfl ?_)
    refine wpAny_bind (wpAny_nextOf_tuple_end (A := X.A.in1) (I.ok.hd hc) hit (show s.heap.IsTuple a its.toArray from p) (by simp; omega) fun h' x he' hx' => ?_)
    obtain ⟨o, ho, hc'⟩ := hx'
    refine wpAny_bind (wpAny_isInstance (T := "StopIteration") (b := true) ⟨o, ho, hc'⟩ isSubtype_stop ?_)
    exact wpAny_pure ⟨rfl, I.turned (t' := s.toks) (fun b o hb q => he' b o hb q) f0 f1 f3 f4 f5⟩
  self := fun A i s Q E st h => let ⟨⟨_, he⟩, _⟩ := st; wpAny_pyIter_enum he h
def iEnumT (K : PySem.W.Frag) (ta : TA) : TI := fun σ H R => ta σ H fun vs H1 => ∃ a xs, vs = [.ref a] ∧ SqT K H1 a xs ∧ R (ItnT K a) H1
theorem pi_enumT {X : Cx} {e : Expr} {ta : TA} {p pos tpos : Pos} {elts : List Expr} {kk : Nat} (hg : Gl X "enumerate") (hm : X.mg "enumerate" = none) (ha : PA X [e] ta) (hs : starEach [e] X.env = [(false, eval e X.env)] := by rfl) :
    PI X (.Tuple elts kk tpos) (.Call (.Name "enumerate" p) [e] [] pos) (iEnumT X.K ta) := by
  refine ⟨fun pins s σ H R I h => ?_⟩
  refine Call_ (ld_blt I hg hm boot_enumerate (PyProof.Rows.callWith_type1 (thn (ha.run pos pins s σ H _ I h) fun us s1 ⟨vs, H1, I1, r1, q1⟩ => ?_) hs rfl))
  obtain ⟨a, xs, ex, hq, q⟩ := q1
  subst ex
  cases r1 with
  | cons r rr =>
    cases rr
    cases r
    obtain ⟨its, rv, p', hz⟩ := I1.tuple hq
    have la : a < s1.heap.objs.size := by obtain ⟨o, ho, _⟩ := id p'; exact Heap.lt_size ho
    refine enum_begins1 (begins_tuple a its.toArray) (show s1.heap.IsTuple a its.toArray from p') fun h' he hit hsz hk => wpAny_pyIter_enum he ?_
    have I2 : Inv X pins σ H1 { s1 with heap := h' } := I1.kept (t' := s1.toks) hk
    refine ⟨s1.heap.objs.size + 1, [s1.heap.objs.size + 1, s1.heap.objs.size], _, _, H1, rfl, I2, turn_enumT a (s1.heap.objs.size + 1) s1.heap.objs.size (Nat.ne_of_gt (Nat.lt_succ_of_lt la)) (Nat.ne_of_lt la), ⟨⟨.none, he⟩, ⟨_, hit, rfl, rfl⟩, Nat.succ_ne_self _⟩, fun b hb => ?_, q⟩
    have e' : b = s1.heap.objs.size + 1 ∨ b = s1.heap.objs.size := by simpa using hb
    have hle : s1.heap.objs.size ≤ b := by
      rcases e' with z | z
      · rw [z]; exact Nat.le_add_right _ _
      · rw [z]; exact Nat.le_refl _
    exact I1.fpOk hle (I1.hok.fresh hle)

/-! ### a walk over data -/
/-- J draws xs wherever the frozen part holds -/
def ItOk (K : PySem.W.Frag) (F : Hp) (J : It) (xs : List D) : Prop :=
  (∀ i H, Same F H → i < xs.length → J.go i H) ∧ (∀ i H, Same F H → xs.length ≤ i → J.stop i H) ∧
  ∀ i H x H', i < xs.length → Same F H → J.yld i H x H' → ∃ d, xs[i]? = some d ∧ ((H' = H ∧ Dp K F x d) ∨ ∃ T vs ds, x = .ref T ∧ H T = none ∧ H' = upd H T (.tup vs) ∧ DpAll K F vs ds ∧ d = .tuple ds)
def tDI (K : PySem.W.Frag) (N : EN) (z : Z) (xs : List D) (z' : Z) : TI := fun σ H R => ∃ F α, Fr K N F α z σ H ∧ ∀ J F' α' H', On F F' α α' → Fr K N F' α' z' σ H' → ItOk K F' J xs → R J H'
abbrev DI (X : Cx) (N : EN) (z : Z) (tg e : Expr) (xs : List D) (z' : Z) : Prop := PI X tg e (tDI X.K N z xs z')
section
variable {X : Cx} {N : EN} {z z1 z2 z3 : Z} {pos p : Pos} {tg e e2 : Expr}
theorem PI.to {t t' : TI} (h : PI X tg e t) (w : ∀ σ H R, t' σ H R → t σ H R) : PI X tg e t' := ⟨fun pins s σ H R I q => h.run pins s σ H R I (w _ _ _ q)⟩
theorem SqT_of_dp {K : PySem.W.Frag} {F H : Hp} {v : V} {ds : List D} (h : Dp K F v (.tuple ds)) (e : Same F H) : ∃ a xs, v = .ref a ∧ SqT K H a xs ∧ SqT K F a xs ∧ DpAll K F xs ds := by
  cases h with
  | tup hs ha => exact ⟨_, _, rfl, same_t e hs, hs, ha⟩
theorem SqL_of_dp {K : PySem.W.Frag} {F H : Hp} {v : V} {ds : List D} (h : Dp K F v (.list ds)) (e : Same F H) : ∃ a xs, v = .ref a ∧ SqL K H a xs ∧ SqL K F a xs ∧ DpAll K F xs ds := by
  cases h with
  | lst hs ha => exact ⟨_, _, rfl, e.seq hs, hs, ha⟩
theorem itok_list {K : PySem.W.Frag} {F : Hp} {a : Addr} {xs : List V} {ds : List D} (hs : SqL K F a xs) (ha : DpAll K F xs ds) : ItOk K F (Itl K a) ds := by
  have hl := DpAll.len ha
  refine ⟨fun i H e hi => ⟨xs, xs[i]'(by omega), e.seq hs, by simp [show i < xs.length by omega]⟩, fun i H e hi => ⟨xs, e.seq hs, by omega⟩, fun i H x H' hi e ⟨e1, y⟩ => ?_⟩
  obtain ⟨d, h1, h2⟩ := DpAll.getV ha (y xs (e.seq hs))
  exact ⟨d, h1, .inl ⟨e1, h2⟩⟩
theorem itok_tup {K : PySem.W.Frag} {F : Hp} {a : Addr} {xs : List V} {ds : List D} (hs : SqT K F a xs) (ha : DpAll K F xs ds) : ItOk K F (Itt K a) ds := by
  have hl := DpAll.len ha
  refine ⟨fun i H e hi => ⟨xs, xs[i]'(by omega), same_t e hs, by simp [show i < xs.length by omega]⟩, fun i H e hi => ⟨xs, same_t e hs, by omega⟩, fun i H x H' hi e ⟨e1, y⟩ => ?_⟩
  obtain ⟨d, h1, h2⟩ := DpAll.getV ha (y xs (same_t e hs))
  exact ⟨d, h1, .inl ⟨e1, h2⟩⟩
/-- a list, a tuple, by data -/
theorem di_list {xs : List D} (h : DE X N z e (.d (.list xs)) z1) : DI X N z tg e xs z1 :=
  PI.to (pi_list h) fun σ H R ⟨F, α, fr, q⟩ => ⟨F, α, fr, fun v F1 α1 H1 o1 fr1 d1 => by
    obtain ⟨a, vs, rfl, h1, h2, h3⟩ := SqL_of_dp (d1 : Dp X.K F1 v (.list xs)) fr1.sub
    exact ⟨a, rfl, ⟨vs, h1⟩, q _ F1 α1 H1 o1 fr1 (itok_list h2 h3)⟩⟩
theorem di_tup {xs : List D} (h : DE X N z e (.d (.tuple xs)) z1) : DI X N z tg e xs z1 :=
  PI.to (pi_tup h) fun σ H R ⟨F, α, fr, q⟩ => ⟨F, α, fr, fun v F1 α1 H1 o1 fr1 d1 => by
    obtain ⟨a, vs, rfl, h1, h2, h3⟩ := SqT_of_dp (d1 : Dp X.K F1 v (.tuple xs)) fr1.sub
    exact ⟨a, rfl, ⟨vs, h1⟩, q _ F1 α1 H1 o1 fr1 (itok_tup h2 h3)⟩⟩
/-- lo, lo + 1, .. -/
def rngD (lo : Int) (n : Nat) : List D := (List.range n).map fun i => PyData.int (lo + (i : Nat))
theorem rngD_len (lo : Int) (n : Nat) : (rngD lo n).length = n := by simp [rngD]
theorem rngD_get {lo : Int} {n i : Nat} (h : i < n) : (rngD lo n)[i]? = some (.int (lo + (i : Nat))) := by simp [rngD, h]
theorem itok_range {K : PySem.W.Frag} {F : Hp} {lo : Int} {n : Nat} : ItOk K F (Itr lo n) (rngD lo n) := by
  refine ⟨fun i H e hi => by rw [rngD_len] at hi; exact hi, fun i H e hi => by rw [rngD_len] at hi; exact hi, fun i H x H' hi e y => ?_⟩
  rw [rngD_len] at hi
  obtain ⟨e1, rfl⟩ := y
  exact ⟨_, rngD_get hi, .inl ⟨e1, .int _⟩⟩
theorem di_range1 {a : Expr} {j : Int} (hg : Gl X "range") (hm : X.mg "range" = none) (h : DE X N z a (.d (.int j)) z1) (h1 : -(2 ^ 62) ≤ j) (h2 : j < 2 ^ 62) (hs : starEach [a] X.env = [(false, eval a X.env)] := by rfl) :
    DI X N z tg (.Call (.Name "range" p) [a] [] pos) (rngD 0 j.toNat) z1 :=
  PI.to (pi_range1 hg hm (da_cons h da_nil hs) hs) fun σ H R ⟨F, α, fr, q⟩ => ⟨F, α, fr, fun vs F1 α1 H1 o1 fr1 d1 => by
    cases d1 with
    | cons r t =>
      cases t
      cases r
      exact ⟨j, rfl, h1, h2, q _ F1 α1 H1 o1 fr1 itok_range⟩⟩
theorem di_range2 {a b : Expr} {i j : Int} (hg : Gl X "range") (hm : X.mg "range" = none) (h : DE X N z a (.d (.int i)) z1) (hb : DE X N z1 b (.d (.int j)) z2) (hc : -(2 ^ 62) ≤ i ∧ i < 2 ^ 62 ∧ -(2 ^ 62) ≤ j ∧ j < 2 ^ 62)
    (hs : starEach [a, b] X.env = [(false, eval a X.env), (false, eval b X.env)] := by rfl) (hs2 : starEach [b] X.env = [(false, eval b X.env)] := by rfl) (hs3 : starEach [a, b] X.env = (false, eval a X.env) :: starEach [b] X.env := by rfl) :
    DI X N z tg (.Call (.Name "range" p) [a, b] [] pos) (rngD i (j - i).toNat) z2 :=
  PI.to (pi_range2 hg hm (da_cons h (da_cons hb da_nil hs2) hs3) hs hs2) fun σ H R ⟨F, α, fr, q⟩ => ⟨F, α, fr, fun vs F1 α1 H1 o1 fr1 d1 => by
    cases d1 with
    | cons r t =>
      cases t with
      | cons r' t =>
        cases t
        cases r
        cases r'
        exact ⟨i, j, rfl, hc, q _ F1 α1 H1 o1 fr1 itok_range⟩⟩
/-- (0, x0), (1, x1), .. -/
def enumD (xs : List D) : List D := xs.mapIdx fun i x => .tuple [.int (i : Nat), x]
theorem enumD_len (xs : List D) : (enumD xs).length = xs.length := by simp [enumD]
theorem enumD_get {xs : List D} {i : Nat} {x : D} (h : xs[i]? = some x) : (enumD xs)[i]? = some (.tuple [.int (i : Nat), x]) := by simp [enumD, h]
variable {elts : List Expr} {kk : Nat} {tpos : Pos}
theorem di_enumL {xs : List D} (hg : Gl X "enumerate") (hm : X.mg "enumerate" = none) (h : DE X N z e (.d (.list xs)) z1) (hs : starEach [e] X.env = [(false, eval e X.env)] := by rfl) :
    DI X N z (.Tuple elts kk tpos) (.Call (.Name "enumerate" p) [e] [] pos) (enumD xs) z1 :=
  PI.to (pi_enum hg hm (da_cons h da_nil hs) hs) fun σ H R ⟨F, α, fr, q⟩ => ⟨F, α, fr, fun vs F1 α1 H1 o1 fr1 d1 => by
    cases d1 with
    | cons r t =>
      cases t
      obtain ⟨a, vs, rfl, h1, h2, h3⟩ := SqL_of_dp r fr1.sub
      refine ⟨a, vs, rfl, h1, q _ F1 α1 H1 o1 fr1 ?_⟩
      have hl := DpAll.len h3
      refine ⟨fun i H e hi => ⟨vs, vs[i]'(by rw [enumD_len] at hi; omega), e.seq h2, by simp [show i < vs.length by rw [enumD_len] at hi; omega]⟩, fun i H e hi => ⟨vs, e.seq h2, by rw [enumD_len] at hi; omega⟩, fun i H x H' hi e y => ?_⟩
      obtain ⟨T, x1, e1, e2, e3, y⟩ := y
      obtain ⟨d, g1, g2⟩ := DpAll.getV h3 (y vs (e.seq h2))
      exact ⟨_, enumD_get g1, .inr ⟨T, _, _, e1, e2, e3, .cons (.int _) (.cons g2 .nil), rfl⟩⟩⟩
theorem di_enumT {xs : List D} (hg : Gl X "enumerate") (hm : X.mg "enumerate" = none) (h : DE X N z e (.d (.tuple xs)) z1) (hs : starEach [e] X.env = [(false, eval e X.env)] := by rfl) :
    DI X N z (.Tuple elts kk tpos) (.Call (.Name "enumerate" p) [e] [] pos) (enumD xs) z1 :=
  PI.to (pi_enumT hg hm (da_cons h da_nil hs) hs) fun σ H R ⟨F, α, fr, q⟩ => ⟨F, α, fr, fun vs F1 α1 H1 o1 fr1 d1 => by
    cases d1 with
    | cons r t =>
      cases t
      obtain ⟨a, vs, rfl, h1, h2, h3⟩ := SqT_of_dp r fr1.sub
      refine ⟨a, vs, rfl, h1, q _ F1 α1 H1 o1 fr1 ?_⟩
      have hl := DpAll.len h3
      refine ⟨fun i H e hi => ⟨vs, vs[i]'(by rw [enumD_len] at hi; omega), same_t e h2, by simp [show i < vs.length by rw [enumD_len] at hi; omega]⟩, fun i H e hi => ⟨vs, same_t e h2, by rw [enumD_len] at hi; omega⟩, fun i H x H' hi e y => ?_⟩
      obtain ⟨T, x1, e1, e2, e3, y⟩ := y
      obtain ⟨d, g1, g2⟩ := DpAll.getV h3 (y vs (same_t e h2))
      exact ⟨_, enumD_get g1, .inr ⟨T, _, _, e1, e2, e3, .cons (.int _) (.cons g2 .nil), rfl⟩⟩⟩
/-- (x0, y0), (x1, y1), .. -/
def zipD (xs ys : List D) : List D := (xs.zip ys).map fun p => .tuple [p.1, p.2]
theorem zipD_len (xs ys : List D) : (zipD xs ys).length = min xs.length ys.length := by simp [zipD]
theorem zipD_get {xs ys : List D} {i : Nat} {x y : D} (h : xs[i]? = some x) (h' : ys[i]? = some y) : (zipD xs ys)[i]? = some (.tuple [x, y]) := by
  have e : (xs.zip ys)[i]? = some (x, y) := List.getElem?_zip_eq_some.mpr ⟨h, h'⟩
  unfold zipD
  rw [List.getElem?_map, e]
  rfl
theorem di_zipT {xs ys : List D} (hg : Gl X "zip") (hm : X.mg "zip" = none) (h : DE X N z e (.d (.tuple xs)) z1) (h' : DE X N z1 e2 (.d (.tuple ys)) z2)
    (hs : starEach [e, e2] X.env = (false, eval e X.env) :: starEach [e2] X.env := by rfl) (hs2 : starEach [e2] X.env = (false, eval e2 X.env) :: starEach [] X.env := by rfl) (hpl : (backTo pos (starEach [e2] X.env)).any (·.1) = false := by rfl) :
    DI X N z (.Tuple elts kk tpos) (.Call (.Name "zip" p) [e, e2] [] pos) (zipD xs ys) z2 :=
  PI.to (RZ.pi_zipA hg hm (da_cons h (da_cons h' da_nil hs2) hs) hs hpl) fun σ H R ⟨F, α, fr, q⟩ => ⟨F, α, fr, fun vs F1 α1 H1 o1 fr1 d1 => by
    cases d1 with
    | cons r t =>
      cases t with
      | cons r' t =>
        cases t
        obtain ⟨a, vs, rfl, h1, h2, h3⟩ := SqT_of_dp r fr1.sub
        obtain ⟨b, ws, rfl, k1, k2, k3⟩ := SqT_of_dp r' fr1.sub
        refine ⟨a, b, vs, ws, rfl, .inr ⟨h1, k1, q _ F1 α1 H1 o1 fr1 ?_⟩⟩
        have hl := DpAll.len h3
        have kl := DpAll.len k3
        refine ⟨fun i H e hi => ?_, fun i H e hi => ⟨vs, ws, same_t e h2, same_t e k2, by rw [zipD_len] at hi; omega⟩, fun i H x H' hi e y => ?_⟩
        · rw [zipD_len] at hi
          exact ⟨vs, ws, vs[i]'(by omega), ws[i]'(by omega), same_t e h2, same_t e k2, by simp [show i < vs.length by omega], by simp [show i < ws.length by omega]⟩
        · obtain ⟨T, x1, y1, e1, e2, e3, f1, f2⟩ := y
          obtain ⟨d, g1, g2⟩ := DpAll.getV h3 (f1 vs (same_t e h2))
          obtain ⟨d', g1', g2'⟩ := DpAll.getV k3 (f2 ws (same_t e k2))
          exact ⟨_, zipD_get g1 g1', .inr ⟨T, _, _, e1, e2, e3, .cons g2 (.cons g2' .nil), rfl⟩⟩⟩
theorem di_zipL {xs ys : List D} (hg : Gl X "zip") (hm : X.mg "zip" = none) (h : DE X N z e (.d (.list xs)) z1) (h' : DE X N z1 e2 (.d (.list ys)) z2)
    (hs : starEach [e, e2] X.env = (false, eval e X.env) :: starEach [e2] X.env := by rfl) (hs2 : starEach [e2] X.env = (false, eval e2 X.env) :: starEach [] X.env := by rfl) (hpl : (backTo pos (starEach [e2] X.env)).any (·.1) = false := by rfl) :
    DI X N z (.Tuple elts kk tpos) (.Call (.Name "zip" p) [e, e2] [] pos) (zipD xs ys) z2 :=
  PI.to (RZ.pi_zipA hg hm (da_cons h (da_cons h' da_nil hs2) hs) hs hpl) fun σ H R ⟨F, α, fr, q⟩ => ⟨F, α, fr, fun vs F1 α1 H1 o1 fr1 d1 => by
    cases d1 with
    | cons r t =>
      cases t with
      | cons r' t =>
        cases t
        obtain ⟨a, vs, rfl, h1, h2, h3⟩ := SqL_of_dp r fr1.sub
        obtain ⟨b, ws, rfl, k1, k2, k3⟩ := SqL_of_dp r' fr1.sub
        refine ⟨a, b, vs, ws, rfl, .inl ⟨h1, k1, q _ F1 α1 H1 o1 fr1 ?_⟩⟩
        have hl := DpAll.len h3
        have kl := DpAll.len k3
        refine ⟨fun i H e hi => ?_, fun i H e hi => ⟨vs, ws, e.seq h2, e.seq k2, by rw [zipD_len] at hi; omega⟩, fun i H x H' hi e y => ?_⟩
        · rw [zipD_len] at hi
          exact ⟨vs, ws, vs[i]'(by omega), ws[i]'(by omega), e.seq h2, e.seq k2, by simp [show i < vs.length by omega], by simp [show i < ws.length by omega]⟩
        · obtain ⟨T, x1, y1, e1, e2, e3, f1, f2⟩ := y
          obtain ⟨d, g1, g2⟩ := DpAll.getV h3 (f1 vs (e.seq h2))
          obtain ⟨d', g1', g2'⟩ := DpAll.getV k3 (f2 ws (e.seq k2))
          exact ⟨_, zipD_get g1 g1', .inr ⟨T, _, _, e1, e2, e3, .cons g2 (.cons g2' .nil), rfl⟩⟩⟩
end

/-! ### targets -/
theorem wipe_in {σ : L2.St} {i : Nat} : ∀ {vs : List Nat}, i ∈ vs → (L2.wipe σ vs)[i]? = if i < σ.length then some none else none
  | v :: vs, h => by
    show ((L2.wipe σ vs).set v none)[i]? = _
    by_cases hv : v = i
    · subst hv
      by_cases hl : v < σ.length
      · rw [List.getElem?_set_self (by rw [L2.wipe_length]; exact hl), if_pos hl]
      · rw [if_neg hl, List.getElem?_eq_none (by rw [List.length_set, L2.wipe_length]; omega)]
    · rw [List.getElem?_set_ne hv]
      rcases List.mem_cons.mp h with e | h
      · exact absurd e.symm hv
      · exact wipe_in h
theorem wipe_eq {σ σ' : L2.St} {vs : List Nat} (hl : σ.length = σ'.length) (h : ∀ i, i ∉ vs → σ[i]? = σ'[i]?) : L2.wipe σ vs = L2.wipe σ' vs := by
  apply List.ext_getElem?
  intro i
  by_cases hi : i ∈ vs
  · rw [wipe_in hi, wipe_in hi, hl]
  · rw [L2.wipe_out hi, L2.wipe_out hi]
    exact h i hi
theorem wipe_wipe {σ : L2.St} {vs : List Nat} : L2.wipe (L2.wipe σ vs) vs = L2.wipe σ vs := wipe_eq (L2.wipe_length _ _) fun _ h => L2.wipe_out h
/-- the target stores d: the state goes from z to f d z, where ok d; the slots that it stores are is -/
structure GD (K : PySem.W.Frag) (g : TG) (f : D → List Sl → List Sl) (ok : D → Prop) (is : List Nat) : Prop where
  run : ∀ (N : EN) (F : Hp) (α : List Addr) (z : Z) (σ : L2.St) (H : Hp) (v : V) (d : D) (Q : L2.St → Hp → Prop), Fr K N F α z σ H → Dp K F v d → ok d →
    (∀ σ', Fr K N F α ⟨f d z.s, z.o⟩ σ' H → σ'.length = σ.length → (∀ i, i ∉ is → σ'[i]? = σ[i]?) → Q σ' H) → g v σ H Q
theorem gd_name {K : PySem.W.Frag} (i : Nat) : GD K (gName i) (fun d s => s.set i (.d d)) (fun _ => True) [i] :=
  ⟨fun N F α z σ H v d Q fr hd _ q => q _ (fr.setD (s := .d d) ⟨v, rfl, hd⟩) (by simp) fun j hj => List.getElem?_set_ne (by simp at hj; exact fun e => hj e.symm)⟩
/-- a tuple of names -/
def setAll : List Nat → List D → List Sl → List Sl
  | i :: is, d :: ds, s => setAll is ds (s.set i (.d d))
  | _, _, s => s
structure GsD (K : PySem.W.Frag) (g : TGs) (is : List Nat) : Prop where
  run : ∀ (N : EN) (F : Hp) (α : List Addr) (z : Z) (σ : L2.St) (H : Hp) (vs : List V) (ds : List D) (Q : L2.St → Hp → Prop), Fr K N F α z σ H → DpAll K F vs ds → ds.length = is.length →
    (∀ σ', Fr K N F α ⟨setAll is ds z.s, z.o⟩ σ' H → σ'.length = σ.length → (∀ i, i ∉ is → σ'[i]? = σ[i]?) → Q σ' H) → g vs σ H Q
theorem gsd_nil {K : PySem.W.Frag} : GsD K gNil [] := ⟨fun N F α z σ H vs ds Q fr hd hl q => by
  cases hd with
  | nil => exact ⟨rfl, q σ fr rfl fun _ _ => rfl⟩
  | cons _ _ => cases hl⟩
theorem gsd_cons {K : PySem.W.Frag} {i : Nat} {u : TGs} {is : List Nat} (h : GsD K u is) : GsD K (gCons (gName i) u) (i :: is) := ⟨fun N F α z σ H vs ds Q fr hd hl q => by
  cases hd with
  | nil => cases hl
  | cons r t => exact ⟨_, _, rfl, h.run N F α _ _ H _ _ Q (fr.setD (s := .d _) ⟨_, rfl, r⟩) t (by simpa using hl) fun σ' fr' hl' hi' => q σ' fr' (by rw [hl', List.length_set]) fun j hj => by
      rw [hi' j fun h => hj (List.mem_cons_of_mem _ h)]
      exact List.getElem?_set_ne fun e => hj (by rw [e]; exact List.mem_cons_self)⟩⟩
def tupIs (n : Nat) (d : D) : Prop := ∃ ds, d = .tuple ds ∧ ds.length = n
def setTup (is : List Nat) : D → List Sl → List Sl
  | .tuple ds, s => setAll is ds s
  | _, s => s
theorem gd_tup {K : PySem.W.Frag} {u : TGs} {is : List Nat} {n : Nat} (h : GsD K u is) (hn : is.length = n := by rfl) : GD K (gTup K n u) (setTup is) (tupIs n) is := ⟨fun N F α z σ H v d Q fr hd hok q => by
  obtain ⟨ds, rfl, hl⟩ := hok
  obtain ⟨a, vs, rfl, h1, h2, h3⟩ := SqT_of_dp hd fr.sub
  exact ⟨a, vs, rfl, h1, (DpAll.len h3).trans hl, h.run N F α z σ H vs ds Q fr h3 (hl.trans hn.symm) q⟩⟩
end DL
/-! DL4: statements, loops, comprehensions, calls -/
namespace DL
open PySem PySem.Spec PyProof.Rows L2

section
variable {X : Cx} {N : EN} {z z1 z2 z3 : Z} {pos p : Pos} {tg e e2 iter : Expr} {nx : Z → Prop} {rt : Rs → Z → Prop} {rest body orelse : List Stmt} {st : Stmt}
/-! ### statements -/
theorem ds_nil (h : nx z) : DS X N z [] nx rt := PSs.to pss_nil fun E σ H ⟨F, α, fr, q, _⟩ => q σ F α H z (Same.refl F) fr h
/-- forgetting, ahead of statements -/
theorem ds_weak (w : Wk z z1) (hp : N.pa.length ≤ z1.o.length) (hs : ∀ (i k : Nat), z1.s[i]? = some (.ptr k) → k < z1.o.length) (h : DS X N z1 rest nx rt) : DS X N z rest nx rt :=
  PSs.to h fun E σ H ⟨F, α, fr, q, r⟩ => ⟨F, _, fr.weak w hp hs, q, r⟩
theorem ds_imp {nx' : Z → Prop} {rt' : Rs → Z → Prop} (h : DS X N z rest nx rt) (h1 : ∀ z, nx z → nx' z) (h2 : ∀ r z, rt r z → rt' r z) : DS X N z rest nx' rt' :=
  PSs.to h fun E σ H ⟨F, α, fr, q, r⟩ => ⟨F, α, fr, fun σ' F' α' H' z' a b c => q σ' F' α' H' z' a b (h1 _ c), fun v σ' F' α' H' rr z' a b c d => r v σ' F' α' H' rr z' a b c (h2 _ _ d)⟩
theorem ds_cons {mid : Z → Prop} (h1 : D1 X N z st mid rt) (h2 : ∀ z', mid z' → DS X N z' rest nx rt) : DS X N z (st :: rest) nx rt :=
  PSs.to (pss_cons h1 (PSs.some fun (w : { z' // mid z' }) => h2 w.1 w.2)) fun E σ H ⟨F, α, fr, q, r⟩ => ⟨F, α, fr,
    fun σ' F' α' H' z' o' fr' m => ⟨⟨z', m⟩, F', α', fr', fun σ2 F2 α2 H2 z2 o2 => q σ2 F2 α2 H2 z2 (o'.trans o2), fun v σ2 F2 α2 H2 rr z2 o2 => r v σ2 F2 α2 H2 rr z2 (o'.trans o2)⟩, r⟩
theorem ds_last (h1 : D1 X N z st nx rt) : DS X N z [st] nx rt := ds_cons h1 fun z' h => ds_nil h
/-- an expression dropped -/
theorem d1_expr {r : Rs} (he : DE X N z e r z1) (h : nx z1) (hs : swapsWith e none pos.line X.env = pure false := by rfl) : D1 X N z (.Expr e pos) nx rt :=
  PS.to (ps_expr he hs) fun E σ H ⟨F, α, fr, q, _⟩ => ⟨F, α, fr, fun v F1 α1 H1 o1 fr1 d1 => q σ F1 α1 H1 z1 o1.f fr1 h⟩
theorem d1_ret {r : Rs} (he : DE X N z e r z1) (h : rt r z1) : D1 X N z (.Return (some e) pos) nx rt :=
  PS.to (ps_ret he) fun E σ H ⟨F, α, fr, _, q⟩ => ⟨F, α, fr, fun v F1 α1 H1 o1 fr1 d1 => q v σ F1 α1 H1 r z1 o1.f fr1 d1 h⟩
theorem d1_retN (h : rt (.d .none) z) : D1 X N z (.Return none pos) nx rt :=
  PS.to ps_retN fun E σ H ⟨F, α, fr, _, q⟩ => q .non σ F α H (.d .none) z (Same.refl F) fr .non h
def rsSl : Rs → Sl | .d x => .d x | .ptr k => .ptr k
theorem RsOk.sl {K : PySem.W.Frag} {F : Hp} {α : List Addr} {r : Rs} {v : V} (h : RsOk K F α r v) : SlOk K F α (rsSl r) (some (some v)) := by
  cases r with
  | d x => exact ⟨v, rfl, h⟩
  | ptr k => obtain ⟨a, e1, rfl⟩ := h; exact ⟨a, e1, rfl⟩
/-- name = e -/
theorem d1_set {i : Nat} {x : Str} {pos' : Pos} {r : Rs} (hN : X.N.Nodup) (hi : X.N[i]? = some x) (hx : Loc X.env.scope x) (he : DE X N z e r z1) (h : nx ⟨z1.s.set i (rsSl r), z1.o⟩) (hs : swapsWith e (some (.Name x pos')) pos.line X.env = pure false := by rfl)
    (hf : X.fn x = true ∨ X.env.scope.names.lookup x = some .local := by first | exact .inl rfl | exact .inr rfl | assumption) : D1 X N z (.Assign [.Name x pos'] e pos) nx rt :=
  PS.to (ps_set hN hi hx he hs hf) fun E σ H ⟨F, α, fr, q, _⟩ => ⟨F, α, fr, fun v F1 α1 H1 o1 fr1 d1 => q _ F1 α1 H1 _ o1.f (fr1.setD d1.sl) h⟩
/-- a target by data -/
theorem d1_asg {g : TG} {f : D → List Sl → List Sl} {ok : D → Prop} {is : List Nat} {x : D} (he : DE X N z e (.d x) z1) (hg : PG X tg g) (gd : GD X.K g f ok is) (hok : ok x) (h : nx ⟨f x z1.s, z1.o⟩)
    (hs : swapsWithSole [tg] e pos.line X.env = pure false := by rfl) (hw : swappedStores [tg] e X.env = pure none := by rfl) (h1 : (assignEach [tg] X.env).map (·.2) = [assign tg X.env] := by rfl) : D1 X N z (.Assign [tg] e pos) nx rt :=
  PS.to (ps_asg he hg hs hw h1) fun E σ H ⟨F, α, fr, q, _⟩ => ⟨F, α, fr, fun v F1 α1 H1 o1 fr1 d1 => gd.run N F1 α1 z1 σ H1 v x _ fr1 d1 hok fun σ' fr' _ _ => q σ' F1 α1 H1 _ o1.f fr' h⟩
/-- a, b = x, y of plain locals -/
theorem d1_par {i j : Nat} {x y : Str} {a b : Expr} {u w : D} {px py pt : Pos} {kt k2 pt2} (hc : X.calm = true) (hN : X.N.Nodup) (hi : X.N[i]? = some x) (hj : X.N[j]? = some y) (hij : i ≠ j)
    (hx : X.env.scope.names.lookup x = some .local) (hy : X.env.scope.names.lookup y = some .local) (ha : DAd X N z [a, b] [u, w] z1)
    (hw : swappedStores [.Tuple [.Name x px, .Name y py] kt pt] (.Tuple [a, b] k2 pt2) X.env = pure (some [x, y])) (h : nx ⟨(z1.s.set i (.d u)).set j (.d w), z1.o⟩)
    (hs : swapsWithSole [.Tuple [.Name x px, .Name y py] kt pt] (.Tuple [a, b] k2 pt2) pos.line X.env = pure false := by rfl) : D1 X N z (.Assign [.Tuple [.Name x px, .Name y py] kt pt] (.Tuple [a, b] k2 pt2) pos) nx rt :=
  PS.to (ps_par hc hN hi hj hij hx hy ha hw hs) fun E σ H ⟨F, α, fr, q, _⟩ => ⟨F, α, fr, fun vs F1 α1 H1 o1 fr1 d1 => by
    cases d1 with
    | cons r1 t =>
      cases t with
      | cons r2 t =>
        cases t
        exact ⟨_, _, rfl, q _ F1 α1 H1 _ o1.f ((fr1.setD (s := .d u) ⟨_, rfl, r1⟩).setD (s := .d w) ⟨_, rfl, r2⟩) h⟩⟩
theorem d1_par3 {i j l : Nat} {x y w : Str} {a b c : Expr} {u1 u2 u3 : D} {px py pw pt : Pos} {kt k2 pt2} (hc : X.calm = true) (hN : X.N.Nodup) (hi : X.N[i]? = some x) (hj : X.N[j]? = some y) (hl : X.N[l]? = some w) (hij : i ≠ j) (hil : i ≠ l) (hjl : j ≠ l)
    (hx : X.env.scope.names.lookup x = some .local) (hy : X.env.scope.names.lookup y = some .local) (hz : X.env.scope.names.lookup w = some .local) (ha : DAd X N z [a, b, c] [u1, u2, u3] z1)
    (hw : swappedStores [.Tuple [.Name x px, .Name y py, .Name w pw] kt pt] (.Tuple [a, b, c] k2 pt2) X.env = pure (some [x, y, w])) (h : nx ⟨((z1.s.set i (.d u1)).set j (.d u2)).set l (.d u3), z1.o⟩)
    (hs : swapsWithSole [.Tuple [.Name x px, .Name y py, .Name w pw] kt pt] (.Tuple [a, b, c] k2 pt2) pos.line X.env = pure false := by rfl) : D1 X N z (.Assign [.Tuple [.Name x px, .Name y py, .Name w pw] kt pt] (.Tuple [a, b, c] k2 pt2) pos) nx rt :=
  PS.to (ps_par3 hc hN hi hj hl hij hil hjl hx hy hz ha hw hs) fun E σ H ⟨F, α, fr, q, _⟩ => ⟨F, α, fr, fun vs F1 α1 H1 o1 fr1 d1 => by
    cases d1 with
    | cons r1 t =>
      cases t with
      | cons r2 t =>
        cases t with
        | cons r3 t =>
          cases t
          exact ⟨_, _, _, rfl, q _ F1 α1 H1 _ o1.f (((fr1.setD (s := .d u1) ⟨_, rfl, r1⟩).setD (s := .d u2) ⟨_, rfl, r2⟩).setD (s := .d u3) ⟨_, rfl, r3⟩) h⟩⟩
/-- if -/
theorem d1_if {c : Expr} {b : Bool} (hc : DT X N z c b z1) (h1 : b = true → DS X N z1 body nx rt) (h2 : b = false → DS X N z1 orelse nx rt) : D1 X N z (.If c body orelse pos) nx rt :=
  PS.to (ps_if hc (PSs.guard h1) (PSs.guard h2)) fun E σ H ⟨F, α, fr, q, r⟩ => ⟨F, α, fr, fun F1 α1 H1 o1 fr1 => by
    cases b with
    | true => exact ⟨rfl, F1, α1, fr1, fun σ2 F2 α2 H2 z2 o2 => q σ2 F2 α2 H2 z2 (o1.f.trans o2), fun v σ2 F2 α2 H2 rr z2 o2 => r v σ2 F2 α2 H2 rr z2 (o1.f.trans o2)⟩
    | false => exact ⟨rfl, F1, α1, fr1, fun σ2 F2 α2 H2 z2 o2 => q σ2 F2 α2 H2 z2 (o1.f.trans o2), fun v σ2 F2 α2 H2 rr z2 o2 => r v σ2 F2 α2 H2 rr z2 (o1.f.trans o2)⟩⟩
/-- if whose body leaves -/
theorem ds_ifR {c : Expr} {b : Bool} (hc : DT X N z c b z1) (h1 : b = true → DS X N z1 body (fun _ => False) rt) (h2 : b = false → DS X N z1 rest nx rt) : DS X N z (.If c body [] pos :: rest) nx rt :=
  ds_cons (mid := fun z' => b = false ∧ z' = z1) (d1_if hc (fun e => ds_imp (h1 e) (fun _ f => f.elim) fun _ _ h => h) fun e => ds_nil ⟨e, rfl⟩) fun z' ⟨e, e2⟩ => e2 ▸ h2 e
/-- name += e of ints -/
theorem d1_augI {i : Nat} {x : Str} {pos' : Pos} {m n : Int} (hN : X.N.Nodup) (hi : X.N[i]? = some x) (hx : Loc X.env.scope x) (hm : z.s[i]? = some (.d (.int m))) (he : DE X N z e (.d (.int n)) z1) (h : nx ⟨z1.s.set i (.d (.int (m + n))), z1.o⟩)
    (hf : X.fn x = true ∨ X.env.scope.names.lookup x = some .local := by first | exact .inl rfl | exact .inr rfl | assumption) : D1 X N z (.AugAssign (.Name x pos') .Add e pos) nx rt :=
  PS.to (ps_aug hN hi hx he ip_add hf) fun E σ H ⟨F, α, fr, q, _⟩ => by
    obtain ⟨v, e1, d⟩ := fr.sl i _ hm
    cases d
    refine ⟨_, e1, F, α, fr, fun v F1 α1 H1 o1 fr1 d1 => ?_⟩
    cases (d1 : Dp X.K F1 v (.int n))
    exact ⟨m, n, rfl, rfl, q _ F1 α1 H1 _ o1.f (fr1.setD (s := .d (.int (m + n))) ⟨_, rfl, .int _⟩) h⟩

/-! ### for -/
theorem d1_for {xs : List D} {g : TG} {f : D → List Sl → List Sl} {ok : D → Prop} {is : List Nat} (Pv : Nat → Z → Prop) (hp : PassesOwn (model X.prog X.w) X.A X.env X.xe) (hc : X.calm = true) (hi : DI X N z tg iter xs z1) (hg : PG X tg g) (gd : GD X.K g f ok is) (h0 : Pv 0 z1) (hok : ∀ (k : Nat) (d : D), xs[k]? = some d → ok d)
    (hb : ∀ (k : Nat) (d : D) (z : Z), xs[k]? = some d → Pv k z → DS X N ⟨f d z.s, z.o⟩ body (Pv (k + 1)) rt) (hd : ∀ z, Pv xs.length z → nx z)
    (hs : ∀ x, foldedSetIterable iter X.env x = pure x := by intro _; rfl) : D1 X N z (.For tg iter body [] pos) nx rt :=
  PS.to (ps_for hp hc hi hg (PSs.some fun (w : { t : Nat × D × Z // xs[t.1]? = some t.2.1 ∧ Pv t.1 t.2.2 }) => hb w.1.1 w.1.2.1 w.1.2.2 w.2.1 w.2.2) hs) fun E σ H ⟨F, α, fr, qn, qr⟩ => by
    refine ⟨F, α, fr, fun J F1 α1 H1 o1 fr1 ⟨j1, j2, j3⟩ => ?_⟩
    refine ⟨fun i m σ' H' => m = xs.length - i ∧ i ≤ xs.length ∧ ∃ F' α' z', Same F1 F' ∧ Fr X.K N F' α' z' σ' H' ∧ Pv i z', ⟨xs.length, by simp, Nat.zero_le _, F1, α1, z1, Same.refl _, fr1, h0⟩, ?_⟩
    rintro i m σ' H' ⟨rfl, hi', F', α', z', sf, fr', pv⟩
    have sH : Same F1 H' := sf.trans fr'.sub
    by_cases hlt : i < xs.length
    · refine .inr ⟨j1 i H' sH hlt, fun σ2 H2 => ∃ F2 α2 z2, Same F1 F2 ∧ Fr X.K N F2 α2 z2 σ2 H2 ∧ Pv (i + 1) z2, fun σ2 H2 ⟨F2, α2, z2, a, b, c⟩ => ⟨xs.length - (i + 1), by omega, rfl, hlt, F2, α2, z2, a, b, c⟩, fun x H2 y => ?_⟩
      obtain ⟨d, hxd, hy⟩ := j3 i H' x H2 hlt sH y
      have key : ∀ F2 H2, Same F' F2 → Fr X.K N F2 α' z' σ' H2 → Dp X.K F2 x d → g x σ' H2 fun σ2 H3 => ∃ (w : { t : Nat × D × Z // xs[t.1]? = some t.2.1 ∧ Pv t.1 t.2.2 }), tDS X.K N ⟨f w.1.2.1 w.1.2.2.s, w.1.2.2.o⟩ (Pv (w.1.1 + 1)) rt
            { E with nx := fun σ2 H2 => ∃ F2 α2 z2, Same F1 F2 ∧ Fr X.K N F2 α2 z2 σ2 H2 ∧ Pv (i + 1) z2, ct := fun σ2 H2 => ∃ F2 α2 z2, Same F1 F2 ∧ Fr X.K N F2 α2 z2 σ2 H2 ∧ Pv (i + 1) z2, bk := E.nx } σ2 H3 := fun F2 H2 s2 fr2 dx =>
        gd.run N F2 α' z' σ' H2 x d _ fr2 dx (hok i d hxd) fun σ2 fr3 _ _ => ⟨⟨(i, d, z'), hxd, pv⟩, F2, α', fr3, fun σ4 F4 α4 H4 z4 s4 fr4 p4 => ⟨F4, α4, z4, (sf.trans s2).trans s4, fr4, p4⟩,
          fun v σ4 F4 α4 H4 rr z4 s4 => qr v σ4 F4 α4 H4 rr z4 ((o1.f.trans (sf.trans s2)).trans s4)⟩
      rcases hy with ⟨rfl, dx⟩ | ⟨T, vs, ds, rfl, hT, rfl, da, rfl⟩
      · exact key F' _ (Same.refl _) fr' (dmono sf dx)
      · obtain ⟨o2, fr2⟩ := fr'.ext (o := .tup vs) hT
        exact key _ _ o2.f fr2 (.tup (SqT.of upd_same) (dmonoA (sf.trans o2.f) da))
    · have e : i = xs.length := by omega
      subst e
      exact .inl ⟨j2 _ H' sH (Nat.le_refl _), qn σ' F' α' H' z' (o1.f.trans sf) fr' (hd z' pv)⟩
/-! ### while -/
theorem d1_while {c : Expr} (Pv : Nat → Z → Prop) (hp : PassesOwn (model X.prog X.w) X.A X.env X.xe) (m0 : Nat) (h0 : Pv m0 z) (t : Nat → Z → Bool) (zt : Nat → Z → Z)
    (hc : ∀ m z, Pv m z → DT X N z c (t m z) (zt m z))
    (hb : ∀ m z, Pv m z → t m z = true → DS X N (zt m z) body (fun z' => ∃ m', m' < m ∧ Pv m' z') rt) (hd : ∀ m z, Pv m z → t m z = false → nx (zt m z)) : D1 X N z (.While c body [] pos) nx rt :=
  PS.to (ps_while hp (PT.some fun (w : { q : Nat × Z // Pv q.1 q.2 }) => hc w.1.1 w.1.2 w.2) (PSs.some fun (w : { q : Nat × Z // Pv q.1 q.2 ∧ t q.1 q.2 = true }) => hb w.1.1 w.1.2 w.2.1 w.2.2)) fun E σ H ⟨F, α, fr, qn, qr⟩ => by
    refine ⟨fun m σ' H' => ∃ F' α' z', Same F F' ∧ Fr X.K N F' α' z' σ' H' ∧ Pv m z', ⟨m0, F, α, z, Same.refl _, fr, h0⟩, ?_⟩
    rintro m σ' H' ⟨F', α', z', sf, fr', pv⟩
    refine ⟨⟨(m, z'), pv⟩, F', α', fr', fun F2 α2 H2 o2 fr2 => ?_⟩
    show if t m z' = true then _ else _
    by_cases ht : t m z' = true
    · rw [if_pos ht]
      exact ⟨fun σ3 H3 => ∃ m', m' < m ∧ ∃ F' α' z', Same F F' ∧ Fr X.K N F' α' z' σ3 H3 ∧ Pv m' z', fun σ3 H3 ⟨m', h1, h2⟩ => ⟨m', h1, h2⟩, ⟨(m, z'), pv, ht⟩, F2, α2, fr2,
        fun σ4 F4 α4 H4 z4 s4 fr4 ⟨m', h1, h2⟩ => ⟨m', h1, F4, α4, z4, (sf.trans o2.f).trans s4, fr4, h2⟩, fun v σ4 F4 α4 H4 rr z4 s4 => qr v σ4 F4 α4 H4 rr z4 ((sf.trans o2.f).trans s4)⟩
    · rw [if_neg ht]
      exact qn σ' F2 α2 H2 _ (sf.trans o2.f) fr2 (hd m z' pv (by simpa using ht))

/-! ### comprehensions -/
def wipeS (s : List Sl) : List Nat → List Sl
  | [] => s
  | v :: vs => (wipeS s vs).set v .no
theorem Fr.wipe {K : PySem.W.Frag} {F : Hp} {α : List Addr} {σ : L2.St} {H : Hp} (fr : Fr K N F α z σ H) : ∀ vs : List Nat, Fr K N F α ⟨wipeS z.s vs, z.o⟩ (L2.wipe σ vs) H
  | [] => fr
  | v :: vs => by
    have ih := Fr.wipe fr vs
    refine ⟨ih.sub, ih.ent, ih.fz, ih.len, by show ((wipeS z.s vs).set v .no).length = ((L2.wipe σ vs).set v none).length; rw [List.length_set, List.length_set]; exact ih.slen, ih.nd, ih.pre, ih.live, ih.ob, fun i s e => ?_⟩
    have e : ((wipeS z.s vs).set v .no)[i]? = some s := e
    show SlOk K F α s ((L2.wipe σ vs).set v none)[i]?
    by_cases hj : v = i
    · subst hj
      have hi : v < (wipeS z.s vs).length := by
        have := (List.getElem?_eq_some_iff.mp e).1
        rw [List.length_set] at this
        exact this
      rw [List.getElem?_set_self hi] at e
      cases e
      trivial
    · rw [List.getElem?_set_ne hj] at e
      rw [List.getElem?_set_ne hj]
      exact ih.sl i s e
theorem Fr.back {K : PySem.W.Frag} {F F' : Hp} {α α' : List Addr} {z0 z' : Z} {σ σ2 : L2.St} {H H' : Hp} {o1 : List (Option (List D))} (fr0 : Fr K N F α z0 σ H) (fr1 : Fr K N F' α' z' σ2 H') (on : On F F' α α') (ho : z'.o.take α.length = o1) (hl : o1.length = α.length) :
    Fr K N F' α ⟨z0.s, o1⟩ σ H' := by
  obtain ⟨f, β, rfl⟩ := on
  refine ⟨fr1.sub, fr1.ent, fr1.fz, hl, fr0.slen, fr0.nd, fr0.pre, fun a ha => fr1.live a (List.mem_append_left _ ha), fun k a xs e1 e2 => ?_, fun i s e => ?_⟩
  · have hk : k < α.length := (List.getElem?_eq_some_iff.mp e1).1
    refine fr1.ob k a xs (by rw [List.getElem?_append_left hk]; exact e1) ?_
    have e2 : o1[k]? = some (some xs) := e2
    rw [← ho, List.getElem?_take_of_lt hk] at e2
    exact e2
  · have h := fr0.sl i s e
    have := h.mono (β := []) f
    rw [List.append_nil] at this
    exact this
abbrev DTs (X : Cx) (N : EN) (z : Z) (ifs : List Expr) (b : Bool) (z' : Z) : Prop := PTs X ifs (tDT X.K N z b z')
theorem dts_nil : DTs X N z [] true z := PTs.to pts_nil fun σ H Q ⟨F, α, fr, q⟩ => q F α H (On.refl F α) fr
theorem dts_one {c : Expr} {b : Bool} (h : DT X N z c b z1) : DTs X N z [c] b z1 := pts_one h
/-- what a comprehension's turns do: own lists O, the new list acc, tests b, items y -/
structure LcD (N : EN) (z1 : Z) (xs : List D) (s0 : D → List Sl) (O : Nat → List (Option (List D))) (acc : Nat → List D) (b : Nat → Bool) (y : Nat → D) (zt ze : Nat → D → Z) : Prop where
  o0 : O 0 = z1.o
  a0 : acc 0 = []
  small : ∀ k, k < xs.length → (acc k).length < sizeLine
  ol : ∀ k, (O k).length = z1.o.length
  yes : ∀ (k : Nat) (d : D), xs[k]? = some d → b k = true → (ze k d).o.take (z1.o.length + 1) = O (k + 1) ++ [some (acc k)] ∧ acc (k + 1) = acc k ++ [y k]
  no : ∀ (k : Nat) (d : D), xs[k]? = some d → b k = false → (zt k d).o.take (z1.o.length + 1) = O (k + 1) ++ [some (acc k)] ∧ acc (k + 1) = acc k
theorem tlc {xs : List D} {g : TG} {f : D → List Sl → List Sl} {ok : D → Prop} {is vs : List Nat} {O : Nat → List (Option (List D))} {acc : Nat → List D} {b : Nat → Bool} {y : Nat → D} {zt ze : Nat → D → Z} {K : PySem.W.Frag}
    (gd : GD K g f ok is) (hiv : ∀ i ∈ is, i ∈ vs) (hok : ∀ (k : Nat) (d : D), xs[k]? = some d → ok d) (L : LcD N z1 xs (fun d => f d (wipeS z1.s vs)) O acc b y zt ze)
    {σ : L2.St} {H : Hp} {Q : VK} (h : tD K N z (.ptr z1.o.length) ⟨z1.s, O xs.length ++ [some (acc xs.length)]⟩ σ H Q) :
    tLc (tDI K N z xs z1) g (fun σ H Q => ∃ w : { t : Nat × D // xs[t.1]? = some t.2 }, tDT K N ⟨f w.1.2 (wipeS z1.s vs), O w.1.1 ++ [some (acc w.1.1)]⟩ (b w.1.1) (zt w.1.1 w.1.2) σ H Q)
      (fun σ H Q => ∃ w : { t : Nat × D // xs[t.1]? = some t.2 ∧ b t.1 = true }, tD K N (zt w.1.1 w.1.2) (.d (y w.1.1)) (ze w.1.1 w.1.2) σ H Q) vs σ H Q := by
  obtain ⟨F, α, fr, q⟩ := h
  refine ⟨F, α, fr, fun J F1 α1 H1 o1 fr1 ⟨j1, j2, j3⟩ Da hD => ?_⟩
  obtain ⟨on, frn, eD⟩ := fr1.new hD (.nil (K := K) (H := F1))
  have hla : α1.length = z1.o.length := fr1.len.symm
  have eD' : (α1 ++ [Da])[z1.o.length]? = some Da := eD
  refine ⟨fun i m H' => m = xs.length - i ∧ i ≤ xs.length ∧ ∃ F', Same F1 F' ∧ Fr K N F' (α1 ++ [Da]) ⟨z1.s, O i ++ [some (acc i)]⟩ σ H', ⟨xs.length, by simp, Nat.zero_le _, F1, Same.refl _, by rw [L.o0, L.a0]; exact frn⟩, ?_⟩
  rintro i m H' ⟨rfl, hi, F', sf, fr'⟩
  have sH : Same F1 H' := sf.trans fr'.sub
  by_cases hlt : i < xs.length
  · refine .inr ⟨j1 i H' sH hlt, fun H2 => ∃ F2, Same F1 F2 ∧ Fr K N F2 (α1 ++ [Da]) ⟨z1.s, O (i + 1) ++ [some (acc (i + 1))]⟩ σ H2, fun H2 ⟨F2, a, c⟩ => ⟨xs.length - (i + 1), by omega, rfl, hlt, F2, a, c⟩, fun x H2 yy => ?_⟩
    obtain ⟨d, hxd, hy⟩ := j3 i H' x H2 hlt sH yy
    -- the turn over a heap that knows the item
    have key : ∀ F2 H2, Same F' F2 → Fr K N F2 (α1 ++ [Da]) ⟨z1.s, O i ++ [some (acc i)]⟩ σ H2 → Dp K F2 x d → g x (L2.wipe σ vs) H2 fun σ2 H3 => L2.wipe σ2 vs = L2.wipe σ vs ∧
        (∃ w : { t : Nat × D // xs[t.1]? = some t.2 }, tDT K N ⟨f w.1.2 (wipeS z1.s vs), O w.1.1 ++ [some (acc w.1.1)]⟩ (b w.1.1) (zt w.1.1 w.1.2) σ2 H3 fun b' H3 =>
          if b' = true then (∃ w : { t : Nat × D // xs[t.1]? = some t.2 ∧ b t.1 = true }, tD K N (zt w.1.1 w.1.2) (.d (y w.1.1)) (ze w.1.1 w.1.2) σ2 H3 fun y' H4 => ∃ ac, H4 Da = some (.lst ac) ∧ ac.length < sizeLine ∧ ∃ F2, Same F1 F2 ∧ Fr K N F2 (α1 ++ [Da]) ⟨z1.s, O (i + 1) ++ [some (acc (i + 1))]⟩ σ (upd H4 Da (.lst (ac ++ [y']))))
          else ∃ F2, Same F1 F2 ∧ Fr K N F2 (α1 ++ [Da]) ⟨z1.s, O (i + 1) ++ [some (acc (i + 1))]⟩ σ H3) := fun F2 H2 s2 fr2 dx => by
      refine gd.run N F2 _ _ _ H2 x d _ (fr2.wipe vs) dx (hok i d hxd) fun σ2 fr3 hl2 hi2 => ⟨?_, ⟨(i, d), hxd⟩, F2, _, fr3, fun F3 α3 H3 o3 fr4 => ?_⟩
      · rw [← wipe_wipe (σ := σ)]
        exact wipe_eq hl2 fun j hj => hi2 j fun h => hj (hiv j h)
      · have hol : (O (i + 1) ++ [some (acc i)]).length = (α1 ++ [Da]).length := by
          rw [List.length_append, List.length_append, L.ol, hla]
          rfl
        have hln : (α1 ++ [Da]).length = z1.o.length + 1 := by rw [List.length_append, hla]; rfl
        show if b i = true then _ else _
        by_cases hb : b i = true
        · rw [if_pos hb]
          refine ⟨⟨(i, d), hxd, hb⟩, F3, α3, fr4, fun v F4 α4 H4 o4 fr5 d5 => ?_⟩
          obtain ⟨h1, h2⟩ := L.yes i d hxd hb
          have bk := fr2.back fr5 (o3.trans o4) (by rw [hln]; exact h1) hol
          have e1 : (O (i + 1) ++ [some (acc i)])[z1.o.length]? = some (some (acc i)) := by
            rw [← L.ol (i + 1), List.getElem?_append_right (Nat.le_refl _), Nat.sub_self]
            rfl
          obtain ⟨fa, ws, hw, da⟩ := bk.ob z1.o.length Da (acc i) eD' e1
          refine ⟨ws, hw, by rw [DpAll.len da]; exact L.small i hlt, F4, ((sf.trans s2).trans o3.f).trans o4.f, ?_⟩
          have mt := bk.mut (vs := ws ++ [v]) (ys := acc i ++ [y i]) eD' e1 (DpAll.append da (.cons d5 .nil))
          have e2 : (O (i + 1) ++ [some (acc i)]).set z1.o.length (some (acc i ++ [y i])) = O (i + 1) ++ [some (acc (i + 1))] := by
            rw [h2, ← L.ol (i + 1), List.set_append_right _ _ (Nat.le_refl _), Nat.sub_self]
            rfl
          rw [← e2]
          exact mt
        · rw [if_neg hb]
          have hb : b i = false := by simpa using hb
          obtain ⟨h1, h2⟩ := L.no i d hxd hb
          have bk := fr2.back fr4 o3 (by rw [hln]; exact h1) hol
          rw [h2]
          exact ⟨F3, (sf.trans s2).trans o3.f, bk⟩
    rcases hy with ⟨rfl, dx⟩ | ⟨T, ws, ds, rfl, hT, rfl, da, rfl⟩
    · exact key F' _ (Same.refl _) fr' (dmono sf dx)
    · obtain ⟨o2, fr2⟩ := fr'.ext (o := .tup ws) hT
      exact key _ _ o2.f fr2 (.tup (SqT.of upd_same) (dmonoA (sf.trans o2.f) da))
  · have e : i = xs.length := by omega
    subst e
    refine .inl ⟨j2 _ H' sH (Nat.le_refl _), ?_⟩
    exact q _ F' (α1 ++ [Da]) H' ⟨o1.f.trans sf, by obtain ⟨_, β, rfl⟩ := o1; exact ⟨β ++ [Da], by simp⟩⟩ fr' ⟨Da, eD', rfl⟩
/-- [elt for tg in iter if ..] -/
theorem de_lc {xs : List D} {elt : Expr} {ifs : List Expr} {scope : Scope} {own : List (Str × Nat)} {g : TG} {f : D → List Sl → List Sl} {ok : D → Prop} {is : List Nat} {O : Nat → List (Option (List D))} {acc : Nat → List D} {b : Nat → Bool} {y : Nat → D} {zt ze : Nat → D → Z}
    (hc : X.calm = true) (hN : X.N.Nodup) (hi : DI X N z tg iter xs z1) (okb : BlkOk X.N X.env.scope scope own)
    (hg : ∀ (s : Shared) (H : Hp) (C : Addr) (cl : List (Str × Addr)) (fp : List Addr), PG (X.blk s H scope (compEnvC scope cl C X.env) fp) tg g) (gd : GD X.K g f ok is) (hiv : ∀ i ∈ is, i ∈ own.map (·.2)) (hok : ∀ (k : Nat) (d : D), xs[k]? = some d → ok d)
    (L : LcD N z1 xs (fun d => f d (wipeS z1.s (own.map (·.2)))) O acc b y zt ze)
    (ht : ∀ (k : Nat) (d : D), xs[k]? = some d → ∀ (s : Shared) (H : Hp) (C : Addr) (cl : List (Str × Addr)) (fp : List Addr), DTs (X.blk s H scope (compEnvC scope cl C X.env) fp) N ⟨f d (wipeS z1.s (own.map (·.2))), O k ++ [some (acc k)]⟩ ifs (b k) (zt k d))
    (he : ∀ (k : Nat) (d : D), xs[k]? = some d → b k = true → ∀ (s : Shared) (H : Hp) (C : Addr) (cl : List (Str × Addr)) (fp : List Addr), DE (X.blk s H scope (compEnvC scope cl C X.env) fp) N (zt k d) elt (.d (y k)) (ze k d))
    (hs : ∀ x, foldedSetIterable iter X.env x = pure x := by intro _; rfl) :
    DE X N z (.ListComp elt [⟨tg, iter, ifs, 0⟩] scope pos) (.ptr z1.o.length) ⟨z1.s, O xs.length ++ [some (acc xs.length)]⟩ :=
  PE.to (pe_lc hc hN hi okb hg (fun s H C cl fp => PTs.some fun (w : { t : Nat × D // xs[t.1]? = some t.2 }) => ht w.1.1 w.1.2 w.2 s H C cl fp) (fun s H C cl fp => PE.some fun (w : { t : Nat × D // xs[t.1]? = some t.2 ∧ b t.1 = true }) => he w.1.1 w.1.2 w.2.1 w.2.2 s H C cl fp) hs)
    fun σ H Q h => tlc gd hiv hok L h
/-- name = [elt for tg in iter if ..], the name a local, on one line -/
theorem d1_setLc {i : Nat} {yn : Str} {py spos : Pos} {xs : List D} {elt : Expr} {ifs : List Expr} {scope : Scope} {own : List (Str × Nat)} {g : TG} {f : D → List Sl → List Sl} {ok : D → Prop} {is : List Nat} {O : Nat → List (Option (List D))} {acc : Nat → List D} {b : Nat → Bool} {y : Nat → D} {zt ze : Nat → D → Z}
    (hc : X.calm = true) (hN : X.N.Nodup) (hy : X.N[i]? = some yn) (hyl : X.env.scope.names.lookup yn = some .local) (hsw : swapsWith (.ListComp elt [⟨tg, iter, ifs, 0⟩] scope pos) (some (.Name yn py)) spos.line X.env = pure true) (hi : DI X N z tg iter xs z1) (okb : BlkOk X.N X.env.scope scope own)
    (hg : ∀ (s : Shared) (H : Hp) (C : Addr) (cl : List (Str × Addr)) (fp : List Addr), PG (X.blk s H scope (compEnvC scope cl C X.env) fp) tg g) (gd : GD X.K g f ok is) (hiv : ∀ i ∈ is, i ∈ own.map (·.2)) (hok : ∀ (k : Nat) (d : D), xs[k]? = some d → ok d)
    (L : LcD N z1 xs (fun d => f d (wipeS z1.s (own.map (·.2)))) O acc b y zt ze)
    (ht : ∀ (k : Nat) (d : D), xs[k]? = some d → ∀ (s : Shared) (H : Hp) (C : Addr) (cl : List (Str × Addr)) (fp : List Addr), DTs (X.blk s H scope (compEnvC scope cl C X.env) fp) N ⟨f d (wipeS z1.s (own.map (·.2))), O k ++ [some (acc k)]⟩ ifs (b k) (zt k d))
    (he : ∀ (k : Nat) (d : D), xs[k]? = some d → b k = true → ∀ (s : Shared) (H : Hp) (C : Addr) (cl : List (Str × Addr)) (fp : List Addr), DE (X.blk s H scope (compEnvC scope cl C X.env) fp) N (zt k d) elt (.d (y k)) (ze k d))
    (h : nx ⟨z1.s.set i (.ptr z1.o.length), O xs.length ++ [some (acc xs.length)]⟩)
    (hs : ∀ x, foldedSetIterable iter X.env x = pure x := by intro _; rfl) :
    D1 X N z (.Assign [.Name yn py] (.ListComp elt [⟨tg, iter, ifs, 0⟩] scope pos) spos) nx rt :=
  PS.to (ps_setLc hc hN hy hyl hsw hi okb hg (fun s H C cl fp => PTs.some fun (w : { t : Nat × D // xs[t.1]? = some t.2 }) => ht w.1.1 w.1.2 w.2 s H C cl fp) (fun s H C cl fp => PE.some fun (w : { t : Nat × D // xs[t.1]? = some t.2 ∧ b t.1 = true }) => he w.1.1 w.1.2 w.2.1 w.2.2 s H C cl fp) hs)
    fun E σ H ⟨F, α, fr, q, _⟩ => tlc gd hiv hok L ⟨F, α, fr, fun v F1 α1 H1 o1 fr1 d1 => by
      obtain ⟨a, e1, rfl⟩ := d1
      exact q _ F1 α1 H1 _ o1.f (fr1.setD (s := .ptr z1.o.length) ⟨a, e1, rfl⟩) h⟩
end
end DL
/-! DL5: a def's promise by data; its call; its body -/
namespace DL
open PySem PySem.Spec PyProof.Rows L2

/-- a def's answer: data, or a new list that is its caller's own -/
inductive Rr where | d (x : D) | new (xs : List D)
def RrOk (K : PySem.W.Frag) (H F' H' : Hp) : Rr → V → Prop
  | .d x, v => Dp K F' v x
  | .new xs, v => ∃ a vs, v = .ref a ∧ H a = none ∧ F' a = none ∧ H' a = some (.lst vs) ∧ DpAll K F' vs xs
structure PaOk (K : PySem.W.Frag) (F H : Hp) (pa : List Addr) (π : List (List D)) : Prop where
  len : pa.length = π.length
  at_ : ∀ (k : Nat) (a : Addr) (xs : List D), pa[k]? = some a → π[k]? = some xs → F a = none ∧ ∃ vs, H a = some (.lst vs) ∧ DpAll K F vs xs
/-- the promise: R arguments, the own lists handed in, the answer, these lists behind -/
def spG (K : PySem.W.Frag) (R : List D → List (List D) → Rr → List (List D) → Prop) : Sp := fun vs H Q _ =>
  ∃ (pa : List Addr) (F : Hp) (ws : List V) (as : List D) (π π' : List (List D)) (r : Rr), R as π r π' ∧ vs = pa.map V.ref ++ ws ∧ DpAll K F ws as ∧ Same F H ∧ PaOk K F H pa π ∧ pa.Nodup ∧ π.length = π'.length ∧
    ∀ v F' H', Same F F' → Same F' H' → (∀ b o, H b = some o → b ∉ pa → H' b = some o) → (∀ b, H b ≠ none → F b = none → F' b = none) → PaOk K F' H' pa π' → RrOk K H F' H' r v → Q v H'

section
variable {X : Cx} {N : EN} {z z1 z2 : Z} {pos p : Pos} {e : Expr} {es : List Expr} {CX : CXT} {k : Nat} {f : Addr} {fd : FuncData} {ps : List Str} {x : Str} {E : XK} {R : List D → List (List D) → Rr → List (List D) → Prop}
/-- the state behind a call, its answer not yet laid in -/
theorem Fr.after {K : PySem.W.Frag} {F F' : Hp} {α : List Addr} {σ : L2.St} {H H' : Hp} {pa : List Addr} (fr : Fr K N F α z σ H) (hpa : ∀ a ∈ pa, a ∈ α) (o' : List (Option (List D))) (hl : o'.length = z.o.length) (s1 : Same F F') (s2 : Same F' H')
    (h1 : ∀ b o, H b = some o → b ∉ pa → H' b = some o) (h2 : ∀ b, H b ≠ none → F b = none → F' b = none) (hl' : ∀ a ∈ pa, H' a ≠ none)
    (ho : ∀ (j : Nat) (a : Addr) (xs : List D), α[j]? = some a → o'[j]? = some (some xs) → a ∈ pa → F' a = none ∧ ∃ vs, H' a = some (.lst vs) ∧ DpAll K F' vs xs)
    (hk : ∀ (j : Nat) (a : Addr) (xs : List D), α[j]? = some a → o'[j]? = some (some xs) → a ∉ pa → z.o[j]? = some (some xs)) : Fr K N F' α ⟨z.s, o'⟩ σ H' := by
  have live0 : ∀ a, N.H0 a ≠ none → H a ≠ none := fun a h => by
    by_cases hp : a ∈ N.pa
    · obtain ⟨β, e, _⟩ := fr.pre
      exact fr.live a (by rw [e]; exact List.mem_append_left _ hp)
    · cases e : N.H0 a with
      | none => exact absurd e h
      | some o =>
        rw [fr.ent a o e hp]
        exact fun q => by cases q
  refine ⟨s2, fun a o e hn => h1 a o (fr.ent a o e hn) fun hm => ?_, fun a e1 e2 => h2 a (live0 a e1) (fr.fz a e1 e2), hl.trans fr.len, fr.slen, fr.nd, fr.pre, fun a ha => ?_, fun j a xs e1 e2 => ?_, fun i s e => ?_⟩
  · obtain ⟨β, e2, hβ⟩ := fr.pre
    have hm2 := hpa a hm
    rw [e2] at hm2
    rcases List.mem_append.mp hm2 with h | h
    · exact hn h
    · rw [hβ a h] at e
      cases e
  · by_cases hm : a ∈ pa
    · exact hl' a hm
    · cases e : H a with
      | none => exact absurd e (fr.live a ha)
      | some o =>
        rw [h1 a o e hm]
        exact fun q => by cases q
  · by_cases hm : a ∈ pa
    · exact ho j a xs e1 e2 hm
    · obtain ⟨fa, vs, hv, da⟩ := fr.ob j a xs e1 (hk j a xs e1 e2 hm)
      exact ⟨h2 a (by rw [hv]; exact fun q => by cases q) fa, vs, h1 a _ hv hm, dmonoA s1 da⟩
  · have h := (fr.sl i s e).mono (β := []) s1
    rw [List.append_nil] at h
    exact h
/-- the answer laid in -/
def rsOf (z : Z) : Rr → Rs | .d x => .d x | .new _ => .ptr z.o.length
def zOf (z : Z) : Rr → Z | .d _ => z | .new xs => ⟨z.s, z.o ++ [some xs]⟩
theorem Fr.answer {K : PySem.W.Frag} {F' : Hp} {α : List Addr} {σ : L2.St} {H H' : Hp} {r : Rr} {v : V} (fr : Fr K N F' α z σ H') (live : ∀ a ∈ α, H a ≠ none) (h0 : ∀ a, N.H0 a ≠ none → H a ≠ none) (hr : RrOk K H F' H' r v) :
    ∃ α', On F' F' α α' ∧ Fr K N F' α' (zOf z r) σ H' ∧ RsOk K F' α' (rsOf z r) v := by
  cases r with
  | d x => exact ⟨α, On.refl F' α, fr, hr⟩
  | new xs =>
    obtain ⟨a, vs, rfl, ha, fa, hv, da⟩ := hr
    have na : a ∉ α := fun h => live a h ha
    have h0a : N.H0 a = none := by
      cases e : N.H0 a with
      | none => rfl
      | some o => exact absurd ha (h0 a (by rw [e]; exact fun q => by cases q))
    refine ⟨α ++ [a], ⟨Same.refl F', [a], rfl⟩, ⟨fr.sub, fr.ent, fr.fz, by show (z.o ++ [some xs]).length = _; rw [List.length_append, List.length_append, fr.len]; rfl, fr.slen, ?_, ?_, fun b hb => ?_, fun j b ys e1 e2 => ?_, fun i s e => (fr.sl i s e).mono (Same.refl F')⟩, a, ?_, rfl⟩
    · refine List.nodup_append.mpr ⟨fr.nd, by simp, fun b hb c hc => ?_⟩
      have e : c = a := by simpa using hc
      rw [e]
      exact fun q => na (q ▸ hb)
    · obtain ⟨β, e, hβ⟩ := fr.pre
      refine ⟨β ++ [a], by rw [e, List.append_assoc], fun b hb => ?_⟩
      rcases List.mem_append.mp hb with hb | hb
      · exact hβ b hb
      · have e : b = a := by simpa using hb
        rw [e]
        exact h0a
    · rcases List.mem_append.mp hb with hb | hb
      · exact fr.live b hb
      · have e : b = a := by simpa using hb
        rw [e, hv]
        exact fun q => by cases q
    · have e2 : (z.o ++ [some xs])[j]? = some (some ys) := e2
      by_cases hk : j < α.length
      · rw [List.getElem?_append_left hk] at e1
        rw [List.getElem?_append_left (by rw [fr.len]; exact hk)] at e2
        exact fr.ob j b ys e1 e2
      · have hk2 : j = α.length := by
          have := (List.getElem?_eq_some_iff.mp e1).1
          rw [List.length_append] at this
          simp at this
          omega
        subst hk2
        rw [List.getElem?_append_right (Nat.le_refl _), Nat.sub_self] at e1
        have e3 : a = b := by simpa using e1
        rw [← fr.len, List.getElem?_append_right (Nat.le_refl _), Nat.sub_self] at e2
        have e4 : xs = ys := by simpa using e2
        subst e3 e4
        exact ⟨fa, vs, hv, da⟩
    · rw [fr.len, List.getElem?_append_right (Nat.le_refl _), Nat.sub_self]
      rfl
theorem Fr.live0 {K : PySem.W.Frag} {F : Hp} {α : List Addr} {σ : L2.St} {H : Hp} (fr : Fr K N F α z σ H) : ∀ a, N.H0 a ≠ none → H a ≠ none := fun a h => by
  by_cases hp : a ∈ N.pa
  · obtain ⟨β, e, _⟩ := fr.pre
    exact fr.live a (by rw [e]; exact List.mem_append_left _ hp)
  · cases e : N.H0 a with
    | none => exact absurd e h
    | some o =>
      rw [fr.ent a o e hp]
      exact fun q => by cases q

/-- the promise met, no own list handed in -/
theorem sp_call0 {K : PySem.W.Frag} {F : Hp} {α : List Addr} {σ : L2.St} {H : Hp} {Q : VK} {vs : List V} {ds : List D} {r : Rr} (fr : Fr K N F α z σ H) (da : DpAll K F vs ds) (hR : R ds [] r [])
    (q : ∀ v F' α' H', On F F' α α' → Fr K N F' α' (zOf z r) σ H' → RsOk K F' α' (rsOf z r) v → Q v H') : spG K R vs H Q E := by
  refine ⟨[], F, vs, ds, [], [], r, hR, rfl, da, fr.sub, ⟨rfl, fun k a xs e => by simp at e⟩, List.nodup_nil, rfl, fun v F' H' s1 s2 h1 h2 _ hr => ?_⟩
  have f2 : Fr K N F' α z σ H' := fr.after (pa := []) (fun a h => by cases h) z.o rfl s1 s2 h1 h2 (fun a h => by cases h) (fun j a xs _ _ h => by cases h) fun j a xs _ e _ => e
  obtain ⟨α', o3, f3, r3⟩ := f2.answer fr.live fr.live0 hr
  exact q v F' α' H' (On.trans ⟨s1, [], by simp⟩ o3) f3 r3
/-- .. the k-th own list handed in -/
theorem sp_call1 {K : PySem.W.Frag} {F : Hp} {α : List Addr} {σ : L2.St} {H : Hp} {Q : VK} {vs : List V} {ds : List D} {r : Rr} {j : Nat} {a : Addr} {xs xs' : List D} (fr : Fr K N F α z σ H) (da : DpAll K F vs ds) (hR : R ds [xs] r [xs']) (ea : α[j]? = some a) (eo : z.o[j]? = some (some xs))
    (q : ∀ v F' α' H', On F F' α α' → Fr K N F' α' (zOf ⟨z.s, z.o.set j (some xs')⟩ r) σ H' → RsOk K F' α' (rsOf ⟨z.s, z.o.set j (some xs')⟩ r) v → Q v H') : spG K R (.ref a :: vs) H Q E := by
  obtain ⟨fa, ws, hw, dw⟩ := fr.ob j a xs ea eo
  have hj : j < z.o.length := (List.getElem?_eq_some_iff.mp eo).1
  refine ⟨[a], F, vs, ds, [xs], [xs'], r, hR, rfl, da, fr.sub, ⟨rfl, fun k b ys e1 e2 => ?_⟩, by simp, rfl, fun v F' H' s1 s2 h1 h2 pk hr => ?_⟩
  · cases k with
    | zero =>
      simp at e1 e2
      subst e1 e2
      exact ⟨fa, ws, hw, dw⟩
    | succ k => simp at e1
  · obtain ⟨fa', ws', hw', dw'⟩ := pk.at_ 0 a xs' rfl rfl
    have f2 : Fr K N F' α ⟨z.s, z.o.set j (some xs')⟩ σ H' := by
      refine fr.after (pa := [a]) (fun b h => ?_) _ (by rw [List.length_set]) s1 s2 h1 h2 (fun b h => ?_) (fun i b ys e1 e2 h => ?_) fun i b ys e1 e2 h => ?_
      · have e : b = a := by simpa using h
        rw [e]
        exact List.mem_of_getElem? ea
      · have e : b = a := by simpa using h
        rw [e, hw']
        exact fun q => by cases q
      · have e : b = a := by simpa using h
        subst e
        have ij : i = j := by
          obtain ⟨g1, q1⟩ := List.getElem?_eq_some_iff.mp e1
          obtain ⟨g2, q2⟩ := List.getElem?_eq_some_iff.mp ea
          exact (List.getElem_inj fr.nd).mp (q1.trans q2.symm)
        subst ij
        rw [List.getElem?_set_self hj] at e2
        cases e2
        exact ⟨fa', ws', hw', dw'⟩
      · have ij : j ≠ i := fun q => by
          subst q
          rw [ea] at e1
          cases e1
          exact h (by simp)
        rw [List.getElem?_set_ne ij] at e2
        exact e2
    obtain ⟨α', o3, f3, r3⟩ := f2.answer fr.live fr.live0 hr
    exact q v F' α' H' (On.trans ⟨s1, [], by simp⟩ o3) f3 r3
/-- f(e, ..) -/
theorem de_call {ds : List D} {r : Rr} (G : FnOk X.prog X.w X.K X.mg X.base CX k f fd ps (spG X.K R)) (hr : Room k X.A) (hg : Gl X x) (hm : X.mg x = some (.ref f)) (hk : PySem.W.keepIn X.K (.ref f) = true) (hb : Binds X.K fd ps []) (hx : Passes CX X E)
    (ha : DAd X N z (e :: es) ds z1) (hR : R ds [] r []) (hdb : (x == ("__debug__" : Str)) = false := by decide) (he : starEach (e :: es) X.env = (false, eval e X.env) :: starEach es X.env := by rfl) (hpl : (backTo pos (starEach es X.env)).any (·.1) = false := by rfl) :
    DE X N z (.Call (.Name x p) (e :: es) [] pos) (rsOf z1 r) (zOf z1 r) :=
  PE.to (pe_call G hr hg hm hk hb .nil hx ha hdb he hpl) fun σ H Q ⟨F, α, fr, q⟩ => ⟨F, α, fr, fun vs F1 α1 H1 o1 fr1 d1 => by
    show spG X.K R (vs ++ []) H1 Q E
    rw [List.append_nil]
    exact sp_call0 fr1 d1 hR fun v F2 α2 H2 o2 f2 r2 => q v F2 α2 H2 (o1.trans o2) f2 r2⟩
theorem de_call1 {ds : List D} {r : Rr} {j : Nat} {xs xs' : List D} (G : FnOk X.prog X.w X.K X.mg X.base CX k f fd ps (spG X.K R)) (hr : Room k X.A) (hg : Gl X x) (hm : X.mg x = some (.ref f)) (hk : PySem.W.keepIn X.K (.ref f) = true) (hb : Binds X.K fd ps []) (hx : Passes CX X E)
    (ha : DAp X N z (e :: es) j ds z1) (eo : z1.o[j]? = some (some xs)) (hR : R ds [xs] r [xs']) (hdb : (x == ("__debug__" : Str)) = false := by decide) (he : starEach (e :: es) X.env = (false, eval e X.env) :: starEach es X.env := by rfl) (hpl : (backTo pos (starEach es X.env)).any (·.1) = false := by rfl) :
    DE X N z (.Call (.Name x p) (e :: es) [] pos) (rsOf ⟨z1.s, z1.o.set j (some xs')⟩ r) (zOf ⟨z1.s, z1.o.set j (some xs')⟩ r) :=
  PE.to (pe_call G hr hg hm hk hb .nil hx ha hdb he hpl) fun σ H Q ⟨F, α, fr, q⟩ => ⟨F, α, fr, fun a vs F1 α1 H1 o1 fr1 ea d1 => by
    show spG X.K R (V.ref a :: vs ++ []) H1 Q E
    rw [List.append_nil]
    exact sp_call1 fr1 d1 hR ea eo fun v F2 α2 H2 o2 f2 r2 => q v F2 α2 H2 (o1.trans o2) f2 r2⟩
end

/-! ### a def's body -/
def z0 (N : List Str) (π : List (List D)) (as : List D) : Z := ⟨(List.range π.length).map Sl.ptr ++ as.map Sl.d ++ List.replicate (N.length - (π.length + as.length)) Sl.no, π.map some⟩
def rrRs (π' : List (List D)) (r : Rr) (q : Rs) (z : Z) : Prop :=
  (∀ (j : Nat) (xs : List D), π'[j]? = some xs → z.o[j]? = some (some xs)) ∧ match r with | .d x => q = .d x | .new xs => ∃ k, q = .ptr k ∧ π'.length ≤ k ∧ z.o[k]? = some (some xs)
section
variable {P : Program} {w : World} {K : PySem.W.Frag} {mg : Str → Option Value} {base : Heap}
theorem mk_fn {x qual : Str} {st : Stmt} {f : Addr} {fd : FuncData} {Nm ps : List Str} {k : Nat} {R : List D → List (List D) → Rr → List (List D) → Prop} (F : Fun K x qual st f fd) (S : FnScope Nm ps (defScope st))
    (len : ∀ as π r π', R as π r π' → π.length + as.length = ps.length ∧ π.length = π'.length)
    (body : ∀ (cdv : Value) (A : Around) (outer : List Env) (s : Shared) (H : Hp) (E : XK) (N : EN) (as : List D) (π : List (List D)) (r : Rr) (π' : List (List D)), Room k (A.deeper (envOfC qual (defScope st) s.heap.objs.size f cdv)) → N.pa.length = π.length → R as π r π' →
      DS (cxOf CX0 P w K mg base Nm qual (defScope st) f cdv A outer s H E).nox N (z0 Nm π as) (defBody st) (fun z => rrRs π' r (.d .none) z) (fun q z => rrRs π' r q z)) :
    FnOk P w K mg base CX0 (k + 1) f fd ps (spG K R) := by
  refine F.ok S (fun vs H Q E h => ?_) (fun cdv A outer s H vs Q E hr h => ?_)
  · obtain ⟨pa, F, ws, as, π, π', r, hR, rfl, da, _, pk, _⟩ := h
    rw [List.length_append, List.length_map, DpAll.len da, pk.len]
    exact (len as π r π' hR).1
  · obtain ⟨pa, F0, ws, as, π, π', r, hR, rfl, da, sF, pk, nd, hl', q⟩ := h
    have hlen := (len as π r π' hR).1
    have hps : ps.length ≤ Nm.length := by have := congrArg List.length S.pre; rw [List.length_take] at this; omega
    have hda := DpAll.len da
    have hpl := pk.len
    have fr0 : Fr K ⟨H, F0, pa⟩ F0 pa (z0 Nm π as) (L2.start Nm (pa.map V.ref ++ ws)) H := by
      refine ⟨sF, fun a o e _ => e, fun a _ e => e, by show (π.map some).length = _; rw [List.length_map]; exact hpl.symm, ?_, nd, ⟨[], by simp, fun b h => by cases h⟩, fun a ha e => ?_, fun j a xs e1 e2 => ?_, fun i t e => ?_⟩
      · show ((List.range π.length).map Sl.ptr ++ as.map Sl.d ++ List.replicate (Nm.length - (π.length + as.length)) Sl.no).length = (L2.start Nm (pa.map V.ref ++ ws)).length
        unfold L2.start
        simp only [List.length_append, List.length_map, List.length_range, List.length_replicate]
        omega
      · obtain ⟨j, hj⟩ := List.getElem?_of_mem ha
        have hj2 : j < π.length := by rw [← hpl]; exact (List.getElem?_eq_some_iff.mp hj).1
        obtain ⟨_, vs, hv, _⟩ := pk.at_ j a π[j] hj (List.getElem?_eq_getElem hj2)
        have e : H a = none := e
        rw [hv] at e
        cases e
      · have e2 : (π.map some)[j]? = some (some xs) := e2
        rw [List.getElem?_map] at e2
        cases q2 : π[j]? with
        | none => rw [q2] at e2; cases e2
        | some ys =>
          rw [q2] at e2
          have e3 : ys = xs := by simpa using e2
          subst e3
          exact pk.at_ j a ys e1 q2
      · have e : ((List.range π.length).map Sl.ptr ++ as.map Sl.d ++ List.replicate (Nm.length - (π.length + as.length)) Sl.no)[i]? = some t := e
        show SlOk K F0 pa t (L2.start Nm (pa.map V.ref ++ ws))[i]?
        by_cases h1 : i < π.length
        · rw [List.append_assoc, List.getElem?_append_left (by simpa using h1), List.getElem?_map, List.getElem?_range h1] at e
          have e3 : Sl.ptr i = t := by simpa using e
          subst e3
          have hi : i < pa.length := by omega
          refine ⟨pa[i], List.getElem?_eq_getElem hi, ?_⟩
          unfold L2.start
          rw [List.getElem?_append_left (by simp; omega), List.getElem?_map, List.getElem?_append_left (by simpa using hi), List.getElem?_map, List.getElem?_eq_getElem hi]
          rfl
        · by_cases h2 : i < π.length + as.length
          · rw [List.getElem?_append_left (by simp; omega), List.getElem?_append_right (by simp; omega), List.getElem?_map] at e
            simp only [List.length_map, List.length_range] at e
            have h3 : i - π.length < as.length := by omega
            rw [List.getElem?_eq_getElem h3] at e
            have e3 : Sl.d as[i - π.length] = t := by simpa using e
            subst e3
            obtain ⟨v, hv, dv⟩ := DpAll.get da (List.getElem?_eq_getElem h3)
            refine ⟨v, ?_, dv⟩
            unfold L2.start
            rw [List.getElem?_append_left (by simp; omega), List.getElem?_map, List.getElem?_append_right (by simp; omega), List.length_map, hpl, hv]
            rfl
          · rw [List.getElem?_append_right (by simp; omega)] at e
            have := List.mem_of_getElem? e
            have e3 : t = Sl.no := List.eq_of_mem_replicate this
            subst e3
            trivial
    have fin : ∀ (v : V) (σ' : L2.St) (F' : Hp) (α' : List Addr) (H' : Hp) (rr : Rs) (z' : Z), Same F0 F' → Fr K ⟨H, F0, pa⟩ F' α' z' σ' H' → RsOk K F' α' rr v → rrRs π' r rr z' → Q v H' := by
        intro v σ' F' α' H' rr z' s1 fr1 r1 ⟨hp', hq⟩
        obtain ⟨β, eα, hβ⟩ := fr1.pre
        have eα : α' = pa ++ β := eα
        have hβ : ∀ b ∈ β, H b = none := hβ
        refine q v F' H' s1 fr1.sub (fun b o e hn => fr1.ent b o e hn) (fun b e1 e2 => fr1.fz b e1 e2) ⟨by omega, fun j a xs e1 e2 => ?_⟩ ?_
        · refine fr1.ob j a xs ?_ (hp' j xs e2)
          rw [eα, List.getElem?_append_left (List.getElem?_eq_some_iff.mp e1).1]
          exact e1
        · cases r with
          | d x =>
            have hq : rr = .d x := hq
            subst hq
            exact r1
          | new xs =>
            obtain ⟨j, e1, e2, e3⟩ := hq
            subst e1
            obtain ⟨a, e4, rfl⟩ := r1
            obtain ⟨fa, vs, hv, da'⟩ := fr1.ob j a xs e4 e3
            refine ⟨a, vs, rfl, ?_, fa, hv, da'⟩
            rw [eα, List.getElem?_append_right (by omega)] at e4
            exact hβ a (List.mem_of_getElem? e4)
    refine ⟨_, body cdv A outer s H E ⟨H, F0, pa⟩ as π r π' hr hpl hR, F0, pa, fr0, ?_, ?_⟩
    · intro σ' F' α' H' z' s1 fr1 h
      exact fin .non σ' F' α' H' (.d .none) z' s1 fr1 .non h
    · intro v σ' F' α' H' rr z' s1 fr1 r1 h
      exact fin v σ' F' α' H' rr z' s1 fr1 r1 h
end
end DL
/-! DL6: built-ins, subscripts, slices, lists' methods -/
namespace DL
open PySem PySem.Spec PyProof.Rows L2

section
variable {X : Cx} {N : EN} {z z1 z2 z3 : Z} {pos p p2 : Pos} {a b e : Expr} {es : List Expr} {x : Str} {nx : Z → Prop} {rt : Rs → Z → Prop}
/-! ### built-ins -/
theorem de_bt {id : String} {r : List V → Hp → VK → Prop} {ds : List D} {rw : Rs} (hc : CallR X (.builtin id) r) (hg : Gl X x) (hm : X.mg x = none) (hv : bootBuiltins x = some (.builtin id)) (ha : DAd X N z (e :: es) ds z1)
    (hr : ∀ (F : Hp) (α : List Addr) (σ : L2.St) (vs : List V) (H : Hp) (Q : VK), Fr X.K N F α z1 σ H → DpAll X.K F vs ds → (∀ o F' α' H', On F F' α α' → Fr X.K N F' α' z2 σ H' → RsOk X.K F' α' rw o → Q o H') → r vs H Q)
    (hn : x ≠ "__name__" := by decide) (hdb : (x == ("__debug__" : Str)) = false := by decide)
    (he : starEach (e :: es) X.env = (false, eval e X.env) :: starEach es X.env := by rfl) (hpl : (backTo pos (starEach es X.env)).any (·.1) = false := by rfl) : DE X N z (.Call (.Name x p) (e :: es) [] pos) rw z2 :=
  PE.to (pe_callB hc hg hm hv ha hn hdb he hpl) fun σ H Q ⟨F, α, fr, q⟩ => ⟨F, α, fr, fun vs F1 α1 H1 o1 fr1 d1 => hr F1 α1 σ vs H1 Q fr1 d1 fun o F2 α2 H2 o2 f2 r2 => q o F2 α2 H2 (o1.trans o2) f2 r2⟩
theorem de_ty {T : String} {r : List V → Hp → VK → Prop} {ds : List D} {rw : Rs} (hc : CallR X (.type T) r) (hg : Gl X x) (hm : X.mg x = none) (hv : bootBuiltins x = some (.type T)) (ha : DAd X N z (e :: es) ds z1)
    (hr : ∀ (F : Hp) (α : List Addr) (σ : L2.St) (vs : List V) (H : Hp) (Q : VK), Fr X.K N F α z1 σ H → DpAll X.K F vs ds → (∀ o F' α' H', On F F' α α' → Fr X.K N F' α' z2 σ H' → RsOk X.K F' α' rw o → Q o H') → r vs H Q)
    (hn : x ≠ "__name__" := by decide) (hdb : (x == ("__debug__" : Str)) = false := by decide)
    (he : starEach (e :: es) X.env = (false, eval e X.env) :: starEach es X.env := by rfl) (hpl : (backTo pos (starEach es X.env)).any (·.1) = false := by rfl) : DE X N z (.Call (.Name x p) (e :: es) [] pos) rw z2 :=
  PE.to (pe_callTy hc hg hm hv ha hn hdb he hpl) fun σ H Q ⟨F, α, fr, q⟩ => ⟨F, α, fr, fun vs F1 α1 H1 o1 fr1 d1 => hr F1 α1 σ vs H1 Q fr1 d1 fun o F2 α2 H2 o2 f2 r2 => q o F2 α2 H2 (o1.trans o2) f2 r2⟩
/-- .. an own list handed in first -/
theorem de_btP {id : String} {r : List V → Hp → VK → Prop} {ds : List D} {k : Nat} {rw : Rs} (hc : CallR X (.builtin id) r) (hg : Gl X x) (hm : X.mg x = none) (hv : bootBuiltins x = some (.builtin id)) (ha : DAp X N z (e :: es) k ds z1)
    (hr : ∀ (F : Hp) (α : List Addr) (σ : L2.St) (c : Addr) (vs : List V) (H : Hp) (Q : VK), Fr X.K N F α z1 σ H → α[k]? = some c → DpAll X.K F vs ds → (∀ o F' α' H', On F F' α α' → Fr X.K N F' α' z2 σ H' → RsOk X.K F' α' rw o → Q o H') → r (.ref c :: vs) H Q)
    (hn : x ≠ "__name__" := by decide) (hdb : (x == ("__debug__" : Str)) = false := by decide)
    (he : starEach (e :: es) X.env = (false, eval e X.env) :: starEach es X.env := by rfl) (hpl : (backTo pos (starEach es X.env)).any (·.1) = false := by rfl) : DE X N z (.Call (.Name x p) (e :: es) [] pos) rw z2 :=
  PE.to (pe_callB hc hg hm hv ha hn hdb he hpl) fun σ H Q ⟨F, α, fr, q⟩ => ⟨F, α, fr, fun c vs F1 α1 H1 o1 fr1 ec d1 => hr F1 α1 σ c vs H1 Q fr1 ec d1 fun o F2 α2 H2 o2 f2 r2 => q o F2 α2 H2 (o1.trans o2) f2 r2⟩
theorem de_tyP {T : String} {r : List V → Hp → VK → Prop} {ds : List D} {k : Nat} {rw : Rs} (hc : CallR X (.type T) r) (hg : Gl X x) (hm : X.mg x = none) (hv : bootBuiltins x = some (.type T)) (ha : DAp X N z (e :: es) k ds z1)
    (hr : ∀ (F : Hp) (α : List Addr) (σ : L2.St) (c : Addr) (vs : List V) (H : Hp) (Q : VK), Fr X.K N F α z1 σ H → α[k]? = some c → DpAll X.K F vs ds → (∀ o F' α' H', On F F' α α' → Fr X.K N F' α' z2 σ H' → RsOk X.K F' α' rw o → Q o H') → r (.ref c :: vs) H Q)
    (hn : x ≠ "__name__" := by decide) (hdb : (x == ("__debug__" : Str)) = false := by decide)
    (he : starEach (e :: es) X.env = (false, eval e X.env) :: starEach es X.env := by rfl) (hpl : (backTo pos (starEach es X.env)).any (·.1) = false := by rfl) : DE X N z (.Call (.Name x p) (e :: es) [] pos) rw z2 :=
  PE.to (pe_callTy hc hg hm hv ha hn hdb he hpl) fun σ H Q ⟨F, α, fr, q⟩ => ⟨F, α, fr, fun c vs F1 α1 H1 o1 fr1 ec d1 => hr F1 α1 σ c vs H1 Q fr1 ec d1 fun o F2 α2 H2 o2 f2 r2 => q o F2 α2 H2 (o1.trans o2) f2 r2⟩
/-- one data argument -/
theorem DpAll.one {K : PySem.W.Frag} {F : Hp} {vs : List V} {d : D} (h : DpAll K F vs [d]) : ∃ v, vs = [v] ∧ Dp K F v d := by
  cases h with
  | cons r t => cases t; exact ⟨_, rfl, r⟩
theorem DpAll.two {K : PySem.W.Frag} {F : Hp} {vs : List V} {d d' : D} (h : DpAll K F vs [d, d']) : ∃ v v', vs = [v, v'] ∧ Dp K F v d ∧ Dp K F v' d' := by
  cases h with
  | cons r t =>
    cases t with
    | cons r' t => cases t; exact ⟨_, _, rfl, r, r'⟩
/-- the list at an own place, read -/
theorem Fr.seq {K : PySem.W.Frag} {F : Hp} {α : List Addr} {σ : L2.St} {H : Hp} (fr : Fr K N F α z σ H) {k : Nat} {c : Addr} {xs : List D} (ec : α[k]? = some c) (eo : z.o[k]? = some (some xs)) : ∃ vs, H c = some (.lst vs) ∧ SqL K H c vs ∧ DpAll K F vs xs := by
  obtain ⟨_, vs, hv, da⟩ := fr.ob k c xs ec eo
  exact ⟨vs, hv, SqL.of hv, da⟩
variable {xs ys : List D} {k : Nat} {i j : Int}
abbrev S1 (X : Cx) (e : Expr) : Prop := starEach [e] X.env = (false, eval e X.env) :: starEach [] X.env
abbrev S2 (X : Cx) (e e' : Expr) : Prop := starEach [e, e'] X.env = (false, eval e X.env) :: starEach [e'] X.env
/-- len -/
theorem de_lenT (hg : Gl X "len") (hm : X.mg "len" = none) (h : DE X N z e (.d (.tuple xs)) z1) (hs : S1 X e := by rfl) : DE X N z (.Call (.Name "len" p) [e] [] pos) (.d (.int xs.length)) z1 :=
  de_bt call_len_seq hg hm PySem.boot_len (da_cons h da_nil hs) (fun F α σ vs H Q fr d q => by
    obtain ⟨v, rfl, dd⟩ := DpAll.one d
    obtain ⟨c, ws, rfl, h1, h2, h3⟩ := SqT_of_dp dd fr.sub
    refine ⟨c, ws, rfl, .inr h1, ?_⟩
    rw [DpAll.len h3]
    exact q _ F α H (On.refl F α) fr (.int _)) (he := hs)
theorem de_lenL (hg : Gl X "len") (hm : X.mg "len" = none) (h : DE X N z e (.d (.list xs)) z1) (hs : S1 X e := by rfl) : DE X N z (.Call (.Name "len" p) [e] [] pos) (.d (.int xs.length)) z1 :=
  de_bt call_len_seq hg hm PySem.boot_len (da_cons h da_nil hs) (fun F α σ vs H Q fr d q => by
    obtain ⟨v, rfl, dd⟩ := DpAll.one d
    obtain ⟨c, ws, rfl, h1, h2, h3⟩ := SqL_of_dp dd fr.sub
    refine ⟨c, ws, rfl, .inl h1, ?_⟩
    rw [DpAll.len h3]
    exact q _ F α H (On.refl F α) fr (.int _)) (he := hs)
theorem de_lenP (hg : Gl X "len") (hm : X.mg "len" = none) (h : DE X N z e (.ptr k) z1) (eo : z1.o[k]? = some (some xs) := by rfl) (hs : S1 X e := by rfl) : DE X N z (.Call (.Name "len" p) [e] [] pos) (.d (.int xs.length)) z1 :=
  de_btP call_len_seq hg hm PySem.boot_len (dap_cons h da_nil hs) (fun F α σ c vs H Q fr ec d q => by
    cases d
    obtain ⟨ws, hv, hs, da⟩ := fr.seq ec eo
    refine ⟨c, ws, rfl, .inl hs, ?_⟩
    rw [DpAll.len da]
    exact q _ F α H (On.refl F α) fr (.int _)) (he := hs)
/-- tuple(list) -/
theorem de_tupL (hg : Gl X "tuple") (hm : X.mg "tuple" = none) (h : DE X N z e (.d (.list xs)) z1) (hs : S1 X e := by rfl) : DE X N z (.Call (.Name "tuple" p) [e] [] pos) (.d (.tuple xs)) z1 :=
  de_ty call_tuple_of hg hm (by decide +kernel) (da_cons h da_nil hs) (fun F α σ vs H Q fr d q => by
    obtain ⟨v, rfl, dd⟩ := DpAll.one d
    obtain ⟨c, ws, rfl, h1, h2, h3⟩ := SqL_of_dp dd fr.sub
    refine ⟨c, ws, rfl, .inl ⟨h1, fun l hl => ?_⟩⟩
    obtain ⟨o2, fr2⟩ := fr.ext (o := .tup ws) hl
    exact q _ _ α _ o2 fr2 (.tup (SqT.of upd_same) (dmonoA o2.f h3))) (he := hs)
theorem de_tupT (hg : Gl X "tuple") (hm : X.mg "tuple" = none) (h : DE X N z e (.d (.tuple xs)) z1) (hs : S1 X e := by rfl) : DE X N z (.Call (.Name "tuple" p) [e] [] pos) (.d (.tuple xs)) z1 :=
  de_ty call_tuple_of hg hm (by decide +kernel) (da_cons h da_nil hs) (fun F α σ vs H Q fr d q => by
    obtain ⟨v, rfl, dd⟩ := DpAll.one d
    obtain ⟨c, ws, rfl, h1, h2, h3⟩ := SqT_of_dp dd fr.sub
    exact ⟨c, ws, rfl, .inr ⟨h1, q _ F α H (On.refl F α) fr dd⟩⟩) (he := hs)
theorem de_tupP (hg : Gl X "tuple") (hm : X.mg "tuple" = none) (h : DE X N z e (.ptr k) z1) (eo : z1.o[k]? = some (some xs)) (hs : S1 X e := by rfl) : DE X N z (.Call (.Name "tuple" p) [e] [] pos) (.d (.tuple xs)) z1 :=
  de_tyP call_tuple_of hg hm (by decide +kernel) (dap_cons h da_nil hs) (fun F α σ c vs H Q fr ec d q => by
    cases d
    obtain ⟨ws, hv, hs, da⟩ := fr.seq ec eo
    refine ⟨c, ws, rfl, .inl ⟨hs, fun l hl => ?_⟩⟩
    obtain ⟨o2, fr2⟩ := fr.ext (o := .tup ws) hl
    exact q _ _ α _ o2 fr2 (.tup (SqT.of upd_same) (dmonoA o2.f da))) (he := hs)
/-- list(..) -/
theorem de_listT (hg : Gl X "list") (hm : X.mg "list" = none) (h : DE X N z e (.d (.tuple xs)) z1) (hs : S1 X e := by rfl) : DE X N z (.Call (.Name "list" p) [e] [] pos) (.ptr z1.o.length) ⟨z1.s, z1.o ++ [some xs]⟩ :=
  de_ty call_list_of hg hm (by decide +kernel) (da_cons h da_nil hs) (fun F α σ vs H Q fr d q => by
    obtain ⟨v, rfl, dd⟩ := DpAll.one d
    obtain ⟨c, ws, rfl, h1, h2, h3⟩ := SqT_of_dp dd fr.sub
    refine ⟨c, ws, rfl, .inr h1, fun l hl => ?_⟩
    obtain ⟨o2, fr2, e2⟩ := fr.new hl h3
    exact q _ _ _ _ o2 fr2 ⟨l, e2, rfl⟩) (he := hs)
theorem de_listL (hg : Gl X "list") (hm : X.mg "list" = none) (h : DE X N z e (.d (.list xs)) z1) (hs : S1 X e := by rfl) : DE X N z (.Call (.Name "list" p) [e] [] pos) (.ptr z1.o.length) ⟨z1.s, z1.o ++ [some xs]⟩ :=
  de_ty call_list_of hg hm (by decide +kernel) (da_cons h da_nil hs) (fun F α σ vs H Q fr d q => by
    obtain ⟨v, rfl, dd⟩ := DpAll.one d
    obtain ⟨c, ws, rfl, h1, h2, h3⟩ := SqL_of_dp dd fr.sub
    refine ⟨c, ws, rfl, .inl h1, fun l hl => ?_⟩
    obtain ⟨o2, fr2, e2⟩ := fr.new hl h3
    exact q _ _ _ _ o2 fr2 ⟨l, e2, rfl⟩) (he := hs)
/-- sum of an own list of ints -/
theorem de_sumP {ns : List Int} (hc : X.calm = true) (hg : Gl X "sum") (hm : X.mg "sum" = none) (h : DE X N z e (.ptr k) z1) (eo : z1.o[k]? = some (some (ns.map PyData.int))) (hs : S1 X e := by rfl) : DE X N z (.Call (.Name "sum" p) [e] [] pos) (.d (.int ns.sum)) z1 :=
  de_btP (cr_sum hc) hg hm (by decide +kernel) (dap_cons h da_nil hs) (fun F α σ c vs H Q fr ec d q => by
    cases d
    obtain ⟨ws, hv, hs, da⟩ := fr.seq ec eo
    have e := DpAll.ints da
    subst e
    exact ⟨c, ns, rfl, hs, q _ F α H (On.refl F α) fr (.int _)⟩) (he := hs)
theorem de_sumL {ns : List Int} (hc : X.calm = true) (hg : Gl X "sum") (hm : X.mg "sum" = none) (h : DE X N z e (.d (.list (ns.map PyData.int))) z1) (hs : S1 X e := by rfl) : DE X N z (.Call (.Name "sum" p) [e] [] pos) (.d (.int ns.sum)) z1 :=
  de_bt (cr_sum hc) hg hm (by decide +kernel) (da_cons h da_nil hs) (fun F α σ vs H Q fr d q => by
    obtain ⟨v, rfl, dd⟩ := DpAll.one d
    obtain ⟨c, ws, rfl, h1, h2, h3⟩ := SqL_of_dp dd fr.sub
    have e := DpAll.ints h3
    subst e
    exact ⟨c, ns, rfl, h1, q _ F α H (On.refl F α) fr (.int _)⟩) (he := hs)
theorem de_abs (hg : Gl X "abs") (hm : X.mg "abs" = none) (h : DE X N z e (.d (.int i)) z1) (hs : S1 X e := by rfl) : DE X N z (.Call (.Name "abs" p) [e] [] pos) (.d (.int i.natAbs)) z1 :=
  de_bt call_abs hg hm (by decide +kernel) (da_cons h da_nil hs) (fun F α σ vs H Q fr d q => by
    obtain ⟨v, rfl, dd⟩ := DpAll.one d
    cases dd
    refine ⟨i, rfl, ?_⟩
    have e : (if i < 0 then -i else i) = (i.natAbs : Int) := by split <;> omega
    rw [e]
    exact q _ F α H (On.refl F α) fr (.int _)) (he := hs)
theorem de_max2 (hc : X.calm = true) (hg : Gl X "max") (hm : X.mg "max" = none) (h : DE X N z a (.d (.int i)) z1) (h' : DE X N z1 b (.d (.int j)) z2) (hs : S2 X a b := by rfl) (hs' : S1 X b := by rfl) (hpl : (backTo pos (starEach [b] X.env)).any (·.1) = false := by rfl) : DE X N z (.Call (.Name "max" p) [a, b] [] pos) (.d (.int (max i j))) z2 :=
  de_bt (call_max2 hc) hg hm (by decide +kernel) (da_cons h (da_cons h' da_nil hs') hs) (fun F α σ vs H Q fr d q => by
    obtain ⟨v, v', rfl, dd, dd'⟩ := DpAll.two d
    cases dd
    cases dd'
    refine ⟨i, j, rfl, ?_⟩
    have e : (if j > i then j else i) = max i j := by omega
    rw [e]
    exact q _ F α H (On.refl F α) fr (.int _)) (he := hs) (hpl := hpl)
theorem de_min2 (hc : X.calm = true) (hg : Gl X "min") (hm : X.mg "min" = none) (h : DE X N z a (.d (.int i)) z1) (h' : DE X N z1 b (.d (.int j)) z2) (hs : S2 X a b := by rfl) (hs' : S1 X b := by rfl) (hpl : (backTo pos (starEach [b] X.env)).any (·.1) = false := by rfl) : DE X N z (.Call (.Name "min" p) [a, b] [] pos) (.d (.int (min i j))) z2 :=
  de_bt (call_min2 hc) hg hm (by decide +kernel) (da_cons h (da_cons h' da_nil hs') hs) (fun F α σ vs H Q fr d q => by
    obtain ⟨v, v', rfl, dd, dd'⟩ := DpAll.two d
    cases dd
    cases dd'
    refine ⟨i, j, rfl, ?_⟩
    have e : (if j < i then j else i) = min i j := by omega
    rw [e]
    exact q _ F α H (On.refl F α) fr (.int _)) (he := hs) (hpl := hpl)
theorem de_intB {t : Bool} (hg : Gl X "int") (hm : X.mg "int" = none) (h : DE X N z e (.d (.bool t)) z1) (hs : S1 X e := by rfl) : DE X N z (.Call (.Name "int" p) [e] [] pos) (.d (.int (if t = true then 1 else 0))) z1 :=
  de_ty call_int1 hg hm (by decide +kernel) (da_cons h da_nil hs) (fun F α σ vs H Q fr d q => by
    obtain ⟨v, rfl, dd⟩ := DpAll.one d
    cases dd
    refine .inr ⟨t, rfl, ?_⟩
    exact q _ F α H (On.refl F α) fr (.int _)) (he := hs)
theorem de_allP {ns : List Bool} (hc : X.calm = true) (hg : Gl X "all") (hm : X.mg "all" = none) (h : DE X N z e (.ptr k) z1) (eo : z1.o[k]? = some (some (ns.map PyData.bool))) (hs : S1 X e := by rfl) : DE X N z (.Call (.Name "all" p) [e] [] pos) (.d (.bool (ns.all id))) z1 :=
  de_btP (cr_all hc) hg hm (by decide +kernel) (dap_cons h da_nil hs) (fun F α σ c vs H Q fr ec d q => by
    cases d
    obtain ⟨ws, hv, hs, da⟩ := fr.seq ec eo
    have e := DpAll.bools da
    subst e
    exact ⟨c, ns, rfl, hs, q _ F α H (On.refl F α) fr (.bl _)⟩) (he := hs)
theorem de_anyP {ns : List Bool} (hc : X.calm = true) (hg : Gl X "any") (hm : X.mg "any" = none) (h : DE X N z e (.ptr k) z1) (eo : z1.o[k]? = some (some (ns.map PyData.bool))) (hs : S1 X e := by rfl) : DE X N z (.Call (.Name "any" p) [e] [] pos) (.d (.bool (ns.any id))) z1 :=
  de_btP (cr_any hc) hg hm (by decide +kernel) (dap_cons h da_nil hs) (fun F α σ c vs H Q fr ec d q => by
    cases d
    obtain ⟨ws, hv, hs, da⟩ := fr.seq ec eo
    have e := DpAll.bools da
    subst e
    exact ⟨c, ns, rfl, hs, q _ F α H (On.refl F α) fr (.bl _)⟩) (he := hs)

/-! ### subscripts -/
theorem atI_all {K : PySem.W.Frag} {F : Hp} {vs : List V} {d : D} (h : DpAll K F vs xs) (e : atI xs i = some d) : ∃ v, atI vs i = some v ∧ Dp K F v d := by
  unfold atI at e ⊢
  rw [DpAll.len h]
  cases q : ixN xs.length i with
  | none => rw [q] at e; cases e
  | some j =>
    rw [q] at e
    exact DpAll.get h e
theorem de_ixT {d : D} (ha : DE X N z a (.d (.tuple xs)) z1) (hb : DE X N z1 b (.d (.int i)) z2) (h : atI xs i = some d) (hs : PlainIx b := by exact fun _ _ => rfl) : DE X N z (.Subscript a b pos) (.d d) z2 :=
  PE.to (pe_ix ix_tup ha hb hs) fun σ H Q ⟨F, α, fr, q⟩ => ⟨F, α, fr, fun v F1 α1 H1 o1 fr1 d1 => ⟨F1, α1, fr1, fun u F2 α2 H2 o2 fr2 d2 => by
    obtain ⟨c, vs, rfl, h1, h2, h3⟩ := SqT_of_dp (o2.dp (show Dp X.K F1 v (.tuple xs) from d1)) fr2.sub
    cases (d2 : Dp X.K F2 u (.int i))
    obtain ⟨w, e1, dw⟩ := atI_all h3 h
    exact ⟨c, vs, i, w, rfl, rfl, h1, e1, q _ F2 α2 H2 (o1.trans o2) fr2 dw⟩⟩⟩
theorem de_ixL {d : D} (ha : DE X N z a (.d (.list xs)) z1) (hb : DE X N z1 b (.d (.int i)) z2) (h : atI xs i = some d) (hs : PlainIx b := by exact fun _ _ => rfl) : DE X N z (.Subscript a b pos) (.d d) z2 :=
  PE.to (pe_ix ix_list ha hb hs) fun σ H Q ⟨F, α, fr, q⟩ => ⟨F, α, fr, fun v F1 α1 H1 o1 fr1 d1 => ⟨F1, α1, fr1, fun u F2 α2 H2 o2 fr2 d2 => by
    obtain ⟨c, vs, rfl, h1, h2, h3⟩ := SqL_of_dp (o2.dp (show Dp X.K F1 v (.list xs) from d1)) fr2.sub
    cases (d2 : Dp X.K F2 u (.int i))
    obtain ⟨w, e1, dw⟩ := atI_all h3 h
    exact ⟨c, vs, i, w, rfl, rfl, h1, e1, q _ F2 α2 H2 (o1.trans o2) fr2 dw⟩⟩⟩
theorem de_ixP {d : D} (ha : DE X N z a (.ptr k) z1) (hb : DE X N z1 b (.d (.int i)) z2) (eo : z2.o[k]? = some (some xs)) (h : atI xs i = some d) (hs : PlainIx b := by exact fun _ _ => rfl) : DE X N z (.Subscript a b pos) (.d d) z2 :=
  PE.to (pe_ix ix_list ha hb hs) fun σ H Q ⟨F, α, fr, q⟩ => ⟨F, α, fr, fun v F1 α1 H1 o1 fr1 d1 => ⟨F1, α1, fr1, fun u F2 α2 H2 o2 fr2 d2 => by
    obtain ⟨c, ec, rfl⟩ := o2.rs d1
    obtain ⟨vs, hv, hs, da⟩ := fr2.seq ec eo
    cases (d2 : Dp X.K F2 u (.int i))
    obtain ⟨w, e1, dw⟩ := atI_all da h
    exact ⟨c, vs, i, w, rfl, rfl, hs, e1, q _ F2 α2 H2 (o1.trans o2) fr2 dw⟩⟩⟩
theorem atI_at {ds : List D} {j : Nat} {d : D} (h : ds[j]? = some d) : atI ds (j : Int) = some d := atI_nat h
theorem atI_int {ns : List Int} (h0 : 0 ≤ i) (h1 : i < ns.length) : atI (ns.map PyData.int) i = some (.int (ns.getD i.toNat 0)) := by
  have e : ((i.toNat : Nat) : Int) = i := by omega
  have hl : i.toNat < ns.length := by omega
  have q : (ns.map PyData.int)[i.toNat]? = some (.int (ns.getD i.toNat 0)) := by
    rw [List.getElem?_map, List.getElem?_eq_getElem hl, List.getD_eq_getElem?_getD, List.getElem?_eq_getElem hl]
    rfl
  have := atI_nat q
  rw [e] at this
  exact this

/-! ### slices -/
def cutG {α : Type} (xs : List α) (lo hi : Option Int) : List α := (xs.drop (HT.sIx xs.length 0 lo)).take (HT.sIx xs.length xs.length hi - HT.sIx xs.length 0 lo)
theorem cut_all {K : PySem.W.Frag} {F : Hp} {vs : List V} (h : DpAll K F vs xs) (lo hi : Option Int) : DpAll K F (cutV vs lo hi) (cutG xs lo hi) := by
  unfold cutV cutG
  rw [DpAll.len h]
  exact DpAll.cut h _ _
theorem cutG_whole {α : Type} {xs : List α} {lo hi : Option Int} (h : HT.sIx xs.length 0 lo = 0 ∧ HT.sIx xs.length xs.length hi = xs.length) : cutG xs lo hi = xs := by
  unfold cutG
  rw [h.1, h.2]
  simp
theorem cutG_map {α β : Type} (g : α → β) (xs : List α) (lo hi : Option Int) : cutG (xs.map g) lo hi = (cutG xs lo hi).map g := by
  unfold cutG
  rw [List.length_map, List.map_take, List.map_drop]
def tDO (K : PySem.W.Frag) (N : EN) (z : Z) (o : Option Int) (z' : Z) : TO := fun σ H Q => ∃ F α, Fr K N F α z σ H ∧ ∀ F' α' H', On F F' α α' → Fr K N F' α' z' σ H' → Q o H'
abbrev DO (X : Cx) (N : EN) (z : Z) (e : Option Expr) (o : Option Int) (z' : Z) : Prop := PO X e (tDO X.K N z o z')
theorem PO.to {e : Option Expr} {t t' : TO} (h : PO X e t) (w : ∀ σ H Q, t' σ H Q → t σ H Q) : PO X e t' := ⟨fun pins s σ H Q I q => h.run pins s σ H Q I (w _ _ _ q)⟩
theorem do_none : DO X N z none none z := PO.to po_none fun σ H Q ⟨F, α, fr, q⟩ => q F α H (On.refl F α) fr
theorem do_some (h : DE X N z e (.d (.int i)) z1) : DO X N z (some e) (some i) z1 :=
  PO.to (po_some h) fun σ H Q ⟨F, α, fr, q⟩ => ⟨F, α, fr, fun v F1 α1 H1 o1 fr1 d1 => by
    cases (d1 : Dp X.K F1 v (.int i))
    exact ⟨i, rfl, q F1 α1 H1 o1 fr1⟩⟩
variable {lo hi : Option Expr} {l u : Option Int}
theorem de_slT (he : DE X N z e (.d (.tuple xs)) z1) (hl : DO X N z1 lo l z2) (hu : DO X N z2 hi u z3) : DE X N z (.Subscript e (.Slice lo hi none p2) pos) (.d (.tuple (cutG xs l u))) z3 :=
  PE.to (pe_slice sl_tupA he hl hu) fun σ H Q ⟨F, α, fr, q⟩ => ⟨F, α, fr, fun v F1 α1 H1 o1 fr1 d1 => ⟨F1, α1, fr1, fun F2 α2 H2 o2 fr2 => ⟨F2, α2, fr2, fun F3 α3 H3 o3 fr3 => by
    have dd := (o2.trans o3).dp (show Dp X.K F1 v (.tuple xs) from d1)
    obtain ⟨c, vs, rfl, h1, h2, h3⟩ := SqT_of_dp dd fr3.sub
    have hlen := DpAll.len h3
    refine ⟨c, vs, rfl, h1, fun hw => ?_, fun hw pp hp => ?_⟩
    · rw [hlen] at hw
      refine q _ F3 α3 H3 ((o1.trans o2).trans o3) fr3 ?_
      show Dp X.K F3 _ (.tuple (cutG xs l u))
      rw [cutG_whole hw]
      exact dd
    · obtain ⟨o4, fr4⟩ := fr3.ext (o := .tup (cutV vs l u)) hp
      exact q _ _ α3 _ (((o1.trans o2).trans o3).trans o4) fr4 (.tup (SqT.of upd_same) (dmonoA o4.f (cut_all h3 l u)))⟩⟩⟩
theorem de_slL (he : DE X N z e (.d (.list xs)) z1) (hl : DO X N z1 lo l z2) (hu : DO X N z2 hi u z3) : DE X N z (.Subscript e (.Slice lo hi none p2) pos) (.ptr z3.o.length) ⟨z3.s, z3.o ++ [some (cutG xs l u)]⟩ :=
  PE.to (pe_slice sl_list he hl hu) fun σ H Q ⟨F, α, fr, q⟩ => ⟨F, α, fr, fun v F1 α1 H1 o1 fr1 d1 => ⟨F1, α1, fr1, fun F2 α2 H2 o2 fr2 => ⟨F2, α2, fr2, fun F3 α3 H3 o3 fr3 => by
    have dd := (o2.trans o3).dp (show Dp X.K F1 v (.list xs) from d1)
    obtain ⟨c, vs, rfl, h1, h2, h3⟩ := SqL_of_dp dd fr3.sub
    refine ⟨c, vs, rfl, h1, fun pp hp => ?_⟩
    obtain ⟨o4, fr4, e4⟩ := fr3.new hp (cut_all h3 l u)
    exact q _ _ _ _ (((o1.trans o2).trans o3).trans o4) fr4 ⟨pp, e4, rfl⟩⟩⟩⟩
theorem de_slP (he : DE X N z e (.ptr k) z1) (hl : DO X N z1 lo l z2) (hu : DO X N z2 hi u z3) (eo : z3.o[k]? = some (some xs)) : DE X N z (.Subscript e (.Slice lo hi none p2) pos) (.ptr z3.o.length) ⟨z3.s, z3.o ++ [some (cutG xs l u)]⟩ :=
  PE.to (pe_slice sl_list he hl hu) fun σ H Q ⟨F, α, fr, q⟩ => ⟨F, α, fr, fun v F1 α1 H1 o1 fr1 d1 => ⟨F1, α1, fr1, fun F2 α2 H2 o2 fr2 => ⟨F2, α2, fr2, fun F3 α3 H3 o3 fr3 => by
    obtain ⟨c, ec, rfl⟩ := (o2.trans o3).rs d1
    obtain ⟨vs, hv, hs, da⟩ := fr3.seq ec eo
    refine ⟨c, vs, rfl, hs, fun pp hp => ?_⟩
    obtain ⟨o4, fr4, e4⟩ := fr3.new hp (cut_all da l u)
    exact q _ _ _ _ (((o1.trans o2).trans o3).trans o4) fr4 ⟨pp, e4, rfl⟩⟩⟩⟩
/-- xs[::-1] of a list -/
theorem de_revP {k1 : Nat} {q1 q2 q3 : Pos} (he : DE X N z e (.ptr k) z1) (eo : z1.o[k]? = some (some xs)) : DE X N z (.Subscript e (.Slice none none (some (.UnaryOp .USub (.Constant (.int 1) k1 q1) q2)) q3) pos) (.ptr z1.o.length) ⟨z1.s, z1.o ++ [some xs.reverse]⟩ :=
  PE.to (pe_revL he) fun σ H Q ⟨F, α, fr, q⟩ => ⟨F, α, fr, fun v F1 α1 H1 o1 fr1 d1 => by
    obtain ⟨c, ec, rfl⟩ := d1
    obtain ⟨vs, hv, hs, da⟩ := fr1.seq ec eo
    refine ⟨c, vs, rfl, hs, fun pp hp => ?_⟩
    obtain ⟨o4, fr4, e4⟩ := fr1.new hp (DpAll.reverse da)
    exact q _ _ _ _ (o1.trans o4) fr4 ⟨pp, e4, rfl⟩⟩

/-! ### joined, so many times -/
theorem de_catT (ha : DE X N z a (.d (.tuple xs)) z1) (hb : DE X N z1 b (.d (.tuple ys)) z2) (hz : xs.length + ys.length ≤ sizeLine) : DE X N z (.BinOp a .Add b pos) (.d (.tuple (xs ++ ys))) z2 :=
  de_opG op_catA ha hb fun F α σ v u H Q fr d1 d2 q => by
    obtain ⟨c, vs, rfl, h1, h2, h3⟩ := SqT_of_dp (show Dp X.K F v (.tuple xs) from d1) fr.sub
    obtain ⟨c', ws, rfl, k1, k2, k3⟩ := SqT_of_dp (show Dp X.K F u (.tuple ys) from d2) fr.sub
    have l1 := DpAll.len h3
    have l2 := DpAll.len k3
    refine ⟨c, c', vs, ws, rfl, rfl, h1, k1, by omega, fun e => ?_, fun _ e => ?_, fun _ _ pp hp => ?_⟩
    · have e2 : xs = [] := List.eq_nil_of_length_eq_zero (by rw [← l1, e]; rfl)
      refine q _ F α H (On.refl F α) fr ?_
      show Dp X.K F _ (.tuple (xs ++ ys))
      rw [e2]
      exact d2
    · have e2 : ys = [] := List.eq_nil_of_length_eq_zero (by rw [← l2, e]; rfl)
      refine q _ F α H (On.refl F α) fr ?_
      show Dp X.K F _ (.tuple (xs ++ ys))
      rw [e2, List.append_nil]
      exact d1
    · obtain ⟨o4, fr4⟩ := fr.ext (o := .tup (vs ++ ws)) hp
      exact q _ _ α _ o4 fr4 (.tup (SqT.of upd_same) (dmonoA o4.f (DpAll.append h3 k3)))
theorem de_catP {j : Nat} (ha : DE X N z a (.ptr k) z1) (hb : DE X N z1 b (.ptr j) z2) (eo : z2.o[k]? = some (some xs)) (ep : z2.o[j]? = some (some ys)) (hz : xs.length + ys.length ≤ sizeLine) : DE X N z (.BinOp a .Add b pos) (.ptr z2.o.length) ⟨z2.s, z2.o ++ [some (xs ++ ys)]⟩ :=
  de_opG op_cat ha hb fun F α σ v u H Q fr d1 d2 q => by
    obtain ⟨c, ec, rfl⟩ := d1
    obtain ⟨c', ec', rfl⟩ := d2
    obtain ⟨vs, hv, _, da⟩ := fr.seq ec eo
    obtain ⟨ws, hw, _, db⟩ := fr.seq ec' ep
    refine ⟨c, c', vs, ws, rfl, rfl, hv, hw, by rw [DpAll.len da, DpAll.len db]; exact hz, fun pp hp => ?_⟩
    obtain ⟨o4, fr4, e4⟩ := fr.new hp (DpAll.append da db)
    exact q _ _ _ _ o4 fr4 ⟨pp, e4, rfl⟩
theorem de_repP (ha : DE X N z a (.ptr k) z1) (hb : DE X N z1 b (.d (.int i)) z2) (eo : z2.o[k]? = some (some xs)) (h1 : -(2 ^ 63) ≤ i) (h2 : i < 2 ^ 63) (hz : xs.length * i.toNat ≤ sizeLine) : DE X N z (.BinOp a .Mult b pos) (.ptr z2.o.length) ⟨z2.s, z2.o ++ [some (List.replicate i.toNat xs).flatten]⟩ :=
  de_opG op_rep ha hb fun F α σ v u H Q fr d1 d2 q => by
    obtain ⟨c, ec, rfl⟩ := d1
    cases (d2 : Dp X.K F u (.int i))
    obtain ⟨vs, hv, _, da⟩ := fr.seq ec eo
    refine ⟨c, i, vs, rfl, rfl, hv, h1, h2, by rw [DpAll.len da]; exact hz, fun pp hp => ?_⟩
    obtain ⟨o4, fr4, e4⟩ := fr.new hp (DpAll.rep da i.toNat)
    exact q _ _ _ _ o4 fr4 ⟨pp, e4, rfl⟩

/-! ### lists that change -/
theorem de_app {d : D} {apos : Pos} (ha : DE X N z a (.ptr k) z1) (hb : DE X N z1 b (.d d) z2) (e1 : z1.o[k]? = some (some ys)) (eo : z2.o[k]? = some (some xs)) (hz : xs.length < sizeLine)
    (hbase : attributeBase a "append" X.env (eval a X.env) = eval a X.env := by rfl)
    (hfew : ((backTo pos (starEach [b] X.env)).all (fun x => !x.1) && (backToKw pos (keywordEach [] X.env)).all (fun x => x.1.isSome) && decide ([b].length + ([] : List Keyword).length + (if ([] : List Keyword).isEmpty then 0 else 1) < 30)) = true := by rfl)
    (hline : (apos.endLine == pos.line) = true := by rfl) (hs : S1 X b := by rfl) :
    DE X N z (.Call (.Attribute a "append" apos) [b] [] pos) (.d .none) ⟨z2.s, z2.o.set k (some (xs ++ [d]))⟩ :=
  PE.to (pe_bm PySem.F.plainAttrs_list PySem.F.slot_list_append PySem.F.type_list_append mt_append ha (da_cons hb da_nil hs) hbase hfew hline hs (by rfl)) fun σ H Q ⟨F, α, fr, q⟩ => ⟨F, α, fr, fun v F1 α1 H1 o1 fr1 d1 => by
    obtain ⟨c, ec, rfl⟩ := d1
    obtain ⟨vs0, _, hs0, _⟩ := fr1.seq ec e1
    refine ⟨.inl ⟨rfl, vs0, hs0⟩, F1, α1, fr1, fun ws F2 α2 H2 o2 fr2 d2 => ?_⟩
    obtain ⟨w, rfl, dw⟩ := DpAll.one d2
    obtain ⟨c', ec', hc'⟩ := o2.rs (K := X.K) (r := .ptr k) (v := .ref c) ⟨c, ec, rfl⟩
    cases hc'
    obtain ⟨vs, hv, _, da⟩ := fr2.seq ec' eo
    exact ⟨c, vs, w, rfl, rfl, hv, by rw [DpAll.len da]; exact hz, q _ F2 α2 _ (o1.trans o2) (fr2.mut ec' eo (DpAll.append da (.cons dw .nil))) .non⟩⟩
/-- xs[i] = e -/
theorem d1_setitem {d : D} {jn : Nat} {tpos : Pos} (he : DE X N z e (.d d) z1) (ha : DE X N z1 a (.ptr k) z2) (hb : DE X N z2 b (.d (.int i)) z3) (eo : z3.o[k]? = some (some xs)) (hj : ixN xs.length i = some jn) (h : nx ⟨z3.s, z3.o.set k (some (xs.set jn d))⟩)
    (hasg : ∀ v, assign (.Subscript a b tpos) X.env v = (do
      let ov ← holding [v] (eval a X.env)
      let iv ← holding [v, ov] (eval b X.env)
      standAt tpos
      holding [v, ov, iv] (setItem ov iv v)
      release [v, ov, iv] []) := by intro _; rfl)
    (hs : swapsWithSole [.Subscript a b tpos] e pos.line X.env = pure false := by rfl) (hw : swappedStores [.Subscript a b tpos] e X.env = pure none := by rfl) (h1 : (assignEach [.Subscript a b tpos] X.env).map (·.2) = [assign (.Subscript a b tpos) X.env] := by rfl) :
    D1 X N z (.Assign [.Subscript a b tpos] e pos) nx rt :=
  PS.to (ps_asg he (pg_sub ha hb set_list hasg) hs hw h1) fun E σ H ⟨F, α, fr, q, _⟩ => ⟨F, α, fr, fun v F1 α1 H1 o1 fr1 d1 => ⟨F1, α1, fr1, fun u F2 α2 H2 o2 fr2 d2 => ⟨F2, α2, fr2, fun w F3 α3 H3 o3 fr3 d3 => by
    obtain ⟨c, ec, rfl⟩ := o3.rs d2
    cases (d3 : Dp X.K F3 w (.int i))
    obtain ⟨vs, hv, _, da⟩ := fr3.seq ec eo
    refine ⟨c, vs, i, jn, rfl, rfl, hv, by rw [DpAll.len da]; exact hj, ?_⟩
    exact q σ F3 α3 _ _ ((o1.trans o2).trans o3).f (fr3.mut ec eo (DpAll.set ((o2.trans o3).dp (show Dp X.K F1 v d from d1)) jn da)) h⟩⟩⟩
/-- xs[i] += e of ints -/
def rGetL (K : PySem.W.Frag) : V → V → Hp → VK → Prop := fun o i H Q => rIxL K o i H Q
theorem get_list : PGet X (rGetL X.K) := by
  intro pins s σ H x y v u Q I rx ry h
  obtain ⟨p, xs, i, z, rfl, rfl, hq, he, q⟩ := h
  cases rx
  obtain ⟨t, rfl⟩ := ry
  obtain ⟨its, r, pl, hz⟩ := I.list hq
  obtain ⟨j, h1, h2, h3, h4, h5⟩ := atI_get he
  obtain ⟨w, ew, rw'⟩ := r.get h2
  have hl := r.length
  have hn := line63
  have fin : EP X pins σ Q w s := ⟨z, H, I, rw', q⟩
  by_cases h0 : 0 ≤ i
  · have hj : i.toNat = j := by
      rw [seqIndex_of h0 h5] at h1
      exact Option.some.inj h1
    exact wpAny_getItem_list pl.isList h0 (by omega) (by rw [hj]; simpa using ew) fin
  · have hj : (i + (its.toArray.size : Int)).toNat = j := by
      rw [seqIndex_neg (by omega) h4] at h1
      rw [List.size_toArray, ← hl]
      exact Option.some.inj h1
    exact wpAny_getItem_list_neg pl.isList (by omega) (by rw [List.size_toArray] <;> omega) (by omega) (by rw [hj]; simpa using ew) fin
theorem d1_augL {m n : Int} {jn : Nat} {tpos : Pos} (ha : DE X N z a (.ptr k) z1) (hb : DE X N z1 b (.d (.int i)) z2) (he : DE X N z2 e (.d (.int n)) z3) (e2 : z2.o[k]? = some (some ys)) (hm : atI ys i = some (.int m)) (eo : z3.o[k]? = some (some xs)) (hj : ixN xs.length i = some jn) (h : nx ⟨z3.s, z3.o.set k (some (xs.set jn (.int (m + n))))⟩)
    (hasg : ∀ ov iv new, augStore b ov iv new = (do holding [new, ov, iv] (setItem ov iv new); release [new, ov, iv] []; pure .next) := by intros; rfl) : D1 X N z (.AugAssign (.Subscript a b tpos) .Add e pos) nx rt :=
  PS.to (ps_augS ha hb get_list he ip_add set_list hasg) fun E σ H ⟨F, α, fr, q, _⟩ => ⟨F, α, fr, fun v F1 α1 H1 o1 fr1 d1 => ⟨F1, α1, fr1, fun u F2 α2 H2 o2 fr2 d2 => by
    obtain ⟨c, ec, rfl⟩ := o2.rs d1
    cases (d2 : Dp X.K F2 u (.int i))
    obtain ⟨ws, hw, hsw, dw⟩ := fr2.seq ec e2
    obtain ⟨w, e4, d4⟩ := atI_all dw hm
    cases d4
    refine ⟨c, ws, i, _, rfl, rfl, hsw, e4, F2, α2, fr2, fun w F3 α3 H3 o3 fr3 d3 => ?_⟩
    cases (d3 : Dp X.K F3 w (.int n))
    obtain ⟨c', ec', hc'⟩ := o3.rs (K := X.K) (r := .ptr k) (v := .ref c) ⟨c, ec, rfl⟩
    cases hc'
    obtain ⟨vs, hv, _, da⟩ := fr3.seq ec' eo
    refine ⟨m, n, rfl, rfl, c, vs, i, jn, rfl, rfl, hv, by rw [DpAll.len da]; exact hj, ?_⟩
    exact q σ F3 α3 _ _ ((o1.trans o2).trans o3).f (fr3.mut ec' eo (DpAll.set (.int _) jn da)) h⟩⟩
end
end DL
/-! DL7: defs of a text, short words -/
namespace DL
open PySem PySem.Spec PyProof.Rows L2

/-- a def as it stands behind the top -/
structure FunAt (K : PySem.W.Frag) (mg : Str → Option Value) (x : Str) (st : Stmt) (ps : List Str) : Prop where
  ex : ∃ f fd, Fun K x x st f fd ∧ mg x = some (.ref f) ∧ Binds K fd ps []
abbrev RT := List D → List (List D) → Rr → List (List D) → Prop
structure OkD (P : Program) (w : World) (K : PySem.W.Frag) (mg : Str → Option Value) (base : Heap) (x : Str) (k : Nat) (ps : List Str) (R : RT) : Prop where
  ex : ∃ f fd, FnOk P w K mg base CX0 k f fd ps (spG K R) ∧ mg x = some (.ref f) ∧ PySem.W.keepIn K (.ref f) = true ∧ Binds K fd ps [] ∧ ∃ oc od osl, K.lookup f = some ⟨oc, od, .func fd, osl⟩
/-- the built-in names stand -/
structure Bt (mg : Str → Option Value) : Prop where
  len : mg "len" = none
  range : mg "range" = none
  enumerate : mg "enumerate" = none
  zip : mg "zip" = none
  tuple : mg "tuple" = none
  list : mg "list" = none
  sum : mg "sum" = none
  abs : mg "abs" = none
  max : mg "max" = none
  min : mg "min" = none
  int : mg "int" = none
  all : mg "all" = none
  any : mg "any" = none
  isinstance : mg "isinstance" = none
  bool : mg "bool" = none
  str : mg "str" = none
  sorted : mg "sorted" = none
  dict : mg "dict" = none
section
variable {X : Cx} {N : EN} {z z1 z2 : Z} {pos p : Pos} {e a b : Expr} {es : List Expr} {k : Nat} {ps : List Str} {x : Str} {R : RT} {nx : Z → Prop} {rt : Rs → Z → Prop} {rest : List Stmt} {st : Stmt}
theorem de_cl {ds : List D} {r : Rr} {k' : Nat} (G : OkD X.prog X.w X.K X.mg X.base x k ps R) (hr : Room k' X.A) (hg : Gl X x) (ha : DAd X N z (e :: es) ds z1) (hR : R ds [] r []) (hk : k ≤ k' := by decide)
    (hdb : (x == ("__debug__" : Str)) = false := by decide) (he : starEach (e :: es) X.env = (false, eval e X.env) :: starEach es X.env := by rfl) (hpl : (backTo pos (starEach es X.env)).any (·.1) = false := by rfl) :
    DE X N z (.Call (.Name x p) (e :: es) [] pos) (rsOf z1 r) (zOf z1 r) := by
  obtain ⟨f, fd, G, hm, hkp, hb, _⟩ := G.ex
  exact de_call G (hr.mono hk) hg hm hkp hb pass0 ha hR hdb he hpl
/-- .. that answers data -/
theorem de_clD {ds : List D} {v : D} {k' : Nat} (G : OkD X.prog X.w X.K X.mg X.base x k ps R) (hr : Room k' X.A) (hg : Gl X x) (ha : DAd X N z (e :: es) ds z1) (hR : R ds [] (.d v) []) (hk : k ≤ k' := by decide)
    (hdb : (x == ("__debug__" : Str)) = false := by decide) (he : starEach (e :: es) X.env = (false, eval e X.env) :: starEach es X.env := by rfl) (hpl : (backTo pos (starEach es X.env)).any (·.1) = false := by rfl) :
    DE X N z (.Call (.Name x p) (e :: es) [] pos) (.d v) z1 := de_cl G hr hg ha hR hk hdb he hpl
/-- .. that answers a new list -/
theorem de_clN {ds xs : List D} {k' : Nat} (G : OkD X.prog X.w X.K X.mg X.base x k ps R) (hr : Room k' X.A) (hg : Gl X x) (ha : DAd X N z (e :: es) ds z1) (hR : R ds [] (.new xs) []) (hk : k ≤ k' := by decide)
    (hdb : (x == ("__debug__" : Str)) = false := by decide) (he : starEach (e :: es) X.env = (false, eval e X.env) :: starEach es X.env := by rfl) (hpl : (backTo pos (starEach es X.env)).any (·.1) = false := by rfl) :
    DE X N z (.Call (.Name x p) (e :: es) [] pos) (.ptr z1.o.length) ⟨z1.s, z1.o ++ [some xs]⟩ := de_cl G hr hg ha hR hk hdb he hpl
/-- an own list handed in; data answered -/
theorem de_cl1 {ds : List D} {v : D} {j k' : Nat} {xs xs' : List D} (G : OkD X.prog X.w X.K X.mg X.base x k ps R) (hr : Room k' X.A) (hg : Gl X x) (ha : DAp X N z (e :: es) j ds z1) (eo : z1.o[j]? = some (some xs)) (hR : R ds [xs] (.d v) [xs']) (hk : k ≤ k' := by decide)
    (hdb : (x == ("__debug__" : Str)) = false := by decide) (he : starEach (e :: es) X.env = (false, eval e X.env) :: starEach es X.env := by rfl) (hpl : (backTo pos (starEach es X.env)).any (·.1) = false := by rfl) :
    DE X N z (.Call (.Name x p) (e :: es) [] pos) (.d v) ⟨z1.s, z1.o.set j (some xs')⟩ := by
  obtain ⟨f, fd, G, hm, hkp, hb, _⟩ := G.ex
  exact de_call1 (r := .d v) G (hr.mono hk) hg hm hkp hb pass0 ha eo hR hdb he hpl
/-- a statement whose end is one state -/
theorem ds_seq (h1 : D1 X N z st (fun z' => z' = z1) rt) (h2 : DS X N z1 rest nx rt) : DS X N z (st :: rest) nx rt := ds_cons h1 fun z' e => by rw [e]; exact h2
theorem dt_cast {c c' : Bool} (h : DT X N z e c z1) (q : c = c') : DT X N z e c' z1 := q ▸ h
theorem ds_at (e : z = z1) (h : DS X N z1 rest nx rt) : DS X N z rest nx rt := by rw [e]; exact h
/-- what is forgotten: slot by slot, own lists behind the n-th -/
inductive WkS : List Sl → List Sl → Prop
  | nil : WkS [] []
  | keep {t s s'} : WkS s s' → WkS (t :: s) (t :: s')
  | drop {t s s'} : WkS s s' → WkS (t :: s) (.no :: s')
theorem WkS.len : ∀ {s s' : List Sl}, WkS s s' → s'.length = s.length
  | _, _, .nil => rfl
  | _, _, .keep h => congrArg Nat.succ h.len
  | _, _, .drop h => congrArg Nat.succ h.len
theorem WkS.at_ : ∀ {s s' : List Sl}, WkS s s' → ∀ (i : Nat) (t : Sl), s'[i]? = some t → t = .no ∨ s[i]? = some t
  | _, _, .nil, _, _, e => by simp at e
  | _, _, .keep h, 0, t, e => .inr (by simpa using e)
  | _, _, .keep h, i + 1, t, e => by
    rcases h.at_ i t (by simpa using e) with q | q
    · exact .inl q
    · exact .inr (by simpa using q)
  | _, _, .drop h, 0, t, e => .inl (by simpa using e.symm)
  | _, _, .drop h, i + 1, t, e => by
    rcases h.at_ i t (by simpa using e) with q | q
    · exact .inl q
    · exact .inr (by simpa using q)
def ptrOk (s : List Sl) (m : Nat) : Bool := s.all fun | .ptr k => decide (k < m) | _ => true
theorem ptrOk_at {s : List Sl} {m : Nat} (h : ptrOk s m = true) (i k : Nat) (e : s[i]? = some (.ptr k)) : k < m := by
  have := List.all_eq_true.mp h _ (List.mem_of_getElem? e)
  simpa using this
theorem ds_wk {s' : List Sl} {o' g : List (Option (List D))} (w : WkS z.s s') (ho : z.o = o' ++ g) (hp : N.pa.length ≤ o'.length) (hs : ptrOk s' o'.length = true) (h : DS X N ⟨s', o'⟩ rest nx rt) : DS X N z rest nx rt :=
  ds_weak (z1 := ⟨s', o'⟩) ⟨w.len, w.at_, by rw [ho]; simp⟩ hp (ptrOk_at hs) h
/-- items of tuples, lists of ints -/
abbrev tI (r : List Int) : D := .tuple (r.map PyData.int)
abbrev lI (r : List Int) : List D := r.map PyData.int
def at_ (r : List Int) (i : Int) : Int := r.getD i.toNat 0
variable {i j : Int} {ns : List Int}
theorem de_ixTI (ha : DE X N z a (.d (tI ns)) z1) (hb : DE X N z1 b (.d (.int i)) z2) (h0 : 0 ≤ i) (h1 : i < ns.length) (hs : PlainIx b := by exact fun _ _ => rfl) : DE X N z (.Subscript a b pos) (.d (.int (at_ ns i))) z2 := de_ixT ha hb (atI_int h0 h1) hs
theorem de_ixLI (ha : DE X N z a (.d (.list (lI ns))) z1) (hb : DE X N z1 b (.d (.int i)) z2) (h0 : 0 ≤ i) (h1 : i < ns.length) (hs : PlainIx b := by exact fun _ _ => rfl) : DE X N z (.Subscript a b pos) (.d (.int (at_ ns i))) z2 := de_ixL ha hb (atI_int h0 h1) hs
theorem de_ixPI {k : Nat} (ha : DE X N z a (.ptr k) z1) (hb : DE X N z1 b (.d (.int i)) z2) (eo : z2.o[k]? = some (some (lI ns))) (h0 : 0 ≤ i) (h1 : i < ns.length) (hs : PlainIx b := by exact fun _ _ => rfl) : DE X N z (.Subscript a b pos) (.d (.int (at_ ns i))) z2 := de_ixP ha hb eo (atI_int h0 h1) hs
theorem ixN_at {n : Nat} (h0 : 0 ≤ i) (h1 : i < n) : ixN n i = some i.toNat := by
  unfold ixN
  rw [if_pos h0, if_pos h1]
/-- the answer of a def -/
theorem rr0 {v : D} {z : Z} : rrRs [] (.d v) (.d v) z := ⟨fun j xs h => by simp at h, rfl⟩
theorem rr0e {v u : D} {z : Z} (e : u = v) : rrRs [] (.d v) (.d u) z := ⟨fun j xs h => by simp at h, by rw [e]⟩
theorem rrN {xs : List D} {k : Nat} {z : Z} (e : z.o[k]? = some (some xs)) : rrRs [] (.new xs) (.ptr k) z := ⟨fun j xs h => by simp at h, k, rfl, Nat.zero_le _, e⟩
theorem rr1 {v : D} {z : Z} {xs : List D} (e : z.o[0]? = some (some xs)) : rrRs [xs] (.d v) (.d v) z := ⟨fun j ys h => by
  cases j with
  | zero =>
    have h : xs = ys := by simpa using h
    rw [← h]
    exact e
  | succ j => simp at h, rfl⟩
end
section
variable {P : Program} {w : World} {K : PySem.W.Frag} {mg : Str → Option Value} {base : Heap}
theorem mk_def {x : Str} {st : Stmt} {Nm ps : List Str} {k : Nat} {R : RT} (F : FunAt K mg x st ps) (S : FnScope Nm ps (defScope st))
    (len : ∀ as π r π', R as π r π' → π.length + as.length = ps.length ∧ π.length = π'.length)
    (body : ∀ (f : Addr) (cdv : Value) (A : Around) (outer : List Env) (s : Shared) (H : Hp) (E : XK) (N : EN) (as : List D) (π : List (List D)) (r : Rr) (π' : List (List D)), Room k (A.deeper (envOfC x (defScope st) s.heap.objs.size f cdv)) → N.pa.length = π.length → R as π r π' →
      DS (cxOf CX0 P w K mg base Nm x (defScope st) f cdv A outer s H E).nox N (z0 Nm π as) (defBody st) (fun z => rrRs π' r (.d .none) z) (fun q z => rrRs π' r q z)) : OkD P w K mg base x (k + 1) ps R := by
  obtain ⟨f, fd, F, hm, hb⟩ := F.ex
  obtain ⟨oc, od, _, _, _, _, _, _, osl, _, lk, _⟩ := id F.ex
  exact ⟨f, fd, mk_fn F S len (body f), hm, F.kp, hb, oc, od, osl, lk⟩
end
end DL
/-! DL8: loops and comprehensions over items by place -/
namespace DL
open PySem PySem.Spec PyProof.Rows L2

structure Items (xs : List D) (n : Nat) (item : Nat → D) : Prop where
  len : xs.length = n
  get : ∀ (k : Nat) (d : D), xs[k]? = some d → d = item k
theorem Items.lt {xs : List D} {n : Nat} {item : Nat → D} (I : Items xs n item) {k : Nat} {d : D} (h : xs[k]? = some d) : k < n := by
  rw [← I.len]
  exact (List.getElem?_eq_some_iff.mp h).1
theorem it_rng {lo : Int} {n : Nat} : Items (rngD lo n) n (fun k => .int (lo + (k : Nat))) := ⟨rngD_len _ _, fun k d h => by
  have hk : k < n := by rw [← rngD_len lo n]; exact (List.getElem?_eq_some_iff.mp h).1
  rw [rngD_get hk] at h
  exact (Option.some.inj h).symm⟩
theorem it_rng0 {n : Nat} : Items (rngD 0 n) n (fun k => .int (k : Nat)) := ⟨rngD_len _ _, fun k d h => by
  have := it_rng.get k d h
  rw [Int.zero_add] at this
  exact this⟩
theorem getD_of {r : List Int} {k : Nat} {d : D} (h : (lI r)[k]? = some d) : d = .int (r.getD k 0) := by
  rw [List.getElem?_map] at h
  cases q : r[k]? with
  | none => rw [q] at h; cases h
  | some v =>
    rw [q] at h
    rw [List.getD_eq_getElem?_getD, q]
    exact (Option.some.inj h).symm
theorem it_ints {r : List Int} : Items (lI r) r.length (fun k => .int (r.getD k 0)) := ⟨by simp, fun k d h => getD_of h⟩
theorem it_enumI {r : List Int} : Items (enumD (lI r)) r.length (fun k => .tuple [.int (k : Nat), .int (r.getD k 0)]) := ⟨by simp [enumD_len], fun k d h => by
  have hk : k < (lI r).length := by rw [← enumD_len]; exact (List.getElem?_eq_some_iff.mp h).1
  have e := getD_of (List.getElem?_eq_getElem hk)
  rw [enumD_get (List.getElem?_eq_getElem hk), e] at h
  exact (Option.some.inj h).symm⟩
theorem it_zipI {r s : List Int} (hl : r.length = s.length) : Items (zipD (lI r) (lI s)) r.length (fun k => .tuple [.int (r.getD k 0), .int (s.getD k 0)]) := ⟨by rw [zipD_len]; simp [hl], fun k d h => by
  have hk : k < r.length := by
    have := (List.getElem?_eq_some_iff.mp h).1
    rw [zipD_len] at this
    simp at this
    omega
  have h1 : k < (lI r).length := by simpa using hk
  have h2 : k < (lI s).length := by simp; omega
  have e1 := getD_of (List.getElem?_eq_getElem h1)
  have e2 := getD_of (List.getElem?_eq_getElem h2)
  rw [zipD_get (List.getElem?_eq_getElem h1) (List.getElem?_eq_getElem h2), e1, e2] at h
  exact (Option.some.inj h).symm⟩
theorem it_list {xs : List D} : Items xs xs.length (fun k => xs.getD k .none) := ⟨rfl, fun k d h => by rw [List.getD_eq_getElem?_getD, h]; rfl⟩

section
variable {X : Cx} {N : EN} {z z1 : Z} {pos p : Pos} {tg iter elt : Expr} {nx : Z → Prop} {rt : Rs → Z → Prop} {rest body : List Stmt} {xs : List D} {n : Nat} {item : Nat → D} {g : TG} {f : D → List Sl → List Sl} {ok : D → Prop} {is : List Nat}
theorem ds_for (Pv : Nat → Z → Prop) (hp : PassesOwn (model X.prog X.w) X.A X.env X.xe) (hc : X.calm = true) (hi : DI X N z tg iter xs z1) (I : Items xs n item) (hg : PG X tg g) (gd : GD X.K g f ok is) (hok : ∀ k, k < n → ok (item k)) (h0 : Pv 0 z1)
    (hb : ∀ k z, k < n → Pv k z → DS X N ⟨f (item k) z.s, z.o⟩ body (Pv (k + 1)) rt) (hd : ∀ z, Pv n z → DS X N z rest nx rt)
    (hs : ∀ x, foldedSetIterable iter X.env x = pure x := by intro _; rfl) : DS X N z (.For tg iter body [] pos :: rest) nx rt :=
  ds_cons (mid := Pv n) (d1_for Pv hp hc hi hg gd h0 (fun k d h => by rw [I.get k d h]; exact hok k (I.lt h)) (fun k d z h pv => by rw [I.get k d h]; exact hb k z (I.lt h) pv) (fun z h => by rw [I.len] at h; exact h) hs) hd
variable {scope : Scope} {own : List (Str × Nat)}
abbrev BX (X : Cx) (scope : Scope) (s : Shared) (H : Hp) (C : Addr) (cl : List (Str × Addr)) (fp : List Addr) : Cx := X.blk s H scope (compEnvC scope cl C X.env) fp
/-- a comprehension without a test whose items change no own list -/
theorem de_lcR {y : Nat → D} {ze : Nat → Z} (hc : X.calm = true) (hN : X.N.Nodup) (hi : DI X N z tg iter xs z1) (I : Items xs n item) (okb : BlkOk X.N X.env.scope scope own)
    (hg : ∀ (s : Shared) (H : Hp) (C : Addr) (cl : List (Str × Addr)) (fp : List Addr), PG (BX X scope s H C cl fp) tg g) (gd : GD X.K g f ok is) (hiv : ∀ i ∈ is, i ∈ own.map (·.2)) (hok : ∀ k, k < n → ok (item k)) (hsm : n < sizeLine)
    (he : ∀ k, k < n → ∀ (s : Shared) (H : Hp) (C : Addr) (cl : List (Str × Addr)) (fp : List Addr), DE (BX X scope s H C cl fp) N ⟨f (item k) (wipeS z1.s (own.map (·.2))), z1.o ++ [some ((List.range k).map y)]⟩ elt (.d (y k)) (ze k))
    (hz : ∀ k, k < n → (ze k).o.take (z1.o.length + 1) = z1.o ++ [some ((List.range k).map y)])
    (hs : ∀ x, foldedSetIterable iter X.env x = pure x := by intro _; rfl) :
    DE X N z (.ListComp elt [⟨tg, iter, [], 0⟩] scope pos) (.ptr z1.o.length) ⟨z1.s, z1.o ++ [some ((List.range n).map y)]⟩ := by
  have := de_lc (X := X) (N := N) (z := z) (z1 := z1) (O := fun _ => z1.o) (acc := fun k => (List.range k).map y) (b := fun _ => true) (y := y) (zt := fun k d => ⟨f d (wipeS z1.s (own.map (·.2))), z1.o ++ [some ((List.range k).map y)]⟩) (ze := fun k _ => ze k) (ifs := []) (elt := elt) (pos := pos)
    hc hN hi okb hg gd hiv (fun k d h => by rw [I.get k d h]; exact hok k (I.lt h))
    ⟨rfl, rfl, fun k hk => by rw [List.length_map, List.length_range]; rw [I.len] at hk; omega, fun _ => rfl, fun k d h _ => ⟨hz k (I.lt h), by rw [List.range_succ, List.map_append]; rfl⟩, fun k d h e => by cases e⟩
    (fun k d h s H C cl fp => dts_nil) (fun k d h _ s H C cl fp => by rw [I.get k d h]; exact he k (I.lt h) s H C cl fp) hs
  rw [I.len] at this
  exact this
/-- .. of ints -/
theorem de_lcI {y : Nat → Int} {ze : Nat → Z} (hc : X.calm = true) (hN : X.N.Nodup) (hi : DI X N z tg iter xs z1) (I : Items xs n item) (okb : BlkOk X.N X.env.scope scope own)
    (hg : ∀ (s : Shared) (H : Hp) (C : Addr) (cl : List (Str × Addr)) (fp : List Addr), PG (BX X scope s H C cl fp) tg g) (gd : GD X.K g f ok is) (hiv : ∀ i ∈ is, i ∈ own.map (·.2)) (hok : ∀ k, k < n → ok (item k)) (hsm : n < sizeLine)
    (he : ∀ k, k < n → ∀ (s : Shared) (H : Hp) (C : Addr) (cl : List (Str × Addr)) (fp : List Addr), DE (BX X scope s H C cl fp) N ⟨f (item k) (wipeS z1.s (own.map (·.2))), z1.o ++ [some (lI ((List.range k).map y))]⟩ elt (.d (.int (y k))) (ze k))
    (hz : ∀ k, k < n → (ze k).o.take (z1.o.length + 1) = z1.o ++ [some (lI ((List.range k).map y))])
    (hs : ∀ x, foldedSetIterable iter X.env x = pure x := by intro _; rfl) :
    DE X N z (.ListComp elt [⟨tg, iter, [], 0⟩] scope pos) (.ptr z1.o.length) ⟨z1.s, z1.o ++ [some (lI ((List.range n).map y))]⟩ := by
  have e : ∀ k, (List.range k).map (fun i => PyData.int (y i)) = lI ((List.range k).map y) := fun k => (List.map_map (f := y) (g := PyData.int) (l := List.range k)).symm
  have := de_lcR (X := X) (N := N) (y := fun i => .int (y i)) (ze := ze) (elt := elt) (pos := pos) hc hN hi I okb hg gd hiv hok hsm (fun k hk s H C cl fp => by rw [e]; exact he k hk s H C cl fp) (fun k hk => by rw [e]; exact hz k hk) hs
  rw [e] at this
  exact this
theorem de_lcB {y : Nat → Bool} {ze : Nat → Z} (hc : X.calm = true) (hN : X.N.Nodup) (hi : DI X N z tg iter xs z1) (I : Items xs n item) (okb : BlkOk X.N X.env.scope scope own)
    (hg : ∀ (s : Shared) (H : Hp) (C : Addr) (cl : List (Str × Addr)) (fp : List Addr), PG (BX X scope s H C cl fp) tg g) (gd : GD X.K g f ok is) (hiv : ∀ i ∈ is, i ∈ own.map (·.2)) (hok : ∀ k, k < n → ok (item k)) (hsm : n < sizeLine)
    (he : ∀ k, k < n → ∀ (s : Shared) (H : Hp) (C : Addr) (cl : List (Str × Addr)) (fp : List Addr), DE (BX X scope s H C cl fp) N ⟨f (item k) (wipeS z1.s (own.map (·.2))), z1.o ++ [some (((List.range k).map y).map PyData.bool)]⟩ elt (.d (.bool (y k))) (ze k))
    (hz : ∀ k, k < n → (ze k).o.take (z1.o.length + 1) = z1.o ++ [some (((List.range k).map y).map PyData.bool)])
    (hs : ∀ x, foldedSetIterable iter X.env x = pure x := by intro _; rfl) :
    DE X N z (.ListComp elt [⟨tg, iter, [], 0⟩] scope pos) (.ptr z1.o.length) ⟨z1.s, z1.o ++ [some (((List.range n).map y).map PyData.bool)]⟩ := by
  have e : ∀ k, (List.range k).map (fun i => PyData.bool (y i)) = ((List.range k).map y).map PyData.bool := fun k => by rw [List.map_map]; rfl
  have := de_lcR (X := X) (N := N) (y := fun i => .bool (y i)) (ze := ze) (elt := elt) (pos := pos) hc hN hi I okb hg gd hiv hok hsm (fun k hk s H C cl fp => by rw [e]; exact he k hk s H C cl fp) (fun k hk => by rw [e]; exact hz k hk) hs
  rw [e] at this
  exact this
/-- a comprehension without a test whose items change own lists (O) -/
theorem de_lcS {y : Nat → D} {O : Nat → List (Option (List D))} {ze : Nat → Z} (hc : X.calm = true) (hN : X.N.Nodup) (hi : DI X N z tg iter xs z1) (I : Items xs n item) (okb : BlkOk X.N X.env.scope scope own)
    (hg : ∀ (s : Shared) (H : Hp) (C : Addr) (cl : List (Str × Addr)) (fp : List Addr), PG (BX X scope s H C cl fp) tg g) (gd : GD X.K g f ok is) (hiv : ∀ i ∈ is, i ∈ own.map (·.2)) (hok : ∀ k, k < n → ok (item k)) (hsm : n < sizeLine) (hO : O 0 = z1.o) (hOl : ∀ k, (O k).length = z1.o.length)
    (he : ∀ k, k < n → ∀ (s : Shared) (H : Hp) (C : Addr) (cl : List (Str × Addr)) (fp : List Addr), DE (BX X scope s H C cl fp) N ⟨f (item k) (wipeS z1.s (own.map (·.2))), O k ++ [some ((List.range k).map y)]⟩ elt (.d (y k)) (ze k))
    (hz : ∀ k, k < n → (ze k).o.take (z1.o.length + 1) = O (k + 1) ++ [some ((List.range k).map y)])
    (hs : ∀ x, foldedSetIterable iter X.env x = pure x := by intro _; rfl) :
    DE X N z (.ListComp elt [⟨tg, iter, [], 0⟩] scope pos) (.ptr z1.o.length) ⟨z1.s, O n ++ [some ((List.range n).map y)]⟩ := by
  have := de_lc (X := X) (N := N) (z := z) (z1 := z1) (O := O) (acc := fun k => (List.range k).map y) (b := fun _ => true) (y := y) (zt := fun k d => ⟨f d (wipeS z1.s (own.map (·.2))), O k ++ [some ((List.range k).map y)]⟩) (ze := fun k _ => ze k) (ifs := []) (elt := elt) (pos := pos)
    hc hN hi okb hg gd hiv (fun k d h => by rw [I.get k d h]; exact hok k (I.lt h))
    ⟨hO, rfl, fun k hk => by rw [List.length_map, List.length_range]; rw [I.len] at hk; omega, hOl, fun k d h _ => ⟨hz k (I.lt h), by rw [List.range_succ, List.map_append]; rfl⟩, fun k d h e => by cases e⟩
    (fun k d h s H C cl fp => dts_nil) (fun k d h _ s H C cl fp => by rw [I.get k d h]; exact he k (I.lt h) s H C cl fp) hs
  rw [I.len] at this
  exact this
theorem de_lcSI {y : Nat → Int} {O : Nat → List (Option (List D))} {ze : Nat → Z} (hc : X.calm = true) (hN : X.N.Nodup) (hi : DI X N z tg iter xs z1) (I : Items xs n item) (okb : BlkOk X.N X.env.scope scope own)
    (hg : ∀ (s : Shared) (H : Hp) (C : Addr) (cl : List (Str × Addr)) (fp : List Addr), PG (BX X scope s H C cl fp) tg g) (gd : GD X.K g f ok is) (hiv : ∀ i ∈ is, i ∈ own.map (·.2)) (hok : ∀ k, k < n → ok (item k)) (hsm : n < sizeLine) (hO : O 0 = z1.o) (hOl : ∀ k, (O k).length = z1.o.length)
    (he : ∀ k, k < n → ∀ (s : Shared) (H : Hp) (C : Addr) (cl : List (Str × Addr)) (fp : List Addr), DE (BX X scope s H C cl fp) N ⟨f (item k) (wipeS z1.s (own.map (·.2))), O k ++ [some (lI ((List.range k).map y))]⟩ elt (.d (.int (y k))) (ze k))
    (hz : ∀ k, k < n → (ze k).o.take (z1.o.length + 1) = O (k + 1) ++ [some (lI ((List.range k).map y))])
    (hs : ∀ x, foldedSetIterable iter X.env x = pure x := by intro _; rfl) :
    DE X N z (.ListComp elt [⟨tg, iter, [], 0⟩] scope pos) (.ptr z1.o.length) ⟨z1.s, O n ++ [some (lI ((List.range n).map y))]⟩ := by
  have e : ∀ k, (List.range k).map (fun i => PyData.int (y i)) = lI ((List.range k).map y) := fun k => (List.map_map (f := y) (g := PyData.int) (l := List.range k)).symm
  have := de_lcS (X := X) (N := N) (y := fun i => .int (y i)) (O := O) (ze := ze) (elt := elt) (pos := pos) hc hN hi I okb hg gd hiv hok hsm hO hOl (fun k hk s H C cl fp => by rw [e]; exact he k hk s H C cl fp) (fun k hk => by rw [e]; exact hz k hk) hs
  rw [e] at this
  exact this
/-- a while: the word by a measure; the state is one of the word's -/
theorem ds_while {c : Expr} (Pv : Nat → Z → Prop) (m0 : Nat) (t : Nat → Z → Bool) (hp : PassesOwn (model X.prog X.w) X.A X.env X.xe) (h0 : Pv m0 z) (hc : ∀ m z, Pv m z → DT X N z c (t m z) z)
    (hb : ∀ m z, Pv m z → t m z = true → DS X N z body (fun z' => ∃ m', m' < m ∧ Pv m' z') rt) (hd : ∀ m z, Pv m z → t m z = false → DS X N z rest nx rt) : DS X N z (.While c body [] pos :: rest) nx rt :=
  ds_cons (mid := fun z' => ∃ m, Pv m z' ∧ t m z' = false) (d1_while Pv hp m0 h0 t (fun _ z => z) hc hb fun m z h e => ⟨m, h, e⟩) fun z' ⟨m, h, e⟩ => hd m z' h e
end
section
variable {X : Cx} {N : EN} {z z1 z2 z3 : Z} {pos p apos tpos : Pos} {a b e : Expr} {k : Nat} {nx : Z → Prop} {rt : Rs → Z → Prop} {rest : List Stmt} {i v m n : Int} {ns ms : List Int} {xs : List D}
theorem lI_set (ns : List Int) (j : Nat) (v : Int) : (lI ns).set j (.int v) = lI (ns.set j v) := (List.map_set ..).symm
theorem lI_app (ns : List Int) (v : Int) : lI ns ++ [.int v] = lI (ns ++ [v]) := by simp
theorem lI_len (ns : List Int) : (lI ns).length = ns.length := by simp
/-- an own list of ints changes -/
theorem d1_setI (he : DE X N z e (.d (.int v)) z1) (ha : DE X N z1 a (.ptr k) z2) (hb : DE X N z2 b (.d (.int i)) z3) (eo : z3.o[k]? = some (some (lI ns))) (h0 : 0 ≤ i) (h1 : i < ns.length) (h : nx ⟨z3.s, z3.o.set k (some (lI (ns.set i.toNat v)))⟩)
    (hasg : ∀ v, assign (.Subscript a b tpos) X.env v = (do
      let ov ← holding [v] (eval a X.env)
      let iv ← holding [v, ov] (eval b X.env)
      standAt tpos
      holding [v, ov, iv] (setItem ov iv v)
      release [v, ov, iv] []) := by intro _; rfl)
    (hs : swapsWithSole [.Subscript a b tpos] e pos.line X.env = pure false := by rfl) (hw : swappedStores [.Subscript a b tpos] e X.env = pure none := by rfl) (hq : (assignEach [.Subscript a b tpos] X.env).map (·.2) = [assign (.Subscript a b tpos) X.env] := by rfl) :
    D1 X N z (.Assign [.Subscript a b tpos] e pos) nx rt :=
  d1_setitem he ha hb eo (by rw [lI_len]; exact ixN_at h0 h1) (by rw [lI_set]; exact h) hasg hs hw hq
theorem d1_augLI (ha : DE X N z a (.ptr k) z1) (hb : DE X N z1 b (.d (.int i)) z2) (he : DE X N z2 e (.d (.int n)) z3) (e2 : z2.o[k]? = some (some (lI ms))) (g0 : 0 ≤ i) (g1 : i < ms.length) (eo : z3.o[k]? = some (some (lI ns))) (h1 : i < ns.length) (h : nx ⟨z3.s, z3.o.set k (some (lI (ns.set i.toNat (at_ ms i + n))))⟩)
    (hasg : ∀ ov iv new, augStore b ov iv new = (do holding [new, ov, iv] (setItem ov iv new); release [new, ov, iv] []; pure .next) := by intros; rfl) : D1 X N z (.AugAssign (.Subscript a b tpos) .Add e pos) nx rt :=
  d1_augL ha hb he e2 (atI_int g0 g1) eo (by rw [lI_len]; exact ixN_at g0 h1) (by rw [lI_set]; exact h) hasg
theorem de_appI (ha : DE X N z a (.ptr k) z1) (hb : DE X N z1 b (.d (.int v)) z2) (e1 : z1.o[k]? = some (some (lI ms))) (eo : z2.o[k]? = some (some (lI ns))) (hz : ns.length < sizeLine)
    (hbase : attributeBase a "append" X.env (eval a X.env) = eval a X.env := by rfl)
    (hfew : ((backTo pos (starEach [b] X.env)).all (fun x => !x.1) && (backToKw pos (keywordEach [] X.env)).all (fun x => x.1.isSome) && decide ([b].length + ([] : List Keyword).length + (if ([] : List Keyword).isEmpty then 0 else 1) < 30)) = true := by rfl)
    (hline : (apos.endLine == pos.line) = true := by rfl) (hs : S1 X b := by rfl) :
    DE X N z (.Call (.Attribute a "append" apos) [b] [] pos) (.d .none) ⟨z2.s, z2.o.set k (some (lI (ns ++ [v])))⟩ := by
  have := de_app (pos := pos) (apos := apos) ha hb e1 eo (by rw [lI_len]; exact hz) hbase hfew hline hs
  rw [lI_app] at this
  exact this
/-- an own list becomes data -/
theorem ds_frz (k : Nat) (ho : z.o[k]? = some (some xs)) (hk : N.pa.length ≤ k) (h : DS X N (frz z k xs) rest nx rt) : DS X N z rest nx rt :=
  PSs.to h fun E σ H ⟨F, α, fr, q, r⟩ => by
    have hk2 : k < α.length := by rw [← fr.len]; exact (List.getElem?_eq_some_iff.mp ho).1
    obtain ⟨F2, o2, fr2, _⟩ := fr.frz (List.getElem?_eq_getElem hk2) ho hk
    exact ⟨F2, α, fr2, fun σ' F' α' H' z' s => q σ' F' α' H' z' (o2.f.trans s), fun v σ' F' α' H' rr z' s => r v σ' F' α' H' rr z' (o2.f.trans s)⟩
end
section
variable {X : Cx} {N : EN} {z z1 z2 z3 : Z} {pos : Pos} {a b : Expr} {k j : Nat} {i v : Int} {ns ms : List Int}
theorem de_repPI (ha : DE X N z a (.ptr k) z1) (hb : DE X N z1 b (.d (.int i)) z2) (eo : z2.o[k]? = some (some (lI [v]))) (h1 : -(2 ^ 63) ≤ i) (h2 : i < 2 ^ 63) (hz : i.toNat ≤ sizeLine) : DE X N z (.BinOp a .Mult b pos) (.ptr z2.o.length) ⟨z2.s, z2.o ++ [some (lI (List.replicate i.toNat v))]⟩ := by
  have := de_repP (pos := pos) ha hb eo h1 h2 (by simpa using hz)
  have e : (List.replicate i.toNat (lI [v])).flatten = lI (List.replicate i.toNat v) := Eq.trans List.flatten_replicate_singleton List.map_replicate.symm
  rw [e] at this
  exact this
theorem de_catPI (ha : DE X N z a (.ptr k) z1) (hb : DE X N z1 b (.ptr j) z2) (eo : z2.o[k]? = some (some (lI ns))) (ep : z2.o[j]? = some (some (lI ms))) (hz : ns.length + ms.length ≤ sizeLine) : DE X N z (.BinOp a .Add b pos) (.ptr z2.o.length) ⟨z2.s, z2.o ++ [some (lI (ns ++ ms))]⟩ := by
  have := de_catP (pos := pos) ha hb eo ep (by simpa using hz)
  rw [← List.map_append] at this
  exact this
end
section
variable {X : Cx} {N : EN} {z z1 z2 : Z} {pos : Pos} {a b c : Expr} {t : Bool} {i j : Int}
theorem de_ifI (hc : DT X N z c t z1) (ha : t = true → DE X N z1 a (.d (.int i)) z2) (hb : t = false → DE X N z1 b (.d (.int j)) z2) : DE X N z (.IfExp c a b pos) (.d (.int (if t = true then i else j))) z2 := by
  have := de_if (pos := pos) hc ha hb
  have e : (if t = true then PyData.int i else PyData.int j) = PyData.int (if t = true then i else j) := by split <;> rfl
  rw [e] at this
  exact this
end
theorem cutG_drop {α : Type} {xs : List α} {i : Int} (h0 : 0 ≤ i) (h1 : i ≤ xs.length) : cutG xs (some i) none = xs.drop i.toNat := by
  unfold cutG
  have e : HT.sIx xs.length 0 (some i) = i.toNat := by
    have e2 : i = ((i.toNat : Nat) : Int) := by omega
    rw [e2, HT.sIx_nat]
    simp
    omega
  rw [e, HT.sIx_none]
  exact List.take_of_length_le (by rw [List.length_drop]; exact Nat.le_refl _)
theorem cutG_take {α : Type} {xs : List α} {i : Int} (h0 : 0 ≤ i) (h1 : i ≤ xs.length) : cutG xs none (some i) = xs.take i.toNat := by
  unfold cutG
  have e : HT.sIx xs.length xs.length (some i) = i.toNat := by
    have e2 : i = ((i.toNat : Nat) : Int) := by omega
    rw [e2, HT.sIx_nat]
    simp
    omega
  rw [e, HT.sIx_none]
  simp
/-- tuples of ints told alike -/
theorem eqv_ints : ∀ (r s : List Int), PyData.eqvAll (lI r) (lI s) = decide (r = s)
  | [], [] => rfl
  | [], _ :: _ => rfl
  | _ :: _, [] => rfl
  | x :: r, y :: s => by
    show (PyData.eqv (.int x) (.int y) && PyData.eqvAll (lI r) (lI s)) = _
    rw [eqv_ints r s]
    show ((x == y) && decide (r = s)) = _
    by_cases h : x = y <;> by_cases h2 : r = s <;> simp [h, h2]
theorem eqv_tI (r s : List Int) : PyData.eqv (tI r) (tI s) = decide (r = s) := eqv_ints r s
theorem depth_ints : ∀ r : List Int, PyData.depthAll (lI r) ≤ 1
  | [] => by simp [PyData.depthAll]
  | x :: r => by
    have : PyData.depthAll (r.map PyData.int) ≤ 1 := depth_ints r
    simp only [List.map_cons, PyData.depthAll, PyData.depth]
    omega
theorem depth_tI (r : List Int) (y : D) : min (PyData.depth (tI r)) y.depth ≤ 64 := by
  have : PyData.depthAll (r.map PyData.int) ≤ 1 := depth_ints r
  simp only [PyData.depth]
  omega
end DL
/-! DL9: least and greatest; calls by keywords; the law's own end -/
namespace DL
open PySem PySem.Spec PyProof.Rows L2

section
variable {X : Cx}
theorem DpAll.none {K : PySem.W.Frag} {F : Hp} : ∀ {vs : List V} {ds : List D} {i : Nat}, DpAll K F vs ds → vs[i]? = Option.none → ds[i]? = Option.none := fun {vs ds i} h e => by
  have := DpAll.len h
  have h2 := List.getElem?_eq_none_iff.mp e
  exact List.getElem?_eq_none_iff.mpr (by omega)
/-- the item that data names -/
theorem item_of {pins : List (Addr × Obj)} {σ : L2.St} {H : Hp} {s : Shared} {xs : List V} {ds : List D} {its : List Value} {h' : Heap} {i : Nat} {v : Value} {d : D} {bs : List Addr} (I : Inv X pins σ H s) (da : DpAll X.K H xs ds) (rv : Vals xs its) (hv : its[i]? = some v)
    (hk : ∀ b o, s.heap.get? b = some o → h'.get? b = some o) (hd : Reads h' v d bs) : ∃ x, RelV x v ∧ Dp X.K H x d := by
  cases q : xs[i]? with
  | none => rw [rv.none_of q] at hv; cases hv
  | some x =>
    obtain ⟨u, hu, ru⟩ := rv.get q
    rw [hv] at hu
    cases hu
    obtain ⟨d', hd', dp⟩ := DpAll.getV da q
    obtain ⟨as, r⟩ := Dp.reads I d' x v dp ru
    have e : d' = d := SeqAt.plain_unique d' d v as bs (Dp.plain dp) (PySem.W.reads_keeps hk r) hd
    rw [← e]
    exact ⟨x, ru, dp⟩
def rMinT (K : PySem.W.Frag) : List V → Hp → VK → Prop := fun vs H Q => ∃ v x xs, vs = [v] ∧ (Dp K H v (.tuple (x :: xs)) ∨ Dp K H v (.list (x :: xs))) ∧ PySem.W.AlikeAll (x :: xs) ∧ PyData.depthAll (x :: xs) ≤ 60 ∧ ∀ u, Dp K H u (PySem.W.minD x xs) → Q u H
theorem cr_minD (hc : X.calm = true) (hu : X.A.units + 64 < cLine) : CallR X (.builtin "min") (rMinT X.K) := by
  intro pins s σ H vs us Q I r h
  obtain ⟨v, x, xs, rfl, hd, ha, hz, q⟩ := h
  obtain ⟨u, rfl, ru⟩ := r.one
  rcases hd with hd | hd
  · obtain ⟨c, ws, rfl, h1, _, da⟩ := SqT_of_dp hd (Same.refl H)
    cases ru
    obtain ⟨its, rv, p, _⟩ := I.tuple h1
    obtain ⟨as, hr⟩ := Dp.readsAll I _ _ its da rv
    refine PySem.W.min_tuple_data (I.ok.hd hc) (show s.heap.IsTuple c its.toArray from p) hr ha (by omega) fun i v h' tk bs hv hd' hk => ?_
    obtain ⟨y, ry, dy⟩ := item_of I da rv (by simpa using hv) hk hd'
    exact ⟨y, H, I.kept hk, ry, q y dy⟩
  · obtain ⟨c, ws, rfl, h1, _, da⟩ := SqL_of_dp hd (Same.refl H)
    cases ru
    obtain ⟨its, rv, p, _⟩ := I.list h1
    obtain ⟨as, hr⟩ := Dp.readsAll I _ _ its da rv
    refine PySem.W.min_list_data (I.ok.hd hc) p.isList hr ha (by omega) fun i v h' tk bs hv hd' hk => ?_
    obtain ⟨y, ry, dy⟩ := item_of I da rv (by simpa using hv) hk hd'
    exact ⟨y, H, I.kept hk, ry, q y dy⟩
def rMaxT (K : PySem.W.Frag) : List V → Hp → VK → Prop := fun vs H Q => ∃ v x xs, vs = [v] ∧ Dp K H v (.tuple (x :: xs)) ∧ PySem.W.AlikeAll (x :: xs) ∧ PyData.depthAll (x :: xs) ≤ 60 ∧ ∀ u, Dp K H u (PySem.W.maxD x xs) → Q u H
theorem cr_maxD (hc : X.calm = true) (hu : X.A.units + 64 < cLine) : CallR X (.builtin "max") (rMaxT X.K) := by
  intro pins s σ H vs us Q I r h
  obtain ⟨v, x, xs, rfl, hd, ha, hz, q⟩ := h
  obtain ⟨u, rfl, ru⟩ := r.one
  obtain ⟨c, ws, rfl, h1, _, da⟩ := SqT_of_dp hd (Same.refl H)
  cases ru
  obtain ⟨its, rv, p, _⟩ := I.tuple h1
  obtain ⟨as, hr⟩ := Dp.readsAll I _ _ its da rv
  refine PySem.W.max_tuple_data (I.ok.hd hc) (show s.heap.IsTuple c its.toArray from p) hr ha (by omega) fun i v h' tk bs hv hd' hk => ?_
  obtain ⟨y, ry, dy⟩ := item_of I da rv (by simpa using hv) hk hd'
  exact ⟨y, H, I.kept hk, ry, q y dy⟩
variable {N : EN} {z z1 : Z} {pos p : Pos} {e : Expr} {es : List Expr} {x : Str} {ns : List Int} {n : Int}
theorem alike_ints : PySem.W.AlikeAll (lI ns) := ⟨fun a ha b hb => by
  obtain ⟨i, _, rfl⟩ := List.mem_map.mp ha
  obtain ⟨j, _, rfl⟩ := List.mem_map.mp hb
  rfl, fun a ha => by
  obtain ⟨i, _, rfl⟩ := List.mem_map.mp ha
  exact fun q => by cases q⟩
theorem de_minTI (hc : X.calm = true) (hu : X.A.units + 64 < cLine) (hg : Gl X "min") (hm : X.mg "min" = none) (h : DE X N z e (.d (tI (n :: ns))) z1) (hs : S1 X e := by rfl) : DE X N z (.Call (.Name "min" p) [e] [] pos) (.d (.int (ns.foldl min n))) z1 :=
  de_bt (cr_minD hc hu) hg hm (by decide +kernel) (da_cons h da_nil hs) (fun F α σ vs H Q fr d q => by
    obtain ⟨v, rfl, dd⟩ := DpAll.one d
    have h2 : PyData.depthAll (lI (n :: ns)) ≤ 1 := depth_ints (n :: ns)
    refine ⟨v, .int n, lI ns, rfl, .inl (dmono fr.sub dd), alike_ints (ns := n :: ns), Nat.le_trans h2 (by decide), fun u du => ?_⟩
    rw [PySem.W.minD_ints] at du
    cases du
    exact q _ F α H (On.refl F α) fr (.int _)) (he := hs)
theorem de_maxTI (hc : X.calm = true) (hu : X.A.units + 64 < cLine) (hg : Gl X "max") (hm : X.mg "max" = none) (h : DE X N z e (.d (tI (n :: ns))) z1) (hs : S1 X e := by rfl) : DE X N z (.Call (.Name "max" p) [e] [] pos) (.d (.int (ns.foldl max n))) z1 :=
  de_bt (cr_maxD hc hu) hg hm (by decide +kernel) (da_cons h da_nil hs) (fun F α σ vs H Q fr d q => by
    obtain ⟨v, rfl, dd⟩ := DpAll.one d
    have h2 : PyData.depthAll (lI (n :: ns)) ≤ 1 := depth_ints (n :: ns)
    refine ⟨v, .int n, lI ns, rfl, dmono fr.sub dd, alike_ints (ns := n :: ns), Nat.le_trans h2 (by decide), fun u du => ?_⟩
    rw [PySem.W.maxD_ints] at du
    cases du
    exact q _ F α H (On.refl F α) fr (.int _)) (he := hs)
theorem foldl_min_bd {lo hi : Int} : ∀ (ns : List Int) (n : Int), lo ≤ n ∧ n < hi → (∀ v ∈ ns, lo ≤ v ∧ v < hi) → lo ≤ ns.foldl min n ∧ ns.foldl min n < hi
  | [], n, h, _ => h
  | m :: ns, n, h, hs => by
    have := hs m List.mem_cons_self
    exact foldl_min_bd ns (min n m) (by omega) fun v hv => hs v (List.mem_cons_of_mem _ hv)
theorem foldl_max_bd {lo hi : Int} : ∀ (ns : List Int) (n : Int), lo ≤ n ∧ n < hi → (∀ v ∈ ns, lo ≤ v ∧ v < hi) → lo ≤ ns.foldl max n ∧ ns.foldl max n < hi
  | [], n, h, _ => h
  | m :: ns, n, h, hs => by
    have := hs m List.mem_cons_self
    exact foldl_max_bd ns (max n m) (by omega) fun v hv => hs v (List.mem_cons_of_mem _ hv)
end

/-! ### calls by keywords alone -/
/-- how keywords ks bind: g puts their values in the parameters' order -/
structure OkK (P : Program) (w : World) (K : PySem.W.Frag) (mg : Str → Option Value) (base : Heap) (x : Str) (k : Nat) (ps ks : List Str) (g : {α : Type} → List α → List α) (R : RT) : Prop where
  ex : ∃ f fd, FnOk P w K mg base CX0 k f fd ps (spG K R) ∧ mg x = some (.ref f) ∧ PySem.W.keepIn K (.ref f) = true ∧ ∀ (s : Shared) (ws : List Value), ws.length = ks.length → BindsTo s fd ⟨[], ks.zip ws⟩ (ps.zip (g ws))
section
variable {X : Cx} {N : EN} {z z1 z2 : Z} {pos p kpos : Pos} {e : Expr} {kws : List Keyword} {k k' : Nat} {ps ks : List Str} {x : Str} {nm : Option Str} {R : RT} {g : {α : Type} → List α → List α}
abbrev DK (X : Cx) (N : EN) (z : Z) (kws : List Keyword) (ds : List D) (z' : Z) : Prop := PK X kws (tDAd X.K N z ds z')
theorem PK.to {t t' : TA} (h : PK X kws t) (w : ∀ σ H Q, t' σ H Q → t σ H Q) : PK X kws t' := ⟨fun pos pins s σ H Q I q => h.run pos pins s σ H Q I (w _ _ _ q)⟩
theorem dk_nil : DK X N z [] [] z := PK.to pk_nil fun σ H Q ⟨F, α, fr, q⟩ => q [] F α H (On.refl F α) fr .nil
theorem dk_cons {x : D} {ds : List D} (h : DE X N z e (.d x) z1) (hr : DK X N z1 kws ds z2) : DK X N z (⟨nm, e, kpos⟩ :: kws) (x :: ds) z2 :=
  PK.to (pk_cons h hr) fun σ H Q ⟨F, α, fr, q⟩ => ⟨F, α, fr, fun v F1 α1 H1 o1 fr1 d1 => ⟨F1, α1, fr1, fun vs F2 α2 H2 o2 fr2 d2 => q _ F2 α2 H2 (o1.trans o2) fr2 (.cons (o2.dp d1) d2)⟩⟩
theorem de_clK {ds : List D} {v : D} (G : OkK X.prog X.w X.K X.mg X.base x k ps ks g R) (hr : Room k' X.A) (hg : Gl X x) (ha : DK X N z kws ds z1) (hl : ds.length = ks.length) (hR : R (g ds) [] (.d v) [])
    (gV : ∀ {vs : List V} {us : List Value}, vs.length = ks.length → Vals vs us → Vals (g vs) (g us)) (gD : ∀ {K : PySem.W.Frag} {F : Hp} {vs : List V}, DpAll K F vs ds → DpAll K F (g vs) (g ds)) (hk : k ≤ k' := by decide)
    (hall : (backToKw pos (keywordEach kws X.env)).all (·.1.isSome) = true := by rfl) (hks : (backToKw pos (keywordEach kws X.env)).filterMap (·.1) = ks := by rfl) (hdb : (x == ("__debug__" : Str)) = false := by decide)
    (hpl : ((backTo pos (starEach [] X.env)).any (·.1) || (backToKw pos (keywordEach kws X.env)).any (·.1.isNone)) = false := by rfl) :
    DE X N z (.Call (.Name x p) [] kws pos) (.d v) z1 := by
  obtain ⟨f, fd, F, hm, hkp, hb⟩ := G.ex
  refine ⟨fun pins s σ H Q I h => ?_⟩
  obtain ⟨Fh, α, fr, q⟩ := h
  refine wpAny_Call_Name_kw (ld_glob I hg hm ?_ hdb)
  refine PySem.W.callWith_KW0 (h₀ := X.base) I.ok.mod.kin hkp hall ?_ hpl
  refine thn (ha.run pos pins s σ H (fun zs H2 => ∃ F2 α2, On Fh F2 α α2 ∧ Fr X.K N F2 α2 z1 σ H2 ∧ DpAll X.K F2 zs ds) I ⟨Fh, α, fr, fun vs F2 α2 H2 o2 fr2 d2 => ⟨F2, α2, o2, fr2, d2⟩⟩) fun ws s2 ⟨zs, H2, I2, rz, F2, α2, o2, fr2, d2⟩ => ⟨I2.kIn, ?_⟩
  rw [hks]
  have lz : zs.length = ks.length := (DpAll.len d2).trans hl
  have r2 := gV lz rz
  have hsp : spG X.K R (g zs) H2 Q E0 := sp_call0 (r := .d v) fr2 (gD d2) hR fun v F3 α3 H3 o3 f3 r3 => q v F3 α3 H3 (o2.trans o3) f3 r3
  refine wpAny_call (codeAny_mono (F.run X.A X.stack s2 H2 ⟨[], ks.zip ws⟩ (g ws) (g zs) Q E0 (hr.mono hk) I2.env0 (hb s2 ws (rz.length.symm.trans lz)) r2 hsp) fun r s' hq => ?_)
  cases r with
  | error e => exact pass0 (X := X) pins σ H2 s2 e s' I2 hq
  | ok fl =>
    cases fl with
    | ret u => exact I2.after hq
    | next => exact False.elim hq
    | brk => exact False.elim hq
    | cont => exact False.elim hq
end

/-! ### the end of a law -/
def spLaw (K : PySem.W.Frag) : Sp := fun vs H Q _ => ∃ (a : Addr) (ns : List Int), vs = [.ref a] ∧ SqL K H a (ns.map V.int) ∧ ns.length ≤ 63 ∧ ∀ H', Q (.bl true) H'
def RLaw : RT := fun as π r π' => ∃ ns : List Int, as = [.list (lI ns)] ∧ ns.length ≤ 63 ∧ π = [] ∧ π' = [] ∧ r = .d (.bool true)
theorem sp_law {K : PySem.W.Frag} {vs : List V} {H : Hp} {Q : VK} {E : XK} (h : spLaw K vs H Q E) : spG K RLaw vs H Q E := by
  obtain ⟨a, ns, rfl, hs, hl, q⟩ := h
  refine ⟨[], H, [.ref a], [.list (lI ns)], [], [], .d (.bool true), ⟨ns, rfl, hl, rfl, rfl, rfl⟩, rfl, .cons (.lst hs (dpAll_ints ns)) .nil, Same.refl H, ⟨rfl, fun k a xs e => by simp at e⟩, List.nodup_nil, rfl, fun v F' H' _ _ _ _ _ r => ?_⟩
  cases (r : Dp K F' v (.bool true))
  exact q H'
/-- a def behind the top, by the head's facts -/
structure Raw (K : PySem.W.Frag) (x : Str) (st : Stmt) : Prop where
  ex : ∃ (f : Addr) (oc : Value) (od an : Option Addr) (sl : Array (Option Value)) (kV dc pm cd ct : Value), PySem.W.nsIn K mainGlobals x = some (some (.ref f)) ∧
    K.lookup f = some ⟨oc, od, .func (PySem.W.fnOf x x (defArgs st) (defBody st) (defScope st) .none kV dc pm an cd ct), sl⟩ ∧ PySem.W.codeIn K cd x = true ∧ PySem.W.keepIn K (.ref f) = true
theorem raw_mk {K : PySem.W.Frag} {x : Str} {st : Stmt} {f : Addr} {oc : Value} {od an : Option Addr} {sl : Array (Option Value)} {kV dc pm cd ct : Value} (a : PySem.W.nsIn K mainGlobals x = some (some (.ref f)))
    (l : K.lookup f = some ⟨oc, od, .func (PySem.W.fnOf x x (defArgs st) (defBody st) (defScope st) .none kV dc pm an cd ct), sl⟩) (c : PySem.W.codeIn K cd x = true) (k : PySem.W.keepIn K (.ref f) = true) : Raw K x st := ⟨f, oc, od, an, sl, kV, dc, pm, cd, ct, a, l, c, k⟩
theorem Raw.at_ {K : PySem.W.Frag} {x : Str} {st : Stmt} {h : Heap} {mg : Str → Option Value} {ps : List Str} (R : Raw K x st) (X : K.In h) (G : h.Ns mainGlobals mg)
    (b : ∀ (kV doc pm : Value) (an : Option Addr) (cdv ct : Value) (us : List Value), us.length = ps.length → bindArgs (PySem.W.fnOf x x (defArgs st) (defBody st) (defScope st) .none kV doc pm an cdv ct) ⟨us, []⟩ = pure (ps.zip us)) : FunAt K mg x st ps := by
  obtain ⟨f, oc, od, an, sl, kV, dc, pm, cd, ct, a, l, c, k⟩ := R.ex
  have F := fun_mk (st := st) l c k
  exact ⟨f, _, F, PySem.W.mg_of X G a, F.binds b⟩
/-- the same with keywords -/
theorem OkD.kw {P : Program} {w : World} {K : PySem.W.Frag} {mg : Str → Option Value} {base : Heap} {x : Str} {k : Nat} {ps ks : List Str} {R : RT} {st : Stmt} {g : {α : Type} → List α → List α} (O : OkD P w K mg base x k ps R) (F : FunAt K mg x st ps)
    (b : ∀ (kV doc pm : Value) (an : Option Addr) (cdv ct : Value) (ws : List Value), ws.length = ks.length → bindArgs (PySem.W.fnOf x x (defArgs st) (defBody st) (defScope st) .none kV doc pm an cdv ct) ⟨[], ks.zip ws⟩ = pure (ps.zip (g ws))) : OkK P w K mg base x k ps ks g R := by
  obtain ⟨f, fd, G, hm, hkp, hb, oc, od, osl, lk⟩ := O.ex
  obtain ⟨f', fd', F', hm', _⟩ := F.ex
  rw [hm] at hm'
  cases hm'
  obtain ⟨oc', od', kV, doc, pm, an, cdv, ct, osl', e, lk', _⟩ := F'.ex
  rw [lk] at lk'
  cases lk'
  exact ⟨f, fd, G, hm, hkp, fun s ws hl => .of_eq (by rw [e]; exact b kV doc pm an cdv ct ws hl)⟩
theorem vals_rev0 : ∀ {vs : List V} {us : List Value}, Vals vs us → Vals vs.reverse us.reverse
  | _, _, .nil => .nil
  | _, _, .cons r t => by
    rw [List.reverse_cons, List.reverse_cons]
    exact (vals_rev0 t).append (.cons r .nil)
theorem vals_rev {vs : List V} {us : List Value} {n : Nat} (_ : vs.length = n) (h : Vals vs us) : Vals vs.reverse us.reverse := vals_rev0 h
theorem dps_rev {K : PySem.W.Frag} {F : Hp} {vs : List V} {ds : List D} (h : DpAll K F vs ds) : DpAll K F vs.reverse ds.reverse := DpAll.reverse h
theorem neq1 {r s : List Int} (h : r = s) : (!PyData.eqv (tI r) (tI s)) = false := by rw [eqv_tI, decide_eq_true h]; rfl
theorem neq2 {r s u v : List Int} (h : r = s) (h2 : u = v) : (!PyData.eqv (tI r) (tI s) || !PyData.eqv (tI u) (tI v)) = false := by rw [neq1 h, neq1 h2]; rfl
theorem walk {l : PySem.W.OpenLaw} {q : Program} {loose : List Str} {XP : (Str → Option Value) → Heap → Prop} {YP : World → Heap → Prop} {d : DefRec} {K : Params → PySem.W.Frag} {k : Nat} (hr : Room k callerA) (hn : l.most = some 63) (hdf : d.params.defaults = [])
    (hY : ∀ (w : World) (h : Heap), YP w h → (K w.params).In h)
    (F : ∀ (w : World) (mg : Str → Option Value) (fa : Addr) (h : Heap), (K w.params).In h → h.Ns mainGlobals mg → mg d.name = some (.ref fa) →
      ∃ fd : FuncData, (∀ (s : Shared) (u : Value), BindsTo s fd ⟨[u], []⟩ [("script", u)]) ∧ ∀ base : Heap, (K w.params).In base → base.Ns mainGlobals mg → FnOk l.prog w (K w.params) mg base CX0 k fa fd ["script"] (spG (K w.params) RLaw)) :
    PySem.W.WalkO q loose XP YP l.row.toRowW d [] (fun f vs => PySem.call f vs) :=
  L2.walk_of (n := 63) (k := k) (x := "script") (CX := fun _ => CX0) (sp := fun w => spLaw (K w.params)) hn (by decide) hdf hr hY (fun w mg fa h KX G hm => by
    obtain ⟨fd, h1, h2⟩ := F w mg fa h KX G hm
    exact ⟨fd, h1, fun base a b => (h2 base a b).imp fun vs H Q E z => sp_law z⟩) (fun _ _ a ns hl _ hS => ⟨a, ns, rfl, hS, hl, fun _ => rfl⟩) fun _ _ _ _ _ z => z
end DL
/-! DL10: isinstance of data; tuple * int -/
namespace DL
open PySem PySem.Spec PyProof.Rows L2
/-! ### isinstance -/
def tyD : D → String
  | .none => "NoneType"
  | .bool _ => "bool"
  | .int _ => "int"
  | .str _ => "str"
  | .list _ => "list"
  | .tuple _ => "tuple"
  | _ => "object"
theorem ty_of {K : PySem.W.Frag} {F H : Hp} {v : V} {d : D} (h : Dp K F v d) (e : Same F H) : TyX K H v (.type (tyD d)) := by
  cases h with
  | non => exact .base .non
  | bl b => exact .base (.bl b)
  | int i => exact .base (.int i)
  | str x => exact .base (.str x)
  | lst h a =>
    rcases h with (h | ⟨o, h⟩) | ⟨o, its, n, h1, h2, _⟩
    · exact .base (.lst (e _ _ h))
    · exact .base (.frz (e _ _ h))
    · exact .kList h1 h2
  | tup h a =>
    rcases h with (h | ⟨o, h⟩) | ⟨o, its, n, h1, h2, _⟩
    · exact .base (.tup (e _ _ h))
    · exact .fTuple (e _ _ h)
    · exact .kTuple h1 h2
section
variable {X : Cx} {N : EN} {z z1 z2 : Z} {pos p p2 : Pos} {a b e : Expr}
theorem de_isi {T : String} {x : Str} {d : D} {t : Bool} (hk : kitB (tyD d) T = some t) (hg : Gl X "isinstance") (hm : X.mg "isinstance" = none) (hgT : Gl X x) (hmT : X.mg x = none) (hv : bootBuiltins x = some (.type T)) (h : DE X N z e (.d d) z1)
    (hn : x ≠ "__name__" := by decide) (hdb : (x == ("__debug__" : Str)) = false := by decide)
    (he : starEach (e :: [.Name x p2]) X.env = (false, eval e X.env) :: starEach [.Name x p2] X.env := by rfl) (hpl : (backTo pos (starEach [.Name x p2] X.env)).any (·.1) = false := by rfl)
    (hs2 : starEach [.Name x p2] X.env = (false, eval (.Name x p2) X.env) :: starEach [] X.env := by rfl) : DE X N z (.Call (.Name "isinstance" p) [e, .Name x p2] [] pos) (.d (.bool t)) z1 :=
  PE.to (pe_callB call_isi hg hm PyProof.Rows.boot_isinstance (pa_cons h (pa_cons (show PE X (.Name x p2) (tC (.ty T)) from ⟨fun _ _ _ H _ I h => ld_blt I hgT hmT hv ⟨.ty T, H, I, rfl, h⟩ hn hdb⟩) pa_nil hs2) he) (he := he) (hpl := hpl)) fun σ H Q ⟨F, α, fr, q⟩ => ⟨F, α, fr, fun v F1 α1 H1 o1 fr1 d1 => by
    refine ⟨v, .ty T, .type (tyD d), .type T, t, rfl, .ty T, ty_of d1 fr1.sub, kit_ty hk, q _ F1 α1 H1 o1 fr1 (.bl t)⟩⟩
end
/-! ### tuple * int -/
theorem tup_once (l : Addr) (its : Array Value) (n : Nat) (dd : Option Addr) (sl : Array (Option Value)) (u : Tok) (c1 : (its.isEmpty || (1 : Int) == 1) = true) :
    Meets (Builtin.«tuple.__mul__» ⟨[.ref l, .int 1 u], []⟩) (fun _ R s => s.heap.get? l = some { cls := .type "tuple", dict := dd, data := .seq its n, slots := sl } ∧ R (.ok (.ret (.ref l))) s) :=
  .of_wp fun prog w A R s h => by
    obtain ⟨hp, g, d, tk, os⟩ := s
    obtain ⟨hl, h⟩ := h
    have f1 := AutoSeq1.idx_int
    wp_walk using wpAny_loadPart' hl
    repeat (first
      | (refine wpAny_ite_true (decide_eq_true c1) ?_; wp_walk using wpAny_loadPart' hl))
    exact ⟨_, rfl, h⟩
def rRep1 (K : PySem.W.Frag) : R2 := fun x y H Q => ∃ l xs, x = .ref l ∧ y = .int 1 ∧ SqT K H l xs ∧ xs ≠ [] ∧ Q (.ref l) H
theorem op_rep1 {X : Cx} : OpR X (binaryOp .Mult) (rRep1 X.K) := by
  intro pins s σ H x y v u Q I rx ry h
  obtain ⟨l, xs, rfl, rfl, hT, hne, q⟩ := h
  cases rx
  obtain ⟨t, rfl⟩ := ry
  obtain ⟨its, r, ⟨⟨cls, dd, data, sl⟩, ho, hc, n, hd⟩, hs⟩ := I.tuple hT
  simp only at hc hd
  subst hc hd
  have c1 : (its.toArray.isEmpty || (1 : Int) == 1) = true := by simp
  refine wpAny_binaryOp_repeat_ref (T := "tuple") (U := "int") (by decide) ⟨_, ho, rfl⟩ (fun s' => typeIs_int s' 1 t) noFill_tuple_mul F.fills_int_mul F.slot_int_rmul repeat_tuple F.slot_int_index.lookup
    (call_meets F.slot_int_rmul (typeIs_int s 1 t) F.entry_int_rmul (F.args_int_rmul_2 _ _) (int_rmul_tuple 1 t l its.toArray n dd sl)
      ⟨ho, rfl, ⟨_, ho, rfl⟩, call_meets F.slot_tuple_mul ⟨_, ho, rfl⟩ F.entry_tuple_mul (F.args_tuple_mul_2 _ _) (tup_once l its.toArray n dd sl t c1) ⟨ho, ?_⟩⟩)
  exact ⟨.ref l, H, I, rfl, q⟩
section
variable {X : Cx} {N : EN} {z z1 z2 : Z} {pos : Pos} {a b : Expr}
theorem de_repTI {v : Int} {m : Nat} (ha : DE X N z a (.d (tI [v])) z1) (hb : DE X N z1 b (.d (.int m)) z2) (h1 : 1 ≤ m) (h2 : m ≤ 1000) : DE X N z (.BinOp a .Mult b pos) (.d (tI (List.replicate m v))) z2 := by
  by_cases h : m = 1
  · subst h
    exact de_opG op_rep1 ha hb fun F α σ x u H Q fr d1 d2 q => by
      cases (d2 : Dp X.K F u (.int 1))
      obtain ⟨c, vs, rfl, e1, e2, e3⟩ := SqT_of_dp (show Dp X.K F x (tI [v]) from d1) fr.sub
      refine ⟨c, vs, rfl, rfl, e1, fun e => ?_, q _ F α H (On.refl F α) fr d1⟩
      subst e
      have := DpAll.len e3
      simp at this
  · exact de_opG op_repT ha hb fun F α σ x u H Q fr d1 d2 q => by
      cases (d2 : Dp X.K F u (.int m))
      obtain ⟨c, vs, rfl, e1, e2, e3⟩ := SqT_of_dp (show Dp X.K F x (tI [v]) from d1) fr.sub
      have hl := DpAll.len e3
      refine ⟨c, m, vs, rfl, rfl, e1, fun e => ?_, by omega, by omega, by rw [hl]; simp, fun pp hp => ?_⟩
      · subst e
        simp at hl
      · obtain ⟨o4, fr4⟩ := fr.ext (o := .tup (List.replicate (m : Int).toNat vs).flatten) hp
        refine q _ _ α _ o4 fr4 ?_
        have e : lI (List.replicate m v) = (List.replicate (m : Int).toNat (lI [v])).flatten := by
          rw [Int.toNat_natCast]
          exact (Eq.trans List.flatten_replicate_singleton List.map_replicate.symm).symm
        show Dp X.K _ _ (.tuple (lI (List.replicate m v)))
        rw [e]
        exact .tup (SqT.of upd_same) (dmonoA o4.f (DpAll.rep e3 _))
end
/-! ### forgetting behind an expression -/
section
variable {X : Cx} {N : EN} {z z1 z2 : Z} {pos p : Pos} {e iter elt tg : Expr} {x : D}
theorem On.cut {F F' : Hp} {α α' : List Addr} (o : On F F' α α') {m : Nat} (h : α.length ≤ m) : On F F' α (α'.take m) := by
  obtain ⟨f, β, rfl⟩ := o
  exact ⟨f, β.take (m - α.length), by rw [List.take_append, List.take_of_length_le h]⟩
theorem de_wk {s' : List Sl} {o' g : List (Option (List D))} (h : DE X N z e (.d x) z1) (w : WkS z1.s s') (ho : z1.o = o' ++ g) (hl : z.o.length ≤ o'.length) (hs : ptrOk s' o'.length = true) (hp : N.pa.length ≤ z.o.length) : DE X N z e (.d x) ⟨s', o'⟩ :=
  PE.to h fun σ H Q ⟨F, α, fr, q⟩ => ⟨F, α, fr, fun v F1 α1 H1 o1 fr1 d1 => q v F1 _ H1 (o1.cut (by rw [← fr.len]; exact hl)) (fr1.weak (z1 := ⟨s', o'⟩) ⟨w.len, w.at_, by rw [ho]; simp⟩ (Nat.le_trans hp hl) (ptrOk_at hs)) d1⟩
theorem dt_wk {t : Bool} {s' : List Sl} {o' g : List (Option (List D))} (h : DT X N z e t z1) (w : WkS z1.s s') (ho : z1.o = o' ++ g) (hl : z.o.length ≤ o'.length) (hs : ptrOk s' o'.length = true) (hp : N.pa.length ≤ z.o.length) : DT X N z e t ⟨s', o'⟩ :=
  PT.to h fun σ H Q ⟨F, α, fr, q⟩ => ⟨F, α, fr, fun F1 α1 H1 o1 fr1 => q F1 _ H1 (o1.cut (by rw [← fr.len]; exact hl)) (fr1.weak (z1 := ⟨s', o'⟩) ⟨w.len, w.at_, by rw [ho]; simp⟩ (Nat.le_trans hp hl) (ptrOk_at hs))⟩
variable {nx : Z → Prop} {rt : Rs → Z → Prop} {xs : List D} {n : Nat} {item : Nat → D} {g : TG} {f : D → List Sl → List Sl} {ok : D → Prop} {is : List Nat} {scope : Scope} {own : List (Str × Nat)}
theorem d1_setLcI {i : Nat} {yn : Str} {py spos : Pos} {y : Nat → Int} {ze : Nat → Z} (hc : X.calm = true) (hN : X.N.Nodup) (hy : X.N[i]? = some yn) (hyl : X.env.scope.names.lookup yn = some .local) (hsw : swapsWith (.ListComp elt [⟨tg, iter, [], 0⟩] scope pos) (some (.Name yn py)) spos.line X.env = pure true) (hi : DI X N z tg iter xs z1) (I : Items xs n item) (okb : BlkOk X.N X.env.scope scope own)
    (hg : ∀ (s : Shared) (H : Hp) (C : Addr) (cl : List (Str × Addr)) (fp : List Addr), PG (BX X scope s H C cl fp) tg g) (gd : GD X.K g f ok is) (hiv : ∀ i ∈ is, i ∈ own.map (·.2)) (hok : ∀ k, k < n → ok (item k)) (hsm : n < sizeLine)
    (he : ∀ k, k < n → ∀ (s : Shared) (H : Hp) (C : Addr) (cl : List (Str × Addr)) (fp : List Addr), DE (BX X scope s H C cl fp) N ⟨f (item k) (wipeS z1.s (own.map (·.2))), z1.o ++ [some (lI ((List.range k).map y))]⟩ elt (.d (.int (y k))) (ze k))
    (hz : ∀ k, k < n → (ze k).o.take (z1.o.length + 1) = z1.o ++ [some (lI ((List.range k).map y))])
    (h : nx ⟨z1.s.set i (.ptr z1.o.length), z1.o ++ [some (lI ((List.range n).map y))]⟩)
    (hs : ∀ x, foldedSetIterable iter X.env x = pure x := by intro _; rfl) :
    D1 X N z (.Assign [.Name yn py] (.ListComp elt [⟨tg, iter, [], 0⟩] scope pos) spos) nx rt := by
  have e : ∀ k, (List.range k).map (fun i => PyData.int (y i)) = lI ((List.range k).map y) := fun k => (List.map_map (f := y) (g := PyData.int) (l := List.range k)).symm
  refine d1_setLc (X := X) (N := N) (z := z) (z1 := z1) (O := fun _ => z1.o) (acc := fun k => (List.range k).map fun i => .int (y i)) (b := fun _ => true) (y := fun k => .int (y k)) (zt := fun k d => ⟨f d (wipeS z1.s (own.map (·.2))), z1.o ++ [some ((List.range k).map fun i => .int (y i))]⟩) (ze := fun k _ => ze k) (ifs := []) (elt := elt) (pos := pos) (spos := spos)
    hc hN hy hyl hsw hi okb hg gd hiv (fun k d h => by rw [I.get k d h]; exact hok k (I.lt h))
    ⟨rfl, rfl, fun k hk => by rw [List.length_map, List.length_range]; rw [I.len] at hk; omega, fun _ => rfl, fun k d h _ => ⟨by rw [e]; exact hz k (I.lt h), by rw [List.range_succ, List.map_append]; rfl⟩, fun k d h e => by cases e⟩
    (fun k d h s H C cl fp => dts_nil) (fun k d h _ s H C cl fp => by rw [I.get k d h, e]; exact he k (I.lt h) s H C cl fp) ?_ hs
  rw [I.len, e]
  exact h
end
theorem eqv_lI (r s : List Int) : PyData.eqv (.list (lI r)) (.list (lI s)) = decide (r = s) := eqv_ints r s
theorem depth_lI (r : List Int) (y : D) : min (PyData.depth (.list (lI r))) y.depth ≤ 64 := by
  have : PyData.depthAll (lI r) ≤ 1 := depth_ints r
  simp only [PyData.depth]
  omega
theorem neqL {r s : List Int} (h : r = s) : (!PyData.eqv (.list (lI r)) (.list (lI s))) = false := by rw [eqv_lI, decide_eq_true h]; rfl
theorem eqL {r s : List Int} (h : r = s) : PyData.eqv (.list (lI r)) (.list (lI s)) = true := by rw [eqv_lI, decide_eq_true h]
theorem or2f {a b : Bool} (h : a = false) (h2 : b = false) : (a || b) = false := by rw [h, h2]; rfl
theorem and1f {a b : Bool} (h : a = false) : (a && b) = false := by rw [h]; rfl
theorem and2f {a b : Bool} (h : b = false) : (a && b) = false := by rw [h, Bool.and_false]
theorem nei {i j : Int} (h : i = j) : (!decide (i = j)) = false := by rw [decide_eq_true h]; rfl
end DL
/-! DL11: triples in order, the least of many data, tuple.index(None), chains -/
namespace DL
open PySem PySem.Spec PyProof.Rows L2
abbrev t3 (a b c : Int) : D := .tuple [.int a, .int b, .int c]
def lex3 (a b c x y z : Int) : Bool := decide (a < x ∨ (a = x ∧ (b < y ∨ (b = y ∧ c < z))))
theorem lex_step (p q : Int) (r t : List (Int ⊕ List Nat)) : PyProof.Rows.lexLt itemOrd (.inl p :: r) (.inl q :: t) = if p = q then PyProof.Rows.lexLt itemOrd r t else decide (p < q) := by
  by_cases h : p = q
  · subst h
    rw [if_pos rfl]
    exact lex_self (O := itemOrd) _ _ _
  · rw [if_neg h]
    exact lex_diff (O := itemOrd) fun e => h (by injection e)
theorem lt3 (a b c x y z : Int) : PySem.W.dataLt (t3 a b c) (t3 x y z) = lex3 a b c x y z := by
  have e : ∀ a b c : Int, PySem.W.keyToks (t3 a b c) = [.inl 1, .inl a, .inl 1, .inl b, .inl 1, .inl c, .inl 0] := fun a b c => by simp [PySem.W.keyToks, PySem.W.keyToksAll]
  unfold PySem.W.dataLt lex3
  rw [e, e, lex_step, if_pos rfl, lex_step, lex_step, if_pos rfl, lex_step, lex_step, if_pos rfl, lex_step, lex_step, if_pos rfl]
  show (if a = x then (if b = y then (if c = z then false else decide (c < z)) else decide (b < y)) else decide (a < x)) = _
  by_cases h1 : a = x <;> by_cases h2 : b = y <;> by_cases h3 : c = z <;> simp [h1, h2, h3]
theorem alike3 (a b c x y z : Int) : PySem.W.alike (t3 a b c) (t3 x y z) = true := rfl
section
variable {X : Cx}
/-- min over a list that stands among the frozen data -/
def rMinF (K : PySem.W.Frag) : List V → Hp → VK → Prop := fun vs H Q => ∃ F v x xs, vs = [v] ∧ Same F H ∧ Dp K F v (.list (x :: xs)) ∧ PySem.W.AlikeAll (x :: xs) ∧ PyData.depthAll (x :: xs) ≤ 60 ∧ ∀ u, Dp K F u (PySem.W.minD x xs) → Q u H
theorem item_ofF {pins : List (Addr × Obj)} {σ : L2.St} {F H : Hp} {s : Shared} {xs : List V} {ds : List D} {its : List Value} {h' : Heap} {i : Nat} {v : Value} {d : D} {bs : List Addr} (I : Inv X pins σ H s) (sf : Same F H) (da : DpAll X.K F xs ds) (rv : Vals xs its) (hv : its[i]? = some v)
    (hk : ∀ b o, s.heap.get? b = some o → h'.get? b = some o) (hd : Reads h' v d bs) : ∃ x, RelV x v ∧ Dp X.K F x d := by
  cases q : xs[i]? with
  | none => rw [rv.none_of q] at hv; cases hv
  | some x =>
    obtain ⟨u, hu, ru⟩ := rv.get q
    rw [hv] at hu
    cases hu
    obtain ⟨d', hd', dp⟩ := DpAll.getV da q
    obtain ⟨as, r⟩ := Dp.reads I d' x v (dmono sf dp) ru
    have e : d' = d := SeqAt.plain_unique d' d v as bs (Dp.plain dp) (PySem.W.reads_keeps hk r) hd
    rw [← e]
    exact ⟨x, ru, dp⟩
theorem cr_minF (hc : X.calm = true) (hu : X.A.units + 64 < cLine) : CallR X (.builtin "min") (rMinF X.K) := by
  intro pins s σ H vs us Q I r h
  obtain ⟨F, v, x, xs, rfl, sf, hd, ha, hz, q⟩ := h
  obtain ⟨u, rfl, ru⟩ := r.one
  obtain ⟨c, ws, rfl, h1, _, da⟩ := SqL_of_dp hd sf
  cases ru
  obtain ⟨its, rv, p, _⟩ := I.list h1
  obtain ⟨as, hr⟩ := Dp.readsAll I _ _ its (dmonoA sf da) rv
  refine PySem.W.min_list_data (I.ok.hd hc) p.isList hr ha (by omega) fun i v h' tk bs hv hd' hk => ?_
  obtain ⟨y, ry, dy⟩ := item_ofF I sf da rv (by simpa using hv) hk hd'
  exact ⟨y, H, I.kept hk, ry, q y dy⟩
end
section
variable {X : Cx} {N : EN} {z z1 z2 z3 : Z} {pos p apos : Pos} {a b c e : Expr} {x y : D} {i j k : Int}
def rLtP (K : PySem.W.Frag) : R2 := fun x y H Q => ∃ d e, Dp K H x d ∧ Dp K H y e ∧ PySem.W.alike d e = true ∧ d ≠ .none ∧ min d.depth e.depth ≤ 60 ∧ Q (.bl (PySem.W.dataLt d e)) H
theorem op_ltP (hu : X.A.units + 64 < cLine) : OpR X (compareOp .Lt) (rLtP X.K) := by
  intro pins s σ H x y v u Q I rx ry h
  obtain ⟨d, e, hd, he, ha, hn, hm, q⟩ := h
  obtain ⟨as, r1⟩ := Dp.reads I d x v hd rx
  obtain ⟨bs, r2⟩ := Dp.reads I e y u he ry
  exact PySem.W.lt_data r1 r2 ha hn (by omega) ⟨.bl _, H, I, rfl, q⟩
theorem dt_lt3 {a1 a2 a3 b1 b2 b3 : Int} (hu : X.A.units + 64 < cLine) (ha : DE X N z a (.d (t3 a1 a2 a3)) z1) (hb : DE X N z1 b (.d (t3 b1 b2 b3)) z2) : DT X N z (.Compare a [.Lt] [b] pos) (lex3 a1 a2 a3 b1 b2 b3) z2 := by
  rw [← lt3]
  exact dt_cmp (op_ltP hu) ha hb (fun F α σ v u H Q fr d1 d2 q => ⟨_, _, dmono fr.sub d1, dmono fr.sub d2, alike3 _ _ _ _ _ _, (fun q => by cases q), by simp [PyData.depth, PyData.depthAll], q⟩) (nomark _)
/-- min of a list of alike data -/
theorem de_minL {x : D} {xs : List D} (hc : X.calm = true) (hu : X.A.units + 64 < cLine) (hg : Gl X "min") (hm : X.mg "min" = none) (h : DE X N z e (.d (.list (x :: xs))) z1) (hal : PySem.W.AlikeAll (x :: xs)) (hd : PyData.depthAll (x :: xs) ≤ 60) (hs : S1 X e := by rfl) : DE X N z (.Call (.Name "min" p) [e] [] pos) (.d (PySem.W.minD x xs)) z1 :=
  de_bt (cr_minF hc hu) hg hm (by decide +kernel) (da_cons h da_nil hs) (fun F α σ vs H Q fr d q => by
    obtain ⟨v, rfl, dd⟩ := DpAll.one d
    exact ⟨F, v, x, xs, rfl, fr.sub, dd, hal, hd, fun u du => q _ F α H (On.refl F α) fr du⟩) (he := hs)
/-- a op1 b op2 c, of ints -/
theorem dt_chLL (ha : DE X N z a (.d (.int i)) z1) (hb : DE X N z1 b (.d (.int j)) z2) (hc : DE X N z2 c (.d (.int k)) z2)
    (hm : lastMarks [.LtE, .Lt] [b, c] = false := by with_unfolding_all rfl) : DT X N z (.Compare a [.LtE, .Lt] [b, c] pos) (decide (i ≤ j) && decide (j < k)) z2 :=
  PT.to (pt_chain op_le op_lt ha hb hc hm) fun σ H Q ⟨F, α, fr, q⟩ => ⟨F, α, fr, fun v F1 α1 H1 o1 fr1 d1 => ⟨F1, α1, fr1, fun u F2 α2 H2 o2 fr2 d2 => by
    have d1 := o2.dp (show Dp X.K F1 v (.int i) from d1)
    cases d1
    cases (d2 : Dp X.K F2 u (.int j))
    refine ⟨i, j, rfl, rfl, _, rfl, ?_⟩
    by_cases h : i ≤ j
    · rw [if_pos (decide_eq_true h)]
      refine ⟨F2, α2, fr2, fun w F3 α3 H3 o3 fr3 d3 => ?_⟩
      cases (d3 : Dp X.K F3 w (.int k))
      refine ⟨j, k, rfl, rfl, _, rfl, ?_⟩
      have := q F3 α3 H3 ((o1.trans o2).trans o3) fr3
      rw [decide_eq_true h] at this
      exact this
    · rw [if_neg (by rw [decide_eq_false h]; decide)]
      refine ⟨_, rfl, ?_⟩
      have := q F2 α2 H2 (o1.trans o2) fr2
      rw [decide_eq_false h] at this
      exact this⟩⟩
end
/-! ### tuple.index(None) -/
def optI : Option Int → D
  | none => .none
  | some i => .int i
def optV : Option Int → V
  | none => .non
  | some i => .int i
abbrev oD (ps : List (Option Int)) : D := .tuple (ps.map optI)
theorem DpAll.opts {K : PySem.W.Frag} {F : Hp} : ∀ {vs : List V} {ps : List (Option Int)}, DpAll K F vs (ps.map optI) → vs = ps.map optV
  | [], [], _ => rfl
  | [], _ :: _, h => by cases h
  | _ :: _, [], h => by cases h
  | v :: vs, p :: ps, h => by
    cases h with
    | cons r t =>
      rw [List.map_cons, DpAll.opts t]
      cases p <;> (cases r; rfl)
section
variable {X : Cx}
theorem mt_tup_none : MtR X "tuple.index" (fun x xs H Q => ∃ (p : Addr) (ps : List (Option Int)) (j : Nat), x = .ref p ∧ xs = [.non] ∧ SqT X.K H p (ps.map optV) ∧ ps[j]? = some none ∧ (∀ m, m < j → ps[m]? ≠ some none) ∧ Q (.int (j : Nat)) H) := by
  intro pins s σ H x xs v us Q I rx rs h
  obtain ⟨p, ps, j, rfl, rfl, hq, hy, hno, q⟩ := h
  cases rx
  obtain ⟨u, rfl, ru⟩ := vals1 rs
  cases ru
  obtain ⟨its, r, ⟨⟨cls, dd, dt, sl⟩, ho, hc, n, hd⟩, hz⟩ := I.tuple hq
  simp only at hc hd
  subst hc hd
  have hl : its.toArray.size = ps.length := by rw [List.size_toArray, ← r.length, List.length_map]
  have hj : j < its.toArray.size := by rw [hl]; exact (List.getElem?_eq_some_iff.mp hy).1
  have fl : (ps.map optV).all flatV = true := by
    rw [List.all_map]
    exact List.all_eq_true.mpr fun o _ => by cases o <;> rfl
  have key : ∀ (m : Nat) (hm : m < its.toArray.size), eqU .non its.toArray[m] = decide (ps[m]? = some none) := fun m hm => by
    have hm' : m < ps.length := by rw [← hl]; exact hm
    obtain ⟨w, hw, rw'⟩ := r.get (i := m) (x := optV ps[m]) (by simp [hm'])
    have e := (List.getElem?_eq_some_iff.mp hw).2
    have e2 : its.toArray[m] = w := by rw [← e]; simp
    rw [e2, eqU_of rw' (by cases ps[m] <;> rfl), List.getElem?_eq_getElem hm']
    cases ps[m] <;> rfl
  refine call_meets PySem.F.slot_tuple_index ⟨_, ho, rfl⟩ PySem.F.entry_tuple_index (PySem.F.args_tuple_index_2 _ _) (TI.tuple_indexAt p its.toArray n dd sl .none (eqU .non) j hj ?_ ?_)
    ⟨ho, fun w hw => mem_eqAt (x := .non) rfl rfl r fl w (by simpa using hw), ⟨.int (j : Nat), H, I.tok _, ⟨_, rfl⟩, q⟩⟩
  · rw [key j hj, decide_eq_true hy]
  · intro m hm hmj
    rw [key m hm, decide_eq_false (hno m hmj)]
variable {N : EN} {z z1 z2 : Z} {pos p apos cpos : Pos} {a b e : Expr}
/-- part.index(None), part a local that holds a known tuple -/
theorem de_idxN {ps : List (Option Int)} {i j n0 : Nat} (pe : PE X e (tVar i)) (h : z.s[i]? = some (.q (ps.map optI))) (hy : ps[j]? = some none) (hno : ∀ m, m < j → ps[m]? ≠ some none)
    (hbase : attributeBase e "index" X.env (eval e X.env) = eval e X.env := by rfl)
    (hfew : ((backTo pos (starEach [.Constant .none n0 cpos] X.env)).all (fun x => !x.1) && (backToKw pos (keywordEach [] X.env)).all (fun x => x.1.isSome) && decide ([Expr.Constant .none n0 cpos].length + ([] : List Keyword).length + (if ([] : List Keyword).isEmpty then 0 else 1) < 30)) = true := by rfl)
    (hline : (apos.endLine == pos.line) = true := by rfl) (hs : starEach [.Constant .none n0 cpos] X.env = (false, eval (.Constant .none n0 cpos) X.env) :: starEach [] X.env := by rfl) (hpl : (backTo pos (starEach [] X.env)).any (·.1) = false := by rfl) :
    DE X N z (.Call (.Attribute e "index" apos) [.Constant .none n0 cpos] [] pos) (.d (.int (j : Nat))) z := by
  refine ⟨fun pins s σ H Q I hq => ?_⟩
  obtain ⟨F, α, fr, q⟩ := hq
  obtain ⟨v0, e0, kn⟩ := fr.sl i _ h
  obtain ⟨c, ob, vs, rfl, hF, hd, da⟩ := kn.ex
  refine wpAny_Call_method_late hbase hfew hline rfl (thn (pe.run pins s σ H (fun x H1 => x = .ref c ∧ H1 = H) I ⟨.ref c, e0, rfl, rfl⟩) fun v s1 ⟨x, H1, I1, r1, ex, eH⟩ => ?_)
  subst ex eH
  have rv := r1
  cases r1
  have hH := fr.sub _ _ hF
  obtain ⟨g1, _, its, rits, oc, g2, g3, _⟩ := (show ObjOk X.prog X.w H1 s1.heap c (.frz ob (.tup vs)) from I1.hok c _ hH)
  have e1 : oc = ob := by
    rw [g1] at g2
    exact (Option.some.inj g2).symm
  subst e1
  refine ⟨"tuple", "tuple.index", PySem.F.plainAttrs_tuple, PySem.F.slot_tuple_index, PySem.F.type_tuple_index, ⟨oc, g1, g3⟩, fun a' e => by cases e; exact ⟨oc, g1, hd⟩, ?_⟩
  have hA := (pa_cons (X := X) (pe_non (j := n0) (pos := cpos)) pa_nil hs).run pos pins s1 σ H1 (fun ws H2 => ws = [.non] ∧ H2 = H1) I1 ⟨rfl, rfl⟩
  rw [hs] at hA ⊢
  refine Calls.callWith_builtin (by show (false || (backTo pos (starEach [] X.env)).any (·.1)) = false; rw [hpl] <;> rfl) (Calls.evalArgs_plain ?_)
  refine thn hA fun us s2 ⟨ws, H2, I2, r2, ew, eH2⟩ => ?_
  subst ew eH2
  refine mt_tup_none pins s2 σ H2 (.ref c) [.non] _ us Q I2 rfl r2 ⟨c, ps, j, rfl, rfl, ?_, hy, hno, q _ F α H2 (On.refl F α) fr (.int _)⟩
  rw [← DpAll.opts da]
  exact .inl (.inr ⟨oc, hH⟩)
end
/-! ### tuples whose object is known -/
def tDQ (K : PySem.W.Frag) (N : EN) (z : Z) (ds : List D) (z' : Z) : TE := fun σ H Q => ∃ F α, Fr K N F α z σ H ∧ ∀ v F' α' H', On F F' α α' → Fr K N F' α' z' σ H' → Kn K F' v ds → Q v H'
abbrev DQ (X : Cx) (N : EN) (z : Z) (e : Expr) (ds : List D) (z' : Z) : Prop := PE X e (tDQ X.K N z ds z')
def tTupQ (t : TA) : TE := fun σ H Q => t σ H fun xs H1 => xs.length ≤ sizeLine ∧ ∀ p ob, H1 p = none → ob.dict = none → Q (.ref p) (upd H1 p (.frz ob (.tup xs)))
def rCatQ (K : PySem.W.Frag) : R2 := fun x y H Q => ∃ a b xs ys, x = .ref a ∧ y = .ref b ∧ SqT K H a xs ∧ SqT K H b ys ∧ xs ≠ [] ∧ xs.length + ys.length ≤ sizeLine ∧
  (ys = [] → Q (.ref a) H) ∧ (ys ≠ [] → ∀ p ob, H p = none → ob.dict = none → Q (.ref p) (upd H p (.frz ob (.tup (xs ++ ys)))))
section
variable {X : Cx} {N : EN} {z z1 z2 : Z} {pos p : Pos} {a b e : Expr} {es : List Expr} {xs ys ds : List D}
theorem pe_tupQ {k1 : Nat} {t : TA} (h : PA X es t) : PE X (.Tuple es k1 pos) (tTupQ t) := by
  refine ⟨fun pins s σ H Q I hq => ?_⟩
  refine wpAny_Tuple_spliced (thn (h.run pos pins s σ H _ I hq) fun us s1 ⟨ws, H1, I1, r, hz, q⟩ => ⟨by rw [← r.length]; exact hz, ?_⟩)
  have new := Heap.get?_push_size s1.heap (o := { cls := .type "tuple", data := .seq us.toArray }) rfl
  exact ⟨.ref s1.heap.objs.size, _, I1.laid (t' := s1.toks) (o := .frz { cls := .type "tuple", data := .seq us.toArray } (.tup ws)) (fun b u e => Heap.get?_push_of_some _ e) (Nat.le_refl _) ⟨new, hz, us, r, _, new, rfl, _, rfl⟩, rfl, q _ _ (I1.hok.fresh (Nat.le_refl _)) rfl⟩
theorem op_catQ : OpR X (binaryOp .Add) (rCatQ X.K) := by
  intro pins s σ H x y v u Q I rx ry h
  obtain ⟨a, b, xs, ys, rfl, rfl, ha, hb, hx, hz, q1, q2⟩ := h
  cases rx
  cases ry
  obtain ⟨us, r1, p1, _⟩ := I.tuple ha
  obtain ⟨ws, r2, p2, _⟩ := I.tuple hb
  refine HT.cat_tup p1 p2 (fun e => hx (r1.nil_iff.mp e)) (fun e => ⟨.ref a, H, I, rfl, q1 (r2.nil_iff.mp e)⟩) (fun e => ?_) (by rw [← r1.length, ← r2.length]; exact hz)
  have new := Heap.get?_push_size s.heap (o := { cls := .type "tuple", data := .seq (us ++ ws).toArray }) rfl
  exact ⟨.ref s.heap.objs.size, _, I.laid (t' := s.toks) (o := .frz { cls := .type "tuple", data := .seq (us ++ ws).toArray } (.tup (xs ++ ys))) (fun b ob q => Heap.get?_push_of_some _ q) (Nat.le_refl _) ⟨new, by rw [List.length_append]; exact hz, _, r1.append r2, _, new, rfl, _, rfl⟩, rfl, q2 (fun w => e (r2.nil_iff.mpr w)) _ _ (I.hok.fresh (Nat.le_refl _)) rfl⟩
theorem dq_tup {k1 : Nat} (h : DAd X N z es ds z1) (hz : ds.length ≤ sizeLine := by exact Nat.le_of_ble_eq_true rfl) : DQ X N z (.Tuple es k1 pos) ds z1 :=
  PE.to (pe_tupQ h) fun σ H Q ⟨F, α, fr, q⟩ => ⟨F, α, fr, fun vs F1 α1 H1 o1 fr1 d1 => ⟨by rw [DpAll.len d1]; exact hz, fun p ob hp hd => by
    obtain ⟨o2, fr2⟩ := fr1.ext (o := .frz ob (.tup vs)) hp
    exact q _ _ α1 _ (o1.trans o2) fr2 ⟨p, ob, vs, rfl, upd_same, hd, dmonoA o2.f d1⟩⟩⟩
theorem dq_cat (ha : DE X N z a (.d (.tuple xs)) z1) (hb : DE X N z1 b (.d (.tuple ys)) z2) (hx : xs ≠ []) (hy : ys ≠ []) (hz : xs.length + ys.length ≤ sizeLine) : DQ X N z (.BinOp a .Add b pos) (xs ++ ys) z2 :=
  PE.to (pe_op op_catQ ha hb) fun σ H Q ⟨F, α, fr, q⟩ => ⟨F, α, fr, fun v F1 α1 H1 o1 fr1 d1 => ⟨F1, α1, fr1, fun u F2 α2 H2 o2 fr2 d2 => by
    obtain ⟨c, vs, rfl, h1, h2, h3⟩ := SqT_of_dp (o2.dp (show Dp X.K F1 v (.tuple xs) from d1)) fr2.sub
    obtain ⟨c', ws, rfl, k1, k2, k3⟩ := SqT_of_dp (show Dp X.K F2 u (.tuple ys) from d2) fr2.sub
    have l1 := DpAll.len h3
    have l2 := DpAll.len k3
    refine ⟨c, c', vs, ws, rfl, rfl, h1, k1, fun e => hx ?_, by omega, fun e => absurd ?_ hy, fun _ p ob hp hd => ?_⟩
    · exact List.eq_nil_of_length_eq_zero (by rw [← l1, e]; rfl)
    · exact List.eq_nil_of_length_eq_zero (by rw [← l2, e]; rfl)
    · obtain ⟨o4, fr4⟩ := fr2.ext (o := .frz ob (.tup (vs ++ ws))) hp
      exact q _ _ α2 _ ((o1.trans o2).trans o4) fr4 ⟨p, ob, _, rfl, upd_same, hd, dmonoA o4.f (DpAll.append h3 k3)⟩⟩⟩
theorem dq_catQ (ha : DQ X N z a xs z1) (hb : DE X N z1 b (.d (.tuple ys)) z2) (hx : xs ≠ []) (hz : xs.length + ys.length ≤ sizeLine) : DQ X N z (.BinOp a .Add b pos) (xs ++ ys) z2 :=
  PE.to (pe_op op_catQ ha hb) fun σ H Q ⟨F, α, fr, q⟩ => ⟨F, α, fr, fun v F1 α1 H1 o1 fr1 kn => ⟨F1, α1, fr1, fun u F2 α2 H2 o2 fr2 d2 => by
    have kn2 := kn.mono o2.f
    obtain ⟨c, vs, rfl, h1, h2, h3⟩ := SqT_of_dp kn2.dp fr2.sub
    obtain ⟨c', ws, rfl, k1, k2, k3⟩ := SqT_of_dp (show Dp X.K F2 u (.tuple ys) from d2) fr2.sub
    have l1 := DpAll.len h3
    have l2 := DpAll.len k3
    refine ⟨c, c', vs, ws, rfl, rfl, h1, k1, fun e => hx ?_, by omega, fun e => ?_, fun _ p ob hp hd => ?_⟩
    · exact List.eq_nil_of_length_eq_zero (by rw [← l1, e]; rfl)
    · have e2 : ys = [] := List.eq_nil_of_length_eq_zero (by rw [← l2, e]; rfl)
      subst e2
      rw [List.append_nil] at q
      exact q _ F2 α2 H2 (o1.trans o2) fr2 kn2
    · obtain ⟨o4, fr4⟩ := fr2.ext (o := .frz ob (.tup (vs ++ ws))) hp
      exact q _ _ α2 _ ((o1.trans o2).trans o4) fr4 ⟨p, ob, _, rfl, upd_same, hd, dmonoA o4.f (DpAll.append h3 k3)⟩⟩⟩
end
/-- a promise for one argument of data and one known tuple -/
def spQ (K : PySem.W.Frag) (R : D → List D → D → Prop) : Sp := fun vs H Q _ => ∃ (F : Hp) (rv pv : V) (d : D) (ds : List D) (r : D), R d ds r ∧ vs = [rv, pv] ∧ Dp K F rv d ∧ Kn K F pv ds ∧ Same F H ∧
  ∀ v F' H', Same F F' → Same F' H' → (∀ b o, H b = some o → H' b = some o) → (∀ b, H b ≠ none → F b = none → F' b = none) → Dp K F' v r → Q v H'
section
variable {P : Program} {w : World} {K : PySem.W.Frag} {mg : Str → Option Value} {base : Heap} {N : EN}
theorem sp_callQ {F : Hp} {α : List Addr} {z : Z} {σ : L2.St} {H : Hp} {Q : VK} {E : XK} {rv pv : V} {d r : D} {ds : List D} {R : D → List D → D → Prop} (fr : Fr K N F α z σ H) (h1 : Dp K F rv d) (h2 : Kn K F pv ds) (hR : R d ds r)
    (q : ∀ v F' α' H', On F F' α α' → Fr K N F' α' z σ H' → Dp K F' v r → Q v H') : spQ K R [rv, pv] H Q E :=
  ⟨F, rv, pv, d, ds, r, hR, rfl, h1, h2, fr.sub, fun v F' H' s1 s2 e1 e2 hr => q v F' α H' ⟨s1, [], by simp⟩ (fr.after (pa := []) (fun a h => by cases h) z.o rfl s1 s2 (fun b o e _ => e1 b o e) e2 (fun a h => by cases h) (fun j a xs _ _ h => by cases h) fun j a xs _ e _ => e) hr⟩
theorem mk_fnQ {x qual : Str} {st : Stmt} {f : Addr} {fd : FuncData} {Nm : List Str} {p1 p2 : Str} {k : Nat} {R : D → List D → D → Prop} (F : Fun K x qual st f fd) (S : FnScope Nm [p1, p2] (defScope st))
    (body : ∀ (cdv : Value) (A : Around) (outer : List Env) (s : Shared) (H : Hp) (E : XK) (N : EN) (d : D) (ds : List D) (r : D), Room k (A.deeper (envOfC qual (defScope st) s.heap.objs.size f cdv)) → N.pa.length = 0 → R d ds r →
      DS (cxOf CX0 P w K mg base Nm qual (defScope st) f cdv A outer s H E).nox N ⟨[.d d, .q ds] ++ List.replicate (Nm.length - 2) .no, []⟩ (defBody st) (fun z => rrRs [] (.d r) (.d .none) z) (fun q z => rrRs [] (.d r) q z)) :
    FnOk P w K mg base CX0 (k + 1) f fd [p1, p2] (spQ K R) := by
  refine F.ok S (fun vs H Q E h => ?_) (fun cdv A outer s H vs Q E hr h => ?_)
  · obtain ⟨F, rv, pv, d, ds, r, _, rfl, _⟩ := h
    rfl
  · obtain ⟨F0, rv, pv, d, ds, r, hR, rfl, h1, h2, sF, q⟩ := h
    have hN : 2 ≤ Nm.length := by have := congrArg List.length S.pre; rw [List.length_take] at this; simp at this; omega
    have fr0 : Fr K ⟨H, F0, []⟩ F0 [] ⟨[.d d, .q ds] ++ List.replicate (Nm.length - 2) .no, []⟩ (L2.start Nm [rv, pv]) H := by
      refine ⟨sF, fun a o e _ => e, fun a _ e => e, rfl, ?_, List.nodup_nil, ⟨[], rfl, fun b h => (by cases h)⟩, fun a ha => (by cases ha), fun j a xs e1 e2 => (by simp at e1), fun i t e => ?_⟩
      · show ([Sl.d d, Sl.q ds] ++ List.replicate (Nm.length - 2) Sl.no).length = (L2.start Nm [rv, pv]).length
        unfold L2.start
        simp
      · have e : ([Sl.d d, Sl.q ds] ++ List.replicate (Nm.length - 2) Sl.no)[i]? = some t := e
        match i, e with
        | 0, e =>
          have e : Sl.d d = t := by simpa using e
          subst e
          exact ⟨rv, rfl, h1⟩
        | 1, e =>
          have e : Sl.q ds = t := by simpa using e
          subst e
          exact ⟨pv, rfl, h2⟩
        | i + 2, e =>
          have e : (List.replicate (Nm.length - 2) Sl.no)[i]? = some t := e
          have e3 : t = Sl.no := List.eq_of_mem_replicate (List.mem_of_getElem? e)
          subst e3
          trivial
    have fin : ∀ (v : V) (σ' : L2.St) (F' : Hp) (α' : List Addr) (H' : Hp) (rr : Rs) (z' : Z), Same F0 F' → Fr K ⟨H, F0, []⟩ F' α' z' σ' H' → RsOk K F' α' rr v → rrRs [] (.d r) rr z' → Q v H' := by
      intro v σ' F' α' H' rr z' s1 fr1 r1 ⟨_, hq⟩
      have hq : rr = .d r := hq
      subst hq
      exact q v F' H' s1 fr1.sub (fun b o e => fr1.ent b o e (fun h => by cases h)) (fun b e1 e2 => fr1.fz b e1 e2) r1
    refine ⟨_, body cdv A outer s H E ⟨H, F0, []⟩ d ds r hr rfl hR, F0, [], fr0, ?_, ?_⟩
    · intro σ' F' α' H' z' s1 fr1 h
      exact fin .non σ' F' α' H' (.d .none) z' s1 fr1 .non h
    · intro v σ' F' α' H' rr z' s1 fr1 r1 h
      exact fin v σ' F' α' H' rr z' s1 fr1 r1 h
structure OkQ (P : Program) (w : World) (K : PySem.W.Frag) (mg : Str → Option Value) (base : Heap) (x : Str) (k : Nat) (p1 p2 : Str) (R : D → List D → D → Prop) : Prop where
  ex : ∃ f fd, FnOk P w K mg base CX0 k f fd [p1, p2] (spQ K R) ∧ mg x = some (.ref f) ∧ PySem.W.keepIn K (.ref f) = true ∧ Binds K fd [p1, p2] [] ∧ ∀ (s : Shared) (v1 v2 : Value), BindsTo s fd ⟨[], [(p2, v1), (p1, v2)]⟩ [(p1, v2), (p2, v1)]
theorem mk_defQ {x : Str} {st : Stmt} {Nm : List Str} {p1 p2 : Str} {k : Nat} {R : D → List D → D → Prop} (F : FunAt K mg x st [p1, p2]) (S : FnScope Nm [p1, p2] (defScope st))
    (b : ∀ (kV doc pm : Value) (an : Option Addr) (cdv ct v1 v2 : Value), bindArgs (PySem.W.fnOf x x (defArgs st) (defBody st) (defScope st) .none kV doc pm an cdv ct) ⟨[], [(p2, v1), (p1, v2)]⟩ = pure [(p1, v2), (p2, v1)])
    (body : ∀ (f : Addr) (cdv : Value) (A : Around) (outer : List Env) (s : Shared) (H : Hp) (E : XK) (N : EN) (d : D) (ds : List D) (r : D), Room k (A.deeper (envOfC x (defScope st) s.heap.objs.size f cdv)) → N.pa.length = 0 → R d ds r →
      DS (cxOf CX0 P w K mg base Nm x (defScope st) f cdv A outer s H E).nox N ⟨[.d d, .q ds] ++ List.replicate (Nm.length - 2) .no, []⟩ (defBody st) (fun z => rrRs [] (.d r) (.d .none) z) (fun q z => rrRs [] (.d r) q z)) : OkQ P w K mg base x (k + 1) p1 p2 R := by
  obtain ⟨f, fd, F, hm, hb⟩ := F.ex
  obtain ⟨oc, od, kV, doc, pm, an, cdv, ct, osl, e, lk, _⟩ := id F.ex
  exact ⟨f, fd, mk_fnQ F S (body f), hm, F.kp, hb, fun s v1 v2 => .of_eq (by rw [e]; exact b kV doc pm an cdv ct v1 v2)⟩
end
section
variable {X : Cx} {N : EN} {z z1 z2 : Z} {pos p kp1 kp2 : Pos} {a b : Expr} {k k' : Nat} {x p1 p2 : Str} {d r : D} {ds : List D} {R : D → List D → D → Prop}
theorem de_clQ (G : OkQ X.prog X.w X.K X.mg X.base x k p1 p2 R) (hr : Room k' X.A) (hg : Gl X x) (ha : DE X N z a (.d d) z1) (hb : DQ X N z1 b ds z2) (hR : R d ds r) (hk : k ≤ k' := by decide)
    (hdb : (x == ("__debug__" : Str)) = false := by decide) (he : starEach [a, b] X.env = (false, eval a X.env) :: starEach [b] X.env := by rfl) (hs2 : starEach [b] X.env = (false, eval b X.env) :: starEach [] X.env := by rfl) (hpl : (backTo pos (starEach [b] X.env)).any (·.1) = false := by rfl) :
    DE X N z (.Call (.Name x p) [a, b] [] pos) (.d r) z2 := by
  obtain ⟨f, fd, F, hm, hkp, hbi, _⟩ := G.ex
  exact PE.to (pe_call F (hr.mono hk) hg hm hkp hbi .nil pass0 (pa_cons ha (pa_cons hb pa_nil hs2) he) hdb he hpl) fun σ H Q ⟨F, α, fr, q⟩ => ⟨F, α, fr, fun v F1 α1 H1 o1 fr1 d1 => ⟨F1, α1, fr1, fun u F2 α2 H2 o2 fr2 kn =>
    sp_callQ (E := E0) fr2 (o2.dp (show Dp X.K F1 v d from d1)) kn hR fun v F3 α3 H3 o3 fr3 d3 => q v F3 α3 H3 ((o1.trans o2).trans o3) fr3 d3⟩⟩
theorem de_clQK (G : OkQ X.prog X.w X.K X.mg X.base x k p1 p2 R) (hr : Room k' X.A) (hg : Gl X x) (hb : DQ X N z b ds z1) (ha : DE X N z1 a (.d d) z2) (hR : R d ds r) (hk : k ≤ k' := by decide)
    (hall : (backToKw pos (keywordEach [⟨some p2, b, kp1⟩, ⟨some p1, a, kp2⟩] X.env)).all (·.1.isSome) = true := by rfl) (hks : (backToKw pos (keywordEach [⟨some p2, b, kp1⟩, ⟨some p1, a, kp2⟩] X.env)).filterMap (·.1) = [p2, p1] := by rfl) (hdb : (x == ("__debug__" : Str)) = false := by decide)
    (hpl : ((backTo pos (starEach [] X.env)).any (·.1) || (backToKw pos (keywordEach [⟨some p2, b, kp1⟩, ⟨some p1, a, kp2⟩] X.env)).any (·.1.isNone)) = false := by rfl) :
    DE X N z (.Call (.Name x p) [] [⟨some p2, b, kp1⟩, ⟨some p1, a, kp2⟩] pos) (.d r) z2 := by
  obtain ⟨f, fd, F, hm, hkp, _, hbi⟩ := G.ex
  refine ⟨fun pins s σ H Q I h => ?_⟩
  obtain ⟨Fh, α, fr, q⟩ := h
  refine wpAny_Call_Name_kw (ld_glob I hg hm ?_ hdb)
  refine PySem.W.callWith_KW0 (h₀ := X.base) I.ok.mod.kin hkp hall ?_ hpl
  refine thn ((pk_cons hb (pk_cons ha pk_nil)).run pos pins s σ H (fun zs H2 => ∃ F2 α2 pv rv, zs = [pv, rv] ∧ On Fh F2 α α2 ∧ Fr X.K N F2 α2 z2 σ H2 ∧ Dp X.K F2 rv d ∧ Kn X.K F2 pv ds) I ⟨Fh, α, fr, fun v F1 α1 H1 o1 fr1 kn => ⟨F1, α1, fr1, fun u F2 α2 H2 o2 fr2 d2 => ⟨F2, α2, v, u, rfl, o1.trans o2, fr2, d2, kn.mono o2.f⟩⟩⟩) fun ws s2 ⟨zs, H2, I2, rz, F2, α2, pv, rv, ez, o2, fr2, d2, kn⟩ => ⟨I2.kIn, ?_⟩
  rw [hks]
  subst ez
  obtain ⟨u1, u2, rfl, r1, r2⟩ := vals2 rz
  have hsp : spQ X.K R [rv, pv] H2 Q E0 := sp_callQ fr2 d2 kn hR fun v F3 α3 H3 o3 fr3 d3 => q v F3 α3 H3 (o2.trans o3) fr3 d3
  refine wpAny_call (codeAny_mono (F.run X.A X.stack s2 H2 ⟨[], [(p2, u1), (p1, u2)]⟩ [u2, u1] [rv, pv] Q E0 (hr.mono hk) I2.env0 (hbi s2 u1 u2) (.cons r2 (.cons r1 .nil)) hsp) fun r s' hq => ?_)
  cases r with
  | error e => exact pass0 (X := X) pins σ H2 s2 e s' I2 hq
  | ok fl =>
    cases fl with
    | ret u => exact I2.after hq
    | next => exact False.elim hq
    | brk => exact False.elim hq
    | cont => exact False.elim hq
end
theorem de_varQ {X : Cx} {N : EN} {z : Z} {i : Nat} {xs : List D} {e : Expr} (pe : PE X e (tVar i)) (h : z.s[i]? = some (.q xs)) : DE X N z e (.d (.tuple xs)) z :=
  PE.to pe fun σ H Q ⟨F, α, fr, q⟩ => by
    obtain ⟨v, e1, d⟩ := fr.sl i _ h
    exact ⟨v, e1, q v F α H (On.refl F α) fr d.dp⟩
end DL
/-! DL12: data and an own list assigned together; places from behind -/
namespace DL
open PySem PySem.Spec PyProof.Rows L2
section
variable {X : Cx} {N : EN} {z z1 z2 : Z} {pos : Pos} {a b : Expr} {nx : Z → Prop} {rt : Rs → Z → Prop} {u : D} {k : Nat}
def tDP (K : PySem.W.Frag) (N : EN) (z : Z) (u : D) (k : Nat) (z' : Z) : TA := fun σ H Q => ∃ F α, Fr K N F α z σ H ∧ ∀ v c F' α' H', On F F' α α' → Fr K N F' α' z' σ H' → Dp K F' v u → α'[k]? = some c → Q [v, .ref c] H'
theorem pa_dp (ha : DE X N z a (.d u) z1) (hb : DE X N z1 b (.ptr k) z2) (hs1 : starEach [a, b] X.env = (false, eval a X.env) :: starEach [b] X.env := by rfl) (hs2 : starEach [b] X.env = (false, eval b X.env) :: starEach [] X.env := by rfl) : PA X [a, b] (tDP X.K N z u k z2) :=
  PA.to (pa_cons ha (pa_cons hb pa_nil hs2) hs1) fun σ H Q ⟨F, α, fr, q⟩ => ⟨F, α, fr, fun v F1 α1 H1 o1 fr1 d1 => ⟨F1, α1, fr1, fun w F2 α2 H2 o2 fr2 d2 => by
    obtain ⟨c, ec, rfl⟩ := d2
    exact q v c F2 α2 H2 (o1.trans o2) fr2 (o2.dp (show Dp X.K F1 v u from d1)) ec⟩⟩
theorem d1_parDP {i j : Nat} {x y : Str} {px py pt : Pos} {kt k2 pt2} (hc : X.calm = true) (hN : X.N.Nodup) (hi : X.N[i]? = some x) (hj : X.N[j]? = some y) (hij : i ≠ j)
    (hx : X.env.scope.names.lookup x = some .local) (hy : X.env.scope.names.lookup y = some .local) (ha : PA X [a, b] (tDP X.K N z u k z1))
    (hw : swappedStores [.Tuple [.Name x px, .Name y py] kt pt] (.Tuple [a, b] k2 pt2) X.env = pure (some [x, y])) (h : nx ⟨(z1.s.set i (.d u)).set j (.ptr k), z1.o⟩)
    (hs : swapsWithSole [.Tuple [.Name x px, .Name y py] kt pt] (.Tuple [a, b] k2 pt2) pos.line X.env = pure false := by rfl) : D1 X N z (.Assign [.Tuple [.Name x px, .Name y py] kt pt] (.Tuple [a, b] k2 pt2) pos) nx rt :=
  PS.to (ps_par hc hN hi hj hij hx hy ha hw hs) fun E σ H ⟨F, α, fr, q, _⟩ => ⟨F, α, fr, fun v c F1 α1 H1 o1 fr1 d1 ec => ⟨_, _, rfl, q _ F1 α1 H1 _ o1.f ((fr1.setD (s := .d u) ⟨_, rfl, d1⟩).setD (s := .ptr k) ⟨c, ec, rfl⟩) h⟩⟩
end
theorem atI_neg1 {r : List Int} (h : 0 < r.length) : atI (lI r) (-1) = some (.int (r.getD (r.length - 1) 0)) := by
  unfold atI
  have h1 : ixN (lI r).length (-1) = some (r.length - 1) := by
    rw [lI_len]
    unfold ixN
    rw [if_neg (by decide), if_pos (by omega)]
    congr 1
    omega
  rw [h1]
  show (lI r)[r.length - 1]? = _
  rw [List.getElem?_map, List.getElem?_eq_getElem (by omega), List.getD_eq_getElem?_getD, List.getElem?_eq_getElem (by omega)]
  rfl
theorem cutG_init {α : Type} (xs : List α) : cutG xs none (some (-1)) = xs.take (xs.length - 1) := by
  unfold cutG
  have e : HT.sIx xs.length xs.length (some (-1)) = xs.length - 1 := by
    show (if (-1 : Int) < 0 then ((-1 : Int) + (xs.length : Int)).toNat else min (-1 : Int).toNat xs.length) = _
    rw [if_pos (by decide)]
    omega
  rw [e, HT.sIx_none]
  simp
end DL
/-! DL13: sum of a tuple of ints -/
namespace DL
open PySem PySem.Spec PyProof.Rows L2
def rSumT (K : PySem.W.Frag) : List V → Hp → VK → Prop := fun vs H Q => ∃ (a : Addr) (ns : List Int), vs = [V.ref a] ∧ SqT K H a (ns.map V.int) ∧ Q (.int ns.sum) H
theorem cr_sumT {X : Cx} (hc : X.calm = true) : CallR X (.builtin "sum") (rSumT X.K) := by
  intro pins s σ H vs us Q I r h
  obtain ⟨a, ns, rfl, hs, q⟩ := h
  obtain ⟨its, rv, hl, _⟩ := I.tuple hs
  rw [Vals.ref1 r]
  have hi := rv.ints
  obtain ⟨xs, e⟩ := hi.allInts.items
  have hn : numsOf (intItems xs).toList = ns := by rw [← e]; exact hi.numsOf
  rw [nums_intItems] at hn
  have hl2 : s.heap.IsTuple a its.toArray := hl
  rw [e] at hl2
  refine PySem.W.ktm_sumG (I.ok.hd hc) hl2 fun h' tk t' hk => ?_
  rw [preSum_eq, List.take_of_length_le (by simp), hn]
  exact ⟨.int _, H, I.kept hk, ⟨_, rfl⟩, q⟩
theorem de_sumT {X : Cx} {N : EN} {z z1 : Z} {pos p : Pos} {e : Expr} {ns : List Int} (hc : X.calm = true) (hg : Gl X "sum") (hm : X.mg "sum" = none) (h : DE X N z e (.d (tI ns)) z1) (hs : S1 X e := by rfl) : DE X N z (.Call (.Name "sum" p) [e] [] pos) (.d (.int ns.sum)) z1 :=
  de_bt (cr_sumT hc) hg hm (by decide +kernel) (da_cons h da_nil hs) (fun F α σ vs H Q fr d q => by
    obtain ⟨v, rfl, dd⟩ := DpAll.one d
    obtain ⟨c, ws, rfl, h1, h2, h3⟩ := SqT_of_dp dd fr.sub
    have e := DpAll.ints h3
    subst e
    exact ⟨c, ns, rfl, h1, q _ F α H (On.refl F α) fr (.int _)⟩) (he := hs)
end DL
/-! DL14: a tuple turned round -/
namespace DL
open PySem PySem.Spec PyProof.Rows L2 HT
section
variable {prog : Program} {w : World} {A : Around} {E : Value → Shared → Prop} {s : Shared}
theorem rev_places (n : Nat) : Builtin.Slice.slicePlaces ((n : Int) - 1) (-1) (-1) = n := by
  unfold Builtin.Slice.slicePlaces
  have h1 : ¬ ((-1 : Int) > 0) := by decide
  rw [if_neg h1, show (-(-1) : Int) = 1 from rfl, Int.ediv_one]
  split <;> omega
theorem sliceApplied_rev {sl : Addr} {vl vu vs : Value} {n : Nat} {Q : Int × Int × Nat → Shared → Prop} (hs : s.heap.IsSliceOf sl vl vu vs) (pl : IsPart vl none) (pu : IsPart vu none) (ps : IsPart vs (some (-1)))
    (h : Q ((n : Int) - 1, -1, n) s) : wpAny (model prog w) A (Builtin.Slice.sliceApplied (.ref sl) (pure (n : Int))) Q E s := by
  obtain ⟨os, hos, hcs, hds⟩ := id hs
  unfold Builtin.Slice.sliceApplied Builtin.Slice.sliceFields
  refine wpAny_bind (wpAny_bind (wpAny_field hos hds (x := vl) rfl (wpAny_bind (wpAny_field hos hds (x := vu) rfl (wpAny_bind (wpAny_field hos hds (x := vs) rfl (wpAny_pure ?_)))))))
  refine wpAny_bind (slicePart_ ps ?_)
  show wpAny _ _ (if ((-1 : Int) == 0) = true then _ else _) _ _ s
  rw [if_neg (by decide)]
  refine wpAny_bind (slicePart_ pl (wpAny_bind (slicePart_ pu (wpAny_bind (wpAny_pure ?_)))))
  show wpAny _ _ (pure ((n : Int) - 1, (-1 : Int), Builtin.Slice.slicePlaces ((n : Int) - 1) (-1) (-1))) _ _ s
  rw [rev_places]
  exact wpAny_pure h
theorem pick_rev (xs : Array Value) : ((List.range xs.size).filterMap fun (m : Nat) => xs[((xs.size : Int) - 1 + (m : Int) * -1).toNat]?).toArray = xs.toList.reverse.toArray := by
  have e : (fun (m : Nat) => xs[((xs.size : Int) - 1 + (m : Int) * -1).toNat]?) = fun m => xs[xs.size - 1 - m]? := by
    funext m
    have : ((xs.size : Int) - 1 + (m : Int) * -1).toNat = xs.size - 1 - m := by omega
    rw [this]
  have e2 : (List.range xs.size).filterMap (fun m => xs[xs.size - 1 - m]?) = ((List.range xs.size).map fun k => xs.size - 1 - k).filterMap (xs[·]?) := by
    rw [List.filterMap_map]
    rfl
  rw [e, e2, PySem.W.krv_range, List.filterMap_reverse, PySem.W.krv_all]
theorem getItem_tuple_rev {t sl : Addr} {items : Array Value} {vl vu vs : Value} {Q : Value → Shared → Prop} (ht : IsTup s.heap t items) (hs : s.heap.IsSliceOf sl vl vu vs) (pl : IsPart vl none) (pu : IsPart vu none) (ps : IsPart vs (some (-1)))
    (h : Q (.ref s.heap.objs.size) { s with heap := s.heap.push { cls := .type "tuple", data := .seq items.toList.reverse.toArray } })
    (hsz : items.size ≤ sizeLine) : wpAny (model prog w) A (getItem (.ref t) (.ref sl)) Q E s := by
  have htake : sizeOk (.seq items.toList.reverse.toArray) := by
    show items.toList.reverse.toArray.size ≤ sizeLine
    rw [List.size_toArray, List.length_reverse, Array.length_toList]
    exact hsz
  obtain ⟨os, hos, hcs, hds⟩ := id hs
  have hTs : s.TypeIs (.ref sl) "slice" := ⟨os, hos, hcs⟩
  unfold getItem
  try with_reducible refine wpAny_holding ?_
  first | refine wpAny_bind (wpAny_pure ?_) | skip
  refine wpAny_bind (wpAny_sequenceKey ht.typeIs (by decide) ?_)
  refine wpAny_bind (wpAny_callSpecial?_slot (name := Str.ofString "__getitem__") ht.typeIs PyProof.Rows.slot_tuple_getitem
    (wpAny_call_entry PyProof.Rows.slot_tuple_getitem ht.typeIs entry_tuple_getitem ?_ (args_tuple_getitem _ _)))
  show wpAny _ _ (Builtin.Tuple.tupleItemsOf (.ref t) >>= _) _ _ s
  refine wpAny_bind (tupleItemsOf_ ht ?_)
  refine wpAny_bind (wpAny_typeOf hTs ?_)
  rw [if_pos (by decide)]
  refine wpAny_bind (sliceApplied_rev (n := items.size) hs pl pu ps ?_)
  have hno : ¬ ((((items.size : Int) - 1) == 0 && (-1 : Int) == 1 && items.size == items.size) = true) := by
    rw [show ((-1 : Int) == 1) = false from rfl, Bool.and_false, Bool.false_and]
    exact Bool.false_ne_true
  show wpAny _ _ (if (((items.size : Int) - 1) == 0 && (-1 : Int) == 1 && items.size == items.size) = true then _ else _) _ _ s
  rw [if_neg hno, pick_rev]
  first
    | exact wpAny_bind (m := Builtin.Tuple.tupleExact _) (wpAny_newObj_type (wpAny_pure ⟨_, rfl, wpAny_pure h⟩) htake)
    | exact wpAny_bind (m := Builtin.Tuple.tupleExact _) (wpAny_newObj_type (wpAny_bind (wpAny_pure (wpAny_pure ⟨_, rfl, wpAny_pure h⟩))) htake)
    | exact wpAny_bind (wpAny_bind (m := Builtin.Tuple.tupleExact _) (wpAny_newObj_type (wpAny_pure (wpAny_pure ⟨_, rfl, wpAny_pure h⟩)) htake))
    | exact wpAny_bind (wpAny_bind (m := Builtin.Tuple.tupleExact _) (wpAny_newObj_type (wpAny_pure ⟨_, rfl, wpAny_pure h⟩) htake))
end
section
variable {X : Cx}
def tRevT (K : PySem.W.Frag) (te : TE) : TE := fun σ H Q => te σ H fun x H1 => ∃ a xs, x = .ref a ∧ SqT K H1 a xs ∧ ∀ p, H1 p = none → Q (.ref p) (upd H1 p (.tup xs.reverse))
theorem pe_revT {e : Expr} {te : TE} {k : Nat} {p1 p2 p3 pos : Pos} (he : PE X e te) : PE X (.Subscript e (.Slice none none (some (.UnaryOp .USub (.Constant (.int 1) k p1) p2)) p3) pos) (tRevT X.K te) := by
  refine ⟨fun pins s σ H Q I h => ?_⟩
  refine Subscript_ (thn (he.run pins s σ H _ I h) fun v s1 ⟨x, H1, I1, r1, q1⟩ => ?_)
  obtain ⟨a, xs, ex, hx, q⟩ := q1
  subst ex
  cases r1
  have hst : PO X (some (.UnaryOp .USub (.Constant (.int 1) k p1) p2)) (tPart (tUn (rU fun i => .int (-i)) (tC (.int 1)))) := po_some (pe_un un_neg pe_int)
  refine wpAny_Slice (thn (po_none.run pins s1 σ H1 (fun o H2 => o = none ∧ H2 = H1) I1 ⟨rfl, rfl⟩) fun vl s2 ⟨l, H2, I2, pl, el, e2⟩ => ?_)
  subst el e2
  refine thn (po_none.run pins s2 σ H2 (fun o H3 => o = none ∧ H3 = H2) I2 ⟨rfl, rfl⟩) fun vu s3 ⟨u, H3, I3, pu, eu, e3⟩ => ?_
  subst eu e3
  refine thn (hst.run pins s3 σ H3 (fun o H4 => o = some (-1) ∧ H4 = H3) I3 ⟨1, rfl, -1, rfl, rfl, rfl⟩) fun vs s4 ⟨o, H4, I4, ps, eo, e4⟩ => ?_
  subst eo e4
  have I5 : Inv X pins σ H4 { s4 with heap := s4.heap.push { cls := .type "slice", data := .fields #[vl, vu, vs] } } := I4.kept (t' := s4.toks) fun b ob q => Heap.get?_push_of_some _ q
  obtain ⟨its, r, ht, hz⟩ := I5.tuple hx
  have hlen := r.length
  show wpAny (model X.prog X.w) X.A (subscriptTail e (.Slice none none (some (.UnaryOp .USub (.Constant (.int 1) k p1) p2)) p3) (.ref a) (.ref s4.heap.objs.size)) (EP X pins σ Q) X.xe { s4 with heap := s4.heap.push { cls := .type "slice", data := .fields #[vl, vu, vs] } }
  refine tail_any (ops := [.ref a, .ref s4.heap.objs.size]) ht.typeIs PyProof.Rows.slot_tuple_getitem.lookup ?_ (by with_unfolding_all rfl)
  refine getItem_tuple_rev ht (Heap.IsSliceOf.new _ vl vu vs) pl pu ps ?_ (by rw [List.size_toArray]; omega)
  refine ⟨.ref _, _, I5.laid (t' := s4.toks) (o := .tup xs.reverse) (fun b ob q => Heap.get?_push_of_some _ q) (Nat.le_refl _) ?_, rfl, q _ (I5.hok.fresh (Nat.le_refl _))⟩
  exact ⟨by rw [List.length_reverse]; exact hz, _, r.reverse, IsTup.new _ _⟩
theorem de_revT {N : EN} {z z1 : Z} {e : Expr} {xs : List D} {k1 : Nat} {q1 q2 q3 pos : Pos} (he : DE X N z e (.d (.tuple xs)) z1) : DE X N z (.Subscript e (.Slice none none (some (.UnaryOp .USub (.Constant (.int 1) k1 q1) q2)) q3) pos) (.d (.tuple xs.reverse)) z1 :=
  PE.to (pe_revT he) fun σ H Q ⟨F, α, fr, q⟩ => ⟨F, α, fr, fun v F1 α1 H1 o1 fr1 d1 => by
    obtain ⟨c, vs, rfl, h1, h2, h3⟩ := SqT_of_dp (show Dp X.K F1 v (.tuple xs) from d1) fr1.sub
    refine ⟨c, vs, rfl, h1, fun pp hp => ?_⟩
    obtain ⟨o4, fr4⟩ := fr1.ext (o := .tup vs.reverse) hp
    exact q _ _ α1 _ (o1.trans o4) fr4 (.tup (SqT.of upd_same) (dmonoA o4.f (DpAll.reverse h3)))⟩
end
end DL
/-! DL15: comprehensions of ints with a test; not in a tuple of ints; pop -/
namespace DL
open PySem PySem.Spec PyProof.Rows L2
def filtL (b : Nat → Bool) (y : Nat → Int) (k : Nat) : List Int := ((List.range k).filter b).map y
theorem filtL_succ (b : Nat → Bool) (y : Nat → Int) (k : Nat) : filtL b y (k + 1) = if b k = true then filtL b y k ++ [y k] else filtL b y k := by
  unfold filtL
  rw [List.range_succ, List.filter_append, List.map_append]
  by_cases h : b k = true
  · rw [if_pos h]
    simp [h]
  · rw [if_neg h]
    simp [h]
theorem filtL_len (b : Nat → Bool) (y : Nat → Int) (k : Nat) : (filtL b y k).length ≤ k := by
  unfold filtL
  rw [List.length_map]
  exact Nat.le_trans (List.length_filter_le _ _) (by rw [List.length_range]; exact Nat.le_refl _)
section
variable {X : Cx} {N : EN} {z z1 z2 : Z} {pos p : Pos} {e c iter elt tg a : Expr} {x : D}
variable {nx : Z → Prop} {rt : Rs → Z → Prop} {xs : List D} {n : Nat} {item : Nat → D} {g : TG} {f : D → List Sl → List Sl} {ok : D → Prop} {is : List Nat} {scope : Scope} {own : List (Str × Nat)}
theorem lcF_ok {y : Nat → Int} {b : Nat → Bool} (I : Items xs n item) (hsm : n < sizeLine) {s0 : D → List Sl} : LcD N z1 xs s0 (fun _ => z1.o) (fun k => lI (filtL b y k)) b (fun k => .int (y k)) (fun k d => ⟨s0 d, z1.o ++ [some (lI (filtL b y k))]⟩) (fun k d => ⟨s0 d, z1.o ++ [some (lI (filtL b y k))]⟩) :=
  ⟨rfl, rfl, fun k hk => by
      rw [I.len] at hk
      have := filtL_len b y k
      show (List.map PyData.int (filtL b y k)).length < sizeLine
      rw [List.length_map]
      omega, fun _ => rfl, fun k d _ hb => ⟨List.take_of_length_le (by rw [List.length_append]; exact Nat.le_refl _), by rw [filtL_succ, if_pos hb]; exact List.map_append⟩, fun k d _ hb => ⟨List.take_of_length_le (by rw [List.length_append]; exact Nat.le_refl _), by rw [filtL_succ, if_neg (by rw [hb]; decide)]⟩⟩
theorem de_lcF {y : Nat → Int} {b : Nat → Bool} (hc : X.calm = true) (hN : X.N.Nodup) (hi : DI X N z tg iter xs z1) (I : Items xs n item) (okb : BlkOk X.N X.env.scope scope own)
    (hg : ∀ (s : Shared) (H : Hp) (C : Addr) (cl : List (Str × Addr)) (fp : List Addr), PG (BX X scope s H C cl fp) tg g) (gd : GD X.K g f ok is) (hiv : ∀ i ∈ is, i ∈ own.map (·.2)) (hok : ∀ k, k < n → ok (item k)) (hsm : n < sizeLine)
    (ht : ∀ k, k < n → ∀ (s : Shared) (H : Hp) (C : Addr) (cl : List (Str × Addr)) (fp : List Addr), DT (BX X scope s H C cl fp) N ⟨f (item k) (wipeS z1.s (own.map (·.2))), z1.o ++ [some (lI (filtL b y k))]⟩ c (b k) ⟨f (item k) (wipeS z1.s (own.map (·.2))), z1.o ++ [some (lI (filtL b y k))]⟩)
    (he : ∀ k, k < n → ∀ (s : Shared) (H : Hp) (C : Addr) (cl : List (Str × Addr)) (fp : List Addr), DE (BX X scope s H C cl fp) N ⟨f (item k) (wipeS z1.s (own.map (·.2))), z1.o ++ [some (lI (filtL b y k))]⟩ elt (.d (.int (y k))) ⟨f (item k) (wipeS z1.s (own.map (·.2))), z1.o ++ [some (lI (filtL b y k))]⟩)
    (hs : ∀ x, foldedSetIterable iter X.env x = pure x := by intro _; rfl) :
    DE X N z (.ListComp elt [⟨tg, iter, [c], 0⟩] scope pos) (.ptr z1.o.length) ⟨z1.s, z1.o ++ [some (lI (filtL b y n))]⟩ := by
  have := de_lc (X := X) (N := N) (z := z) (z1 := z1) (elt := elt) (pos := pos) (ifs := [c]) hc hN hi okb hg gd hiv (fun k d h => by rw [I.get k d h]; exact hok k (I.lt h)) (lcF_ok (y := y) (b := b) I hsm)
    (fun k d h s H C cl fp => dts_one (by rw [I.get k d h]; exact ht k (I.lt h) s H C cl fp)) (fun k d h _ s H C cl fp => by rw [I.get k d h]; exact he k (I.lt h) s H C cl fp) hs
  rw [I.len] at this
  exact this
theorem d1_setLcF {i : Nat} {yn : Str} {py spos : Pos} {y : Nat → Int} {b : Nat → Bool} (hc : X.calm = true) (hN : X.N.Nodup) (hy : X.N[i]? = some yn) (hyl : X.env.scope.names.lookup yn = some .local) (hsw : swapsWith (.ListComp elt [⟨tg, iter, [c], 0⟩] scope pos) (some (.Name yn py)) spos.line X.env = pure true) (hi : DI X N z tg iter xs z1) (I : Items xs n item) (okb : BlkOk X.N X.env.scope scope own)
    (hg : ∀ (s : Shared) (H : Hp) (C : Addr) (cl : List (Str × Addr)) (fp : List Addr), PG (BX X scope s H C cl fp) tg g) (gd : GD X.K g f ok is) (hiv : ∀ i ∈ is, i ∈ own.map (·.2)) (hok : ∀ k, k < n → ok (item k)) (hsm : n < sizeLine)
    (ht : ∀ k, k < n → ∀ (s : Shared) (H : Hp) (C : Addr) (cl : List (Str × Addr)) (fp : List Addr), DT (BX X scope s H C cl fp) N ⟨f (item k) (wipeS z1.s (own.map (·.2))), z1.o ++ [some (lI (filtL b y k))]⟩ c (b k) ⟨f (item k) (wipeS z1.s (own.map (·.2))), z1.o ++ [some (lI (filtL b y k))]⟩)
    (he : ∀ k, k < n → ∀ (s : Shared) (H : Hp) (C : Addr) (cl : List (Str × Addr)) (fp : List Addr), DE (BX X scope s H C cl fp) N ⟨f (item k) (wipeS z1.s (own.map (·.2))), z1.o ++ [some (lI (filtL b y k))]⟩ elt (.d (.int (y k))) ⟨f (item k) (wipeS z1.s (own.map (·.2))), z1.o ++ [some (lI (filtL b y k))]⟩)
    (h : nx ⟨z1.s.set i (.ptr z1.o.length), z1.o ++ [some (lI (filtL b y n))]⟩)
    (hs : ∀ x, foldedSetIterable iter X.env x = pure x := by intro _; rfl) :
    D1 X N z (.Assign [.Name yn py] (.ListComp elt [⟨tg, iter, [c], 0⟩] scope pos) spos) nx rt := by
  refine d1_setLc (X := X) (N := N) (z := z) (z1 := z1) (elt := elt) (pos := pos) (spos := spos) (ifs := [c]) hc hN hy hyl hsw hi okb hg gd hiv (fun k d h => by rw [I.get k d h]; exact hok k (I.lt h)) (lcF_ok (y := y) (b := b) I hsm)
    (fun k d h s H C cl fp => dts_one (by rw [I.get k d h]; exact ht k (I.lt h) s H C cl fp)) (fun k d h _ s H C cl fp => by rw [I.get k d h]; exact he k (I.lt h) s H C cl fp) ?_ hs
  rw [I.len]
  exact h
/-! not in a tuple of ints -/
theorem inV_ints (i : Int) (ns : List Int) : inV (.int i) (ns.map V.int) = decide (i ∈ ns) := by
  unfold inV
  induction ns with
  | nil => rfl
  | cons m ns ih =>
    rw [List.map_cons, List.any_cons, ih]
    show ((m == i) || decide (i ∈ ns)) = _
    by_cases h : m = i
    · subst h; simp
    · have h2 : ¬ i = m := fun q => h q.symm
      simp [h, h2]
theorem flat_ints (ns : List Int) : (ns.map V.int).all flatV = true := by
  rw [List.all_eq_true]
  intro v hv
  obtain ⟨m, _, rfl⟩ := List.mem_map.mp hv
  rfl
theorem ok_notin {i : Int} {ns : List Int} : CmpOk X N z2 (rIn X.K true) (.d (.int i)) (.d (tI ns)) (!decide (i ∈ ns)) := fun F α σ v u H Q fr d1 d2 q => by
  cases (d1 : Dp X.K F v (.int i))
  obtain ⟨c, vs, rfl, h1, h2, h3⟩ := SqT_of_dp (show Dp X.K F u (tI ns) from d2) fr.sub
  have e := DpAll.ints h3
  subst e
  refine ⟨c, _, rfl, .inr h1, rfl, flat_ints ns, ?_⟩
  rw [if_pos rfl, inV_ints]
  exact q
theorem dt_notin {i : Int} {ns : List Int} {b : Expr} (ha : DE X N z a (.d (.int i)) z1) (hb : DE X N z1 b (.d (tI ns)) z2) (hm : behindInMarks .NotIn b = false := by rfl) : DT X N z (.Compare a [.NotIn] [b] pos) (!decide (i ∈ ns)) z2 := dt_cmp op_notIn_seq ha hb ok_notin hm
/-! pop -/
theorem de_pop {k : Nat} {ys : List D} {d : D} {apos : Pos} (ha : DE X N z a (.ptr k) z1) (eo : z1.o[k]? = some (some ys)) (hd : ys[ys.length - 1]? = some d)
    (hbase : attributeBase a "pop" X.env (eval a X.env) = eval a X.env := by rfl) (hline : (apos.endLine == pos.line) = true := by rfl) :
    DE X N z (.Call (.Attribute a "pop" apos) [] [] pos) (.d d) ⟨z1.s, z1.o.set k (some ys.dropLast)⟩ :=
  PE.to (pe_bm0 PySem.F.plainAttrs_list PySem.F.slot_list_pop PySem.F.type_list_pop mt_pop ha hbase hline) fun σ H Q ⟨F, α, fr, q⟩ => ⟨F, α, fr, fun v F1 α1 H1 o1 fr1 d1 => by
    obtain ⟨c, ec, rfl⟩ := d1
    obtain ⟨vs, hv, hs, da⟩ := fr1.seq ec eo
    have hl := DpAll.len da
    obtain ⟨w, hw, dw⟩ := DpAll.get da hd
    have dd : DpAll X.K F1 vs.dropLast ys.dropLast := by
      rw [List.dropLast_eq_take, List.dropLast_eq_take, hl]
      exact DpAll.take _ da
    exact ⟨.inl ⟨rfl, vs, hs⟩, c, vs, w, rfl, rfl, hv, by rw [hl]; exact hw, q _ F1 α1 _ o1 (fr1.mut ec eo dd) dw⟩⟩
/-! a call without arguments that answers a new list -/
theorem de_call0 {f : Addr} {fd : FuncData} {CX : CXT} {E : XK} {ys : List D} {x : Str} {k : Nat} {ps : List Str} {R : RT} (G : FnOk X.prog X.w X.K X.mg X.base CX k f fd ps (spG X.K R)) (hr : Room k X.A) (hg : Gl X x) (hm : X.mg x = some (.ref f)) (hk : PySem.W.keepIn X.K (.ref f) = true) (hb : Binds X.K fd ps []) (hx : Passes CX X E)
    (hR : R [] [] (.new ys) []) (hdb : (x == ("__debug__" : Str)) = false := by decide) : DE X N z (.Call (.Name x p) [] [] pos) (.ptr z.o.length) ⟨z.s, z.o ++ [some ys]⟩ :=
  PE.to (pe_call0 G hr hg hm hk hb .nil hx hdb) fun σ H Q ⟨F, α, fr, q⟩ => by
    show spG X.K R ([] ++ []) H Q E
    exact sp_call0 (r := .new ys) fr DpAll.nil hR fun v F2 α2 H2 o2 f2 r2 => q v F2 α2 H2 o2 f2 r2
theorem de_cl0N {ys : List D} {x : Str} {k k' : Nat} {ps : List Str} {R : RT} (G : OkD X.prog X.w X.K X.mg X.base x k ps R) (hr : Room k' X.A) (hg : Gl X x) (hR : R [] [] (.new ys) []) (hk : k ≤ k' := by decide)
    (hdb : (x == ("__debug__" : Str)) = false := by decide) : DE X N z (.Call (.Name x p) [] [] pos) (.ptr z.o.length) ⟨z.s, z.o ++ [some ys]⟩ := by
  obtain ⟨f, fd, G, hm, hkp, hb, _⟩ := G.ex
  exact de_call0 G (hr.mono hk) hg hm hkp hb pass0 hR hdb
end
/-! tuple * 0 -/
theorem tup_none (l : Addr) (its : Array Value) (n : Nat) (dd : Option Addr) (sl : Array (Option Value)) (u : Tok) (c1 : (its.isEmpty || (0 : Int) == 1) = false) :
    Meets (Builtin.«tuple.__mul__» ⟨[.ref l, .int 0 u], []⟩) (fun _ R s => s.heap.get? l = some { cls := .type "tuple", dict := dd, data := .seq its n, slots := sl } ∧ R (.ok (.ret (Value.ref s.heap.objs.size))) { s with heap := s.heap.push { cls := Value.type "tuple", data := Data.seq #[] }, toks := s.toks }) :=
  .of_wp fun prog w A R s h => by
    obtain ⟨hp, g, d, tk, os⟩ := s
    obtain ⟨hl, h⟩ := h
    have f1 := AutoSeq1.idx_int
    have c2 : (decide ((0 : Int) ≤ 0) || its.isEmpty) = true := by simp
    wp_walk using wpAny_loadPart' hl
    repeat (first
      | (refine wpAny_ite_false (decide_eq_false (by rw [c1]; exact Bool.false_ne_true)) ?_; wp_walk using wpAny_loadPart' hl)
      | (refine wpAny_ite_true (decide_eq_true c2) ?_; wp_walk using wpAny_loadPart' hl))
    exact ⟨_, rfl, h⟩
def rRep0 (K : PySem.W.Frag) : R2 := fun x y H Q => ∃ l xs, x = .ref l ∧ y = .int 0 ∧ SqT K H l xs ∧ xs ≠ [] ∧ ∀ p, H p = none → Q (.ref p) (upd H p (.tup []))
theorem op_rep0 {X : Cx} : OpR X (binaryOp .Mult) (rRep0 X.K) := by
  intro pins s σ H x y v u Q I rx ry h
  obtain ⟨l, xs, rfl, rfl, hT, hne, q⟩ := h
  cases rx
  obtain ⟨t, rfl⟩ := ry
  obtain ⟨its, r, ⟨⟨cls, dd, data, sl⟩, ho, hc, n, hd⟩, hs⟩ := I.tuple hT
  simp only at hc hd
  subst hc hd
  have hle : its.length = xs.length := r.length.symm
  have hi : its.toArray.isEmpty = false := by
    cases its with
    | nil => exact absurd (List.eq_nil_of_length_eq_zero hle.symm) hne
    | cons a b => rfl
  have c1 : (its.toArray.isEmpty || (0 : Int) == 1) = false := by rw [hi]; rfl
  refine wpAny_binaryOp_repeat_ref (T := "tuple") (U := "int") (by decide) ⟨_, ho, rfl⟩ (fun s' => typeIs_int s' 0 t) noFill_tuple_mul F.fills_int_mul F.slot_int_rmul repeat_tuple F.slot_int_index.lookup
    (call_meets F.slot_int_rmul (typeIs_int s 0 t) F.entry_int_rmul (F.args_int_rmul_2 _ _) (int_rmul_tuple 0 t l its.toArray n dd sl)
      ⟨ho, rfl, ⟨_, ho, rfl⟩, call_meets F.slot_tuple_mul ⟨_, ho, rfl⟩ F.entry_tuple_mul (F.args_tuple_mul_2 _ _) (tup_none l its.toArray n dd sl t c1) ⟨ho, ?_⟩⟩)
  refine ⟨.ref s.heap.objs.size, _, I.laid (t' := s.toks) (o := .tup []) (fun b ob q => Heap.get?_push_of_some _ q) (Nat.le_refl _) ?_, rfl, q _ (I.hok.fresh (Nat.le_refl _))⟩
  exact ⟨Nat.zero_le _, _, .nil, IsTup.new _ _⟩
section
variable {X : Cx} {N : EN} {z z1 z2 : Z} {pos : Pos} {a b : Expr}
theorem de_repT0 {v : Int} {m : Nat} (ha : DE X N z a (.d (tI [v])) z1) (hb : DE X N z1 b (.d (.int m)) z2) (h2 : m ≤ 1000) : DE X N z (.BinOp a .Mult b pos) (.d (tI (List.replicate m v))) z2 := by
  by_cases h : m = 0
  · subst h
    exact de_opG op_rep0 ha hb fun F α σ x u H Q fr d1 d2 q => by
      cases (d2 : Dp X.K F u (.int 0))
      obtain ⟨c, vs, rfl, e1, e2, e3⟩ := SqT_of_dp (show Dp X.K F x (tI [v]) from d1) fr.sub
      refine ⟨c, vs, rfl, rfl, e1, fun e => ?_, fun pp hp => ?_⟩
      · subst e
        have := DpAll.len e3
        simp at this
      · obtain ⟨o4, fr4⟩ := fr.ext (o := .tup []) hp
        exact q _ _ α _ o4 fr4 (.tup (SqT.of upd_same) DpAll.nil)
  · exact de_repTI ha hb (by omega) h2
end
end DL
/-! DL16: numbers of the top, isinstance of two kinds, chains, lists that change more -/
namespace DL
open PySem PySem.Spec PyProof.Rows L2
/-- a number of the top -/
def GiAt (mg : Str → Option Value) (x : Str) (i : Int) : Prop := ∃ t, mg x = some (.int i t)
section
variable {X : Cx} {N : EN} {z z1 z2 z3 : Z} {pos p p2 p3 p4 : Pos} {e a b c : Expr} {x : Str} {d : D}
theorem de_gi {i : Int} (hg : Gl X x) (h : ∃ t, X.mg x = some (.int i t)) (hd : (x == ("__debug__" : Str)) = false := by decide) : DE X N z (.Name x pos) (.d (.int i)) z := by
  obtain ⟨t, hm⟩ := h
  exact de_c (pe_glob (v := .int i) hg hm ⟨t, rfl⟩ hd) fun _ => .int i
/-- isinstance(e, (tuple, list)) -/
theorem de_isiT {k1 : Nat} {r1 r2 : Bool} (hk1 : kitB (tyD d) "tuple" = some r1) (hk2 : kitB (tyD d) "list" = some r2) (hg : Gl X "isinstance") (hm : X.mg "isinstance" = none) (hgT : Gl X "tuple") (hmT : X.mg "tuple" = none) (hgL : Gl X "list") (hmL : X.mg "list" = none) (h : DE X N z e (.d d) z1)
    (he : starEach (e :: [.Tuple [.Name "tuple" p2, .Name "list" p3] k1 p4]) X.env = (false, eval e X.env) :: starEach [.Tuple [.Name "tuple" p2, .Name "list" p3] k1 p4] X.env := by rfl) (hpl : (backTo pos (starEach [.Tuple [.Name "tuple" p2, .Name "list" p3] k1 p4] X.env)).any (·.1) = false := by rfl)
    (hs2 : starEach [.Tuple [.Name "tuple" p2, .Name "list" p3] k1 p4] X.env = (false, eval (.Tuple [.Name "tuple" p2, .Name "list" p3] k1 p4) X.env) :: starEach [] X.env := by rfl) (hs3 : starEach [.Name "tuple" p2, .Name "list" p3] X.env = (false, eval (.Name "tuple" p2) X.env) :: starEach [.Name "list" p3] X.env := by rfl) (hs4 : starEach [.Name "list" p3] X.env = (false, eval (.Name "list" p3) X.env) :: starEach [] X.env := by rfl) :
    DE X N z (.Call (.Name "isinstance" p) [e, .Tuple [.Name "tuple" p2, .Name "list" p3] k1 p4] [] pos) (.d (.bool (r1 || r2))) z1 :=
  PE.to (pe_callB call_isiT hg hm PyProof.Rows.boot_isinstance (pa_cons h (pa_cons (pe_tup (pa_cons (show PE X (.Name "tuple" p2) (tC (.ty "tuple")) from ⟨fun _ _ _ H _ I h => ld_blt I hgT hmT (by decide +kernel) ⟨.ty "tuple", H, I, rfl, h⟩ (by decide) (by decide)⟩) (pa_cons (show PE X (.Name "list" p3) (tC (.ty "list")) from ⟨fun _ _ _ H _ I h => ld_blt I hgL hmL (by decide +kernel) ⟨.ty "list", H, I, rfl, h⟩ (by decide) (by decide)⟩) pa_nil hs4) hs3)) pa_nil hs2) he) (he := he) (hpl := hpl)) fun σ H Q ⟨F, α, fr, q⟩ => ⟨F, α, fr, fun v F1 α1 H1 o1 fr1 d1 => ⟨Nat.le_of_ble_eq_true rfl, fun pp hp => by
    obtain ⟨o2, fr2⟩ := fr1.ext (o := .tup [.ty "tuple", .ty "list"]) hp
    have hk : PySem.W.kitAny X.K (.type (tyD d)) [.type "tuple", .type "list"] = some (r1 || r2) := by
      have q1 : PySem.W.kitOne X.K (.type (tyD d)) (.type "tuple") = some r1 := kit_ty hk1
      have q2 : PySem.W.kitOne X.K (.type (tyD d)) (.type "list") = some r2 := kit_ty hk2
      unfold PySem.W.kitAny
      rw [q1]
      cases r1 with
      | true => rfl
      | false =>
        show PySem.W.kitAny X.K (.type (tyD d)) [.type "list"] = _
        unfold PySem.W.kitAny
        rw [q2]
        cases r2 <;> rfl
    exact ⟨v, pp, [.ty "tuple", .ty "list"], .type (tyD d), [.type "tuple", .type "list"], r1 || r2, rfl, upd_same, .cons (.ty "tuple") (.cons (.ty "list") .nil), ty_of (o2.dp d1) fr2.sub, hk, q _ _ α1 _ (o1.trans o2) fr2 (.bl _)⟩⟩⟩
/-- a op1 b op2 c, of ints -/
theorem de_ch2 {op op' : CmpOp} {g g' : Int → Int → Bool} {i j k : Int} (h1 : OpR X (compareOp op) (rI0 fun i j => .bl (g i j))) (h2 : OpR X (compareOp op') (rI0 fun i j => .bl (g' i j))) (ha : DE X N z a (.d (.int i)) z1) (hb : DE X N z1 b (.d (.int j)) z2) (hc : DE X N z2 c (.d (.int k)) z2)
    (hm : lastMarks [op, op'] [b, c] = false := by with_unfolding_all rfl) : DE X N z (.Compare a [op, op'] [b, c] pos) (.d (.bool (g i j && g' j k))) z2 :=
  PE.to (pe_chain h1 h2 ha hb hc hm) fun σ H Q ⟨F, α, fr, q⟩ => ⟨F, α, fr, fun v F1 α1 H1 o1 fr1 d1 => ⟨F1, α1, fr1, fun u F2 α2 H2 o2 fr2 d2 => by
    have d1 := o2.dp (show Dp X.K F1 v (.int i) from d1)
    cases d1
    cases (d2 : Dp X.K F2 u (.int j))
    refine ⟨i, j, rfl, rfl, _, rfl, ?_⟩
    by_cases h : g i j = true
    · rw [if_pos h]
      refine ⟨F2, α2, fr2, fun w F3 α3 H3 o3 fr3 d3 => ?_⟩
      cases (d3 : Dp X.K F3 w (.int k))
      refine ⟨j, k, rfl, rfl, ?_⟩
      refine q _ F3 α3 H3 ((o1.trans o2).trans o3) fr3 ?_
      rw [h]
      exact .bl _
    · rw [if_neg h]
      refine q _ F2 α2 H2 (o1.trans o2) fr2 ?_
      rw [show g i j = false by simpa using h]
      exact .bl _⟩⟩
theorem dt_ch2 {op op' : CmpOp} {g g' : Int → Int → Bool} {i j k : Int} (h1 : OpR X (compareOp op) (rI0 fun i j => .bl (g i j))) (h2 : OpR X (compareOp op') (rI0 fun i j => .bl (g' i j))) (ha : DE X N z a (.d (.int i)) z1) (hb : DE X N z1 b (.d (.int j)) z2) (hc : DE X N z2 c (.d (.int k)) z2)
    (hm : lastMarks [op, op'] [b, c] = false := by with_unfolding_all rfl) : DT X N z (.Compare a [op, op'] [b, c] pos) (g i j && g' j k) z2 :=
  PT.to (pt_chain h1 h2 ha hb hc hm) fun σ H Q ⟨F, α, fr, q⟩ => ⟨F, α, fr, fun v F1 α1 H1 o1 fr1 d1 => ⟨F1, α1, fr1, fun u F2 α2 H2 o2 fr2 d2 => by
    have d1 := o2.dp (show Dp X.K F1 v (.int i) from d1)
    cases d1
    cases (d2 : Dp X.K F2 u (.int j))
    refine ⟨i, j, rfl, rfl, _, rfl, ?_⟩
    by_cases h : g i j = true
    · rw [if_pos h]
      refine ⟨F2, α2, fr2, fun w F3 α3 H3 o3 fr3 d3 => ?_⟩
      cases (d3 : Dp X.K F3 w (.int k))
      refine ⟨j, k, rfl, rfl, _, rfl, ?_⟩
      have := q F3 α3 H3 ((o1.trans o2).trans o3) fr3
      rw [h] at this
      exact this
    · rw [if_neg h]
      have := q F2 α2 H2 (o1.trans o2) fr2
      rw [show g i j = false by simpa using h] at this
      exact ⟨false, rfl, this⟩⟩⟩
theorem dt_chEE {i j k : Int} (ha : DE X N z a (.d (.int i)) z1) (hb : DE X N z1 b (.d (.int j)) z2) (hc : DE X N z2 c (.d (.int k)) z2)
    (hm : lastMarks [.LtE, .LtE] [b, c] = false := by with_unfolding_all rfl) : DT X N z (.Compare a [.LtE, .LtE] [b, c] pos) (decide (i ≤ j) && decide (j ≤ k)) z2 := dt_ch2 op_le op_le ha hb hc hm
theorem dt_chTT' {i j k : Int} (ha : DE X N z a (.d (.int i)) z1) (hb : DE X N z1 b (.d (.int j)) z2) (hc : DE X N z2 c (.d (.int k)) z2)
    (hm : lastMarks [.Lt, .Lt] [b, c] = false := by with_unfolding_all rfl) : DT X N z (.Compare a [.Lt, .Lt] [b, c] pos) (decide (i < j) && decide (j < k)) z2 := dt_ch2 op_lt op_lt ha hb hc hm
theorem de_chLL {i j k : Int} (ha : DE X N z a (.d (.int i)) z1) (hb : DE X N z1 b (.d (.int j)) z2) (hc : DE X N z2 c (.d (.int k)) z2)
    (hm : lastMarks [.LtE, .LtE] [b, c] = false := by with_unfolding_all rfl) : DE X N z (.Compare a [.LtE, .LtE] [b, c] pos) (.d (.bool (decide (i ≤ j) && decide (j ≤ k)))) z2 := de_ch2 op_le op_le ha hb hc hm
theorem de_chTT' {i j k : Int} (ha : DE X N z a (.d (.int i)) z1) (hb : DE X N z1 b (.d (.int j)) z2) (hc : DE X N z2 c (.d (.int k)) z2)
    (hm : lastMarks [.Lt, .Lt] [b, c] = false := by with_unfolding_all rfl) : DE X N z (.Compare a [.Lt, .Lt] [b, c] pos) (.d (.bool (decide (i < j) && decide (j < k)))) z2 := de_ch2 op_lt op_lt ha hb hc hm
/-- an own list == another one -/
theorem ok_eqO {k j : Nat} {xs ys : List D} (e1 : z2.o[k]? = some (some xs)) (e2 : z2.o[j]? = some (some ys)) (hm : min (PyData.depth (.list xs)) (PyData.depth (.list ys)) ≤ 64) : CmpOk X N z2 (rEqP X.K) (.ptr k) (.ptr j) (PyData.eqv (.list xs) (.list ys)) := fun F α σ v u H Q fr d1 d2 q => by
  obtain ⟨c, ec, rfl⟩ := d1
  obtain ⟨c', ec', rfl⟩ := d2
  obtain ⟨vs, hv, hs, da⟩ := fr.seq ec e1
  obtain ⟨ws, hw, hs', db⟩ := fr.seq ec' e2
  exact ⟨.list xs, .list ys, .lst hs (dmonoA fr.sub da), .lst hs' (dmonoA fr.sub db), hm, q⟩
theorem dt_eqO {k j : Nat} {xs ys : List D} (hu : X.A.units + 64 < cLine) (ha : DE X N z a (.ptr k) z1) (hb : DE X N z1 b (.ptr j) z2) (e1 : z2.o[k]? = some (some xs)) (e2 : z2.o[j]? = some (some ys)) (hm : min (PyData.depth (.list xs)) (PyData.depth (.list ys)) ≤ 64) : DT X N z (.Compare a [.Eq] [b] pos) (PyData.eqv (.list xs) (.list ys)) z2 := dt_cmp (op_eqP hu) ha hb (ok_eqO e1 e2 hm) (nomark _)
/-! bools among ints -/
theorem op_add_bi : OpR X (binaryOp .Add) (fun x y H Q => ∃ k i, x = .bl k ∧ y = .int i ∧ Q (.int (b2i k + i)) H) := by
  intro pins s σ H x y v u Q I rx ry h
  obtain ⟨k, i, rfl, rfl, q⟩ := h
  obtain ⟨t, rfl⟩ := ry
  cases rx
  exact PySem.IntBool.add_bool_int ⟨.int (b2i k + i), H, I.tok _, ⟨_, rfl⟩, q⟩
theorem op_sub_bi : OpR X (binaryOp .Sub) (fun x y H Q => ∃ k i, x = .bl k ∧ y = .int i ∧ Q (.int (b2i k - i)) H) := by
  intro pins s σ H x y v u Q I rx ry h
  obtain ⟨k, i, rfl, rfl, q⟩ := h
  obtain ⟨t, rfl⟩ := ry
  cases rx
  exact PySem.IntBool.sub_bool_int ⟨.int (b2i k - i), H, I.tok _, ⟨_, rfl⟩, q⟩
theorem op_sub_ib : OpR X (binaryOp .Sub) (fun x y H Q => ∃ i k, x = .int i ∧ y = .bl k ∧ Q (.int (i - b2i k)) H) := by
  intro pins s σ H x y v u Q I rx ry h
  obtain ⟨i, k, rfl, rfl, q⟩ := h
  obtain ⟨t, rfl⟩ := rx
  cases ry
  exact PySem.IntBool.sub_int_bool ⟨.int (i - b2i k), H, I.tok _, ⟨_, rfl⟩, q⟩
theorem op_mul_ib : OpR X (binaryOp .Mult) (fun x y H Q => ∃ i k, x = .int i ∧ y = .bl k ∧ Q (.int (i * b2i k)) H) := by
  intro pins s σ H x y v u Q I rx ry h
  obtain ⟨i, k, rfl, rfl, q⟩ := h
  obtain ⟨t, rfl⟩ := rx
  cases ry
  exact PySem.IntBool.mul_int_bool ⟨.int (i * b2i k), H, I.tok _, ⟨_, rfl⟩, q⟩
theorem de_addBI {t : Bool} {j : Int} (ha : DE X N z a (.d (.bool t)) z1) (hb : DE X N z1 b (.d (.int j)) z2) : DE X N z (.BinOp a .Add b pos) (.d (.int (b2i t + j))) z2 :=
  de_opG op_add_bi ha hb fun F α σ v u H Q fr d1 d2 q => by
    cases (d1 : Dp X.K F v (.bool t))
    cases (d2 : Dp X.K F u (.int j))
    exact ⟨t, j, rfl, rfl, q _ F α H (On.refl F α) fr (.int _)⟩
theorem de_subBI {t : Bool} {j : Int} (ha : DE X N z a (.d (.bool t)) z1) (hb : DE X N z1 b (.d (.int j)) z2) : DE X N z (.BinOp a .Sub b pos) (.d (.int (b2i t - j))) z2 :=
  de_opG op_sub_bi ha hb fun F α σ v u H Q fr d1 d2 q => by
    cases (d1 : Dp X.K F v (.bool t))
    cases (d2 : Dp X.K F u (.int j))
    exact ⟨t, j, rfl, rfl, q _ F α H (On.refl F α) fr (.int _)⟩
theorem de_subIB {t : Bool} {i : Int} (ha : DE X N z a (.d (.int i)) z1) (hb : DE X N z1 b (.d (.bool t)) z2) : DE X N z (.BinOp a .Sub b pos) (.d (.int (i - b2i t))) z2 :=
  de_opG op_sub_ib ha hb fun F α σ v u H Q fr d1 d2 q => by
    cases (d1 : Dp X.K F v (.int i))
    cases (d2 : Dp X.K F u (.bool t))
    exact ⟨i, t, rfl, rfl, q _ F α H (On.refl F α) fr (.int _)⟩
theorem de_mulIB {t : Bool} {i : Int} (ha : DE X N z a (.d (.int i)) z1) (hb : DE X N z1 b (.d (.bool t)) z2) : DE X N z (.BinOp a .Mult b pos) (.d (.int (i * b2i t))) z2 :=
  de_opG op_mul_ib ha hb fun F α σ v u H Q fr d1 d2 q => by
    cases (d1 : Dp X.K F v (.int i))
    cases (d2 : Dp X.K F u (.bool t))
    exact ⟨i, t, rfl, rfl, q _ F α H (On.refl F α) fr (.int _)⟩
/-! texts -/
theorem de_addS {s t : Str} (ha : DE X N z a (.d (.str s)) z1) (hb : DE X N z1 b (.d (.str t)) z2) (hz : s.length + t.length ≤ sizeLine) : DE X N z (.BinOp a .Add b pos) (.d (.str (s ++ t))) z2 :=
  de_opG op_add_str ha hb fun F α σ v u H Q fr d1 d2 q => by
    cases (d1 : Dp X.K F v (.str s))
    cases (d2 : Dp X.K F u (.str t))
    exact ⟨s, t, rfl, rfl, hz, q _ F α H (On.refl F α) fr (.str _)⟩
/-! lists that change -/
theorem de_ins {k : Nat} {i : Int} {xs ys : List D} {apos : Pos} (ha : DE X N z a (.ptr k) z1) (hb : DE X N z1 b (.d (.int i)) z2) (hc : DE X N z2 c (.d d) z2) (e1 : z1.o[k]? = some (some ys)) (eo : z2.o[k]? = some (some xs)) (hz : xs.length < sizeLine) (h0 : 0 ≤ i) (h1 : i < 2 ^ 63)
    (hbase : attributeBase a "insert" X.env (eval a X.env) = eval a X.env := by rfl)
    (hfew : ((backTo pos (starEach [b, c] X.env)).all (fun x => !x.1) && (backToKw pos (keywordEach [] X.env)).all (fun x => x.1.isSome) && decide ([b, c].length + ([] : List Keyword).length + (if ([] : List Keyword).isEmpty then 0 else 1) < 30)) = true := by rfl)
    (hline : (apos.endLine == pos.line) = true := by rfl) (hs : starEach [b, c] X.env = (false, eval b X.env) :: starEach [c] X.env := by rfl) (hs2 : S1 X c := by rfl) (hpl : (backTo pos (starEach [c] X.env)).any (·.1) = false := by rfl) :
    DE X N z (.Call (.Attribute a "insert" apos) [b, c] [] pos) (.d .none) ⟨z2.s, z2.o.set k (some (xs.take i.toNat ++ [d] ++ xs.drop i.toNat))⟩ :=
  PE.to (pe_bm PySem.F.plainAttrs_list PySem.F.slot_list_insert PySem.F.type_list_insert mt_insert ha (da_cons hb (da_cons hc da_nil hs2) hs) hbase hfew hline hs hpl) fun σ H Q ⟨F, α, fr, q⟩ => ⟨F, α, fr, fun v F1 α1 H1 o1 fr1 d1 => by
    obtain ⟨c0, ec, rfl⟩ := d1
    obtain ⟨vs0, _, hs0, _⟩ := fr1.seq ec e1
    refine ⟨.inl ⟨rfl, vs0, hs0⟩, F1, α1, fr1, fun ws F2 α2 H2 o2 fr2 d2 => ?_⟩
    cases d2 with
    | cons r1 t =>
      cases t with
      | cons r2 t2 =>
        cases t2
        cases r1
        obtain ⟨c', ec', hc'⟩ := o2.rs (K := X.K) (r := .ptr k) (v := .ref c0) ⟨c0, ec, rfl⟩
        cases hc'
        obtain ⟨vs, hv, _, da⟩ := fr2.seq ec' eo
        exact ⟨c0, vs, i, _, rfl, rfl, hv, by rw [DpAll.len da]; exact hz, h0, h1, q _ F2 α2 _ (o1.trans o2) (fr2.mut ec' eo (DpAll.append (DpAll.append (DpAll.take _ da) (.cons r2 .nil)) (DpAll.drop _ da))) .non⟩⟩
theorem de_popAt {k j : Nat} {i : Int} {ys xs : List D} {apos : Pos} (ha : DE X N z a (.ptr k) z1) (hb : DE X N z1 b (.d (.int i)) z2) (e1 : z1.o[k]? = some (some ys)) (eo : z2.o[k]? = some (some xs)) (hi : i = (j : Nat)) (hd : xs[j]? = some d) (h1 : i < 2 ^ 63)
    (hbase : attributeBase a "pop" X.env (eval a X.env) = eval a X.env := by rfl)
    (hfew : ((backTo pos (starEach [b] X.env)).all (fun x => !x.1) && (backToKw pos (keywordEach [] X.env)).all (fun x => x.1.isSome) && decide ([b].length + ([] : List Keyword).length + (if ([] : List Keyword).isEmpty then 0 else 1) < 30)) = true := by rfl)
    (hline : (apos.endLine == pos.line) = true := by rfl) (hs : S1 X b := by rfl) :
    DE X N z (.Call (.Attribute a "pop" apos) [b] [] pos) (.d d) ⟨z2.s, z2.o.set k (some (xs.take j ++ xs.drop (j + 1)))⟩ :=
  PE.to (pe_bm PySem.F.plainAttrs_list PySem.F.slot_list_pop PySem.F.type_list_pop mt_popAt ha (da_cons hb da_nil hs) hbase hfew hline hs (by rfl)) fun σ H Q ⟨F, α, fr, q⟩ => ⟨F, α, fr, fun v F1 α1 H1 o1 fr1 d1 => by
    obtain ⟨c0, ec, rfl⟩ := d1
    obtain ⟨vs0, _, hs0, _⟩ := fr1.seq ec e1
    refine ⟨.inl ⟨rfl, vs0, hs0⟩, F1, α1, fr1, fun ws F2 α2 H2 o2 fr2 d2 => ?_⟩
    obtain ⟨w, rfl, dw⟩ := DpAll.one d2
    cases dw
    obtain ⟨c', ec', hc'⟩ := o2.rs (K := X.K) (r := .ptr k) (v := .ref c0) ⟨c0, ec, rfl⟩
    cases hc'
    obtain ⟨vs, hv, _, da⟩ := fr2.seq ec' eo
    obtain ⟨y, hy, dy⟩ := DpAll.get da hd
    have hlt : j < vs.length := (List.getElem?_eq_some_iff.mp hy).1
    have hk : seqIndex? i vs.length = some j := by
      rw [PySem.seqIndex_of (by omega) (by omega), hi]
      rfl
    refine ⟨c0, vs, i, j, y, rfl, rfl, hv, by omega, h1, hk, hy, q _ F2 α2 _ (o1.trans o2) ?_ dy⟩
    rw [List.eraseIdx_eq_take_drop_succ]
    exact fr2.mut ec' eo (DpAll.append (DpAll.take _ da) (DpAll.drop _ da))⟩
end
end DL
/-! DL17: a part of a list stored anew; texts' methods; not in a tuple of data -/
namespace DL
open PySem PySem.Spec PyProof.Rows L2 HT
section
variable {prog : Program} {w : World} {A : Around} {E : Value → Shared → Prop} {s : Shared}
theorem bounds_clip {a c n : Nat} (ha : a ≤ n) (hac : a ≤ c) : sliceBounds (some (a : Int)) (some (c : Int)) none n = ((a : Int), ((min c n : Nat) : Int), 1) := by
  simp only [sliceBounds, Option.getD_none]
  have h1 : ¬ ((a : Int) < 0) := by omega
  have h2 : ¬ ((c : Int) < 0) := by omega
  simp only [h1, h2, if_false, show (1 : Int) > 0 by decide, if_true]
  congr 1
  · omega
  · congr 1; omega
theorem setItem_clip {l b sl : Addr} {items new : Array Value} {n n2 : Nat} {vl vu : Value} {a c : Nat} {Q : Unit → Shared → Prop}
    (e : s.heap.get? l = some { cls := .type "list", data := .seq items n }) (e2 : s.heap.get? b = some { cls := .type "list", data := .seq new n2 }) (hne : l ≠ b)
    (hs : s.heap.IsSliceOf sl vl vu .none) (pl : IsPart vl (some (a : Int))) (pu : IsPart vu (some (c : Int))) (hac : a ≤ c) (ha : a ≤ items.size)
    (hsz : items.size + new.size ≤ sizeLine) (h : Q () { s with heap := s.heap.update l (Obj.mapSeq fun xs => xs.extract 0 a ++ new ++ xs.extract (min c items.size) xs.size) }) :
    wpAny (model prog w) A (setItem (.ref l) (.ref sl) (.ref b)) Q E s := by
  have hl : s.heap.IsList l items := PySem.IsL.isList e
  have hb : s.heap.IsList b new := PySem.IsL.isList e2
  obtain ⟨os, hos, hcs, hds⟩ := id hs
  have hTs : s.TypeIs (.ref sl) "slice" := ⟨os, hos, hcs⟩
  have hstep : ¬ ((rawPart none == rawInt 0) = true) := Bool.false_ne_true
  have hsame : Builtin.List.listSameRef (.ref l) (.ref b) = false := by
    unfold Builtin.List.listSameRef
    exact beq_eq_false_iff_ne.mpr hne
  have hmax : (max (a : Int) ((min c items.size : Nat) : Int)).toNat = min c items.size := by omega
  have hz' : ((fun xs : Array Value => xs.extract 0 a ++ new ++ xs.extract (min c items.size) xs.size) items).size ≤ sizeLine + 1 := by
    simp only [Array.size_append, Array.size_extract]
    omega
  unfold setItem
  try with_reducible refine wpAny_holding ?_
  first | refine wpAny_bind (wpAny_pure ?_) | skip
  refine wpAny_bind (wpAny_sequenceKey hl.typeIs (by decide) ?_)
  refine wpAny_bind (wpAny_callSpecial?_slot (name := Str.ofString "__setitem__") hl.typeIs slot_list_setitem
    (wpAny_call_entry slot_list_setitem hl.typeIs entry_list_setitem ?_ (args_list_setitem _ _ _)))
  show wpAny _ _ (Builtin.List.listSubscript? (.ref sl) >>= _) _ _ s
  refine wpAny_bind ?_
  unfold Builtin.List.listSubscript?
  refine wpAny_bind (wpAny_specialOf hTs slice_no_index ?_)
  simp only [Option.isNone_none, if_true]
  refine wpAny_pure ?_
  show wpAny _ _ (typeOf (.ref sl) >>= _) _ _ s
  refine wpAny_bind (wpAny_typeOf hTs ?_)
  first
    | rw [if_neg (by decide)]
    | refine PySem.W.KFB.if_not (by decide) ?_
  rw [listSliceParts_eq]
  refine wpAny_bind (wpAny_bind (wpAny_field hos hds (x := .none) rfl (wpAny_bind (wpAny_listPart .none ?_))))
  rw [if_neg hstep]
  refine wpAny_bind (wpAny_field hos hds (x := vl) rfl (wpAny_bind (wpAny_listPart pl ?_)))
  refine wpAny_bind (wpAny_field hos hds (x := vu) rfl (wpAny_bind (wpAny_listPart pu (wpAny_pure ?_))))
  first
    | simp only [hsame, Bool.false_eq_true, if_false]
    | refine PySem.W.KFB.if_not hsame ?_
    | (dsimp only
       rw [if_neg (by rw [hsame]; exact Bool.false_ne_true)])
  refine wpAny_bind (m := Builtin.List.listAllItems (.ref b) "must assign iterable to extended slice") ?_
  unfold Builtin.List.listAllItems
  refine wpAny_bind (wpAny_typeOf hb.typeIs ?_)
  first
    | refine PySem.W.KFB.if_so (by decide) ?_
    | rw [if_pos (by decide)]
    | simp only [beq_self_eq_true, Bool.true_or, if_true]
  unfold Builtin.List.listItems
  refine wpAny_bind (wpAny_seqItems e2 rfl (wpAny_pure ?_))
  refine wpAny_bind (wpAny_bind (wpAny_seqItems e rfl (wpAny_pure ?_)))
  refine wpAny_bind (wpAny_of_eq ((sliceIndices_raw (some (a : Int)) (some (c : Int)) none items.size (by simp)).trans (congrArg (pure : Int × Int × Int → Sem (Int × Int × Int)) (bounds_clip ha hac))) ?_)
  show wpAny _ _ (if ((1 : Int) == 1) = true then _ else _) _ _ s
  rw [if_pos (by decide)]
  refine wpAny_bind (wpAny_rule ?_)
  first
    | simp only [notLongL hsz, Bool.false_eq_true, if_false]
    | refine PySem.W.KFB.if_not (notLongL hsz) ?_
  first | refine wpAny_bind (wpAny_pure ?_) | skip
  show wpAny _ _ (updateSeq l (fun xs => xs.extract 0 ((a : Int)).toNat ++ new ++ xs.extract (max (a : Int) ((min c items.size : Nat) : Int)).toNat xs.size) >>= _) _ _ s
  rw [hmax, Int.toNat_natCast]
  refine wpAny_bind (wpAny_updateSeq (hz := Nat.le_trans (Nat.le_add_right _ _) hsz) (_hz' := hz') e rfl ?_)
  refine wpAny_bind (wpAny_letGo ?_)
  first
    | exact wpAny_bind (wpAny_pure (wpAny_pure ⟨.none, rfl, wpAny_pure h⟩))
    | exact wpAny_pure ⟨.none, rfl, wpAny_pure h⟩
end
section
variable {X : Cx}
theorem drop_min {α : Type} (xs : List α) (c : Nat) : xs.drop (min c xs.length) = xs.drop c := by
  by_cases h : c ≤ xs.length
  · rw [Nat.min_eq_left h]
  · rw [Nat.min_eq_right (by omega), List.drop_of_length_le (Nat.le_refl _), List.drop_of_length_le (by omega)]
theorem set_clip {pins : List (Addr × Obj)} {s : Shared} {σ : L2.St} {H : Hp} {l b sl : Addr} {xs ys : List V} {a c : Nat} {vl vu : Value} {Q : Unit → Shared → Prop} (I : Inv X pins σ H s)
    (hH : H l = some (.lst xs)) (hB : H b = some (.lst ys)) (hne : l ≠ b) (hs : s.heap.IsSliceOf sl vl vu .none) (pl : IsPart vl (some (a : Int))) (pu : IsPart vu (some (c : Int))) (hac : a ≤ c) (ha : a ≤ xs.length)
    (hz : xs.length + ys.length ≤ sizeLine) (h : ∀ s', Inv X pins σ (upd H l (.lst (xs.take a ++ ys ++ xs.drop c))) s' → Q () s') :
    wpAny (model X.prog X.w) X.A (setItem (.ref l) (.ref sl) (.ref b)) Q X.xe s := by
  obtain ⟨z, its, n, r, hl, e⟩ := I.lstM hH
  obtain ⟨z2, its2, n2, r2, hl2, e2⟩ := I.lstM hB
  have hsz : its.toArray.size = xs.length := by rw [List.size_toArray]; omega
  refine setItem_clip (a := a) (c := c) e e2 hne hs pl pu hac (by omega) (by rw [List.size_toArray, List.size_toArray]; omega) (h _ ?_)
  rw [hsz]
  refine I.lset (its' := its.take a ++ its2 ++ its.drop (min c xs.length)) (t' := s.toks) hH e ?_ ?_ ?_
  · exact splice_eq its its2 a (min c xs.length)
  · have := Vals.append (Vals.append (r.take a) r2) (r.drop (min c xs.length))
    rw [drop_min] at this
    exact this
  · rw [List.length_append, List.length_append, List.length_take, List.length_drop]
    omega
/-- xs[lo:hi] as a target -/
def gSl (to : TE) (tl tu : TO) : TG := fun v σ H Q => to σ H fun x H1 => tl σ H1 fun l H2 => tu σ H2 fun u H3 => ∃ (a b : Addr) (xs ys : List V) (c1 c2 : Nat), x = .ref a ∧ v = .ref b ∧ l = some (c1 : Int) ∧ u = some (c2 : Int) ∧ H3 a = some (.lst xs) ∧ H3 b = some (.lst ys) ∧ a ≠ b ∧ c1 ≤ c2 ∧ c1 ≤ xs.length ∧ xs.length + ys.length ≤ sizeLine ∧ Q σ (upd H3 a (.lst (xs.take c1 ++ ys ++ xs.drop c2)))
theorem pg_slice {o : Expr} {to : TE} {lo hi : Option Expr} {tl tu : TO} {p pos : Pos} (ho : PE X o to) (hl : PO X lo tl) (hu : PO X hi tu)
    (ha : ∀ v, assign (.Subscript o (.Slice lo hi none p) pos) X.env v = (do
      let ov ← holding [v] (eval o X.env)
      let iv ← holding [v, ov] (eval (.Slice lo hi none p) X.env)
      standAt pos
      holding [v, ov, iv] (setItem ov iv v)
      release [iv, v, ov] []) := by intro _; rfl) : PG X (.Subscript o (.Slice lo hi none p) pos) (gSl to tl tu) := by
  refine ⟨fun pins s σ H v u Q I r h => ?_⟩
  rw [ha]
  refine wpAny_bind (wpAny_holding (thn (ho.run pins s σ H _ I h) fun ov s1 ⟨x, H1, I1, r1, q1⟩ => ?_))
  refine wpAny_bind (wpAny_holding (wpAny_Slice (thn (hl.run pins s1 σ H1 _ I1 q1) fun vl s2 ⟨l, H2, I2, pl, q2⟩ => thn (hu.run pins s2 σ H2 _ I2 q2) fun vu s3 ⟨uu, H3, I3, pu, q3⟩ => thn (po_none.run pins s3 σ H3 (fun o H4 => o = none ∧ H4 = H3) I3 ⟨rfl, rfl⟩) fun vs s4 ⟨oo, H4, I4, ps, eo, e4⟩ => ?_)))
  subst eo e4
  obtain ⟨a, b, xs, ys, c1, c2, rfl, rfl, rfl, rfl, hH, hB, hne, hac, hle, hz, q⟩ := q3
  cases r1
  cases r
  cases ps
  have I5 : Inv X pins σ H4 { s4 with heap := s4.heap.push { cls := .type "slice", data := .fields #[vl, vu, .none] } } := I4.kept (t' := s4.toks) fun b ob q => Heap.get?_push_of_some _ q
  refine wpAny_bind (wpAny_standAt (wpAny_bind (wpAny_holding ?_)))
  exact set_clip I5 hH hB hne (Heap.IsSliceOf.new _ vl vu .none) pl pu hac hle hz fun s' I' => wpAny_release ⟨σ, _, I', q⟩
variable {N : EN} {z z1 z2 z3 z4 : Z} {pos p p2 : Pos} {e a : Expr} {lo hi : Option Expr} {nx : Z → Prop} {rt : Rs → Z → Prop}
/-- bits[lo:hi] = an own list -/
theorem d1_setSl {k j c1 c2 : Nat} {xs ys : List D} (he : DE X N z e (.ptr j) z1) (ha : DE X N z1 a (.ptr k) z2) (hl : DO X N z2 lo (some (c1 : Int)) z3) (hu : DO X N z3 hi (some (c2 : Int)) z4) (eo : z4.o[k]? = some (some xs)) (ej : z4.o[j]? = some (some ys)) (hkj : k ≠ j) (hac : c1 ≤ c2) (hle : c1 ≤ xs.length) (hz : xs.length + ys.length ≤ sizeLine)
    (h : nx ⟨z4.s, z4.o.set k (some (xs.take c1 ++ ys ++ xs.drop c2))⟩)
    (hasg : ∀ v, assign (.Subscript a (.Slice lo hi none p) p2) X.env v = (do
      let ov ← holding [v] (eval a X.env)
      let iv ← holding [v, ov] (eval (.Slice lo hi none p) X.env)
      standAt p2
      holding [v, ov, iv] (setItem ov iv v)
      release [iv, v, ov] []) := by intro _; rfl)
    (hs : swapsWithSole [.Subscript a (.Slice lo hi none p) p2] e pos.line X.env = pure false := by rfl) (hw : swappedStores [.Subscript a (.Slice lo hi none p) p2] e X.env = pure none := by rfl) (h1 : (assignEach [.Subscript a (.Slice lo hi none p) p2] X.env).map (·.2) = [assign (.Subscript a (.Slice lo hi none p) p2) X.env] := by rfl) :
    D1 X N z (.Assign [.Subscript a (.Slice lo hi none p) p2] e pos) nx rt :=
  PS.to (ps_asg he (pg_slice ha hl hu hasg) hs hw h1) fun E σ H ⟨F, α, fr, q, _⟩ => ⟨F, α, fr, fun v F1 α1 H1 o1 fr1 d1 => ⟨F1, α1, fr1, fun u F2 α2 H2 o2 fr2 d2 => ⟨F2, α2, fr2, fun F3 α3 H3 o3 fr3 => ⟨F3, α3, fr3, fun F4 α4 H4 o4 fr4 => by
    obtain ⟨cb, ecb, eb⟩ := ((o2.trans o3).trans o4).rs d1
    obtain ⟨ca, eca, ea⟩ := (o3.trans o4).rs d2
    obtain ⟨vs, hv, _, da⟩ := fr4.seq eca eo
    obtain ⟨ws, hw', _, db⟩ := fr4.seq ecb ej
    have hne : ca ≠ cb := fun q => hkj (by
      subst q
      have l1 := (List.getElem?_eq_some_iff.mp eca)
      have l2 := (List.getElem?_eq_some_iff.mp ecb)
      obtain ⟨h1, e1⟩ := l1
      obtain ⟨h2, e2⟩ := l2
      by_cases lt : k < j
      · exact absurd (e1.trans e2.symm) (List.pairwise_iff_getElem.mp fr4.nd k j h1 h2 lt)
      · by_cases gt : j < k
        · exact absurd (e2.trans e1.symm) (List.pairwise_iff_getElem.mp fr4.nd j k h2 h1 gt)
        · omega)
    refine ⟨ca, cb, vs, ws, c1, c2, ea, eb, rfl, rfl, hv, hw', hne, hac, by rw [DpAll.len da]; exact hle, by rw [DpAll.len da, DpAll.len db]; exact hz, ?_⟩
    exact q _ F4 α4 _ _ (((o1.trans o2).trans o3).trans o4).f (fr4.mut eca eo (DpAll.append (DpAll.append (DpAll.take _ da) db) (DpAll.drop _ da))) h⟩⟩⟩⟩
/-! texts -/
theorem de_upper {x : Str} {apos : Pos} (ha : DE X N z a (.d (.str x)) z1) (hz : x.length ≤ 5592405) (hbase : attributeBase a "upper" X.env (eval a X.env) = eval a X.env := by rfl) (hline : (apos.endLine == pos.line) = true := by rfl) :
    DE X N z (.Call (.Attribute a "upper" apos) [] [] pos) (.d (.str (Txt.upper x))) z1 :=
  PE.to (pe_upper ha hbase hline) fun σ H Q ⟨F, α, fr, q⟩ => ⟨F, α, fr, fun v F1 α1 H1 o1 fr1 d1 => by
    cases (d1 : Dp X.K F1 v (.str x))
    exact ⟨⟨_, rfl⟩, x, rfl, rfl, hz, q _ F1 α1 H1 o1 fr1 (.str _)⟩⟩
theorem de_slS {x : Str} {l u : Option Int} (he : DE X N z e (.d (.str x)) z1) (hl : DO X N z1 lo l z2) (hu : DO X N z2 hi u z3) (hz : x.length ≤ sizeLine) : DE X N z (.Subscript e (.Slice lo hi none p2) pos) (.d (.str (cutS x l u))) z3 :=
  PE.to (pe_slice sl_str he hl hu) fun σ H Q ⟨F, α, fr, q⟩ => ⟨F, α, fr, fun v F1 α1 H1 o1 fr1 d1 => ⟨F1, α1, fr1, fun F2 α2 H2 o2 fr2 => ⟨F2, α2, fr2, fun F3 α3 H3 o3 fr3 => by
    cases (d1 : Dp X.K F1 v (.str x))
    exact ⟨x, rfl, hz, q _ F3 α3 H3 ((o1.trans o2).trans o3) fr3 (.str _)⟩⟩⟩⟩
end
end DL
/-! DL18: data of any kind: comprehensions with a test, kinds, not in a tuple -/
namespace DL
open PySem PySem.Spec PyProof.Rows L2
def filtD (b : Nat → Bool) (y : Nat → D) (k : Nat) : List D := ((List.range k).filter b).map y
theorem filtD_succ (b : Nat → Bool) (y : Nat → D) (k : Nat) : filtD b y (k + 1) = if b k = true then filtD b y k ++ [y k] else filtD b y k := by
  unfold filtD
  rw [List.range_succ, List.filter_append, List.map_append]
  by_cases h : b k = true
  · rw [if_pos h]
    simp [h]
  · rw [if_neg h]
    simp [h]
theorem filtD_len (b : Nat → Bool) (y : Nat → D) (k : Nat) : (filtD b y k).length ≤ k := by
  unfold filtD
  rw [List.length_map]
  exact Nat.le_trans (List.length_filter_le _ _) (by rw [List.length_range]; exact Nat.le_refl _)
theorem range_getD : ∀ (xs : List D), (List.range xs.length).map (fun k => xs.getD k .none) = xs := fun xs => by
  apply List.ext_getElem
  · simp
  · intro i h1 h2
    rw [List.getElem_map, List.getElem_range, List.getD_eq_getElem?_getD, List.getElem?_eq_getElem h2]
    rfl
theorem filtD_eq (xs : List D) (q : D → Bool) : filtD (fun k => q (xs.getD k .none)) (fun k => xs.getD k .none) xs.length = xs.filter q := by
  have e := range_getD xs
  have e2 : xs.filter q = ((List.range xs.length).map (fun k => xs.getD k .none)).filter q := by rw [e]
  rw [e2, List.filter_map]
  rfl
theorem filtL_eq (xs : List D) (q : D → Bool) : (filtL (fun k => q (xs.getD k .none)) (fun _ => 1) xs.length).length = (xs.filter q).length := by
  rw [← filtD_eq xs q]
  unfold filtL filtD
  rw [List.length_map, List.length_map]
theorem all_eq (xs : List D) (q : D → Bool) : ((List.range xs.length).map fun k => q (xs.getD k .none)).all id = xs.all q := by
  have e := range_getD xs
  have e2 : xs.all q = ((List.range xs.length).map (fun k => xs.getD k .none)).all q := by rw [e]
  rw [e2, List.all_map, List.all_map]
  rfl
theorem filt_all (xs : List D) (q : D → Bool) : filtL (fun k => !q (xs.getD k .none)) (fun _ => 1) xs.length = [] ↔ xs.all q = true := by
  have h := filtL_eq xs (fun d => !q d)
  constructor
  · intro e
    rw [e] at h
    have h : (xs.filter fun d => !q d).length = 0 := h.symm
    have h := List.eq_nil_of_length_eq_zero h
    rw [List.all_eq_true]
    intro x hx
    have := List.filter_eq_nil_iff.mp h x hx
    simpa using this
  · intro e
    rw [List.all_eq_true] at e
    have : xs.filter (fun d => !q d) = [] := List.filter_eq_nil_iff.mpr fun x hx => by simp [e x hx]
    rw [this] at h
    exact List.eq_nil_of_length_eq_zero h
theorem it_D {xs : List D} : Items xs xs.length (fun k => xs.getD k .none) := ⟨rfl, fun k d h => by rw [List.getD_eq_getElem?_getD, h]; rfl⟩
/-! kinds -/
def tInt : D → Bool
  | .bool _ => true
  | .int _ => true
  | _ => false
theorem ty_int (d : D) : kitB (tyD d) "int" = some (tInt d) := match d with
  | .none => (by decide +kernel : kitB "NoneType" "int" = some false)
  | .bool _ => (by decide +kernel : kitB "bool" "int" = some true)
  | .int _ => (by decide +kernel : kitB "int" "int" = some true)
  | .str _ => (by decide +kernel : kitB "str" "int" = some false)
  | .list _ => (by decide +kernel : kitB "list" "int" = some false)
  | .tuple _ => (by decide +kernel : kitB "tuple" "int" = some false)
  | .dict _ => (by decide +kernel : kitB "object" "int" = some false)
def tBool : D → Bool
  | .bool _ => true
  | _ => false
theorem ty_bool (d : D) : kitB (tyD d) "bool" = some (tBool d) := match d with
  | .none => (by decide +kernel : kitB "NoneType" "bool" = some false)
  | .bool _ => (by decide +kernel : kitB "bool" "bool" = some true)
  | .int _ => (by decide +kernel : kitB "int" "bool" = some false)
  | .str _ => (by decide +kernel : kitB "str" "bool" = some false)
  | .list _ => (by decide +kernel : kitB "list" "bool" = some false)
  | .tuple _ => (by decide +kernel : kitB "tuple" "bool" = some false)
  | .dict _ => (by decide +kernel : kitB "object" "bool" = some false)
def tTup : D → Bool
  | .tuple _ => true
  | _ => false
theorem ty_tuple (d : D) : kitB (tyD d) "tuple" = some (tTup d) := match d with
  | .none => (by decide +kernel : kitB "NoneType" "tuple" = some false)
  | .bool _ => (by decide +kernel : kitB "bool" "tuple" = some false)
  | .int _ => (by decide +kernel : kitB "int" "tuple" = some false)
  | .str _ => (by decide +kernel : kitB "str" "tuple" = some false)
  | .list _ => (by decide +kernel : kitB "list" "tuple" = some false)
  | .tuple _ => (by decide +kernel : kitB "tuple" "tuple" = some true)
  | .dict _ => (by decide +kernel : kitB "object" "tuple" = some false)
def tList : D → Bool
  | .list _ => true
  | _ => false
theorem ty_list (d : D) : kitB (tyD d) "list" = some (tList d) := match d with
  | .none => (by decide +kernel : kitB "NoneType" "list" = some false)
  | .bool _ => (by decide +kernel : kitB "bool" "list" = some false)
  | .int _ => (by decide +kernel : kitB "int" "list" = some false)
  | .str _ => (by decide +kernel : kitB "str" "list" = some false)
  | .list _ => (by decide +kernel : kitB "list" "list" = some true)
  | .tuple _ => (by decide +kernel : kitB "tuple" "list" = some false)
  | .dict _ => (by decide +kernel : kitB "object" "list" = some false)
def tStr : D → Bool
  | .str _ => true
  | _ => false
theorem ty_str (d : D) : kitB (tyD d) "str" = some (tStr d) := match d with
  | .none => (by decide +kernel : kitB "NoneType" "str" = some false)
  | .bool _ => (by decide +kernel : kitB "bool" "str" = some false)
  | .int _ => (by decide +kernel : kitB "int" "str" = some false)
  | .str _ => (by decide +kernel : kitB "str" "str" = some true)
  | .list _ => (by decide +kernel : kitB "list" "str" = some false)
  | .tuple _ => (by decide +kernel : kitB "tuple" "str" = some false)
  | .dict _ => (by decide +kernel : kitB "object" "str" = some false)
section
variable {X : Cx} {N : EN} {z z1 z2 : Z} {pos p : Pos} {e c iter elt tg a b : Expr} {x : D}
variable {nx : Z → Prop} {rt : Rs → Z → Prop} {xs : List D} {n : Nat} {item : Nat → D} {g : TG} {f : D → List Sl → List Sl} {ok : D → Prop} {is : List Nat} {scope : Scope} {own : List (Str × Nat)}
theorem lcFD_ok {y : Nat → D} {b : Nat → Bool} (I : Items xs n item) (hsm : n < sizeLine) {s0 : D → List Sl} : LcD N z1 xs s0 (fun _ => z1.o) (fun k => filtD b y k) b y (fun k d => ⟨s0 d, z1.o ++ [some (filtD b y k)]⟩) (fun k d => ⟨s0 d, z1.o ++ [some (filtD b y k)]⟩) :=
  ⟨rfl, rfl, fun k hk => by
      rw [I.len] at hk
      have := filtD_len b y k
      omega, fun _ => rfl, fun k d _ hb => ⟨List.take_of_length_le (by rw [List.length_append]; exact Nat.le_refl _), by rw [filtD_succ, if_pos hb]⟩, fun k d _ hb => ⟨List.take_of_length_le (by rw [List.length_append]; exact Nat.le_refl _), by rw [filtD_succ, if_neg (by rw [hb]; decide)]⟩⟩
theorem d1_setLcFD {i : Nat} {yn : Str} {py spos : Pos} {y : Nat → D} {b : Nat → Bool} (hc : X.calm = true) (hN : X.N.Nodup) (hy : X.N[i]? = some yn) (hyl : X.env.scope.names.lookup yn = some .local) (hsw : swapsWith (.ListComp elt [⟨tg, iter, [c], 0⟩] scope pos) (some (.Name yn py)) spos.line X.env = pure true) (hi : DI X N z tg iter xs z1) (I : Items xs n item) (okb : BlkOk X.N X.env.scope scope own)
    (hg : ∀ (s : Shared) (H : Hp) (C : Addr) (cl : List (Str × Addr)) (fp : List Addr), PG (BX X scope s H C cl fp) tg g) (gd : GD X.K g f ok is) (hiv : ∀ i ∈ is, i ∈ own.map (·.2)) (hok : ∀ k, k < n → ok (item k)) (hsm : n < sizeLine)
    (ht : ∀ k, k < n → ∀ (s : Shared) (H : Hp) (C : Addr) (cl : List (Str × Addr)) (fp : List Addr), DT (BX X scope s H C cl fp) N ⟨f (item k) (wipeS z1.s (own.map (·.2))), z1.o ++ [some (filtD b y k)]⟩ c (b k) ⟨f (item k) (wipeS z1.s (own.map (·.2))), z1.o ++ [some (filtD b y k)]⟩)
    (he : ∀ k, k < n → ∀ (s : Shared) (H : Hp) (C : Addr) (cl : List (Str × Addr)) (fp : List Addr), DE (BX X scope s H C cl fp) N ⟨f (item k) (wipeS z1.s (own.map (·.2))), z1.o ++ [some (filtD b y k)]⟩ elt (.d (y k)) ⟨f (item k) (wipeS z1.s (own.map (·.2))), z1.o ++ [some (filtD b y k)]⟩)
    (h : nx ⟨z1.s.set i (.ptr z1.o.length), z1.o ++ [some (filtD b y n)]⟩)
    (hs : ∀ x, foldedSetIterable iter X.env x = pure x := by intro _; rfl) :
    D1 X N z (.Assign [.Name yn py] (.ListComp elt [⟨tg, iter, [c], 0⟩] scope pos) spos) nx rt := by
  refine d1_setLc (X := X) (N := N) (z := z) (z1 := z1) (elt := elt) (pos := pos) (spos := spos) (ifs := [c]) hc hN hy hyl hsw hi okb hg gd hiv (fun k d h => by rw [I.get k d h]; exact hok k (I.lt h)) (lcFD_ok (y := y) (b := b) I hsm)
    (fun k d h s H C cl fp => dts_one (by rw [I.get k d h]; exact ht k (I.lt h) s H C cl fp)) (fun k d h _ s H C cl fp => by rw [I.get k d h]; exact he k (I.lt h) s H C cl fp) ?_ hs
  rw [I.len]
  exact h
/-! not in a tuple of data -/
def rNotInT (K : PySem.W.Frag) : R2 := fun x y H Q => ∃ d ds, Dp K H x d ∧ Dp K H y (.tuple ds) ∧ d.canLay0 = true ∧ PyData.canLayAll0 ds = true ∧ PyData.depthAll ds ≤ 20 ∧ Q (.bl (!ds.any fun z => PyData.eqv z d)) H
theorem op_notInT (hu : X.A.units + 64 < cLine) : OpR X (compareOp .NotIn) (rNotInT X.K) := by
  intro pins s σ H x y v u Q I rx ry h
  obtain ⟨d, ds, hd, he, sd, se, sz, q⟩ := h
  obtain ⟨as, r1⟩ := Dp.reads I d x v hd rx
  obtain ⟨bs, r2⟩ := Dp.reads I (.tuple ds) y u he ry
  exact SeqAt.notIn_tuple_reads r2 r1 se sd (by omega) ⟨.bl _, H, I, rfl, q⟩
theorem dt_notinD {ds : List D} (hu : X.A.units + 64 < cLine) (ha : DE X N z a (.d x) z1) (hb : DE X N z1 b (.d (.tuple ds)) z2) (h1 : x.canLay0 = true) (h2 : PyData.canLayAll0 ds = true) (h3 : PyData.depthAll ds ≤ 20) (hm : behindInMarks .NotIn b = false := by rfl) : DT X N z (.Compare a [.NotIn] [b] pos) (!ds.any fun y => PyData.eqv y x) z2 :=
  dt_cmp (op_notInT hu) ha hb (fun F α σ v u H Q fr d1 d2 q => ⟨x, ds, dmono fr.sub d1, dmono fr.sub d2, h1, h2, h3, q⟩) hm
/-- tuple * int, data of any kind -/
theorem de_repT {m : Nat} (ha : DE X N z a (.d (.tuple xs)) z1) (hb : DE X N z1 b (.d (.int m)) z2) (hx : xs ≠ []) (h1 : 2 ≤ m) (h2 : m ≤ 1000) (h3 : xs.length ≤ 1000) : DE X N z (.BinOp a .Mult b pos) (.d (.tuple (List.replicate m xs).flatten)) z2 :=
  de_opG op_repT ha hb fun F α σ v u H Q fr d1 d2 q => by
    cases (d2 : Dp X.K F u (.int m))
    obtain ⟨c, vs, rfl, e1, e2, e3⟩ := SqT_of_dp (show Dp X.K F v (.tuple xs) from d1) fr.sub
    have hl := DpAll.len e3
    refine ⟨c, m, vs, rfl, rfl, e1, fun e => ?_, by omega, by omega, by omega, fun pp hp => ?_⟩
    · subst e
      exact hx (List.eq_nil_of_length_eq_zero hl.symm)
    · obtain ⟨o4, fr4⟩ := fr.ext (o := .tup (List.replicate (m : Int).toNat vs).flatten) hp
      exact q _ _ α _ o4 fr4 (.tup (SqT.of upd_same) (dmonoA o4.f (by rw [Int.toNat_natCast]; exact DpAll.rep e3 _)))
end
end DL
/-! MR: days of a ring, in plain Lean -/
namespace DL
def tab (n : Nat) (g : Nat → Int) : List Int := (List.range n).map g
theorem tab_len (n : Nat) (g : Nat → Int) : (tab n g).length = n := by simp [tab]
theorem tab_get (n : Nat) (g : Nat → Int) (k : Nat) (h : k < n) : (tab n g).getD k 0 = g k := by simp [tab, List.getD_eq_getElem?_getD, h]
theorem tab_get? (n : Nat) (g : Nat → Int) (k : Nat) (h : k < n) : (tab n g)[k]? = some (g k) := by simp [tab, h]
theorem list_ext {r s : List Int} (hl : r.length = s.length) (h : ∀ k, k < r.length → r.getD k 0 = s.getD k 0) : r = s := by
  apply List.ext_getElem hl
  intro i h1 h2
  have := h i h1
  rw [List.getD_eq_getElem?_getD, List.getD_eq_getElem?_getD, List.getElem?_eq_getElem h1, List.getElem?_eq_getElem h2] at this
  simpa using this
theorem tab_self (r : List Int) : tab r.length (fun k => r.getD k 0) = r := list_ext (tab_len _ _) fun k hk => by
  rw [tab_len] at hk
  exact tab_get _ _ k hk
theorem tab_congr {n : Nat} {g g' : Nat → Int} (h : ∀ k, k < n → g k = g' k) : tab n g = tab n g' := list_ext (by rw [tab_len, tab_len]) fun k hk => by
  rw [tab_len] at hk
  rw [tab_get _ _ k hk, tab_get _ _ k hk, h k hk]
theorem map_tab (n : Nat) (g : Nat → Int) (f : Int → Int) : (tab n g).map f = tab n fun k => f (g k) := by
  unfold tab
  rw [List.map_map]
  rfl
theorem map_getD (r : List Int) (f : Int → Int) : r.map f = tab r.length fun k => f (r.getD k 0) := by
  have := map_tab r.length (fun k => r.getD k 0) f
  rw [tab_self] at this
  exact this

theorem tab_succ (n : Nat) (g : Nat → Int) : tab (n + 1) g = tab n g ++ [g n] := by
  unfold tab
  rw [List.range_succ, List.map_append]
  rfl
/-- the ring going round -/
def F (r : List Int) (h : Nat) : Int := r.getD (h % r.length) 0
theorem F_at (r : List Int) (h : Nat) (hh : h < r.length) : F r h = r.getD h 0 := by unfold F; rw [Nat.mod_eq_of_lt hh]
theorem F_per (r : List Int) (h : Nat) : F r (h + r.length) = F r h := by unfold F; rw [Nat.add_mod_right]
theorem F_mod (r : List Int) (h : Nat) : F r (h % r.length) = F r h := by unfold F; rw [Nat.mod_mod]
def dayM (o n : Int) (r : List Int) : List Int := tab r.length fun k => o * r.getD k 0 + n * F r (k + 1)
theorem dayM_len (o n : Int) (r : List Int) : (dayM o n r).length = r.length := tab_len _ _
theorem F_day (o n : Int) (r : List Int) (h : Nat) : F (dayM o n r) h = o * F r h + n * F r (h + 1) := by
  by_cases h0 : r.length = 0
  · have e : r = [] := List.eq_nil_of_length_eq_zero h0
    subst e
    simp [F, dayM, tab]
  · unfold F dayM
    rw [tab_len, tab_get _ _ _ (Nat.mod_lt _ (by omega))]
    unfold F
    rw [Nat.mod_add_mod]
def laterM (o n : Int) (r : List Int) : Nat → List Int
  | 0 => r
  | k + 1 => dayM o n (laterM o n r k)
theorem laterM_len (o n : Int) (r : List Int) : ∀ k, (laterM o n r k).length = r.length
  | 0 => rfl
  | k + 1 => (dayM_len o n _).trans (laterM_len o n r k)
theorem laterM_add (o n : Int) (r : List Int) (a : Nat) : ∀ b, laterM o n r (a + b) = laterM o n (laterM o n r a) b
  | 0 => rfl
  | b + 1 => congrArg (dayM o n) (laterM_add o n r a b)
theorem laterM_succ (o n : Int) (r : List Int) (k : Nat) : laterM o n r (k + 1) = laterM o n (dayM o n r) k := by
  rw [Nat.add_comm, laterM_add]
  rfl
theorem ring_ext {r s : List Int} (hl : r.length = s.length) (h : ∀ k, k < r.length → F r k = F s k) : r = s := list_ext hl fun k hk => by
  rw [← F_at r k hk, ← F_at s k (by omega)]
  exact h k hk

/-! ### sums -/
def sumR (n : Nat) (g : Nat → Int) : Int := ((List.range n).map g).sum
theorem sumR_zero (g : Nat → Int) : sumR 0 g = 0 := rfl
theorem sumR_succ (n : Nat) (g : Nat → Int) : sumR (n + 1) g = sumR n g + g n := by
  unfold sumR
  rw [List.range_succ, List.map_append, List.sum_append]
  simp
theorem sumR_congr {n : Nat} {g g' : Nat → Int} (h : ∀ k, k < n → g k = g' k) : sumR n g = sumR n g' := by
  induction n with
  | zero => rfl
  | succ n ih => rw [sumR_succ, sumR_succ, ih fun k hk => h k (by omega), h n (by omega)]
theorem sumR_add (n : Nat) (g g' : Nat → Int) : sumR n (fun k => g k + g' k) = sumR n g + sumR n g' := by
  induction n with
  | zero => rfl
  | succ n ih => rw [sumR_succ, sumR_succ, sumR_succ, ih]; omega
theorem sumR_mul (n : Nat) (c : Int) (g : Nat → Int) : sumR n (fun k => c * g k) = c * sumR n g := by
  induction n with
  | zero => simp [sumR_zero]
  | succ n ih => rw [sumR_succ, sumR_succ, ih, Int.mul_add]
theorem sumR_const0 (n : Nat) : sumR n (fun _ => 0) = 0 := by
  induction n with
  | zero => rfl
  | succ n ih => rw [sumR_succ, ih]; rfl
theorem sumR_comm (n m : Nat) (g : Nat → Nat → Int) : sumR n (fun a => sumR m fun b => g a b) = sumR m (fun b => sumR n fun a => g a b) := by
  induction n with
  | zero => simp only [sumR_zero]; rw [sumR_const0]
  | succ n ih =>
    rw [sumR_succ, ih, ← sumR_add]
    exact sumR_congr fun k _ => (sumR_succ n fun a => g a k).symm
theorem sumR_succ' (n : Nat) (g : Nat → Int) : sumR (n + 1) g = g 0 + sumR n (fun k => g (k + 1)) := by
  induction n with
  | zero => rw [sumR_succ, sumR_zero, sumR_zero]; omega
  | succ n ih => rw [sumR_succ, ih, sumR_succ]; omega
/-- a sum over a whole round, begun elsewhere -/
theorem sumR_shift1 (n : Nat) (g : Nat → Int) (hp : ∀ h, g (h + n) = g h) : sumR n (fun k => g (k + 1)) = sumR n g := by
  cases n with
  | zero => rfl
  | succ n =>
    rw [sumR_succ, sumR_succ']
    have := hp 0
    rw [Nat.zero_add] at this
    rw [this]; omega
theorem sumR_shift (n : Nat) (g : Nat → Int) (hp : ∀ h, g (h + n) = g h) (a : Nat) : sumR n (fun k => g (k + a)) = sumR n g := by
  induction a with
  | zero => rfl
  | succ a ih =>
    rw [← ih]
    have := sumR_shift1 n (fun k => g (k + a)) fun h => by
      show g (h + n + a) = g (h + a)
      rw [Nat.add_right_comm, hp]
    rw [← this]
    exact sumR_congr fun k _ => by rw [Nat.add_right_comm]; rfl

/-! ### rests -/
/-- alike by m -/
def Cg (m a b : Int) : Prop := m ∣ a - b
theorem Cg.refl (m a : Int) : Cg m a a := ⟨0, by omega⟩
theorem Cg.symm {m a b : Int} (h : Cg m a b) : Cg m b a := by
  obtain ⟨q, e⟩ := h
  exact ⟨-q, by rw [Int.mul_neg, ← e]; omega⟩
theorem Cg.trans {m a b c : Int} (h : Cg m a b) (h' : Cg m b c) : Cg m a c := by
  obtain ⟨q, e⟩ := h
  obtain ⟨q', e'⟩ := h'
  exact ⟨q + q', by rw [Int.mul_add, ← e, ← e']; omega⟩
theorem Cg.add {m a b c d : Int} (h : Cg m a b) (h' : Cg m c d) : Cg m (a + c) (b + d) := by
  obtain ⟨q, e⟩ := h
  obtain ⟨q', e'⟩ := h'
  exact ⟨q + q', by rw [Int.mul_add, ← e, ← e']; omega⟩
theorem Cg.mul {m a b : Int} (c : Int) (h : Cg m a b) : Cg m (c * a) (c * b) := by
  obtain ⟨q, e⟩ := h
  exact ⟨c * q, by rw [← Int.mul_sub, e, Int.mul_left_comm]⟩
theorem Cg.mulR {m a b : Int} (c : Int) (h : Cg m a b) : Cg m (a * c) (b * c) := by
  rw [Int.mul_comm a, Int.mul_comm b]
  exact h.mul c
theorem Cg.mod (m a : Int) : Cg m (a % m) a := ⟨-(a / m), by have := Int.emod_add_mul_ediv a m; rw [Int.mul_neg]; omega⟩
theorem Cg.emod {m a b : Int} (h : Cg m a b) : a % m = b % m := Int.emod_eq_emod_iff_emod_sub_eq_zero.mpr (Int.emod_eq_zero_of_dvd h)
theorem Cg.of {m a b : Int} (h : a % m = b % m) : Cg m a b := Int.dvd_of_emod_eq_zero (Int.emod_eq_emod_iff_emod_sub_eq_zero.mp h)
theorem Cg.sum {m : Int} {n : Nat} {g g' : Nat → Int} (h : ∀ k, k < n → Cg m (g k) (g' k)) : Cg m (sumR n g) (sumR n g') := by
  induction n with
  | zero => exact Cg.refl _ _
  | succ n ih => rw [sumR_succ, sumR_succ]; exact (ih fun k hk => h k (by omega)).add (h n (by omega))

/-! ### one go for two goes -/
/-- what a list weighs -/
def dot (n : Nat) (c : List Int) (g : Nat → Int) : Int := sumR n fun s => c.getD s 0 * g s
theorem getD_set (f : List Int) (s : Nat) (v : Int) (j : Nat) (hs : s < f.length) : (f.set s v).getD j 0 = if s = j then v else f.getD j 0 := by
  rw [List.getD_eq_getElem?_getD, List.getD_eq_getElem?_getD, List.getElem?_set]
  by_cases h : s = j
  · rw [if_pos h, if_pos h, if_pos hs]; rfl
  · rw [if_neg h, if_neg h]
theorem dot_set0 (f : List Int) (s : Nat) (v : Int) (g : Nat → Int) (hs : s < f.length) : ∀ m, dot m (f.set s v) g = dot m f g + if s < m then (v - f.getD s 0) * g s else 0
  | 0 => by simp [dot, sumR_zero]
  | m + 1 => by
    have ih := dot_set0 f s v g hs m
    unfold dot at ih ⊢
    rw [sumR_succ, sumR_succ, ih, getD_set f s v m hs]
    by_cases h : s = m
    · subst h
      rw [if_pos rfl, if_neg (by omega), if_pos (by omega), Int.sub_mul]
      omega
    · rw [if_neg h]
      by_cases h2 : s < m
      · rw [if_pos h2, if_pos (by omega)]; omega
      · rw [if_neg h2, if_neg (by omega)]; omega
theorem dot_set (n : Nat) (f : List Int) (s : Nat) (v : Int) (g : Nat → Int) (hs : s < n) (hl : f.length = n) : dot n (f.set s v) g = dot n f g + (v - f.getD s 0) * g s := by
  rw [dot_set0 f s v g (by omega) n, if_pos hs]
def timesIn (n : Nat) (by_ first : Int) (left : Nat) (other : List Int) (f : List Int) : Nat → List Int
  | 0 => f
  | r + 1 => (timesIn n by_ first left other f r).set ((left + r) % n) (((timesIn n by_ first left other f r).getD ((left + r) % n) 0 + first * other.getD r 0) % by_)
def timesOut (n : Nat) (by_ : Int) (one other : List Int) : Nat → List Int
  | 0 => List.replicate n 0
  | l + 1 => timesIn n by_ (one.getD l 0) l other (timesOut n by_ one other l) other.length
def timesM (by_ : Int) (one other : List Int) : List Int := timesOut one.length by_ one other one.length
theorem timesIn_len (n : Nat) (by_ first : Int) (left : Nat) (other f : List Int) : ∀ r, (timesIn n by_ first left other f r).length = f.length
  | 0 => rfl
  | r + 1 => by unfold timesIn; rw [List.length_set]; exact timesIn_len n by_ first left other f r
theorem timesOut_len (n : Nat) (by_ : Int) (one other : List Int) : ∀ l, (timesOut n by_ one other l).length = n
  | 0 => by simp [timesOut]
  | l + 1 => by unfold timesOut; rw [timesIn_len]; exact timesOut_len n by_ one other l
theorem timesM_len (by_ : Int) (one other : List Int) : (timesM by_ one other).length = one.length := timesOut_len _ _ _ _ _
/-- every item lies below by -/
def Low (by_ : Int) (f : List Int) : Prop := ∀ v ∈ f, 0 ≤ v ∧ v < by_
theorem Low.getD {by_ : Int} {f : List Int} (h : Low by_ f) (h0 : 0 < by_) (k : Nat) : 0 ≤ f.getD k 0 ∧ f.getD k 0 < by_ := by
  rw [List.getD_eq_getElem?_getD]
  cases e : f[k]? with
  | none => exact ⟨Int.le_refl 0, h0⟩
  | some v => exact h v (List.mem_of_getElem? e)
theorem Low.set {by_ : Int} {f : List Int} (h : Low by_ f) (h0 : 0 < by_) (s : Nat) (x : Int) : Low by_ (f.set s (x % by_)) := fun v hv => by
  rcases List.mem_or_eq_of_mem_set hv with hv | rfl
  · exact h v hv
  · exact ⟨Int.emod_nonneg _ (by omega), Int.emod_lt_of_pos _ h0⟩
theorem low_in (n : Nat) (by_ first : Int) (left : Nat) (other f : List Int) (h0 : 0 < by_) (h : Low by_ f) : ∀ r, Low by_ (timesIn n by_ first left other f r)
  | 0 => h
  | r + 1 => (low_in n by_ first left other f h0 h r).set h0 _ _
theorem low_out (n : Nat) (by_ : Int) (one other : List Int) (h0 : 0 < by_) : ∀ l, Low by_ (timesOut n by_ one other l)
  | 0 => fun v hv => by
    have e : v = 0 := List.eq_of_mem_replicate hv
    subst e
    exact ⟨Int.le_refl 0, h0⟩
  | l + 1 => low_in n by_ _ l other _ h0 (low_out n by_ one other h0 l) _
theorem low_times (by_ : Int) (one other : List Int) (h0 : 0 < by_) : Low by_ (timesM by_ one other) := low_out _ _ _ _ h0 _
theorem dot_in (n : Nat) (by_ first : Int) (left : Nat) (other f : List Int) (g : Nat → Int) (hn : 0 < n) (hl : f.length = n) : ∀ r, Cg by_ (dot n (timesIn n by_ first left other f r) g) (dot n f g + first * sumR r fun k => other.getD k 0 * g ((left + k) % n))
  | 0 => by
    rw [sumR_zero, Int.mul_zero, Int.add_zero]
    exact Cg.refl _ _
  | r + 1 => by
    have ih := dot_in n by_ first left other f g hn hl r
    have hs : (left + r) % n < n := Nat.mod_lt _ hn
    show Cg by_ (dot n ((timesIn n by_ first left other f r).set ((left + r) % n) _) g) _
    rw [dot_set n _ _ _ g hs (by rw [timesIn_len]; exact hl), sumR_succ, Int.mul_add, ← Int.add_assoc]
    refine ih.add ?_
    rw [← Int.mul_assoc]
    refine Cg.mulR _ ?_
    have := Cg.mod by_ ((timesIn n by_ first left other f r).getD ((left + r) % n) 0 + first * other.getD r 0)
    obtain ⟨q, e⟩ := this
    exact ⟨q, by rw [← e]; omega⟩
theorem dot_out (n : Nat) (by_ : Int) (one other : List Int) (g : Nat → Int) (hn : 0 < n) : ∀ l, Cg by_ (dot n (timesOut n by_ one other l) g) (sumR l fun a => one.getD a 0 * sumR other.length fun k => other.getD k 0 * g ((a + k) % n))
  | 0 => by
    rw [sumR_zero]
    have e : dot n (List.replicate n 0) g = 0 := by
      unfold dot
      refine Eq.trans (sumR_congr (g' := fun _ => 0) fun k hk => ?_) (sumR_const0 n)
      rw [List.getD_eq_getElem?_getD, List.getElem?_replicate, if_pos hk]
      simp
    show Cg by_ (dot n (List.replicate n 0) g) 0
    rw [e]
    exact Cg.refl _ _
  | l + 1 => by
    have ih := dot_out n by_ one other g hn l
    rw [sumR_succ]
    exact (dot_in n by_ (one.getD l 0) l other _ g hn (timesOut_len n by_ one other l) other.length).trans (ih.add (Cg.refl _ _))
/-- the houses taken together -/
def act (n : Nat) (c : List Int) (f : Nat → Int) (h : Nat) : Int := sumR n fun j => c.getD j 0 * f (h + j)
theorem act_times (n : Nat) (by_ : Int) (one other : List Int) (f : Nat → Int) (hp : ∀ h, f (h + n) = f h) (hn : 0 < n) (h1 : one.length = n) (h2 : other.length = n) (h : Nat) :
    Cg by_ (act n (timesM by_ one other) f h) (act n one (act n other f) h) := by
  have hm : ∀ a h, f (h + a % n) = f (h + a) := fun a h => by
    have key : ∀ q b, f (b + n * q) = f b := fun q => by
      induction q with
      | zero => intro b; rfl
      | succ q ih => intro b; rw [Nat.mul_succ, ← Nat.add_assoc, hp, ih]
    have := key (a / n) (h + a % n)
    rw [Nat.add_assoc, Nat.mod_add_div] at this
    exact this.symm
  have q := dot_out n by_ one other (fun s => f (h + s)) hn n
  unfold timesM
  rw [h1]
  refine Cg.trans q ?_
  unfold act
  rw [h2]
  refine Cg.sum fun a _ => Cg.mul _ (Cg.sum fun k _ => ?_)
  rw [hm, Nat.add_assoc]
  exact Cg.refl _ _
theorem act_per (n : Nat) (c : List Int) (f : Nat → Int) (hp : ∀ h, f (h + n) = f h) (h : Nat) : act n c f (h + n) = act n c f h := by
  unfold act
  exact sumR_congr fun k _ => by rw [Nat.add_right_comm, hp]
theorem act_cg {m : Int} (n : Nat) (c : List Int) {f f' : Nat → Int} (hf : ∀ h, Cg m (f h) (f' h)) (h : Nat) : Cg m (act n c f h) (act n c f' h) := Cg.sum fun k _ => Cg.mul _ (hf _)
def iter (n : Nat) (c : List Int) (f : Nat → Int) : Nat → Nat → Int
  | 0 => f
  | k + 1 => act n c (iter n c f k)
theorem iter_per (n : Nat) (c : List Int) (f : Nat → Int) (hp : ∀ h, f (h + n) = f h) : ∀ k h, iter n c f k (h + n) = iter n c f k h
  | 0, h => hp h
  | k + 1, h => act_per n c _ (iter_per n c f hp k) h
/-- two goes in one -/
theorem iter_two {m : Int} (n : Nat) (c : List Int) (f : Nat → Int) (hp : ∀ h, f (h + n) = f h) (hn : 0 < n) (hc : c.length = n) : ∀ k h, Cg m (iter n (timesM m c c) f k h) (iter n c f (2 * k) h)
  | 0, h => Cg.refl _ _
  | k + 1, h => by
    have ih := iter_two (m := m) n c f hp hn hc k
    show Cg m (act n (timesM m c c) (iter n (timesM m c c) f k) h) (act n c (act n c (iter n c f (2 * k))) h)
    refine (act_times n m c c _ (fun h => iter_per n (timesM m c c) f hp k h) hn hc hc h).trans ?_
    exact act_cg n c (act_cg n c ih) h
/-- the rule as a list of weights -/
def step0 (N : Nat) (o n : Int) : List Int := ((List.replicate N 0).set 0 (0 + o)).set (1 % N) ((((List.replicate N 0).set 0 (0 + o)).getD (1 % N) 0) + n)
theorem step0_len (N : Nat) (o n : Int) : (step0 N o n).length = N := by simp [step0]
theorem act_step0 (N : Nat) (o n : Int) (f : Nat → Int) (hp : ∀ h, f (h + N) = f h) (hN : 0 < N) (h : Nat) : act N (step0 N o n) f h = o * f h + n * f (h + 1) := by
  have h1 : 1 % N < N := Nat.mod_lt _ hN
  show dot N (step0 N o n) (fun j => f (h + j)) = _
  unfold step0
  rw [dot_set N _ (1 % N) _ _ h1 (by simp), dot_set N _ 0 _ _ hN (by simp)]
  have e0 : dot N (List.replicate N 0) (fun j => f (h + j)) = 0 := by
    unfold dot
    refine Eq.trans (sumR_congr (g' := fun _ => 0) fun k hk => ?_) (sumR_const0 N)
    rw [List.getD_eq_getElem?_getD, List.getElem?_replicate, if_pos hk]
    simp
  have e1 : (List.replicate N (0 : Int)).getD 0 0 = 0 := by
    rw [List.getD_eq_getElem?_getD, List.getElem?_replicate, if_pos hN]
    rfl
  rw [e0, e1]
  have e2 : f (h + 1 % N) = f (h + 1) := by
    by_cases hN1 : N = 1
    · subst hN1
      exact (hp h).symm
    · rw [Nat.mod_eq_of_lt (by omega)]
  show 0 + (0 + o - 0) * f (h + 0) + (((List.replicate N 0).set 0 (0 + o)).getD (1 % N) 0 + n - ((List.replicate N 0).set 0 (0 + o)).getD (1 % N) 0) * f (h + 1 % N) = _
  rw [e2]
  have e3 : (((List.replicate N 0).set 0 (0 + o)).getD (1 % N) 0 + n - ((List.replicate N 0).set 0 (0 + o)).getD (1 % N) 0) = n := by omega
  rw [e3]
  have e4 : 0 + o - 0 = o := by omega
  rw [e4, Nat.add_zero]
  omega
theorem iter_step0 (o n : Int) (r : List Int) (hN : 0 < r.length) : ∀ k h, iter r.length (step0 r.length o n) (F r) k h = F (laterM o n r k) h
  | 0, h => rfl
  | k + 1, h => by
    show act r.length (step0 r.length o n) (iter r.length (step0 r.length o n) (F r) k) h = F (dayM o n (laterM o n r k)) h
    rw [act_step0 _ _ _ _ (fun h => iter_per _ _ _ (F_per r) k h) hN, F_day, iter_step0 o n r hN k h, iter_step0 o n r hN k (h + 1)]
/-- what the loop of rests keeps -/
structure RInv (N : Nat) (m : Int) (T : Nat → (Nat → Int) → Nat → Int) (D : Nat) (W S : List Int) (d : Nat) : Prop where
  w : W.length = N
  s : S.length = N
  inv : ∀ f : Nat → Int, (∀ h, f (h + N) = f h) → ∀ h, Cg m (act N W (iter N S f d) h) (T D f h)
theorem RInv.even {N : Nat} {m : Int} {T : Nat → (Nat → Int) → Nat → Int} {D : Nat} {W S : List Int} {d : Nat} (I : RInv N m T D W S d) (hN : 0 < N) (h2 : d % 2 = 0) : RInv N m T D W (timesM m S S) (d / 2) :=
  ⟨I.w, (timesM_len _ _ _).trans I.s, fun f hp h => by
    have q := I.inv f hp h
    have e : d = 2 * (d / 2) := by omega
    rw [e] at q
    exact (act_cg N W (iter_two N S f hp hN I.s (d / 2)) h).trans q⟩
theorem RInv.odd {N : Nat} {m : Int} {T : Nat → (Nat → Int) → Nat → Int} {D : Nat} {W S : List Int} {d : Nat} (I : RInv N m T D W S d) (hN : 0 < N) (h2 : d % 2 = 1) : RInv N m T D (timesM m W S) (timesM m S S) (d / 2) :=
  ⟨(timesM_len _ _ _).trans I.w, (timesM_len _ _ _).trans I.s, fun f hp h => by
    have q := I.inv f hp h
    have e : d = 2 * (d / 2) + 1 := by omega
    rw [e] at q
    refine (act_times N m W S _ (fun h => iter_per N _ f hp _ h) hN I.w I.s h).trans ?_
    refine (act_cg N W (fun h => act_cg N S (iter_two N S f hp hN I.s (d / 2)) h) h).trans ?_
    exact q⟩
def one0 (N : Nat) (m : Int) : List Int := [1 % m] ++ List.replicate ((N : Int) - 1).toNat 0
theorem one0_len (N : Nat) (m : Int) (hN : 0 < N) : (one0 N m).length = N := by simp [one0]; omega
theorem act_one0 (N : Nat) (m : Int) (f : Nat → Int) (hN : 0 < N) (h : Nat) : Cg m (act N (one0 N m) f h) (f h) := by
  cases N with
  | zero => omega
  | succ N =>
    unfold act
    rw [sumR_succ']
    have e : (sumR N fun k => (one0 (N + 1) m).getD (k + 1) 0 * f (h + (k + 1))) = 0 := by
      refine Eq.trans (sumR_congr (g' := fun _ => 0) fun k hk => ?_) (sumR_const0 N)
      have e1 : (one0 (N + 1) m).getD (k + 1) 0 = 0 := by
        show ([1 % m] ++ List.replicate ((N + 1 : Nat) - 1 : Int).toNat 0).getD (k + 1) 0 = 0
        rw [List.getD_eq_getElem?_getD]
        show ((List.replicate ((N + 1 : Nat) - 1 : Int).toNat (0 : Int))[k]?).getD 0 = 0
        rw [List.getElem?_replicate, if_pos (by omega)]
        rfl
      rw [e1]
      omega
    rw [e, Int.add_zero]
    show Cg m (1 % m * f (h + 0)) (f h)
    have := (Cg.mod m 1).mulR (f h)
    rw [Int.one_mul] at this
    exact this
theorem RInv.start (o n : Int) (r : List Int) (m : Int) (D : Nat) (hN : 0 < r.length) : RInv r.length m (fun D f h => iter r.length (step0 r.length o n) f D h) D (one0 r.length m) (step0 r.length o n) D :=
  ⟨one0_len _ _ hN, step0_len _ _ _, fun f hp h => act_one0 _ m _ hN h⟩
def restsM (o n : Int) (r : List Int) (D : Nat) (m : Int) : List Int := (laterM o n r D).map (· % m)
theorem RInv.done {o n : Int} {r : List Int} {m : Int} {D : Nat} {W S : List Int} (I : RInv r.length m (fun D f h => iter r.length (step0 r.length o n) f D h) D W S 0) (hN : 0 < r.length) :
    tab r.length (fun h => (sumR r.length fun far => W.getD far 0 * F r (h + far)) % m) = restsM o n r D m := by
  unfold restsM
  rw [map_getD, laterM_len]
  refine tab_congr fun h hh => ?_
  have q := (I.inv (F r) (F_per r) h).emod
  have e : iter r.length (step0 r.length o n) (F r) D h = F (laterM o n r D) h := iter_step0 o n r hN D h
  rw [e, F_at _ _ (by rw [laterM_len]; exact hh)] at q
  exact q
theorem restsM_len (o n : Int) (r : List Int) (D : Nat) (m : Int) : (restsM o n r D m).length = r.length := by simp [restsM, laterM_len]
theorem getD_all {f : List Int} {p : Int → Prop} (h : ∀ v ∈ f, p v) (h0 : p 0) (k : Nat) : p (f.getD k 0) := by
  rw [List.getD_eq_getElem?_getD]
  cases e : f[k]? with
  | none => exact h0
  | some v => exact h v (List.mem_of_getElem? e)
theorem one0_bd (N : Nat) (m : Int) (hm : 0 < m) (k : Nat) : -(2 ^ 64) < (one0 N m).getD k 0 ∧ (one0 N m).getD k 0 < 2 ^ 64 := by
  refine getD_all (p := fun v => -(2 ^ 64) < v ∧ v < 2 ^ 64) (fun v hv => ?_) (by decide) k
  have h3 := Int.emod_nonneg 1 (show m ≠ 0 by omega)
  have h4 : 1 % m ≤ 1 := by
    by_cases h : m = 1
    · subst h; decide
    · rw [Int.emod_eq_of_lt (by omega) (by omega)]; omega
  rcases List.mem_append.mp hv with h | h
  · have : v = 1 % m := by simpa using h
    omega
  · have : v = 0 := List.eq_of_mem_replicate h
    omega
theorem step0_bd (N : Nat) (o n : Int) (ho : -9 ≤ o ∧ o ≤ 9) (hn : -9 ≤ n ∧ n ≤ 9) (k : Nat) : -(2 ^ 64) < (step0 N o n).getD k 0 ∧ (step0 N o n).getD k 0 < 2 ^ 64 := by
  have h5 : ∀ v ∈ (List.replicate N (0 : Int)).set 0 (0 + o), v = 0 ∨ v = o := fun v hv => by
    rcases List.mem_or_eq_of_mem_set hv with hv | rfl
    · exact .inl (List.eq_of_mem_replicate hv)
    · right; omega
  have h6 : ∀ j, ((List.replicate N (0 : Int)).set 0 (0 + o)).getD j 0 = 0 ∨ ((List.replicate N (0 : Int)).set 0 (0 + o)).getD j 0 = o := fun j => getD_all (p := fun v => v = 0 ∨ v = o) h5 (.inl rfl) j
  refine getD_all (p := fun v => -(2 ^ 64) < v ∧ v < 2 ^ 64) (fun v hv => ?_) (by decide) k
  rcases List.mem_or_eq_of_mem_set hv with hv | rfl
  · rcases h5 v hv with h | h <;> omega
  · rcases h6 (1 % N) with h | h <;> rw [h] <;> omega
end DL
/-! MD: the laws' draws, in plain Lean -/
namespace DL
structure RuleS (o n : Int) : Prop where
  o1 : -9 ≤ o
  o2 : o ≤ 9
  n1 : -9 ≤ n
  n2 : n ≤ 9
/-- the loop of a draw: found, wide, the second number -/
def drawL (many : Int) : Nat → Int → Int → Int → Int × Int
  | 0, f, _, b => (f, b)
  | k + 1, f, w, b => if w < many then drawL many k (f * 268435456 + (b * 69621 % 2147483647) * (b * 69621 % 2147483647 / 128 + 3) % 2147483629 / 8) (w * 268435456) (b * 69621 % 2147483647) else (f, b)
def drawM (s : Int × Int) (many : Int) : Int × Int × Int :=
  if 0 < s.1 then (s.1 % many, s.1 / many, s.2) else ((drawL many 8 0 1 s.2).1 % many, s.1, (drawL many 8 0 1 s.2).2)
def drawV (s : Int × Int) (many : Int) : Int := (drawM s many).1
def drawS (s : Int × Int) (many : Int) : Int × Int := (drawM s many).2
theorem drawV_low (s : Int × Int) (many : Int) (h : 0 < many) : 0 ≤ drawV s many ∧ drawV s many < many := by
  unfold drawV drawM
  split
  · exact ⟨Int.emod_nonneg _ (by omega), Int.emod_lt_of_pos _ h⟩
  · exact ⟨Int.emod_nonneg _ (by omega), Int.emod_lt_of_pos _ h⟩
/-- after so many draws by one number -/
def drawN (s : Int × Int) (many : Int) : Nat → Int × Int
  | 0 => s
  | k + 1 => drawS (drawN s many k) many
def drawsM (ns : List Int) (k : Int) : Int × Int :=
  let cell := if k < ns.length then (ns.getD k.toNat 0) % (10 ^ 60 * 10 ^ 60 * 10 ^ 60 * 10 ^ 60 * 10 ^ 60) else if 0 < ns.length then ns.getD (k % ns.length).toNat 0 % 10 ^ 15 + 15485863 * k else 15485863 * k
  (cell * (if 10 ^ 18 ≤ cell then 1 else 0), 1 + (cell * 69621 + 86028121 * (k + 1)) % 2147483646)
/-! the greatest common divisor, by steps -/
def cm : Nat → Int → Int → Int
  | 0, a, _ => a
  | m + 1, a, b => if b = 0 then a else cm m b (a.fmod b)
def cmOk : Nat → Int → Int → Bool
  | 0, _, b => decide (b = 0)
  | m + 1, a, b => if b = 0 then true else cmOk m b (a.fmod b)
def commonM (a b : Int) : Int := (cm 20 a b).natAbs
theorem nine {p : Int → Bool} (h : ((List.range 19).all fun i => p ((i : Int) - 9)) = true) (a : Int) (h1 : -9 ≤ a) (h2 : a ≤ 9) : p a = true := by
  have q := List.all_eq_true.mp h (a + 9).toNat (List.mem_range.mpr (by omega))
  have e : (((a + 9).toNat : Nat) : Int) - 9 = a := by omega
  rw [e] at q
  exact q
theorem nine2 {p : Int → Int → Bool} (h : ((List.range 19).all fun i => (List.range 19).all fun j => p ((i : Int) - 9) ((j : Int) - 9)) = true) (a b : Int) (h1 : -9 ≤ a) (h2 : a ≤ 9) (h3 : -9 ≤ b) (h4 : b ≤ 9) : p a b = true :=
  nine (p := p a) (nine (p := fun a => (List.range 19).all fun j => p a ((j : Int) - 9)) h a h1 h2) b h3 h4
theorem cmOk_nine (a b : Int) (h1 : -9 ≤ a) (h2 : a ≤ 9) (h3 : -9 ≤ b) (h4 : b ≤ 9) : cmOk 20 a b = true := nine2 (p := cmOk 20) (by decide +kernel) a b h1 h2 h3 h4
def nextN (n : Int) : Int := if n < 9 then n + 1 else -9
def ruleL (o : Int) : Nat → Int → Int
  | 0, n => n
  | m + 1, n => if commonM o n = 1 then n else ruleL o m (nextN n)
def ruleOk (o : Int) : Nat → Int → Bool
  | 0, n => decide (commonM o n = 1)
  | m + 1, n => if commonM o n = 1 then true else ruleOk o m (nextN n)
theorem ruleOk_nine (a b : Int) (h1 : -9 ≤ a) (h2 : a ≤ 9) (h3 : -9 ≤ b) (h4 : b ≤ 9) : ruleOk a 18 b = true := nine2 (p := fun a b => ruleOk a 18 b) (by decide +kernel) a b h1 h2 h3 h4
theorem ruleL_nine (a b : Int) (h1 : -9 ≤ a) (h2 : a ≤ 9) (h3 : -9 ≤ b) (h4 : b ≤ 9) : commonM a (ruleL a 18 b) = 1 ∧ -9 ≤ ruleL a 18 b ∧ ruleL a 18 b ≤ 9 := by
  have := nine2 (p := fun a b => decide (commonM a (ruleL a 18 b) = 1 ∧ -9 ≤ ruleL a 18 b ∧ ruleL a 18 b ≤ 9)) (by decide +kernel) a b h1 h2 h3 h4
  exact of_decide_eq_true this
def ruleO (s : Int × Int) : Int := drawV s 19 - 9
def ruleN (s : Int × Int) : Int := ruleL (ruleO s) 18 (drawV (drawS s 19) 19 - 9)
def ruleList (o n : Int) : List (Int × Int) := [(o, n), (1, 1), (1, -1), (-1, 1), (2, 1), (1, 2), (3, -2), (1, 0), (0, -1), (1, 3)]
def ruleM (s : Int × Int) : Int × Int := (ruleList (ruleO s) (ruleN s)).getD (drawV (drawS (drawS s 19) 19) 10).toNat (1, 1)
def ruleS' (s : Int × Int) : Int × Int := drawS (drawS (drawS s 19) 19) 10
/-- a rule: small, without a common divisor -/
structure RuleC (o n : Int) : Prop extends RuleS o n where
  c : commonM o n = 1
theorem rule_ok (s : Int × Int) : RuleC (ruleM s).1 (ruleM s).2 := by
  have h1 := drawV_low s 19 (by decide)
  have h2 := drawV_low (drawS s 19) 19 (by decide)
  have h3 := ruleL_nine (ruleO s) (drawV (drawS s 19) 19 - 9) (by unfold ruleO; omega) (by unfold ruleO; omega) (by omega) (by omega)
  have key : ∀ p ∈ ruleList (ruleO s) (ruleN s), RuleC p.1 p.2 := fun p hp => by
    simp only [ruleList, List.mem_cons, List.not_mem_nil, or_false] at hp
    rcases hp with rfl | rfl | rfl | rfl | rfl | rfl | rfl | rfl | rfl | rfl
    · exact ⟨⟨by unfold ruleO; omega, by unfold ruleO; omega, h3.2.1, h3.2.2⟩, h3.1⟩
    all_goals exact ⟨⟨by decide, by decide, by decide, by decide⟩, by decide +kernel⟩
  unfold ruleM
  rw [List.getD_eq_getElem?_getD]
  cases e : (ruleList (ruleO s) (ruleN s))[(drawV (drawS (drawS s 19) 19) 10).toNat]? with
  | none => exact key (1, 1) (by simp [ruleList])
  | some p => exact key p (List.mem_of_getElem? e)
/-! a ring -/
def farM (s : Int × Int) : Int := [2, 7, 50, 10 ^ 30].getD (drawV s 4).toNat 0
theorem farM_bd (s : Int × Int) : 0 ≤ farM s ∧ farM s ≤ 10 ^ 30 := getD_all (p := fun v => 0 ≤ v ∧ v ≤ 10 ^ 30) (fun v hv => by
  simp only [List.mem_cons, List.not_mem_nil, or_false] at hv
  rcases hv with rfl | rfl | rfl | rfl <;> decide) (by decide) _
def ringM (s : Int × Int) (many : Nat) : List Int := tab many fun k => drawV (drawN (drawS s 4) (2 * farM s + 1) k) (2 * farM s + 1) - farM s
def ringS (s : Int × Int) (many : Nat) : Int × Int := drawN (drawS s 4) (2 * farM s + 1) many
theorem ringM_len (s : Int × Int) (many : Nat) : (ringM s many).length = many := tab_len _ _
/-! a case -/
structure CaseM where
  o : Int
  n : Int
  ring : List Int
  days : Nat
  s : Int × Int
def caseMany (s : Int × Int) : Nat := (1 + drawV (ruleS' s) 9).toNat
def caseS1 (s : Int × Int) : Int × Int := ringS (drawS (ruleS' s) 9) (caseMany s)
def caseDays (s : Int × Int) : Nat := ([0, 0, 1, 2, drawV (caseS1 s) 12].getD (drawV (drawS (caseS1 s) 12) 5).toNat 0).toNat
def caseS2 (s : Int × Int) : Int × Int := drawS (drawS (caseS1 s) 12) 5
def caseRing0 (s : Int × Int) : List Int := if drawV (caseS2 s) 4 = 0 then (ringM (drawS (ruleS' s) 9) (caseMany s)).map fun x => x - (ringM (drawS (ruleS' s) 9) (caseMany s)).getD 0 0 else ringM (drawS (ruleS' s) 9) (caseMany s)
def caseM (s : Int × Int) : CaseM := ⟨(ruleM s).1, (ruleM s).2, laterM (ruleM s).1 (ruleM s).2 (caseRing0 s) (caseDays s), caseDays s, drawS (caseS2 s) 4⟩
theorem caseMany_bd (s : Int × Int) : 1 ≤ caseMany s ∧ caseMany s ≤ 9 := by
  have := drawV_low (ruleS' s) 9 (by decide)
  unfold caseMany
  omega
theorem caseRing0_len (s : Int × Int) : (caseRing0 s).length = caseMany s := by
  unfold caseRing0
  split
  · rw [List.length_map, ringM_len]
  · rw [ringM_len]
theorem case_len (s : Int × Int) : (caseM s).ring.length = caseMany s := (laterM_len _ _ _ _).trans (caseRing0_len s)
theorem case_rule (s : Int × Int) : RuleC (caseM s).o (caseM s).n := rule_ok s
theorem caseDays_bd (s : Int × Int) : caseDays s ≤ 12 := by
  have h := drawV_low (caseS1 s) 12 (by decide)
  have := getD_all (f := [0, 0, 1, 2, drawV (caseS1 s) 12]) (p := fun v => v ≤ 12) (fun v hv => by
    simp only [List.mem_cons, List.not_mem_nil, or_false] at hv
    rcases hv with rfl | rfl | rfl | rfl | rfl <;> omega) (by decide) (drawV (drawS (caseS1 s) 12) 5).toNat
  unfold caseDays
  omega
end DL
/-! DL19: a list made of data, own lists changing on the way, for a plain local; the things of law k01 -/
namespace DL
open PySem PySem.Spec PyProof.Rows L2
section
variable {X : Cx} {N : EN} {z z1 z2 : Z} {pos p : Pos} {e c iter elt tg a b : Expr} {x : D}
variable {nx : Z → Prop} {rt : Rs → Z → Prop} {xs : List D} {n : Nat} {item : Nat → D} {g : TG} {f : D → List Sl → List Sl} {ok : D → Prop} {is : List Nat} {scope : Scope} {own : List (Str × Nat)}
theorem d1_setLcS {i : Nat} {yn : Str} {py spos : Pos} {y : Nat → D} {O : Nat → List (Option (List D))} {ze : Nat → Z} (hc : X.calm = true) (hN : X.N.Nodup) (hy : X.N[i]? = some yn) (hyl : X.env.scope.names.lookup yn = some .local) (hsw : swapsWith (.ListComp elt [⟨tg, iter, [], 0⟩] scope pos) (some (.Name yn py)) spos.line X.env = pure true) (hi : DI X N z tg iter xs z1) (I : Items xs n item) (okb : BlkOk X.N X.env.scope scope own)
    (hg : ∀ (s : Shared) (H : Hp) (C : Addr) (cl : List (Str × Addr)) (fp : List Addr), PG (BX X scope s H C cl fp) tg g) (gd : GD X.K g f ok is) (hiv : ∀ i ∈ is, i ∈ own.map (·.2)) (hok : ∀ k, k < n → ok (item k)) (hsm : n < sizeLine) (hO : O 0 = z1.o) (hOl : ∀ k, (O k).length = z1.o.length)
    (he : ∀ k, k < n → ∀ (s : Shared) (H : Hp) (C : Addr) (cl : List (Str × Addr)) (fp : List Addr), DE (BX X scope s H C cl fp) N ⟨f (item k) (wipeS z1.s (own.map (·.2))), O k ++ [some ((List.range k).map y)]⟩ elt (.d (y k)) (ze k))
    (hz : ∀ k, k < n → (ze k).o.take (z1.o.length + 1) = O (k + 1) ++ [some ((List.range k).map y)])
    (h : nx ⟨z1.s.set i (.ptr z1.o.length), O n ++ [some ((List.range n).map y)]⟩)
    (hs : ∀ x, foldedSetIterable iter X.env x = pure x := by intro _; rfl) :
    D1 X N z (.Assign [.Name yn py] (.ListComp elt [⟨tg, iter, [], 0⟩] scope pos) spos) nx rt := by
  refine d1_setLc (X := X) (N := N) (z := z) (z1 := z1) (O := O) (acc := fun k => (List.range k).map y) (b := fun _ => true) (y := y) (zt := fun k d => ⟨f d (wipeS z1.s (own.map (·.2))), O k ++ [some ((List.range k).map y)]⟩) (ze := fun k _ => ze k) (ifs := []) (elt := elt) (pos := pos) (spos := spos)
    hc hN hy hyl hsw hi okb hg gd hiv (fun k d h => by rw [I.get k d h]; exact hok k (I.lt h))
    ⟨hO, rfl, fun k hk => by rw [List.length_map, List.length_range]; rw [I.len] at hk; omega, hOl, fun k d h _ => ⟨hz k (I.lt h), by rw [List.range_succ, List.map_append]; rfl⟩, fun k d h e => by cases e⟩
    (fun k d h s H C cl fp => dts_nil) (fun k d h _ s H C cl fp => by rw [I.get k d h]; exact he k (I.lt h) s H C cl fp) ?_ hs
  rw [I.len]
  exact h
end
/-! things -/
def cstD : List D := [.int 0, .int 1, .int (-1), .bool true, .bool false, .none, .str "", .str "a", .int 9, .int 10, .int (-10), .int (10 ^ 39), tI [1, 1], tI [0, 0], tI [2, 4], tI [0, 1], .tuple [], .list [], .tuple [.none], .tuple [.int 1, .none], tI [3, 6, 9], .tuple [.int 1, .int (-1), .int 1, .bool true], .tuple [tI [1]]]
def ofM (s : Int × Int) (xs : List D) : D := xs.getD (drawV s xs.length).toNat .none
def bitsS (f : Int × Int → D × (Int × Int)) (s : Int × Int) : Nat → Int × Int
  | 0 => s
  | k + 1 => (f (bitsS f s k)).2
def bitsY (f : Int × Int → D × (Int × Int)) (s : Int × Int) (k : Nat) : D := (f (bitsS f s k)).1
def thingM : Nat → Int × Int → D × (Int × Int)
  | 0, s => (ofM (drawS s 9) cstD, drawS (drawS s 9) 23)
  | d + 1, s => if drawV s 9 < 6 then (ofM (drawS s 9) cstD, drawS (drawS s 9) 23) else
      (if drawV s 9 = 6 then .list ((List.range (drawV (drawS s 9) 4).toNat).map (bitsY (thingM d) (drawS (drawS s 9) 4))) else .tuple ((List.range (drawV (drawS s 9) 4).toNat).map (bitsY (thingM d) (drawS (drawS s 9) 4))),
       bitsS (thingM d) (drawS (drawS s 9) 4) (drawV (drawS s 9) 4).toNat)
def slD : D → Nat
  | .str s => s.length
  | _ => 0
def lnD : D → Nat
  | .list xs => xs.length
  | .tuple xs => xs.length
  | _ => 0
structure Nice (d : D) : Prop where
  lay : d.canLay0 = true
  ln : lnD d ≤ 10
  sl : slD d ≤ 5
theorem cst_nice : ∀ d ∈ cstD, Nice d := by
  have h : (cstD.all fun d => d.canLay0 && decide (lnD d ≤ 10) && decide (slD d ≤ 5)) = true := by decide +kernel
  intro d hd
  have q := List.all_eq_true.mp h d hd
  simp only [Bool.and_eq_true, decide_eq_true_eq] at q
  exact ⟨q.1.1, q.1.2, q.2⟩
theorem layAll {xs : List D} (h : ∀ x ∈ xs, x.canLay0 = true) : PyData.canLayAll0 xs = true := by
  induction xs with
  | nil => rfl
  | cons x xs ih =>
    show (x.canLay0 && PyData.canLayAll0 xs) = true
    rw [h x List.mem_cons_self, ih fun y hy => h y (List.mem_cons_of_mem _ hy)]
    rfl
theorem layMem {xs : List D} (h : PyData.canLayAll0 xs = true) : ∀ x ∈ xs, x.canLay0 = true := by
  induction xs with
  | nil => intro x hx; cases hx
  | cons y ys ih =>
    have h : (y.canLay0 && PyData.canLayAll0 ys) = true := h
    rw [Bool.and_eq_true] at h
    intro x hx
    rcases List.mem_cons.mp hx with rfl | hx
    · exact h.1
    · exact ih h.2 x hx
theorem ofM_mem (s : Int × Int) {xs : List D} (h : 0 < xs.length) : ofM s xs ∈ xs := by
  have hd := drawV_low s xs.length (by omega)
  unfold ofM
  rw [List.getD_eq_getElem?_getD, List.getElem?_eq_getElem (by omega)]
  exact List.getElem_mem _
theorem thing_nice : ∀ d s, Nice (thingM d s).1
  | 0, s => cst_nice _ (ofM_mem _ (by decide))
  | d + 1, s => by
    unfold thingM
    by_cases q : drawV s 9 < 6
    · rw [if_pos q]
      exact cst_nice _ (ofM_mem _ (by decide))
    · rw [if_neg q]
      have h4 := drawV_low (drawS s 9) 4 (by decide)
      have hl : PyData.canLayAll0 ((List.range (drawV (drawS s 9) 4).toNat).map (bitsY (thingM d) (drawS (drawS s 9) 4))) = true := layAll fun x hx => by
        obtain ⟨k, _, rfl⟩ := List.mem_map.mp hx
        exact (thing_nice d _).lay
      have hn : ((List.range (drawV (drawS s 9) 4).toNat).map (bitsY (thingM d) (drawS (drawS s 9) 4))).length ≤ 10 := by
        rw [List.length_map, List.length_range]
        omega
      generalize (List.range (drawV (drawS s 9) 4).toNat).map (bitsY (thingM d) (drawS (drawS s 9) 4)) = bits at hl hn
      show Nice (if drawV s 9 = 6 then .list bits else .tuple bits)
      split
      · exact ⟨hl, hn, Nat.zero_le _⟩
      · exact ⟨hl, hn, Nat.zero_le _⟩
end DL
namespace DL
open PySem PySem.Spec PyProof.Rows L2
def topS (i : Nat) : Stmt := PySem.Challenge.pw_ringage_k01_what_are_rules_and_rings.main.body.getD i (.Pass ⟨0, 0, 0, 0⟩)
section
variable {P : Program} {w : World} {K : PySem.W.Frag} {mg : Str → Option Value} {base : Heap}
abbrev sCommon : Stmt := topS 5
abbrev nmCommon : List Str := ["one", "other"]
theorem scCommon : FnScope nmCommon ["one", "other"] (defScope sCommon) := ⟨rfl, rfl, rfl, by decide +kernel, rfl, by decide +kernel, by decide +kernel⟩
def RCommon : RT := fun as π r π' => ∃ (a b : Int), as = [.int a, .int b] ∧ cmOk 20 a b = true ∧ π = [] ∧ π' = [] ∧ r = .d (.int (commonM a b))
theorem ok_common (B : Bt mg) (F : FunAt K mg "common" sCommon ["one", "other"]) : OkD P w K mg base "common" 1 ["one", "other"] RCommon := by
  refine mk_def F scCommon (fun as π r π' h => ?_) (fun f cdv A outer s H E N as π r π' hr hpa hR => ?_)
  · obtain ⟨a, b, rfl, _, rfl, rfl, rfl⟩ := h
    exact ⟨rfl, rfl⟩
  · obtain ⟨a, b, rfl, h0, rfl, rfl, rfl⟩ := hR
    refine ds_while (fun m z => ∃ c d, z = ⟨[.d (.int c), .d (.int d)], []⟩ ∧ cmOk m c d = true ∧ cm m c d = cm 20 a b) 20 (fun m z => match z.s with | [_, .d (.int d)] => !decide (d = 0) | _ => false) PassesOwn.never ⟨a, b, rfl, h0, rfl⟩ ?_ ?_ ?_
    · rintro m _ ⟨c, d, rfl, _, _⟩
      exact dt_neI (de_var (pv 1)) de_int
    · rintro m _ ⟨c, d, rfl, h1, h2⟩ ht
      have hd : d ≠ 0 := by
        have ht : (!decide (d = 0)) = true := ht
        simpa using ht
      cases m with
      | zero => exact absurd (of_decide_eq_true h1) hd
      | succ m =>
        refine ds_seq (d1_par (i := 0) (j := 1) rfl scCommon.nd rfl rfl (by decide) rfl rfl (da_cons (de_var (pv 1)) (da_cons (de_modN (de_var (pv 0)) (de_var (pv 1)) hd) da_nil)) (by rfl) rfl) ?_
        refine ds_nil ⟨m, Nat.lt_succ_self m, _, _, rfl, ?_, ?_⟩
        · have h1 : (if d = 0 then true else cmOk m d (c.fmod d)) = true := h1
          rw [if_neg hd] at h1
          exact h1
        · have h2 : (if d = 0 then c else cm m d (c.fmod d)) = cm 20 a b := h2
          rw [if_neg hd] at h2
          exact h2
    · rintro m _ ⟨c, d, rfl, h1, h2⟩ ht
      have hd : d = 0 := by
        have ht : (!decide (d = 0)) = false := ht
        simpa using ht
      have e : cm m c d = c := by
        cases m with
        | zero => rfl
        | succ m =>
          show (if d = 0 then c else _) = c
          rw [if_pos hd]
      refine ds_last (d1_ret (de_abs (by rfl) B.abs (de_var (pv 0))) ?_)
      unfold commonM
      rw [← h2, e]
      exact rr0
abbrev sIsWhole : Stmt := topS 4
abbrev nmIsWhole : List Str := ["thing"]
theorem scIsWhole : FnScope nmIsWhole ["thing"] (defScope sIsWhole) := ⟨rfl, rfl, rfl, by decide +kernel, rfl, by decide +kernel, by decide +kernel⟩
def wholeB : D → Bool
  | .int _ => true
  | _ => false
theorem whole_eq (d : D) : (tInt d && !tBool d) = wholeB d := by cases d <;> rfl
def RIsWhole : RT := fun as π r π' => ∃ (d : D), as = [d] ∧ π = [] ∧ π' = [] ∧ r = .d (.bool (wholeB d))
theorem ok_is_whole (B : Bt mg) (F : FunAt K mg "is_whole" sIsWhole ["thing"]) : OkD P w K mg base "is_whole" 1 ["thing"] RIsWhole := by
  refine mk_def F scIsWhole (fun as π r π' h => ?_) (fun f cdv A outer s H E N as π r π' hr hpa hR => ?_)
  · obtain ⟨d, rfl, rfl, rfl, rfl⟩ := h
    exact ⟨rfl, rfl⟩
  · obtain ⟨d, rfl, rfl, rfl, rfl⟩ := hR
    exact ds_last (d1_ret (de_and (op2 := .none) (de_isi (T := "int") (ty_int d) (by rfl) B.isinstance (by rfl) B.int (by rfl) (de_var (pv 0))) fun hb => (de_one (de_not (de_isi (T := "bool") (ty_bool d) (by rfl) B.isinstance (by rfl) B.bool (by rfl) (de_var (pv 0)))))) (rr0e (congrArg PyData.bool (whole_eq d))))
abbrev sIsBetween : Stmt := topS 3
abbrev nmIsBetween : List Str := ["thing", "low", "high"]
theorem scIsBetween : FnScope nmIsBetween ["thing", "low", "high"] (defScope sIsBetween) := ⟨rfl, rfl, rfl, by decide +kernel, rfl, by decide +kernel, by decide +kernel⟩
def btwB (lo hi : Int) : D → Bool
  | .int i => decide (lo ≤ i) && decide (i ≤ hi)
  | _ => false
def RIsBetween : RT := fun as π r π' => ∃ (d : D) (lo hi : Int), as = [d, .int lo, .int hi] ∧ π = [] ∧ π' = [] ∧ r = .d (.bool (btwB lo hi d))
theorem ok_is_between (Gis_whole : OkD P w K mg base "is_whole" 1 ["thing"] RIsWhole) (F : FunAt K mg "is_between" sIsBetween ["thing", "low", "high"]) : OkD P w K mg base "is_between" 2 ["thing", "low", "high"] RIsBetween := by
  refine mk_def F scIsBetween (fun as π r π' h => ?_) (fun f cdv A outer s H E N as π r π' hr hpa hR => ?_)
  · obtain ⟨d, lo, hi, rfl, rfl, rfl, rfl⟩ := h
    exact ⟨rfl, rfl⟩
  · obtain ⟨d, lo, hi, rfl, rfl, rfl, rfl⟩ := hR
    by_cases q : wholeB d = true
    · obtain ⟨i, rfl⟩ : ∃ i, d = .int i := by
        cases d with
        | int i => exact ⟨i, rfl⟩
        | _ => cases q
      exact ds_last (d1_ret (de_and (op2 := .none) (de_clD Gis_whole hr (by rfl) (da_cons (de_var (pv 0)) da_nil) ⟨_, rfl, rfl, rfl, rfl⟩) fun hb => (de_one (de_chLL (de_var (pv 1)) (de_var (pv 0)) (de_var (pv 2))))) (rr0e rfl))
    · have q : wholeB d = false := by simpa using q
      refine ds_last (d1_ret (de_and (t' := true) (op2 := .none) (de_clD Gis_whole hr (by rfl) (da_cons (de_var (pv 0)) da_nil) ⟨_, rfl, rfl, rfl, rfl⟩) fun hb => absurd hb (by rw [q]; decide)) (rr0e ?_))
      rw [q]
      cases d with
      | int i => cases q
      | _ => rfl
abbrev sLawIsWhole : Stmt := topS 11
abbrev nmLawIsWhole : List Str := ["thing", "low", "high"]
theorem scLawIsWhole : FnScope nmLawIsWhole ["thing", "low", "high"] (defScope sLawIsWhole) := ⟨rfl, rfl, rfl, by decide +kernel, rfl, by decide +kernel, by decide +kernel⟩
def RLawIsWhole : RT := fun as π r π' => ∃ (d : D) (lo hi : Int), as = [d, .int lo, .int hi] ∧ π = [] ∧ π' = [] ∧ r = .d (.bool (btwB lo hi d))
theorem ok_law_is_whole (B : Bt mg) (F : FunAt K mg "_law_is_whole" sLawIsWhole ["thing", "low", "high"]) : OkD P w K mg base "_law_is_whole" 1 ["thing", "low", "high"] RLawIsWhole := by
  refine mk_def F scLawIsWhole (fun as π r π' h => ?_) (fun f cdv A outer s H E N as π r π' hr hpa hR => ?_)
  · obtain ⟨d, lo, hi, rfl, rfl, rfl, rfl⟩ := h
    exact ⟨rfl, rfl⟩
  · obtain ⟨d, lo, hi, rfl, rfl, rfl, rfl⟩ := hR
    by_cases q : wholeB d = true
    · obtain ⟨i, rfl⟩ : ∃ i, d = .int i := by
        cases d with
        | int i => exact ⟨i, rfl⟩
        | _ => cases q
      exact ds_last (d1_ret (de_and (op2 := .none) (de_isi (T := "int") (ty_int (.int i)) (by rfl) B.isinstance (by rfl) B.int (by rfl) (de_var (pv 0))) fun hb => (de_and (op2 := .none) (de_not (de_isi (T := "bool") (ty_bool (.int i)) (by rfl) B.isinstance (by rfl) B.bool (by rfl) (de_var (pv 0)))) fun hb => (de_one (de_chLL (de_var (pv 1)) (de_var (pv 0)) (de_var (pv 2)))))) (rr0e rfl))
    · have q : wholeB d = false := by simpa using q
      have q2 := whole_eq d
      rw [q] at q2
      refine ds_last (d1_ret (de_and (op2 := .none) (de_isi (T := "int") (ty_int d) (by rfl) B.isinstance (by rfl) B.int (by rfl) (de_var (pv 0))) fun hb => (de_and (t' := true) (op2 := .none) (de_not (de_isi (T := "bool") (ty_bool d) (by rfl) B.isinstance (by rfl) B.bool (by rfl) (de_var (pv 0)))) fun hb2 => absurd q2 (by rw [hb, hb2]; decide))) (rr0e ?_))
      rw [Bool.and_true, q2]
      cases d with
      | int i => cases q
      | _ => rfl
abbrev sLawIsNumber : Stmt := topS 21
abbrev nmLawIsNumber : List Str := ["thing"]
theorem scLawIsNumber : FnScope nmLawIsNumber ["thing"] (defScope sLawIsNumber) := ⟨rfl, rfl, rfl, by decide +kernel, rfl, by decide +kernel, by decide +kernel⟩
def RLawIsNumber : RT := fun as π r π' => ∃ (d : D), as = [d] ∧ π = [] ∧ π' = [] ∧ r = .d (.bool (wholeB d))
theorem ok_law_is_number (B : Bt mg) (F : FunAt K mg "_law_is_number" sLawIsNumber ["thing"]) : OkD P w K mg base "_law_is_number" 1 ["thing"] RLawIsNumber := by
  refine mk_def F scLawIsNumber (fun as π r π' h => ?_) (fun f cdv A outer s H E N as π r π' hr hpa hR => ?_)
  · obtain ⟨d, rfl, rfl, rfl, rfl⟩ := h
    exact ⟨rfl, rfl⟩
  · obtain ⟨d, rfl, rfl, rfl, rfl⟩ := hR
    exact ds_last (d1_ret (de_and (op2 := .none) (de_isi (T := "int") (ty_int d) (by rfl) B.isinstance (by rfl) B.int (by rfl) (de_var (pv 0))) fun hb => (de_one (de_not (de_isi (T := "bool") (ty_bool d) (by rfl) B.isinstance (by rfl) B.bool (by rfl) (de_var (pv 0)))))) (rr0e (congrArg PyData.bool (whole_eq d))))
abbrev sIsRule : Stmt := topS 6
abbrev nmIsRule : List Str := ["thing", "one"]
theorem scIsRule : FnScope nmIsRule ["thing"] (defScope sIsRule) := ⟨rfl, rfl, rfl, by decide +kernel, rfl, by decide +kernel, by decide +kernel⟩
def lenD : D → Nat
  | .list xs => xs.length
  | .tuple xs => xs.length
  | _ => 0
def ruleB : D → Bool
  | .tuple [a, b] => btwB (-9) 9 a && btwB (-9) 9 b && (match a, b with | .int i, .int j => decide (commonM i j = 1) | _, _ => false)
  | _ => false
theorem btw_int {lo hi : Int} {d : D} (h : btwB lo hi d = true) : ∃ i, d = .int i ∧ lo ≤ i ∧ i ≤ hi := by
  cases d with
  | int i =>
    have h : (decide (lo ≤ i) && decide (i ≤ hi)) = true := h
    rw [Bool.and_eq_true] at h
    exact ⟨i, rfl, of_decide_eq_true h.1, of_decide_eq_true h.2⟩
  | _ => cases h
theorem cmOk_fin : ((List.range 19).all fun i => (List.range 19).all fun j => (fun a b => cmOk 20 a b) ((i : Int) - 9) ((j : Int) - 9)) = true := by decide +kernel
theorem tTup_iff {d : D} : tTup d = true ↔ ∃ xs, d = .tuple xs := by
  cases d with
  | tuple xs => exact ⟨fun _ => ⟨xs, rfl⟩, fun _ => rfl⟩
  | _ => exact ⟨fun h => (by cases h), fun ⟨_, h⟩ => (by cases h)⟩
theorem rule_two {xs : List D} (h : xs.length = 2) : ∃ a b, xs = [a, b] := by
  match xs, h with
  | [a, b], _ => exact ⟨a, b, rfl⟩
theorem rule_no {xs : List D} (h : ¬ xs.length = 2) : ruleB (.tuple xs) = false := by
  match xs, h with
  | [], _ => rfl
  | [_], _ => rfl
  | [a, b], h => exact absurd rfl h
  | _ :: _ :: _ :: _, _ => rfl
def RIsRule : RT := fun as π r π' => ∃ (d : D), as = [d] ∧ lenD d ≤ 1000 ∧ π = [] ∧ π' = [] ∧ r = .d (.bool (ruleB d))
theorem ok_is_rule (B : Bt mg) (Y : GiAt mg "MOST_OWN" 9) (Gis_between : OkD P w K mg base "is_between" 2 ["thing", "low", "high"] RIsBetween) (Gcommon : OkD P w K mg base "common" 1 ["one", "other"] RCommon) (F : FunAt K mg "is_rule" sIsRule ["thing"]) : OkD P w K mg base "is_rule" 3 ["thing"] RIsRule := by
  refine mk_def F scIsRule (fun as π r π' h => ?_) (fun f cdv A outer s H E N as π r π' hr hpa hR => ?_)
  · obtain ⟨d, rfl, _, rfl, rfl, rfl⟩ := h
    exact ⟨rfl, rfl⟩
  · obtain ⟨d, rfl, hd, rfl, rfl, rfl⟩ := hR
    have hp0 : N.pa.length ≤ 0 := Nat.le_of_eq hpa
    by_cases q : tTup d = true
    · obtain ⟨xs, rfl⟩ := tTup_iff.mp q
      have hd : xs.length ≤ 1000 := hd
      refine ds_ifR (dt_w (dw_or (dt_not (dt_val (de_isi (T := "tuple") (ty_tuple (.tuple xs)) (by rfl) B.isinstance (by rfl) B.tuple (by rfl) (de_var (pv 0))))) fun hb => (dw_or1 (dt_neI (de_lenT (by rfl) B.len (de_var (pv 0))) de_int)))) (fun hb => ?_) (fun hb => ?_)
      · have hb : (!decide ((xs.length : Int) = 2)) = true := hb
        have hn : ¬ xs.length = 2 := fun w => by rw [decide_eq_true (by omega)] at hb; cases hb
        rw [rule_no hn]
        exact ds_last (d1_ret de_bl rr0)
      · have hb : (!decide ((xs.length : Int) = 2)) = false := hb
        have hn : xs.length = 2 := by
          by_cases w : xs.length = 2
          · exact w
          · rw [decide_eq_false (by omega)] at hb; cases hb
        obtain ⟨a, b, rfl⟩ := rule_two hn
        refine ds_ifR (dt_cast (dt_not (dt_val (de_allP (ns := (List.range 2).map fun k => btwB (-9) 9 (([a, b] : List D).getD k .none)) rfl (by rfl) B.all (de_lcB (n := 2) (own := [("one", 1)]) rfl scIsRule.nd (di_tup (de_var (pv 0))) it_D (blkOk_by (N := nmIsRule) (sc := defScope sIsRule) (by decide +kernel)) (fun _ _ _ _ _ => pg_name (i := 1) scIsRule.nd rfl (.inl rfl)) (gd_name 1) (by decide) (fun _ _ => trivial) (by decide) (fun k hk _ _ _ _ _ => (de_clD Gis_between hr (by rfl) (da_cons (de_var (pv 1)) (da_cons (de_sub de_int (de_gi (by rfl) Y)) (da_cons (de_gi (by rfl) Y) da_nil))) ⟨_, -9, 9, rfl, rfl, rfl, rfl⟩)) (fun k hk => rfl)) rfl))) (show (!(btwB (-9) 9 a && (btwB (-9) 9 b && true))) = (!(btwB (-9) 9 a && btwB (-9) 9 b)) by rw [Bool.and_true])) (fun hb => ?_) (fun hb => ?_)
        · have hb : (btwB (-9) 9 a && btwB (-9) 9 b) = false := (Bool.not_eq_true' _).mp hb
          have e : ruleB (.tuple [a, b]) = false := by
            show (btwB (-9) 9 a && btwB (-9) 9 b && _) = false
            rw [hb]
            rfl
          rw [e]
          exact ds_last (d1_ret de_bl rr0)
        · have hb : (btwB (-9) 9 a && btwB (-9) 9 b) = true := (Bool.not_eq_false' _).mp hb
          rw [Bool.and_eq_true] at hb
          obtain ⟨i, rfl, i1, i2⟩ := btw_int hb.1
          obtain ⟨j, rfl, j1, j2⟩ := btw_int hb.2
          refine ds_last (d1_ret (de_eqI (de_clD Gcommon hr (by rfl) (da_cons (de_ixT (d := .int i) (de_var (pv 0)) de_int rfl) (da_cons (de_ixT (d := .int j) (de_var (pv 0)) de_int rfl) da_nil)) ⟨i, j, rfl, nine2 (p := fun a b => cmOk 20 a b) cmOk_fin i j i1 i2 j1 j2, rfl, rfl, rfl⟩) de_int) (rr0e ?_))
          show PyData.bool _ = PyData.bool (btwB (-9) 9 (.int i) && btwB (-9) 9 (.int j) && decide (commonM i j = 1))
          rw [hb.1, hb.2]
          rfl
    · have q : tTup d = false := by simpa using q
      refine ds_ifR (dt_cast (dt_w (dw_or (t' := true) (dt_not (dt_val (de_isi (T := "tuple") (ty_tuple d) (by rfl) B.isinstance (by rfl) B.tuple (by rfl) (de_var (pv 0))))) fun hb => absurd hb (by rw [q]; decide))) (show (!tTup d || true) = true from Bool.or_true _)) (fun hb => ?_) (fun hb => by cases hb)
      have e : ruleB d = false := by
        cases d with
        | tuple xs => cases q
        | _ => rfl
      rw [e]
      exact ds_last (d1_ret de_bl rr0)
abbrev sLawCommon : Stmt := topS 12
abbrev nmLawCommon : List Str := ["one", "other"]
theorem scLawCommon : FnScope nmLawCommon ["one", "other"] (defScope sLawCommon) := ⟨rfl, rfl, rfl, by decide +kernel, rfl, by decide +kernel, by decide +kernel⟩
def RLawCommon : RT := fun as π r π' => ∃ (a b : Int), as = [.int a, .int b] ∧ cmOk 20 a b = true ∧ π = [] ∧ π' = [] ∧ r = .d (.int (commonM a b))
theorem ok_law_common (B : Bt mg) (F : FunAt K mg "_law_common" sLawCommon ["one", "other"]) : OkD P w K mg base "_law_common" 1 ["one", "other"] RLawCommon := by
  refine mk_def F scLawCommon (fun as π r π' h => ?_) (fun f cdv A outer s H E N as π r π' hr hpa hR => ?_)
  · obtain ⟨a, b, rfl, _, rfl, rfl, rfl⟩ := h
    exact ⟨rfl, rfl⟩
  · obtain ⟨a, b, rfl, h0, rfl, rfl, rfl⟩ := hR
    refine ds_while (fun m z => ∃ c d, z = ⟨[.d (.int c), .d (.int d)], []⟩ ∧ cmOk m c d = true ∧ cm m c d = cm 20 a b) 20 (fun m z => match z.s with | [_, .d (.int d)] => !decide (d = 0) | _ => false) PassesOwn.never ⟨a, b, rfl, h0, rfl⟩ ?_ ?_ ?_
    · rintro m _ ⟨c, d, rfl, _, _⟩
      exact dt_neI (de_var (pv 1)) de_int
    · rintro m _ ⟨c, d, rfl, h1, h2⟩ ht
      have hd : d ≠ 0 := by
        have ht : (!decide (d = 0)) = true := ht
        simpa using ht
      cases m with
      | zero => exact absurd (of_decide_eq_true h1) hd
      | succ m =>
        refine ds_seq (d1_par (i := 0) (j := 1) rfl scLawCommon.nd rfl rfl (by decide) rfl rfl (da_cons (de_var (pv 1)) (da_cons (de_modN (de_var (pv 0)) (de_var (pv 1)) hd) da_nil)) (by rfl) rfl) ?_
        refine ds_nil ⟨m, Nat.lt_succ_self m, _, _, rfl, ?_, ?_⟩
        · have h1 : (if d = 0 then true else cmOk m d (c.fmod d)) = true := h1
          rw [if_neg hd] at h1
          exact h1
        · have h2 : (if d = 0 then c else cm m d (c.fmod d)) = cm 20 a b := h2
          rw [if_neg hd] at h2
          exact h2
    · rintro m _ ⟨c, d, rfl, h1, h2⟩ ht
      have hd : d = 0 := by
        have ht : (!decide (d = 0)) = false := ht
        simpa using ht
      have e : cm m c d = c := by
        cases m with
        | zero => rfl
        | succ m =>
          show (if d = 0 then c else _) = c
          rw [if_pos hd]
      refine ds_last (d1_ret (de_abs (by rfl) B.abs (de_var (pv 0))) ?_)
      unfold commonM
      rw [← h2, e]
      exact rr0
abbrev sLawIsRule : Stmt := topS 22
abbrev nmLawIsRule : List Str := ["thing", "one"]
theorem scLawIsRule : FnScope nmLawIsRule ["thing"] (defScope sLawIsRule) := ⟨rfl, rfl, rfl, by decide +kernel, rfl, by decide +kernel, by decide +kernel⟩
def RLawIsRule : RT := fun as π r π' => ∃ (d : D), as = [d] ∧ lenD d ≤ 1000 ∧ π = [] ∧ π' = [] ∧ r = .d (.bool (ruleB d))
theorem ok_law_is_rule (B : Bt mg) (G_law_is_whole : OkD P w K mg base "_law_is_whole" 1 ["thing", "low", "high"] RLawIsWhole) (G_law_common : OkD P w K mg base "_law_common" 1 ["one", "other"] RLawCommon) (F : FunAt K mg "_law_is_rule" sLawIsRule ["thing"]) : OkD P w K mg base "_law_is_rule" 2 ["thing"] RLawIsRule := by
  refine mk_def F scLawIsRule (fun as π r π' h => ?_) (fun f cdv A outer s H E N as π r π' hr hpa hR => ?_)
  · obtain ⟨d, rfl, _, rfl, rfl, rfl⟩ := h
    exact ⟨rfl, rfl⟩
  · obtain ⟨d, rfl, hd, rfl, rfl, rfl⟩ := hR
    have hp0 : N.pa.length ≤ 0 := Nat.le_of_eq hpa
    have hpk : ∀ k, N.pa.length ≤ k := fun k => Nat.le_trans hp0 (Nat.zero_le _)
    by_cases q : tTup d = true
    · obtain ⟨xs, rfl⟩ := tTup_iff.mp q
      have hd : xs.length ≤ 1000 := hd
      by_cases hn : xs.length = 2
      · obtain ⟨a, b, rfl⟩ := rule_two hn
        have hall : filtL (fun k => !btwB (-9) 9 (([a, b] : List D).getD k .none)) (fun _ => 1) 2 = [] ↔ _ := filt_all [a, b] (btwB (-9) 9)
        refine ds_ifR (dt_cast (dt_w (dw_or (dt_not (dt_val (de_isi (T := "tuple") (ty_tuple (.tuple [a, b])) (by rfl) B.isinstance (by rfl) B.tuple (by rfl) (de_var (pv 0))))) fun hb => (dw_orG (dt_cast (dt_neI (de_lenT (by rfl) B.len (de_var (pv 0))) de_int) (show _ = false from rfl)) (fun _ => (dw_or1 (dt_wk (s' := [.d (.tuple [a, b]), .no]) (o' := []) (dt_ne hr.units (de_frz (de_lcF (y := fun _ => 1) (b := fun k => !btwB (-9) 9 (([a, b] : List D).getD k .none)) (n := 2) (own := [("one", 1)]) rfl scLawIsRule.nd (di_tup (de_var (pv 0))) it_D (blkOk_by (N := nmLawIsRule) (sc := defScope sLawIsRule) (by decide +kernel)) (fun _ _ _ _ _ => pg_name (i := 1) scLawIsRule.nd rfl (.inl rfl)) (gd_name 1) (by decide) (fun _ _ => trivial) (by decide) (fun k hk _ _ _ _ _ => (dt_not (dt_val (de_clD G_law_is_whole hr (by rfl) (da_cons (de_var (pv 1)) (da_cons (de_neg de_int) (da_cons de_int da_nil))) ⟨_, -9, 9, rfl, rfl, rfl, rfl⟩)))) (fun k hk _ _ _ _ _ => de_int)) rfl (hpk _)) (de_frz (de_lst da_nil) rfl (hpk _)) (depth_lI _ _)) (.keep (.keep .nil)) rfl (Nat.le_refl _) rfl hp0))) (fun w => by cases w)))) (show (false || (false || !PyData.eqv (.list (lI (filtL (fun k => !btwB (-9) 9 (([a, b] : List D).getD k .none)) (fun _ => 1) 2))) (.list (lI [])))) = !(btwB (-9) 9 a && btwB (-9) 9 b) from ?_)) (fun hb => ?_) (fun hb => ?_)
        · rw [eqv_lI]
          have e2 : ([a, b] : List D).all (btwB (-9) 9) = (btwB (-9) 9 a && btwB (-9) 9 b) := by simp [List.all]
          rw [e2] at hall
          cases hq : (btwB (-9) 9 a && btwB (-9) 9 b) with
          | true =>
            rw [hq] at hall
            rw [decide_eq_true (hall.mpr rfl)]
            rfl
          | false =>
            rw [hq] at hall
            rw [decide_eq_false (fun w => by have := hall.mp w; cases this)]
            rfl
        · have hb : (btwB (-9) 9 a && btwB (-9) 9 b) = false := (Bool.not_eq_true' _).mp hb
          have e : ruleB (.tuple [a, b]) = false := by
            show (btwB (-9) 9 a && btwB (-9) 9 b && _) = false
            rw [hb]
            rfl
          rw [e]
          exact ds_last (d1_ret de_bl rr0)
        · have hb : (btwB (-9) 9 a && btwB (-9) 9 b) = true := (Bool.not_eq_false' _).mp hb
          rw [Bool.and_eq_true] at hb
          obtain ⟨i, rfl, i1, i2⟩ := btw_int hb.1
          obtain ⟨j, rfl, j1, j2⟩ := btw_int hb.2
          refine ds_last (d1_ret (de_eqI (de_clD G_law_common hr (by rfl) (da_cons (de_ixT (d := .int i) (de_var (pv 0)) de_int rfl) (da_cons (de_ixT (d := .int j) (de_var (pv 0)) de_int rfl) da_nil)) ⟨i, j, rfl, nine2 (p := fun a b => cmOk 20 a b) cmOk_fin i j i1 i2 j1 j2, rfl, rfl, rfl⟩) de_int) (rr0e ?_))
          show PyData.bool _ = PyData.bool (btwB (-9) 9 (.int i) && btwB (-9) 9 (.int j) && decide (commonM i j = 1))
          rw [hb.1, hb.2]
          rfl
      · rw [rule_no hn]
        refine ds_ifR (dt_cast (dt_w (dw_or (dt_not (dt_val (de_isi (T := "tuple") (ty_tuple (.tuple xs)) (by rfl) B.isinstance (by rfl) B.tuple (by rfl) (de_var (pv 0))))) fun hb => (dw_or (t' := true) (dt_cast (dt_neI (de_lenT (by rfl) B.len (de_var (pv 0))) de_int) (show _ = true from by rw [decide_eq_false (by omega)]; rfl)) fun w => by cases w))) rfl) (fun hb => ?_) (fun hb => by cases hb)
        exact ds_last (d1_ret de_bl rr0)
    · have q : tTup d = false := by simpa using q
      refine ds_ifR (dt_cast (dt_w (dw_or (t' := true) (dt_not (dt_val (de_isi (T := "tuple") (ty_tuple d) (by rfl) B.isinstance (by rfl) B.tuple (by rfl) (de_var (pv 0))))) fun hb => absurd hb (by rw [q]; decide))) (show (!tTup d || true) = true from Bool.or_true _)) (fun hb => ?_) (fun hb => by cases hb)
      have e : ruleB d = false := by
        cases d with
        | tuple xs => cases q
        | _ => rfl
      rw [e]
      exact ds_last (d1_ret de_bl rr0)
abbrev sIsRing : Stmt := topS 7
abbrev nmIsRing : List Str := ["thing", "one"]
theorem scIsRing : FnScope nmIsRing ["thing"] (defScope sIsRing) := ⟨rfl, rfl, rfl, by decide +kernel, rfl, by decide +kernel, by decide +kernel⟩
def inB (n : Nat) : Bool := decide ((1 : Int) ≤ (n : Int)) && decide ((n : Int) ≤ 9)
def ringB : D → Bool
  | .tuple xs => inB xs.length && xs.all wholeB
  | _ => false
def RIsRing : RT := fun as π r π' => ∃ (d : D), as = [d] ∧ lenD d ≤ 1000 ∧ π = [] ∧ π' = [] ∧ r = .d (.bool (ringB d))
theorem ok_is_ring (B : Bt mg) (Y : GiAt mg "MOST_HOUSES" 9) (Gis_whole : OkD P w K mg base "is_whole" 1 ["thing"] RIsWhole) (F : FunAt K mg "is_ring" sIsRing ["thing"]) : OkD P w K mg base "is_ring" 2 ["thing"] RIsRing := by
  refine mk_def F scIsRing (fun as π r π' h => ?_) (fun f cdv A outer s H E N as π r π' hr hpa hR => ?_)
  · obtain ⟨d, rfl, _, rfl, rfl, rfl⟩ := h
    exact ⟨rfl, rfl⟩
  · obtain ⟨d, rfl, hd, rfl, rfl, rfl⟩ := hR
    have hp0 : N.pa.length ≤ 0 := Nat.le_of_eq hpa
    by_cases q : tTup d = true
    · obtain ⟨xs, rfl⟩ := tTup_iff.mp q
      have hd : xs.length ≤ 1000 := hd
      refine ds_last (d1_ret (de_and (op2 := .none) (de_isi (T := "tuple") (ty_tuple (.tuple xs)) (by rfl) B.isinstance (by rfl) B.tuple (by rfl) (de_var (pv 0))) fun hb => (de_and (op2 := .none) (de_chLL de_int (de_lenT (by rfl) B.len (de_var (pv 0))) (de_gi (by rfl) Y)) fun hb => (de_one (de_wk (s' := [.d (.tuple xs), .no]) (o' := []) (de_allP (ns := (List.range xs.length).map fun k => wholeB (xs.getD k .none)) rfl (by rfl) B.all (de_lcB (own := [("one", 1)]) rfl scIsRing.nd (di_tup (de_var (pv 0))) it_D (blkOk_by (N := nmIsRing) (sc := defScope sIsRing) (by decide +kernel)) (fun _ _ _ _ _ => pg_name (i := 1) scIsRing.nd rfl (.inl rfl)) (gd_name 1) (by decide) (fun _ _ => trivial) (small1000 hd) (fun k hk _ _ _ _ _ => (de_clD Gis_whole hr (by rfl) (da_cons (de_var (pv 1)) da_nil) ⟨_, rfl, rfl, rfl, rfl⟩)) (fun k hk => rfl)) rfl) (.keep (.keep .nil)) rfl (Nat.le_refl _) rfl hp0)))) (rr0e ?_))
      rw [all_eq]
      rfl
    · have q : tTup d = false := by simpa using q
      refine ds_last (d1_ret (de_and (t' := true) (op2 := .none) (de_isi (T := "tuple") (ty_tuple d) (by rfl) B.isinstance (by rfl) B.tuple (by rfl) (de_var (pv 0))) fun hb => absurd hb (by rw [q]; decide)) (rr0e ?_))
      rw [q]
      cases d with
      | tuple xs => cases q
      | _ => rfl
abbrev sLawIsRing : Stmt := topS 23
abbrev nmLawIsRing : List Str := ["thing", "one"]
theorem scLawIsRing : FnScope nmLawIsRing ["thing"] (defScope sLawIsRing) := ⟨rfl, rfl, rfl, by decide +kernel, rfl, by decide +kernel, by decide +kernel⟩
theorem inB_lt (n : Nat) : (decide ((0 : Int) < (n : Int)) && decide ((n : Int) < 10)) = inB n := by
  unfold inB
  rw [show decide ((0 : Int) < (n : Int)) = decide ((1 : Int) ≤ (n : Int)) from decide_eq_decide.mpr (by omega), show decide ((n : Int) < 10) = decide ((n : Int) ≤ 9) from decide_eq_decide.mpr (by omega)]
theorem eqv_filt (xs : List D) : PyData.eqv (.list (lI (filtL (fun k => !wholeB (xs.getD k .none)) (fun _ => 1) xs.length))) (.list (lI [])) = xs.all wholeB := by
  rw [eqv_lI]
  have h := filt_all xs wholeB
  cases q : xs.all wholeB with
  | true => rw [q] at h; exact decide_eq_true (h.mpr rfl)
  | false => rw [q] at h; exact decide_eq_false (fun w => by have := h.mp w; cases this)
def RLawIsRing : RT := fun as π r π' => ∃ (d : D), as = [d] ∧ lenD d ≤ 1000 ∧ π = [] ∧ π' = [] ∧ r = .d (.bool (ringB d))
theorem ok_law_is_ring (B : Bt mg) (G_law_is_number : OkD P w K mg base "_law_is_number" 1 ["thing"] RLawIsNumber) (F : FunAt K mg "_law_is_ring" sLawIsRing ["thing"]) : OkD P w K mg base "_law_is_ring" 2 ["thing"] RLawIsRing := by
  refine mk_def F scLawIsRing (fun as π r π' h => ?_) (fun f cdv A outer s H E N as π r π' hr hpa hR => ?_)
  · obtain ⟨d, rfl, _, rfl, rfl, rfl⟩ := h
    exact ⟨rfl, rfl⟩
  · obtain ⟨d, rfl, hd, rfl, rfl, rfl⟩ := hR
    have hp0 : N.pa.length ≤ 0 := Nat.le_of_eq hpa
    have hpk : ∀ k, N.pa.length ≤ k := fun k => Nat.le_trans hp0 (Nat.zero_le _)
    by_cases q : tTup d = true
    · obtain ⟨xs, rfl⟩ := tTup_iff.mp q
      have hd : xs.length ≤ 1000 := hd
      refine ds_last (d1_ret (de_and (op2 := .none) (de_isi (T := "tuple") (ty_tuple (.tuple xs)) (by rfl) B.isinstance (by rfl) B.tuple (by rfl) (de_var (pv 0))) fun hb => (de_and (op2 := .none) (de_chTT' de_int (de_lenT (by rfl) B.len (de_var (pv 0))) de_int) fun hb => (de_one (de_wk (s' := [.d (.tuple xs), .no]) (o' := []) (de_eq hr.units (de_frz (de_lcF (y := fun _ => 1) (b := fun k => !wholeB (xs.getD k .none)) (own := [("one", 1)]) rfl scLawIsRing.nd (di_tup (de_var (pv 0))) it_D (blkOk_by (N := nmLawIsRing) (sc := defScope sLawIsRing) (by decide +kernel)) (fun _ _ _ _ _ => pg_name (i := 1) scLawIsRing.nd rfl (.inl rfl)) (gd_name 1) (by decide) (fun _ _ => trivial) (small1000 hd) (fun k hk _ _ _ _ _ => (dt_not (dt_val (de_clD G_law_is_number hr (by rfl) (da_cons (de_var (pv 1)) da_nil) ⟨_, rfl, rfl, rfl, rfl⟩)))) (fun k hk _ _ _ _ _ => de_int)) rfl (hpk _)) (de_frz (de_lst da_nil) rfl (hpk _)) (depth_lI _ _)) (.keep (.keep .nil)) rfl (Nat.le_refl _) rfl hp0)))) (rr0e ?_))
      show PyData.bool (true && ((decide ((0 : Int) < (xs.length : Int)) && decide ((xs.length : Int) < 10)) && PyData.eqv (.list (lI (filtL (fun k => !wholeB (xs.getD k .none)) (fun _ => 1) xs.length))) (.list (lI [])))) = _
      rw [eqv_filt, inB_lt]
      rfl
    · have q : tTup d = false := by simpa using q
      refine ds_last (d1_ret (de_and (t' := true) (op2 := .none) (de_isi (T := "tuple") (ty_tuple d) (by rfl) B.isinstance (by rfl) B.tuple (by rfl) (de_var (pv 0))) fun hb => absurd hb (by rw [q]; decide)) (rr0e ?_))
      rw [q]
      cases d with
      | tuple xs => cases q
      | _ => rfl
abbrev sIsPart : Stmt := topS 9
abbrev nmIsPart : List Str := ["thing", "one"]
theorem scIsPart : FnScope nmIsPart ["thing"] (defScope sIsPart) := ⟨rfl, rfl, rfl, by decide +kernel, rfl, by decide +kernel, by decide +kernel⟩
def partB : D → Bool
  | .tuple xs => inB xs.length && (decide (((xs.filter isN).length : Int) = 1) && xs.all fun d => isN d || wholeB d)
  | _ => false
def RIsPart : RT := fun as π r π' => ∃ (d : D), as = [d] ∧ lenD d ≤ 1000 ∧ π = [] ∧ π' = [] ∧ r = .d (.bool (partB d))
theorem ok_is_part (B : Bt mg) (Y : GiAt mg "MOST_HOUSES" 9) (Gis_whole : OkD P w K mg base "is_whole" 1 ["thing"] RIsWhole) (F : FunAt K mg "is_part" sIsPart ["thing"]) : OkD P w K mg base "is_part" 2 ["thing"] RIsPart := by
  refine mk_def F scIsPart (fun as π r π' h => ?_) (fun f cdv A outer s H E N as π r π' hr hpa hR => ?_)
  · obtain ⟨d, rfl, _, rfl, rfl, rfl⟩ := h
    exact ⟨rfl, rfl⟩
  · obtain ⟨d, rfl, hd, rfl, rfl, rfl⟩ := hR
    have hp0 : N.pa.length ≤ 0 := Nat.le_of_eq hpa
    by_cases q : tTup d = true
    · obtain ⟨xs, rfl⟩ := tTup_iff.mp q
      have hd : xs.length ≤ 1000 := hd
      refine ds_ifR (dt_w (dw_or (dt_not (dt_val (de_isi (T := "tuple") (ty_tuple (.tuple xs)) (by rfl) B.isinstance (by rfl) B.tuple (by rfl) (de_var (pv 0))))) fun hb => (dw_or1 (dt_not (dt_chEE de_int (de_lenT (by rfl) B.len (de_var (pv 0))) (de_gi (by rfl) Y)))))) (fun hb => ?_) (fun hb => ?_)
      · have hb : (!inB xs.length) = true := hb
        have hb := (Bool.not_eq_true' _).mp hb
        have e : partB (.tuple xs) = false := by
          show (inB xs.length && _) = false
          rw [hb]
          rfl
        rw [e]
        exact ds_last (d1_ret de_bl rr0)
      · have hb : (!inB xs.length) = false := hb
        have hb := (Bool.not_eq_false' _).mp hb
        refine ds_last (d1_ret (de_and (op2 := .none) (de_wk (s' := [.d (.tuple xs), .no]) (o' := []) (de_eqI (de_lenP (by rfl) B.len (de_lcF (y := fun _ => 1) (b := fun k => isN (xs.getD k .none)) (own := [("one", 1)]) rfl scIsPart.nd (di_tup (de_var (pv 0))) it_D (blkOk_by (N := nmIsPart) (sc := defScope sIsPart) (by decide +kernel)) (fun _ _ _ _ _ => pg_name (i := 1) scIsPart.nd rfl (.inl rfl)) (gd_name 1) (by decide) (fun _ _ => trivial) (small1000 hd) (fun k hk _ _ _ _ _ => dt_isN (de_var (pv 1)) de_non) (fun k hk _ _ _ _ _ => de_int))) de_int) (.keep (.keep .nil)) rfl (Nat.le_refl _) rfl hp0) fun hb => (de_one (de_wk (s' := [.d (.tuple xs), .no]) (o' := []) (de_allP (ns := (List.range xs.length).map fun k => (fun d => isN d || wholeB d) (xs.getD k .none)) rfl (by rfl) B.all (de_lcB (own := [("one", 1)]) rfl scIsPart.nd (di_tup (de_var (pv 0))) it_D (blkOk_by (N := nmIsPart) (sc := defScope sIsPart) (by decide +kernel)) (fun _ _ _ _ _ => pg_name (i := 1) scIsPart.nd rfl (.inl rfl)) (gd_name 1) (by decide) (fun _ _ => trivial) (small1000 hd) (fun k hk _ _ _ _ _ => (de_or (de_isN (de_var (pv 1)) de_non) fun hb => (de_one (de_clD Gis_whole hr (by rfl) (da_cons (de_var (pv 1)) da_nil) ⟨_, rfl, rfl, rfl, rfl⟩)))) (fun k hk => rfl)) rfl) (.keep (.keep .nil)) rfl (Nat.le_refl _) rfl hp0))) (rr0e ?_))
        rw [show ((List.range xs.length).map fun k => (fun d => isN d || wholeB d) (xs.getD k .none)).all id = _ from all_eq xs (fun d => isN d || wholeB d)]
        show PyData.bool (decide (((lI (filtL (fun k => isN (xs.getD k .none)) (fun _ => 1) xs.length)).length : Int) = 1) && _) = PyData.bool (inB xs.length && _)
        rw [lI_len, filtL_eq, hb, Bool.true_and]
    · have q : tTup d = false := by simpa using q
      refine ds_ifR (dt_cast (dt_w (dw_or (t' := true) (dt_not (dt_val (de_isi (T := "tuple") (ty_tuple d) (by rfl) B.isinstance (by rfl) B.tuple (by rfl) (de_var (pv 0))))) fun hb => absurd hb (by rw [q]; decide))) (show (!tTup d || true) = true from Bool.or_true _)) (fun hb => ?_) (fun hb => by cases hb)
      have e : partB d = false := by
        cases d with
        | tuple xs => cases q
        | _ => rfl
      rw [e]
      exact ds_last (d1_ret de_bl rr0)
abbrev sLawIsPart : Stmt := topS 24
abbrev nmLawIsPart : List Str := ["thing", "rest", "one"]
theorem scLawIsPart : FnScope nmLawIsPart ["thing"] (defScope sLawIsPart) := ⟨rfl, rfl, rfl, by decide +kernel, rfl, by decide +kernel, by decide +kernel⟩
theorem part_rest (xs : List D) : (decide (((xs.filter fun d => !isN d).length : Int) = (xs.length : Int) - 1) && (xs.filter fun d => !isN d).all wholeB) = (decide (((xs.filter isN).length : Int) = 1) && xs.all fun d => isN d || wholeB d) := by
  have h1 : (xs.filter isN).length + (xs.filter fun d => !isN d).length = xs.length := by
    induction xs with
    | nil => rfl
    | cons x xs ih =>
      rw [List.filter_cons, List.filter_cons, List.length_cons]
      cases isN x with
      | true => simp; omega
      | false => simp; omega
  congr 1
  · exact decide_eq_decide.mpr (by omega)
  · rw [List.all_filter]
    congr 1
    funext d
    cases isN d <;> cases wholeB d <;> rfl
def RLawIsPart : RT := fun as π r π' => ∃ (d : D), as = [d] ∧ lenD d ≤ 1000 ∧ π = [] ∧ π' = [] ∧ r = .d (.bool (partB d))
theorem ok_law_is_part (B : Bt mg) (G_law_is_number : OkD P w K mg base "_law_is_number" 1 ["thing"] RLawIsNumber) (F : FunAt K mg "_law_is_part" sLawIsPart ["thing"]) : OkD P w K mg base "_law_is_part" 2 ["thing"] RLawIsPart := by
  refine mk_def F scLawIsPart (fun as π r π' h => ?_) (fun f cdv A outer s H E N as π r π' hr hpa hR => ?_)
  · obtain ⟨d, rfl, _, rfl, rfl, rfl⟩ := h
    exact ⟨rfl, rfl⟩
  · obtain ⟨d, rfl, hd, rfl, rfl, rfl⟩ := hR
    have hp0 : N.pa.length ≤ 0 := Nat.le_of_eq hpa
    have hpk : ∀ k, N.pa.length ≤ k := fun k => Nat.le_trans hp0 (Nat.zero_le _)
    by_cases q : tTup d = true
    · obtain ⟨xs, rfl⟩ := tTup_iff.mp q
      have hd : xs.length ≤ 1000 := hd
      refine ds_ifR (dt_w (dw_or (dt_not (dt_val (de_isi (T := "tuple") (ty_tuple (.tuple xs)) (by rfl) B.isinstance (by rfl) B.tuple (by rfl) (de_var (pv 0))))) fun hb => (dw_or1 (dt_not (dt_chTT' de_int (de_lenT (by rfl) B.len (de_var (pv 0))) de_int))))) (fun hb => ?_) (fun hb => ?_)
      · have hb : (!(decide ((0 : Int) < (xs.length : Int)) && decide ((xs.length : Int) < 10))) = true := hb
        rw [inB_lt] at hb
        have hb := (Bool.not_eq_true' _).mp hb
        have e : partB (.tuple xs) = false := by
          show (inB xs.length && _) = false
          rw [hb]
          rfl
        rw [e]
        exact ds_last (d1_ret de_bl rr0)
      · have hb : (!(decide ((0 : Int) < (xs.length : Int)) && decide ((xs.length : Int) < 10))) = false := hb
        rw [inB_lt] at hb
        have hb := (Bool.not_eq_false' _).mp hb
        refine ds_seq (d1_setLcFD (i := 1) (y := fun k => xs.getD k .none) (b := fun k => (fun d => !isN d) (xs.getD k .none)) (own := [("one", 2)]) rfl scLawIsPart.nd rfl rfl (sw_true rfl rfl rfl (by decide +kernel)) (di_tup (de_var (pv 0))) it_D (blkOk_by (N := nmLawIsPart) (sc := defScope sLawIsPart) (by decide +kernel)) (fun _ _ _ _ _ => pg_name (i := 2) scLawIsPart.nd rfl (.inl rfl)) (gd_name 2) (by decide) (fun _ _ => trivial) (small1000 hd) (fun k hk _ _ _ _ _ => dt_notN (de_var (pv 2)) de_non) (fun k hk _ _ _ _ _ => de_var (pv 2)) rfl) ?_
        refine ds_at (z1 := ⟨[.d (.tuple xs), .ptr 0, .no], [some (xs.filter fun d => !isN d)]⟩) (by rw [← filtD_eq xs (fun d => !isN d)]; rfl) ?_
        refine ds_frz 0 rfl (hpk _) ?_
        have hrl : (xs.filter fun d => !isN d).length ≤ 1000 := Nat.le_trans (List.length_filter_le _ _) hd
        have hpr := part_rest xs
        have el2 : ((xs.length : Int) - 1) = (xs.length : Int) - 1 := rfl
        refine ds_at (z1 := ⟨[.d (.tuple xs), .d (.list (xs.filter fun d => !isN d)), .no], [none]⟩) rfl ?_
        generalize (xs.filter fun d => !isN d) = rest at hrl hpr
        refine ds_last (d1_ret (de_and (op2 := .none) (de_eqI (de_lenL (by rfl) B.len (de_var (pv 1))) (de_sub (de_lenT (by rfl) B.len (de_var (pv 0))) de_int)) fun hb => (de_one (de_wk (s' := [.d (.tuple xs), .d (.list rest), .no]) (o' := [none]) (de_eq hr.units (de_frz (de_lcF (y := fun _ => 1) (b := fun k => !wholeB (rest.getD k .none)) (own := [("one", 2)]) rfl scLawIsPart.nd (di_list (de_var (pv 1))) it_D (blkOk_by (N := nmLawIsPart) (sc := defScope sLawIsPart) (by decide +kernel)) (fun _ _ _ _ _ => pg_name (i := 2) scLawIsPart.nd rfl (.inl rfl)) (gd_name 2) (by decide) (fun _ _ => trivial) (small1000 hrl) (fun k hk _ _ _ _ _ => (dt_not (dt_val (de_clD G_law_is_number hr (by rfl) (da_cons (de_var (pv 2)) da_nil) ⟨_, rfl, rfl, rfl, rfl⟩)))) (fun k hk _ _ _ _ _ => de_int)) rfl (hpk _)) (de_frz (de_lst da_nil) rfl (hpk _)) (depth_lI _ _)) (.keep (.keep (.keep .nil))) rfl (Nat.le_refl _) rfl (hpk _)))) (rr0e ?_))
        show PyData.bool (decide ((rest.length : Int) = (xs.length : Int) - 1) && PyData.eqv (.list (lI (filtL (fun k => !wholeB (rest.getD k .none)) (fun _ => 1) rest.length))) (.list (lI []))) = PyData.bool (inB xs.length && _)
        rw [eqv_filt, hb, Bool.true_and]
        exact congrArg PyData.bool hpr
    · have q : tTup d = false := by simpa using q
      refine ds_ifR (dt_cast (dt_w (dw_or (t' := true) (dt_not (dt_val (de_isi (T := "tuple") (ty_tuple d) (by rfl) B.isinstance (by rfl) B.tuple (by rfl) (de_var (pv 0))))) fun hb => absurd hb (by rw [q]; decide))) (show (!tTup d || true) = true from Bool.or_true _)) (fun hb => ?_) (fun hb => by cases hb)
      have e : partB d = false := by
        cases d with
        | tuple xs => cases q
        | _ => rfl
      rw [e]
      exact ds_last (d1_ret de_bl rr0)
abbrev sLawDraw : Stmt := topS 13
abbrev nmLawDraw : List Str := ["draws", "many", "found", "wide"]
theorem scLawDraw : FnScope nmLawDraw ["draws", "many"] (defScope sLawDraw) := ⟨rfl, rfl, rfl, by decide +kernel, rfl, by decide +kernel, by decide +kernel⟩
abbrev dI (s : Int × Int) : List D := lI [s.1, s.2]
def RLawDraw : RT := fun as π r π' => ∃ (s : Int × Int) (many : Int), as = [.int many] ∧ 0 < many ∧ many ≤ 10 ^ 40 ∧ π = [dI s] ∧ π' = [dI (drawS s many)] ∧ r = .d (.int (drawV s many))
theorem cdivW {i j : Int} (h : 0 < j) (h' : j ≤ 10 ^ 40) : CDivW i j := wide_div (b := 200) h (by omega) (by decide) (by decide)
theorem ok_law_draw (B : Bt mg) (F : FunAt K mg "_law_draw" sLawDraw ["draws", "many"]) : OkD P w K mg base "_law_draw" 1 ["draws", "many"] RLawDraw := by
  refine mk_def F scLawDraw (fun as π r π' h => ?_) (fun f cdv A outer s H E N as π r π' hr hpa hR => ?_)
  · obtain ⟨s, many, rfl, _, _, rfl, rfl, rfl⟩ := h
    exact ⟨rfl, rfl⟩
  · obtain ⟨s, many, rfl, h0, h1, rfl, rfl, rfl⟩ := hR
    refine ds_ifR (dt_gt (i := s.1) (de_ixPI (ns := [s.1, s.2]) (de_ptr (pv 0)) de_int rfl (by decide) (by show (0 : Int) < 2; decide)) de_int) (fun hb => ?_) (fun hb => ?_)
    · have hs : 0 < s.1 := of_decide_eq_true hb
      refine ds_seq (d1_set (i := 2) scLawDraw.nd rfl (.inl rfl) (de_modP (de_ixPI (ns := [s.1, s.2]) (de_ptr (pv 0)) de_int rfl (by decide) (by show (0 : Int) < 2; decide)) (de_var (pv 1)) h0) rfl) ?_
      refine ds_seq (d1_setI (ns := [s.1, s.2]) (de_divW (de_ixPI (ns := [s.1, s.2]) (de_ptr (pv 0)) de_int rfl (by decide) (by show (0 : Int) < 2; decide)) (de_var (pv 1)) (cdivW h0 h1)) (de_ptr (pv 0)) de_int rfl (by decide) (by show (0 : Int) < 2; decide) rfl) ?_
      have e : drawM s many = (s.1 % many, s.1 / many, s.2) := by unfold drawM; rw [if_pos hs]
      have e1 : drawV s many = s.1 % many := by unfold drawV; rw [e]
      have e2 : drawS s many = (s.1 / many, s.2) := by unfold drawS; rw [e]
      rw [e1, e2]
      exact ds_last (d1_ret (de_var (pv 2)) (rr1 rfl))
    · have hs : ¬ 0 < s.1 := of_decide_eq_false hb
      have e : drawM s many = ((drawL many 8 0 1 s.2).1 % many, s.1, (drawL many 8 0 1 s.2).2) := by unfold drawM; rw [if_neg hs]
      have e1 : drawV s many = (drawL many 8 0 1 s.2).1 % many := by unfold drawV; rw [e]
      have e2 : drawS s many = (s.1, (drawL many 8 0 1 s.2).2) := by unfold drawS; rw [e]
      rw [e1, e2]
      refine ds_seq (d1_set (i := 2) scLawDraw.nd rfl (.inl rfl) de_int rfl) ?_
      refine ds_seq (d1_set (i := 3) scLawDraw.nd rfl (.inl rfl) de_int rfl) ?_
      refine ds_while (fun m z => ∃ f w b, z = ⟨[.ptr 0, .d (.int many), .d (.int f), .d (.int w)], [some (lI [s.1, b])]⟩ ∧ drawL many m f w b = drawL many 8 0 1 s.2 ∧ many ≤ w * 268435456 ^ m) 8 (fun m z => match z.s with | [_, _, _, .d (.int w)] => decide (w < many) | _ => false) PassesOwn.never ⟨0, 1, s.2, rfl, rfl, by omega⟩ ?_ ?_ ?_
      · rintro m _ ⟨f, w, b, rfl, _, _⟩
        exact dt_lt (de_var (pv 3)) (de_var (pv 1))
      · rintro m _ ⟨f, w, b, rfl, hd, hm⟩ ht
        have hw : w < many := of_decide_eq_true ht
        cases m with
        | zero => omega
        | succ m =>
          have hb0 := Int.emod_nonneg (b * 69621) (show (2147483647 : Int) ≠ 0 by decide)
          have hb1 := Int.emod_lt_of_pos (b * 69621) (show (0 : Int) < 2147483647 by decide)
          have hbd : -(2 ^ 64) < b * 69621 % 2147483647 ∧ b * 69621 % 2147483647 < 2 ^ 64 := ⟨by omega, by omega⟩
          refine ds_seq (d1_setI (ns := [s.1, b]) (de_modP (de_mul (de_ixPI (ns := [s.1, b]) (de_ptr (pv 0)) de_int rfl (by decide) (by show (1 : Int) < 2; decide)) de_int (.inr ⟨by decide, by decide⟩)) de_int (by decide)) (de_ptr (pv 0)) de_int rfl (by decide) (by show (1 : Int) < 2; decide) rfl) ?_
          refine ds_at (z1 := ⟨[.ptr 0, .d (.int many), .d (.int f), .d (.int w)], [some (lI [s.1, b * 69621 % 2147483647])]⟩) rfl ?_
          refine ds_seq (d1_set (i := 2) scLawDraw.nd rfl (.inl rfl) (de_add (de_mul (de_var (pv 2)) de_int (.inr ⟨by decide, by decide⟩)) (de_divP (de_modP (de_mul (de_ixPI (ns := [s.1, b * 69621 % 2147483647]) (de_ptr (pv 0)) de_int rfl (by decide) (by show (1 : Int) < 2; decide)) (de_add (de_divP (de_ixPI (ns := [s.1, b * 69621 % 2147483647]) (de_ptr (pv 0)) de_int rfl (by decide) (by show (1 : Int) < 2; decide)) de_int ⟨by decide, by decide⟩) de_int) (.inl hbd)) de_int (by decide)) de_int ⟨by decide, by decide⟩)) rfl) ?_
          refine ds_seq (d1_set (i := 3) scLawDraw.nd rfl (.inl rfl) (de_mul (de_var (pv 3)) de_int (.inr ⟨by decide, by decide⟩)) rfl) ?_
          refine ds_nil ⟨m, Nat.lt_succ_self m, _, _, _, rfl, ?_, ?_⟩
          · rw [← hd]
            show _ = if w < many then _ else _
            rw [if_pos hw]
            rfl
          · rw [Int.pow_succ, Int.mul_comm (268435456 ^ m), ← Int.mul_assoc] at hm
            exact hm
      · rintro m _ ⟨f, w, b, rfl, hd, hm⟩ ht
        have hw : ¬ w < many := of_decide_eq_false ht
        have e3 : drawL many m f w b = (f, b) := by
          cases m with
          | zero => rfl
          | succ m =>
            show (if w < many then _ else _) = _
            rw [if_neg hw]
        rw [← hd, e3]
        exact ds_last (d1_ret (de_modP (de_var (pv 2)) (de_var (pv 1)) h0) (rr1 rfl))
abbrev sLawDraws : Stmt := topS 17
abbrev nmLawDraws : List Str := ["script", "k", "cell"]
theorem scLawDraws : FnScope nmLawDraws ["script", "k"] (defScope sLawDraws) := ⟨rfl, rfl, rfl, by decide +kernel, rfl, by decide +kernel, by decide +kernel⟩
def RLawDraws : RT := fun as π r π' => ∃ (ns : List Int) (k : Int), as = [.list (lI ns), .int k] ∧ 0 ≤ k ∧ π = [] ∧ π' = [] ∧ r = .new (dI (drawsM ns k))
theorem ok_law_draws (B : Bt mg) (F : FunAt K mg "_law_draws" sLawDraws ["script", "k"]) : OkD P w K mg base "_law_draws" 1 ["script", "k"] RLawDraws := by
  refine mk_def F scLawDraws (fun as π r π' h => ?_) (fun f cdv A outer s H E N as π r π' hr hpa hR => ?_)
  · obtain ⟨ns, k, rfl, _, rfl, rfl, rfl⟩ := h
    exact ⟨rfl, rfl⟩
  · obtain ⟨ns, k, rfl, h0, rfl, rfl, rfl⟩ := hR
    have el : ((lI ns).length : Int) = ns.length := by simp
    refine ds_seq (d1_set (i := 2) scLawDraws.nd rfl (.inl rfl) (de_mul de_int (de_var (pv 1)) (.inl ⟨by decide, by decide⟩)) rfl) ?_
    refine ds_cons (mid := fun z' => ∃ c, z' = ⟨[.d (.list (lI ns)), .d (.int k), .d (.int c)], []⟩ ∧ c = if k < ns.length then (ns.getD k.toNat 0) % (10 ^ 60 * 10 ^ 60 * 10 ^ 60 * 10 ^ 60 * 10 ^ 60) else if 0 < ns.length then ns.getD (k % ns.length).toNat 0 % 10 ^ 15 + 15485863 * k else 15485863 * k) (d1_if (dt_lt (de_var (pv 1)) (de_cast (de_lenL (by rfl) B.len (de_var (pv 0))) (congrArg PyData.int el))) (fun hb => ?_) (fun hb => ?_)) ?_
    · have hk : k < ns.length := of_decide_eq_true hb
      refine ds_seq (d1_set (i := 2) scLawDraws.nd rfl (.inl rfl) (de_modP (de_ixLI (de_var (pv 0)) (de_var (pv 1)) h0 hk) (de_mulW (de_mulW (de_mulW (de_mulW (de_pow de_int de_int ⟨by decide, by decide, by decide⟩) (de_pow de_int de_int ⟨by decide, by decide, by decide⟩) (wide_mul (a := 200) (b := 200) (by decide +kernel) (by decide +kernel) (by decide) (by decide) (by decide))) (de_pow de_int de_int ⟨by decide, by decide, by decide⟩) (wide_mul (a := 400) (b := 200) (by decide +kernel) (by decide +kernel) (by decide) (by decide) (by decide))) (de_pow de_int de_int ⟨by decide, by decide, by decide⟩) (wide_mul (a := 600) (b := 200) (by decide +kernel) (by decide +kernel) (by decide) (by decide) (by decide))) (de_pow de_int de_int ⟨by decide, by decide, by decide⟩) (wide_mul (a := 800) (b := 200) (by decide +kernel) (by decide +kernel) (by decide) (by decide) (by decide))) (by decide +kernel)) rfl) ?_
      exact ds_nil ⟨_, rfl, by rw [if_pos hk]; rfl⟩
    · have hk : ¬ k < ns.length := of_decide_eq_false hb
      refine ds_last (d1_if (dt_gt (de_cast (de_lenL (by rfl) B.len (de_var (pv 0))) (congrArg PyData.int el)) de_int) (fun hb => ?_) (fun hb => ?_))
      · have hn : (0 : Int) < ns.length := of_decide_eq_true hb
        refine ds_seq (d1_set (i := 2) scLawDraws.nd rfl (.inl rfl) (de_add (de_modP (de_ixLI (de_var (pv 0)) (de_modP (de_var (pv 1)) (de_cast (de_lenL (by rfl) B.len (de_var (pv 0))) (congrArg PyData.int el)) hn) (Int.emod_nonneg _ (by omega)) (Int.emod_lt_of_pos _ hn)) (de_pow de_int de_int ⟨by decide, by decide, by decide⟩) (by decide +kernel)) (de_mul de_int (de_var (pv 1)) (.inl ⟨by decide, by decide⟩))) rfl) ?_
        exact ds_nil ⟨_, rfl, by rw [if_neg hk, if_pos (by omega)]; rfl⟩
      · have hn : ¬ (0 : Int) < ns.length := of_decide_eq_false hb
        exact ds_nil ⟨_, rfl, by rw [if_neg hk, if_neg (by omega)]⟩
    · rintro _ ⟨c, rfl, hc⟩
      have e : drawsM ns k = (c * (if 10 ^ 18 ≤ c then 1 else 0), 1 + (c * 69621 + 86028121 * (k + 1)) % 2147483646) := by
        unfold drawsM
        rw [← hc]
      have hi : (if decide ((10 : Int) ^ (18 : Int).toNat ≤ c) = true then (1 : Int) else 0) = if 10 ^ 18 ≤ c then 1 else 0 := by
        show (if decide ((10 : Int) ^ 18 ≤ c) = true then (1 : Int) else 0) = _
        by_cases h : (10 : Int) ^ 18 ≤ c
        · rw [if_pos h, if_pos (decide_eq_true h)]
        · rw [if_neg h, if_neg (by rw [decide_eq_false h]; decide)]
      refine ds_last (d1_ret (de_lst (da_cons (de_mul (de_var (pv 2)) (de_cast (de_intB (by rfl) B.int (de_ge (de_var (pv 2)) (de_pow de_int de_int ⟨by decide, by decide, by decide⟩))) (congrArg PyData.int hi)) (.inr (by split <;> exact ⟨by decide, by decide⟩))) (da_cons (de_add de_int (de_modP (de_add (de_mul (de_var (pv 2)) de_int (.inr ⟨by decide, by decide⟩)) (de_mul de_int (de_add (de_var (pv 1)) de_int) (.inl ⟨by decide, by decide⟩))) de_int (by decide))) da_nil))) ?_)
      rw [e]
      exact rrN rfl
abbrev sLawOf : Stmt := topS 14
abbrev nmLawOf : List Str := ["draws", "some"]
theorem scLawOf : FnScope nmLawOf ["draws", "some"] (defScope sLawOf) := ⟨rfl, rfl, rfl, by decide +kernel, rfl, by decide +kernel, by decide +kernel⟩
def RLawOf : RT := fun as π r π' => ∃ (s : Int × Int) (xs : List D), as = [.list xs] ∧ 0 < xs.length ∧ xs.length ≤ 1000 ∧ π = [dI s] ∧ π' = [dI (drawS s xs.length)] ∧ r = .d (xs.getD (drawV s xs.length).toNat .none)
theorem atI_getD {xs : List D} {i : Int} (h0 : 0 ≤ i) (h1 : i < xs.length) : atI xs i = some (xs.getD i.toNat .none) := by
  have e : ((i.toNat : Nat) : Int) = i := by omega
  have hl : i.toNat < xs.length := by omega
  have := atI_nat (show xs[i.toNat]? = some (xs.getD i.toNat .none) by rw [List.getD_eq_getElem?_getD, List.getElem?_eq_getElem hl]; rfl)
  rw [e] at this
  exact this
theorem ok_law_of (B : Bt mg) (G_law_draw : OkD P w K mg base "_law_draw" 1 ["draws", "many"] RLawDraw) (F : FunAt K mg "_law_of" sLawOf ["draws", "some"]) : OkD P w K mg base "_law_of" 2 ["draws", "some"] RLawOf := by
  refine mk_def F scLawOf (fun as π r π' h => ?_) (fun f cdv A outer s H E N as π r π' hr hpa hR => ?_)
  · obtain ⟨s, xs, rfl, _, _, rfl, rfl, rfl⟩ := h
    exact ⟨rfl, rfl⟩
  · obtain ⟨s, xs, rfl, h0, h1, rfl, rfl, rfl⟩ := hR
    have hd := drawV_low s xs.length (by omega)
    exact ds_last (d1_ret (de_ixL (de_var (pv 1)) (de_cl1 G_law_draw hr (by rfl) (dap_cons (de_ptr (pv 0)) (da_cons (de_lenL (by rfl) B.len (de_var (pv 1))) da_nil)) rfl ⟨s, xs.length, rfl, by omega, by omega, rfl, rfl, rfl⟩) (atI_getD hd.1 hd.2)) (rr1 rfl))
abbrev sLawThing : Stmt := topS 15
abbrev nmLawThing : List Str := ["draws", "deep", "way", "some", "bits", "k"]
theorem scLawThing : FnScope nmLawThing ["draws", "deep"] (defScope sLawThing) := ⟨rfl, rfl, rfl, by decide +kernel, rfl, by decide +kernel, by decide +kernel⟩
def RLawThing (m : Nat) : RT := fun as π r π' => ∃ (d : Nat) (s : Int × Int), d ≤ m ∧ as = [.int d] ∧ π = [dI s] ∧ π' = [dI (thingM d s).2] ∧ r = .d (thingM d s).1
theorem way_at {xs : List D} {v : Int} (h6 : ¬ v < 6) (h9 : v < 9) : atI ([PyData.list xs, .tuple xs, .tuple xs] : List D) (v - 6) = some (if v = 6 then (PyData.list xs : D) else .tuple xs) := by
  have : v = 6 ∨ v = 7 ∨ v = 8 := by omega
  rcases this with rfl | rfl | rfl <;> rfl
theorem ok_law_thing_step (B : Bt mg) (G_law_draw : OkD P w K mg base "_law_draw" 1 ["draws", "many"] RLawDraw) (G_law_of : OkD P w K mg base "_law_of" 2 ["draws", "some"] RLawOf) (F : FunAt K mg "_law_thing" sLawThing ["draws", "deep"]) (m : Nat) (G : ∀ m', m = m' + 1 → OkD P w K mg base "_law_thing" (m' + 3) ["draws", "deep"] (RLawThing m')) : OkD P w K mg base "_law_thing" (m + 3) ["draws", "deep"] (RLawThing m) := by
  refine mk_def F scLawThing (fun as π r π' h => ?_) (fun f cdv A outer s H E N as π r π' hr hpa hR => ?_)
  · obtain ⟨d, s, _, rfl, rfl, rfl, rfl⟩ := h
    exact ⟨rfl, rfl⟩
  · obtain ⟨d, s0, hdm, rfl, rfl, rfl, rfl⟩ := hR
    have hp1 : N.pa.length ≤ 1 := Nat.le_of_eq hpa
    have hpk : ∀ k, N.pa.length ≤ k + 1 := fun k => Nat.le_trans hp1 (Nat.le_add_left _ _)
    have hv := drawV_low s0 9 (by decide)
    refine ds_seq (d1_set (i := 2) scLawThing.nd rfl (.inl rfl) (de_cl1 G_law_draw (hr.mono (by omega : 1 ≤ m + 2)) (by rfl) (dap_cons (de_ptr (pv 0)) (da_cons de_int da_nil)) rfl ⟨s0, 9, rfl, by decide, by decide, rfl, rfl, rfl⟩) rfl) ?_
    refine ds_at (z1 := ⟨[.ptr 0, .d (.int d), .d (.int (drawV s0 9)), .no, .no, .no], [some (dI (drawS s0 9))]⟩) rfl ?_
    refine ds_ifR (dt_w (dw_or (dt_lt (de_var (pv 2)) de_int) fun hb => (dw_or1 (dt_eqI (de_var (pv 1)) de_int)))) (fun hb => ?_) (fun hb => ?_)
    · have e : thingM d s0 = (ofM (drawS s0 9) cstD, drawS (drawS s0 9) 23) := by
        cases d with
        | zero => rfl
        | succ d =>
          have hb : (decide (drawV s0 9 < 6) || decide (((d + 1 : Nat) : Int) = 0)) = true := hb
          have h6 : drawV s0 9 < 6 := by
            by_cases q : drawV s0 9 < 6
            · exact q
            · rw [decide_eq_false q, decide_eq_false (by omega)] at hb; cases hb
          show (if drawV s0 9 < 6 then _ else _) = _
          rw [if_pos h6]
      rw [e]
      refine ds_seq (d1_set (i := 3) scLawThing.nd rfl (.inl rfl) (de_lst (da_cons de_int (da_cons de_int (da_cons (de_neg de_int) (da_cons de_bl (da_cons de_bl (da_cons de_non (da_cons de_str (da_cons de_str (da_cons de_int (da_cons de_int (da_cons (de_neg de_int) (da_cons (de_pow de_int de_int ⟨by decide, by decide, by decide⟩) (da_cons (de_tup (da_cons de_int (da_cons de_int da_nil))) (da_cons (de_tup (da_cons de_int (da_cons de_int da_nil))) (da_cons (de_tup (da_cons de_int (da_cons de_int da_nil))) (da_cons (de_tup (da_cons de_int (da_cons de_int da_nil))) da_nil))))))))))))))))) rfl) ?_
      exact ds_last (d1_ret (de_cl1 G_law_of (hr.mono (by omega : 2 ≤ m + 2)) (by rfl) (dap_cons (de_ptr (pv 0)) (da_cons (de_frz (xs := cstD) (de_catP (de_ptr (pv 3)) (de_lst (da_cons (de_tup da_nil) (da_cons (de_frz (de_lst da_nil) rfl (hpk _)) (da_cons (de_tup (da_cons de_non da_nil)) (da_cons (de_tup (da_cons de_int (da_cons de_non da_nil))) (da_cons (de_tup (da_cons de_int (da_cons de_int (da_cons de_int da_nil)))) (da_cons (de_tup (da_cons de_int (da_cons (de_neg de_int) (da_cons de_int (da_cons de_bl da_nil))))) (da_cons (de_tup (da_cons (de_tup (da_cons de_int da_nil)) da_nil)) da_nil)))))))) rfl rfl (by decide)) rfl (hpk _)) da_nil)) rfl ⟨drawS s0 9, cstD, rfl, by decide, by decide, rfl, rfl, rfl⟩) (rr1 rfl))
    · have hb : (decide (drawV s0 9 < 6) || decide ((d : Int) = 0)) = false := hb
      rw [Bool.or_eq_false_iff] at hb
      have h6 : ¬ drawV s0 9 < 6 := of_decide_eq_false hb.1
      have hd0 : ¬ (d : Int) = 0 := of_decide_eq_false hb.2
      obtain ⟨d', rfl⟩ : ∃ d', d = d' + 1 := ⟨d - 1, by omega⟩
      obtain ⟨m', rfl⟩ : ∃ m', m = m' + 1 := ⟨m - 1, by omega⟩
      have G := G m' rfl
      have ed : ((d' + 1 : Nat) : Int) - 1 = (d' : Int) := by omega
      have e : thingM (d' + 1) s0 = ((if drawV s0 9 = 6 then .list ((List.range (drawV (drawS s0 9) 4).toNat).map (bitsY (thingM d') (drawS (drawS s0 9) 4))) else .tuple ((List.range (drawV (drawS s0 9) 4).toNat).map (bitsY (thingM d') (drawS (drawS s0 9) 4)))), bitsS (thingM d') (drawS (drawS s0 9) 4) (drawV (drawS s0 9) 4).toNat) := by
        show (if drawV s0 9 < 6 then _ else _) = _
        rw [if_neg h6]
      rw [e]
      have h4 := drawV_low (drawS s0 9) 4 (by decide)
      refine ds_seq (d1_setLcS (i := 4) (y := bitsY (thingM d') (drawS (drawS s0 9) 4)) (O := fun k => [some (dI (bitsS (thingM d') (drawS (drawS s0 9) 4) k))]) (own := [("k", 5)]) rfl scLawThing.nd rfl rfl (sw_true rfl rfl rfl (by decide +kernel)) (di_range1 (by rfl) B.range (de_cl1 G_law_draw (hr.mono (by omega : 1 ≤ m' + 1 + 2)) (by rfl) (dap_cons (de_ptr (pv 0)) (da_cons de_int da_nil)) rfl ⟨drawS s0 9, 4, rfl, by decide, by decide, rfl, rfl, rfl⟩) (by omega) (by omega)) it_rng0 (blkOk_by (N := nmLawThing) (sc := defScope sLawThing) (by decide +kernel)) (fun _ _ _ _ _ => pg_name (i := 5) scLawThing.nd rfl (.inl rfl)) (gd_name 5) (by decide) (fun _ _ => trivial) (small1000 (by omega)) rfl (fun _ => rfl) (fun k hk _ _ _ _ _ => (de_cl1 G hr (by rfl) (dap_cons (de_ptr (pv 0)) (da_cons (de_cast (de_sub (de_var (pv 1)) de_int) (congrArg PyData.int ed)) da_nil)) rfl ⟨d', bitsS (thingM d') (drawS (drawS s0 9) 4) k, by omega, rfl, rfl, rfl, rfl⟩ (Nat.le_refl _))) (fun k hk => rfl) rfl) ?_
      refine ds_at (z1 := ⟨[.ptr 0, .d (.int ((d' + 1 : Nat) : Int)), .d (.int (drawV s0 9)), .no, .ptr 1, .no], [some (dI (bitsS (thingM d') (drawS (drawS s0 9) 4) (drawV (drawS s0 9) 4).toNat)), some ((List.range (drawV (drawS s0 9) 4).toNat).map (bitsY (thingM d') (drawS (drawS s0 9) 4)))]⟩) rfl ?_
      generalize bitsS (thingM d') (drawS (drawS s0 9) 4) (drawV (drawS s0 9) 4).toNat = s1
      generalize (List.range (drawV (drawS s0 9) 4).toNat).map (bitsY (thingM d') (drawS (drawS s0 9) 4)) = bits
      refine ds_frz 1 rfl (hpk 0) ?_
      refine ds_at (z1 := ⟨[.ptr 0, .d (.int ((d' + 1 : Nat) : Int)), .d (.int (drawV s0 9)), .no, .d (.list bits), .no], [some (dI s1), none]⟩) rfl ?_
      exact ds_last (d1_ret (de_ixP (de_lst (da_cons (de_var (pv 4)) (da_cons (de_tupL (by rfl) B.tuple (de_var (pv 4))) (da_cons (de_tupL (by rfl) B.tuple (de_var (pv 4))) da_nil)))) (de_sub (de_var (pv 2)) de_int) rfl (way_at h6 hv.2)) (rr1 rfl))
theorem ok_law_thingN (B : Bt mg) (G_law_draw : OkD P w K mg base "_law_draw" 1 ["draws", "many"] RLawDraw) (G_law_of : OkD P w K mg base "_law_of" 2 ["draws", "some"] RLawOf) (F : FunAt K mg "_law_thing" sLawThing ["draws", "deep"]) : ∀ m, OkD P w K mg base "_law_thing" (m + 3) ["draws", "deep"] (RLawThing m)
  | 0 => ok_law_thing_step B G_law_draw G_law_of F 0 fun m' h => by omega
  | m + 1 => ok_law_thing_step B G_law_draw G_law_of F (m + 1) fun m' h => by
    cases h
    exact ok_law_thingN B G_law_draw G_law_of F m
theorem ok_law_thing (B : Bt mg) (G_law_draw : OkD P w K mg base "_law_draw" 1 ["draws", "many"] RLawDraw) (G_law_of : OkD P w K mg base "_law_of" 2 ["draws", "some"] RLawOf) (F : FunAt K mg "_law_thing" sLawThing ["draws", "deep"]) : OkD P w K mg base "_law_thing" 6 ["draws", "deep"] (RLawThing 3) := by exact ok_law_thingN B G_law_draw G_law_of F 3
abbrev sLawOtherwise : Stmt := topS 16
abbrev nmLawOtherwise : List Str := ["draws", "thing", "deep", "bits", "spot", "way", "word", "number"]
theorem scLawOtherwise : FnScope nmLawOtherwise ["draws", "thing", "deep"] (defScope sLawOtherwise) := ⟨rfl, rfl, rfl, by decide +kernel, rfl, by decide +kernel, by decide +kernel⟩
def strV : D → Str
  | .str s => s
  | _ => ""
def tupV : D → List D
  | .tuple xs => xs
  | _ => []
def numV : D → Int
  | .int i => i
  | .bool b => b2i b
  | _ => 0
def strL (w : Str) : List D := [.str (w ++ "a"), .str (cutS w (some 1) none), .str (Txt.upper w), .str "", .none, .str "1", .str ""]
def numL (i : Int) : List D := [.int (i + 1), .int (i - 1), .int (0 - i), .bool true, .bool false, .none, .int (min (1000 * i) (10 ^ 39))]
def packD (isL : Bool) (ys : List D) : D := if isL = true then .list ys else .tuple ys
def wayM (isL : Bool) (xs : List D) (sp : Nat) (way : Int) (s : Int × Int) : D × (Int × Int) :=
  if way = 0 then (packD isL (xs.take sp ++ xs.drop (sp + 1)), s)
  else if way = 1 then (packD isL (xs.take sp ++ [xs.getD sp .none] ++ xs.drop sp), s)
  else if way = 2 then (packD isL (xs.take sp ++ (cutG xs (some (sp : Int)) (some ((sp : Int) + 2))).reverse ++ xs.drop (sp + 2)), s)
  else if way = 3 then (packD isL (xs.set sp (thingM 2 s).1), (thingM 2 s).2)
  else if way = 4 ∧ tStr (xs.getD sp .none) = true then (packD isL (xs.set sp (ofM s (strL (strV (xs.getD sp .none))))), drawS s 7)
  else if way < 6 ∧ tInt (xs.getD sp .none) = true then (packD isL (xs.set sp (ofM s (numL (numV (xs.getD sp .none))))), drawS s 7)
  else if way = 6 ∧ tTup (xs.getD sp .none) = true then (packD isL (xs.set sp (.list (tupV (xs.getD sp .none)))), s)
  else (packD (!isL) xs, s)
def otherM (isL : Bool) (xs : List D) (s : Int × Int) : D × (Int × Int) :=
  if xs.length = 0 then (.tuple [(thingM 1 s).1], (thingM 1 s).2)
  else wayM isL xs (drawV s xs.length).toNat (drawV (drawS s xs.length) 8) (drawS (drawS s xs.length) 8)
theorem eqv_nil (xs : List D) : PyData.eqv (.list xs) (.list []) = decide (xs.length = 0) := by cases xs <;> rfl
theorem tStr_iff {d : D} (h : tStr d = true) : ∃ w, d = .str w := by
  cases d with
  | str w => exact ⟨w, rfl⟩
  | _ => cases h
theorem tInt_iff {d : D} (h : tInt d = true) : (∃ i, d = .int i) ∨ ∃ b, d = .bool b := by
  cases d with
  | int i => exact .inl ⟨i, rfl⟩
  | bool b => exact .inr ⟨b, rfl⟩
  | _ => cases h
theorem tTup_iff' {d : D} (h : tTup d = true) : ∃ xs, d = .tuple xs := by
  cases d with
  | tuple w => exact ⟨w, rfl⟩
  | _ => cases h
def RLawOtherwise : RT := fun as π r π' => ∃ (s : Int × Int) (th : D) (xs : List D), (th = .list xs ∨ th = .tuple xs) ∧ xs.length ≤ 500 ∧ (∀ x ∈ xs, slD x ≤ 100) ∧ as = [th, .int 0] ∧ π = [dI s] ∧ π' = [dI (otherM (tList th) xs s).2] ∧ r = .d (otherM (tList th) xs s).1
theorem ok_law_otherwise (B : Bt mg) (G_law_draw : OkD P w K mg base "_law_draw" 1 ["draws", "many"] RLawDraw) (G_law_of : OkD P w K mg base "_law_of" 2 ["draws", "some"] RLawOf) (G_law_thing : OkD P w K mg base "_law_thing" 6 ["draws", "deep"] (RLawThing 3)) (F : FunAt K mg "_law_otherwise" sLawOtherwise ["draws", "thing", "deep"]) : OkD P w K mg base "_law_otherwise" 7 ["draws", "thing", "deep"] RLawOtherwise := by
  refine mk_def F scLawOtherwise (fun as π r π' h => ?_) (fun f cdv A outer s H E N as π r π' hr hpa hR => ?_)
  · obtain ⟨s, th, xs, _, _, _, rfl, rfl, rfl, rfl⟩ := h
    exact ⟨rfl, rfl⟩
  · obtain ⟨s0, th, xs, hth, hxl, hsl, rfl, rfl, rfl, rfl⟩ := hR
    have hp1 : N.pa.length ≤ 1 := Nat.le_of_eq hpa
    have hpk : ∀ k, N.pa.length ≤ k + 1 := fun k => Nat.le_trans hp1 (Nat.le_add_left _ _)
    have hz : (10000 : Nat) ≤ sizeLine := by decide
    refine ds_cons (mid := fun z' => z' = ⟨[.ptr 0, .d th, .d (.int 0), .ptr 1, .no, .no, .no, .no], [some (dI s0), some xs]⟩) ?_ ?_
    · rcases hth with rfl | rfl
      · exact d1_set (i := 3) scLawOtherwise.nd rfl (.inl rfl) (de_listL (by rfl) B.list (de_var (pv 1))) rfl
      · exact d1_set (i := 3) scLawOtherwise.nd rfl (.inl rfl) (de_listT (by rfl) B.list (de_var (pv 1))) rfl
    rintro _ rfl
    refine ds_ifR (dt_cast (dt_eqO hr.units (de_ptr (pv 3)) (de_lst da_nil) rfl rfl (by simp [PyData.depth, PyData.depthAll])) (eqv_nil xs)) (fun hb => ?_) (fun hb => ?_)
    · have h0 : xs.length = 0 := of_decide_eq_true hb
      have e : otherM (tList th) xs s0 = (.tuple [(thingM 1 s0).1], (thingM 1 s0).2) := if_pos h0
      rw [e]
      exact ds_last (d1_ret (de_tup (da_cons (de_cl1 G_law_thing hr (by rfl) (dap_cons (de_ptr (pv 0)) (da_cons de_int da_nil)) rfl ⟨1, s0, by decide, rfl, rfl, rfl, rfl⟩) da_nil)) (rr1 rfl))
    have h0 : ¬ xs.length = 0 := of_decide_eq_false hb
    have e : otherM (tList th) xs s0 = wayM (tList th) xs (drawV s0 xs.length).toNat (drawV (drawS s0 xs.length) 8) (drawS (drawS s0 xs.length) 8) := if_neg h0
    rw [e]
    have hv := drawV_low s0 xs.length (by omega)
    have hw := drawV_low (drawS s0 xs.length) 8 (by decide)
    refine ds_seq (d1_set (i := 4) scLawOtherwise.nd rfl (.inl rfl) (de_cl1 G_law_draw hr (by rfl) (dap_cons (de_ptr (pv 0)) (da_cons (de_lenP (by rfl) B.len (de_ptr (pv 3))) da_nil)) rfl ⟨s0, xs.length, rfl, by omega, by omega, rfl, rfl, rfl⟩) rfl) ?_
    obtain ⟨sp, hsp⟩ : ∃ sp : Nat, drawV s0 xs.length = (sp : Int) := ⟨(drawV s0 xs.length).toNat, by omega⟩
    have hspl : sp < xs.length := by omega
    refine ds_wk (s' := [.ptr 0, .d th, .d (.int 0), .ptr 1, .d (.int (drawV s0 xs.length)), .no, .no, .no]) (o' := [some (dI (drawS s0 xs.length)), some xs]) (.keep (.keep (.keep (.keep (.keep (.keep (.keep (.keep .nil)))))))) rfl (hpk _) rfl ?_
    rw [hsp, Int.toNat_natCast]
    generalize drawS s0 xs.length = s1 at hw
    have hat : atI xs (sp : Int) = some (xs.getD sp .none) := atI_getD (by omega) (by omega)
    have hxm : xs.getD sp .none ∈ xs := by
      rw [List.getD_eq_getElem?_getD, List.getElem?_eq_getElem hspl]
      exact List.getElem_mem _
    have hget : xs[sp]? = some (xs.getD sp .none) := by rw [List.getD_eq_getElem?_getD, List.getElem?_eq_getElem hspl]; rfl
    have hix : ixN xs.length (sp : Int) = some sp := ixN_at (by omega) (by omega)
    have hslx := hsl _ hxm
    generalize hx : xs.getD sp .none = x at hat hxm hget hslx
    refine ds_ifR (dt_cast (dt_w (dw_and (dt_val (de_isiT (ty_tuple x) (ty_list x) (by rfl) B.isinstance (by rfl) B.tuple (by rfl) B.list (de_ixP (de_ptr (pv 3)) (de_var (pv 4)) rfl hat))) fun hb => (dw_and (t' := true) (dt_cast (dt_gt (de_var (pv 2)) de_int) (show _ = false from rfl)) fun hb => by cases hb))) (and2f rfl)) (fun hb => by cases hb) (fun hb => ?_)
    refine ds_seq (d1_set (i := 5) scLawOtherwise.nd rfl (.inl rfl) (de_cl1 G_law_draw hr (by rfl) (dap_cons (de_ptr (pv 0)) (da_cons de_int da_nil)) rfl ⟨s1, 8, rfl, by decide, by decide, rfl, rfl, rfl⟩) rfl) ?_
    refine ds_at (z1 := ⟨[.ptr 0, .d th, .d (.int 0), .ptr 1, .d (.int sp), .d (.int (drawV s1 8)), .no, .no], [some (dI (drawS s1 8)), some xs]⟩) rfl ?_
    generalize drawV s1 8 = way at hw
    generalize drawS s1 8 = s2
    refine ds_cons (mid := fun z' => ∃ (ys : List D) (s' : Int × Int), z' = ⟨[.ptr 0, .d th, .no, .ptr 1, .no, .no, .no, .no], [some (dI s'), some ys]⟩ ∧ wayM (tList th) xs sp way s2 = (packD (tList th) ys, s')) (d1_if (dt_eqI (de_var (pv 5)) de_int) (fun hb => ?_) (fun hb => ?_)) ?_
    · have c0 : way = 0 := of_decide_eq_true hb
      refine ds_seq (d1_expr (de_popAt (j := sp) (de_ptr (pv 3)) (de_var (pv 4)) rfl rfl rfl hget (by omega)) rfl) ?_
      refine ds_wk (s' := [.ptr 0, .d th, .no, .ptr 1, .no, .no, .no, .no]) (o' := [some (dI s2), some (xs.take sp ++ xs.drop (sp + 1))]) (.keep (.keep (.drop (.keep (.drop (.drop (.drop (.drop .nil)))))))) rfl (hpk _) rfl ?_
      exact ds_nil ⟨_, _, rfl, if_pos c0⟩
    · have c0 : ¬ way = 0 := of_decide_eq_false hb
      refine ds_last (d1_if (dt_eqI (de_var (pv 5)) de_int) (fun hb => ?_) (fun hb => ?_))
      · have c1 : way = 1 := of_decide_eq_true hb
        refine ds_seq (d1_expr (de_ins (de_ptr (pv 3)) (de_var (pv 4)) (de_ixP (de_ptr (pv 3)) (de_var (pv 4)) rfl hat) rfl rfl (by omega) (by omega) (by omega)) rfl) ?_
        refine ds_wk (s' := [.ptr 0, .d th, .no, .ptr 1, .no, .no, .no, .no]) (o' := [some (dI s2), some (xs.take sp ++ [x] ++ xs.drop sp)]) (.keep (.keep (.drop (.keep (.drop (.drop (.drop (.drop .nil)))))))) rfl (hpk _) rfl ?_
        exact ds_nil ⟨_, _, rfl, by unfold wayM; rw [if_neg c0, if_pos c1, hx]⟩
      have c1 : ¬ way = 1 := of_decide_eq_false hb
      refine ds_last (d1_if (dt_eqI (de_var (pv 5)) de_int) (fun hb => ?_) (fun hb => ?_))
      · have c2 : way = 2 := of_decide_eq_true hb
        have e2 : (sp : Int) + 2 = ((sp + 2 : Nat) : Int) := by omega
        have hcl : (cutG xs (some (sp : Int)) (some ((sp : Int) + 2))).length ≤ xs.length := by unfold cutG; rw [List.length_take, List.length_drop]; omega
        refine ds_seq (d1_setSl (k := 1) (j := 3) (c1 := sp) (c2 := sp + 2) (xs := xs) (ys := (cutG xs (some (sp : Int)) (some ((sp : Int) + 2))).reverse) (de_revP (de_slP (de_ptr (pv 3)) (do_some (de_var (pv 4))) (do_some (de_add (de_var (pv 4)) de_int)) rfl) rfl) (de_ptr (pv 3)) (do_some (de_var (pv 4))) (do_some (de_cast (de_add (de_var (pv 4)) de_int) (congrArg PyData.int e2))) rfl rfl (by decide) (by omega) (by omega) (by rw [List.length_reverse]; omega) rfl) ?_
        refine ds_wk (s' := [.ptr 0, .d th, .no, .ptr 1, .no, .no, .no, .no]) (o' := [some (dI s2), some (xs.take sp ++ (cutG xs (some (sp : Int)) (some ((sp : Int) + 2))).reverse ++ xs.drop (sp + 2))]) (.keep (.keep (.drop (.keep (.drop (.drop (.drop (.drop .nil)))))))) rfl (hpk _) rfl ?_
        exact ds_nil ⟨_, _, rfl, by unfold wayM; rw [if_neg c0, if_neg c1, if_pos c2]⟩
      have c2 : ¬ way = 2 := of_decide_eq_false hb
      refine ds_last (d1_if (dt_eqI (de_var (pv 5)) de_int) (fun hb => ?_) (fun hb => ?_))
      · have c3 : way = 3 := of_decide_eq_true hb
        refine ds_seq (d1_setitem (de_cl1 G_law_thing hr (by rfl) (dap_cons (de_ptr (pv 0)) (da_cons de_int da_nil)) rfl ⟨2, s2, by decide, rfl, rfl, rfl, rfl⟩) (de_ptr (pv 3)) (de_var (pv 4)) rfl hix rfl) ?_
        refine ds_wk (s' := [.ptr 0, .d th, .no, .ptr 1, .no, .no, .no, .no]) (o' := [some (dI (thingM 2 s2).2), some (xs.set sp (thingM 2 s2).1)]) (.keep (.keep (.drop (.keep (.drop (.drop (.drop (.drop .nil)))))))) rfl (hpk _) rfl ?_
        exact ds_nil ⟨_, _, rfl, by unfold wayM; rw [if_neg c0, if_neg c1, if_neg c2, if_pos c3]⟩
      have c3 : ¬ way = 3 := of_decide_eq_false hb
      refine ds_last (d1_if (dt_w (dw_and (dt_eqI (de_var (pv 5)) de_int) fun hb => (dw_and1 (dt_val (de_isi (T := "str") (ty_str x) (by rfl) B.isinstance (by rfl) B.str (by rfl) (de_ixP (de_ptr (pv 3)) (de_var (pv 4)) rfl hat)))))) (fun hb => ?_) (fun hb => ?_))
      · have hb : (decide (way = 4) && tStr x) = true := hb
        rw [Bool.and_eq_true] at hb
        have c4 : way = 4 ∧ tStr x = true := ⟨of_decide_eq_true hb.1, hb.2⟩
        obtain ⟨wd, rfl⟩ := tStr_iff c4.2
        have hwl : wd.length ≤ 100 := hslx
        refine ds_seq (d1_set (i := 6) scLawOtherwise.nd rfl (.inl rfl) (de_ixP (de_ptr (pv 3)) (de_var (pv 4)) rfl hat) rfl) ?_
        refine ds_seq (d1_setitem (xs := xs) (de_cl1 G_law_of hr (by rfl) (dap_cons (de_ptr (pv 0)) (da_cons (de_frz (xs := strL wd) (de_lst (da_cons (de_addS (de_var (pv 6)) de_str (by have : ("a" : Str).length = 1 := rfl; omega)) (da_cons (de_slS (de_var (pv 6)) (do_some de_int) do_none (by omega)) (da_cons (de_upper (de_var (pv 6)) (by omega)) (da_cons de_str (da_cons de_non (da_cons de_str (da_cons de_str da_nil)))))))) rfl (hpk _)) da_nil)) rfl ⟨s2, strL wd, rfl, by show 0 < 7; decide, by show 7 ≤ 1000; decide, rfl, rfl, rfl⟩) (de_ptr (pv 3)) (de_var (pv 4)) rfl hix rfl) ?_
        refine ds_wk (s' := [.ptr 0, .d th, .no, .ptr 1, .no, .no, .no, .no]) (o' := [some (dI (drawS s2 7)), some (xs.set sp (ofM s2 (strL wd)))]) (.keep (.keep (.drop (.keep (.drop (.drop (.drop (.drop .nil)))))))) rfl (hpk _) rfl ?_
        exact ds_nil ⟨_, _, rfl, by unfold wayM; rw [if_neg c0, if_neg c1, if_neg c2, if_neg c3, hx, if_pos c4]; rfl⟩
      have c4 : ¬ (way = 4 ∧ tStr x = true) := fun w => by
        have hb : (decide (way = 4) && tStr x) = false := hb
        rw [decide_eq_true w.1, w.2] at hb
        cases hb
      refine ds_last (d1_if (dt_w (dw_and (dt_lt (de_var (pv 5)) de_int) fun hb => (dw_and1 (dt_val (de_isi (T := "int") (ty_int x) (by rfl) B.isinstance (by rfl) B.int (by rfl) (de_ixP (de_ptr (pv 3)) (de_var (pv 4)) rfl hat)))))) (fun hb => ?_) (fun hb => ?_))
      · have hb : (decide (way < 6) && tInt x) = true := hb
        rw [Bool.and_eq_true] at hb
        have c5 : way < 6 ∧ tInt x = true := ⟨of_decide_eq_true hb.1, hb.2⟩
        refine ds_seq (d1_set (i := 7) scLawOtherwise.nd rfl (.inl rfl) (de_ixP (de_ptr (pv 3)) (de_var (pv 4)) rfl hat) rfl) ?_
        rcases tInt_iff c5.2 with ⟨i, rfl⟩ | ⟨b, rfl⟩
        · refine ds_seq (d1_setitem (xs := xs) (de_cl1 G_law_of hr (by rfl) (dap_cons (de_ptr (pv 0)) (da_cons (de_frz (xs := numL i) (de_lst (da_cons (de_add (de_var (pv 7)) de_int) (da_cons (de_sub (de_var (pv 7)) de_int) (da_cons (de_sub de_int (de_var (pv 7))) (da_cons de_bl (da_cons de_bl (da_cons de_non (da_cons (de_min2 rfl (by rfl) B.min (de_mul de_int (de_var (pv 7)) (.inl ⟨by decide, by decide⟩)) (de_pow de_int de_int ⟨by decide, by decide, by decide⟩)) da_nil)))))))) rfl (hpk _)) da_nil)) rfl ⟨s2, numL i, rfl, by show 0 < 7; decide, by show 7 ≤ 1000; decide, rfl, rfl, rfl⟩) (de_ptr (pv 3)) (de_var (pv 4)) rfl hix rfl) ?_
          refine ds_wk (s' := [.ptr 0, .d th, .no, .ptr 1, .no, .no, .no, .no]) (o' := [some (dI (drawS s2 7)), some (xs.set sp (ofM s2 (numL i)))]) (.keep (.keep (.drop (.keep (.drop (.drop (.drop (.drop .nil)))))))) rfl (hpk _) rfl ?_
          exact ds_nil ⟨_, _, rfl, by unfold wayM; rw [if_neg c0, if_neg c1, if_neg c2, if_neg c3, hx, if_neg c4, if_pos c5]; rfl⟩
        · refine ds_seq (d1_setitem (xs := xs) (de_cl1 G_law_of hr (by rfl) (dap_cons (de_ptr (pv 0)) (da_cons (de_frz (xs := numL (b2i b)) (de_lst (da_cons (de_addBI (de_var (pv 7)) de_int) (da_cons (de_subBI (de_var (pv 7)) de_int) (da_cons (de_subIB de_int (de_var (pv 7))) (da_cons de_bl (da_cons de_bl (da_cons de_non (da_cons (de_min2 rfl (by rfl) B.min (de_mulIB de_int (de_var (pv 7))) (de_pow de_int de_int ⟨by decide, by decide, by decide⟩)) da_nil)))))))) rfl (hpk _)) da_nil)) rfl ⟨s2, numL (b2i b), rfl, by show 0 < 7; decide, by show 7 ≤ 1000; decide, rfl, rfl, rfl⟩) (de_ptr (pv 3)) (de_var (pv 4)) rfl hix rfl) ?_
          refine ds_wk (s' := [.ptr 0, .d th, .no, .ptr 1, .no, .no, .no, .no]) (o' := [some (dI (drawS s2 7)), some (xs.set sp (ofM s2 (numL (b2i b))))]) (.keep (.keep (.drop (.keep (.drop (.drop (.drop (.drop .nil)))))))) rfl (hpk _) rfl ?_
          exact ds_nil ⟨_, _, rfl, by unfold wayM; rw [if_neg c0, if_neg c1, if_neg c2, if_neg c3, hx, if_neg c4, if_pos c5]; rfl⟩
      have c5 : ¬ (way < 6 ∧ tInt x = true) := fun w => by
        have hb : (decide (way < 6) && tInt x) = false := hb
        rw [decide_eq_true w.1, w.2] at hb
        cases hb
      refine ds_last (d1_if (dt_w (dw_and (dt_eqI (de_var (pv 5)) de_int) fun hb => (dw_and1 (dt_val (de_isi (T := "tuple") (ty_tuple x) (by rfl) B.isinstance (by rfl) B.tuple (by rfl) (de_ixP (de_ptr (pv 3)) (de_var (pv 4)) rfl hat)))))) (fun hb => ?_) (fun hb => ?_))
      · have hb : (decide (way = 6) && tTup x) = true := hb
        rw [Bool.and_eq_true] at hb
        have c6 : way = 6 ∧ tTup x = true := ⟨of_decide_eq_true hb.1, hb.2⟩
        obtain ⟨ts, rfl⟩ := tTup_iff' c6.2
        refine ds_seq (d1_setitem (xs := xs) (de_frz (xs := ts) (de_listT (by rfl) B.list (de_ixP (de_ptr (pv 3)) (de_var (pv 4)) rfl hat)) rfl (hpk _)) (de_ptr (pv 3)) (de_var (pv 4)) rfl hix rfl) ?_
        refine ds_wk (s' := [.ptr 0, .d th, .no, .ptr 1, .no, .no, .no, .no]) (o' := [some (dI s2), some (xs.set sp (.list ts))]) (.keep (.keep (.drop (.keep (.drop (.drop (.drop (.drop .nil)))))))) rfl (hpk _) rfl ?_
        exact ds_nil ⟨_, _, rfl, by unfold wayM; rw [if_neg c0, if_neg c1, if_neg c2, if_neg c3, hx, if_neg c4, if_neg c5, if_pos c6]; rfl⟩
      have c6 : ¬ (way = 6 ∧ tTup x = true) := fun w => by
        have hb : (decide (way = 6) && tTup x) = false := hb
        rw [decide_eq_true w.1, w.2] at hb
        cases hb
      have e2 : wayM (tList th) xs sp way s2 = (packD (!tList th) xs, s2) := by unfold wayM; rw [if_neg c0, if_neg c1, if_neg c2, if_neg c3, hx, if_neg c4, if_neg c5, if_neg c6]
      rw [e2]
      refine ds_frz 1 rfl (hpk 0) ?_
      refine ds_last (d1_ret (de_cast (y := packD (!tList th) xs) (de_if (x := .tuple xs) (y := .list xs) (dt_val (de_isi (T := "list") (ty_list th) (by rfl) B.isinstance (by rfl) B.list (by rfl) (de_var (pv 1)))) (fun hb => (de_tupL (by rfl) B.tuple (de_var (pv 3)))) fun hb => (de_var (pv 3))) (by cases tList th <;> rfl)) (rr1 rfl))
    · rintro _ ⟨ys, s', rfl, e2⟩
      rw [e2]
      refine ds_frz 1 rfl (hpk 0) ?_
      exact ds_last (d1_ret (de_if (x := .list ys) (y := .tuple ys) (dt_val (de_isi (T := "list") (ty_list th) (by rfl) B.isinstance (by rfl) B.list (by rfl) (de_var (pv 1)))) (fun hb => (de_var (pv 3))) fun hb => (de_tupL (by rfl) B.tuple (de_var (pv 3)))) (rr1 rfl))
abbrev sLawBent : Stmt := topS 25
abbrev nmLawBent : List Str := ["draws", "thing", "once", "found"]
theorem scLawBent : FnScope nmLawBent ["draws", "thing"] (defScope sLawBent) := ⟨rfl, rfl, rfl, by decide +kernel, rfl, by decide +kernel, by decide +kernel⟩
def elmD : D → List D
  | .list xs => xs
  | .tuple xs => xs
  | _ => []
def notE (d : D) : Bool := !([PyData.tuple [], PyData.list []] : List D).any fun y => PyData.eqv y d
def onceM (xs : List D) (s : Int × Int) : D × (Int × Int) := otherM false xs s
def lastM (xs : List D) (s : Int × Int) : D × (Int × Int) := if notE (onceM xs s).1 = true then otherM (tList (onceM xs s).1) (elmD (onceM xs s).1) (thingM 3 (onceM xs s).2).2 else ((onceM xs s).1, (thingM 3 (onceM xs s).2).2)
def bentL (xs : List D) (s : Int × Int) : List D := [.tuple xs, (onceM xs s).1, .list xs, .tuple (cutG xs (some 1) none), .tuple (xs ++ cutG xs none (some 1)), (thingM 3 (onceM xs s).2).1] ++ [(lastM xs s).1]
structure Fine (d : D) : Prop where
  lay : d.canLay0 = true
  sl : slD d ≤ 5
theorem Nice.fine {d : D} (h : Nice d) : Fine d := ⟨h.lay, h.sl⟩
theorem cutG_len {xs : List D} {l u : Option Int} : (cutG xs l u).length ≤ xs.length := by unfold cutG; rw [List.length_take, List.length_drop]; omega
theorem cutG_mem {xs : List D} {l u : Option Int} {d : D} (h : d ∈ cutG xs l u) : d ∈ xs := List.mem_of_mem_drop (List.mem_of_mem_take h)
theorem set_mem {xs : List D} {k : Nat} {y d : D} (h : d ∈ xs.set k y) : d ∈ xs ∨ d = y := List.mem_or_eq_of_mem_set h
theorem numL_fine (i : Int) : ∀ y ∈ numL i, Fine y := fun y hy => by
  simp only [numL, List.mem_cons, List.not_mem_nil, or_false] at hy
  rcases hy with rfl | rfl | rfl | rfl | rfl | rfl | rfl <;> exact ⟨rfl, Nat.zero_le _⟩
/-- what comes of it: a list or a tuple, of nice things if they were such -/
theorem way_ok {isL : Bool} {xs : List D} {sp : Nat} {way : Int} {s : Int × Int} (hsp : sp < xs.length) : ∃ b ys, (wayM isL xs sp way s).1 = packD b ys ∧ ys.length ≤ xs.length + 1 ∧ ((∀ x ∈ xs, Fine x ∧ tStr x = false ∧ tTup x = false) → ∀ y ∈ ys, Fine y) := by
  have hx : xs.getD sp .none ∈ xs := by
    rw [List.getD_eq_getElem?_getD, List.getElem?_eq_getElem hsp]
    exact List.getElem_mem _
  have ht : (xs.take sp).length ≤ sp := by rw [List.length_take]; omega
  have hc := @cutG_len xs (some (sp : Int)) (some ((sp : Int) + 2))
  have hc2 : (cutG xs (some (sp : Int)) (some ((sp : Int) + 2))).length ≤ min (sp + 2) xs.length - sp := by
    unfold cutG
    rw [List.length_take]
    have e1 : HT.sIx xs.length xs.length (some ((sp : Int) + 2)) = min ((sp : Int) + 2).toNat xs.length := by
      show (if ((sp : Int) + 2) < 0 then ((sp : Int) + 2 + (xs.length : Int)).toNat else min ((sp : Int) + 2).toNat xs.length) = _
      rw [if_neg (by omega)]
    have e2 : HT.sIx xs.length 0 (some (sp : Int)) = min ((sp : Int)).toNat xs.length := by
      show (if (sp : Int) < 0 then ((sp : Int) + (xs.length : Int)).toNat else min ((sp : Int)).toNat xs.length) = _
      rw [if_neg (by omega)]
    rw [e1, e2]
    omega
  unfold wayM
  split
  · refine ⟨isL, _, rfl, by rw [List.length_append, List.length_take, List.length_drop]; omega, fun hf y hy => ?_⟩
    rcases List.mem_append.mp hy with h | h
    · exact (hf _ (List.mem_of_mem_take h)).1
    · exact (hf _ (List.mem_of_mem_drop h)).1
  split
  · refine ⟨isL, _, rfl, by rw [List.length_append, List.length_append, List.length_take, List.length_drop, List.length_singleton]; omega, fun hf y hy => ?_⟩
    rcases List.mem_append.mp hy with h | h
    · rcases List.mem_append.mp h with h | h
      · exact (hf _ (List.mem_of_mem_take h)).1
      · rw [List.mem_singleton] at h; subst h; exact (hf _ hx).1
    · exact (hf _ (List.mem_of_mem_drop h)).1
  split
  · refine ⟨isL, _, rfl, by rw [List.length_append, List.length_append, List.length_take, List.length_drop, List.length_reverse]; omega, fun hf y hy => ?_⟩
    rcases List.mem_append.mp hy with h | h
    · rcases List.mem_append.mp h with h | h
      · exact (hf _ (List.mem_of_mem_take h)).1
      · exact (hf _ (cutG_mem (List.mem_reverse.mp h))).1
    · exact (hf _ (List.mem_of_mem_drop h)).1
  split
  · refine ⟨isL, _, rfl, by rw [List.length_set]; omega, fun hf y hy => ?_⟩
    rcases set_mem hy with h | h
    · exact (hf _ h).1
    · subst h; exact (thing_nice 2 s).fine
  split
  · rename_i c
    refine ⟨isL, _, rfl, by rw [List.length_set]; omega, fun hf y hy => ?_⟩
    have := (hf _ hx).2.1
    rw [c.2] at this
    cases this
  split
  · refine ⟨isL, _, rfl, by rw [List.length_set]; omega, fun hf y hy => ?_⟩
    rcases set_mem hy with h | h
    · exact (hf _ h).1
    · rw [h]
      exact numL_fine _ _ (ofM_mem s (xs := numL (numV (xs.getD sp .none))) (by show 0 < 7; decide))
  split
  · rename_i c
    refine ⟨isL, _, rfl, by rw [List.length_set]; omega, fun hf y hy => ?_⟩
    have := (hf _ hx).2.2
    rw [c.2] at this
    cases this
  · exact ⟨!isL, xs, rfl, by omega, fun hf y hy => (hf _ hy).1⟩
theorem other_ok (isL : Bool) (xs : List D) (s : Int × Int) : ∃ b ys, (otherM isL xs s).1 = packD b ys ∧ ys.length ≤ xs.length + 1 ∧ ((∀ x ∈ xs, Fine x ∧ tStr x = false ∧ tTup x = false) → ∀ y ∈ ys, Fine y) := by
  unfold otherM
  by_cases h : xs.length = 0
  · rw [if_pos h]
    refine ⟨false, _, rfl, by show 1 ≤ _; omega, fun _ y hy => ?_⟩
    rw [List.mem_singleton] at hy
    subst hy
    exact (thing_nice 1 s).fine
  · rw [if_neg h]
    have hv := drawV_low s xs.length (by omega)
    exact way_ok (by omega)
theorem pack_el (b : Bool) (ys : List D) : (packD b ys = .list ys ∨ packD b ys = .tuple ys) ∧ elmD (packD b ys) = ys ∧ lnD (packD b ys) = ys.length := by
  cases b
  · exact ⟨.inr rfl, rfl, rfl⟩
  · exact ⟨.inl rfl, rfl, rfl⟩
theorem bent_len {xs : List D} {s : Int × Int} (hx : xs.length ≤ 400) : ∀ d ∈ bentL xs s, lnD d ≤ 1000 := fun d hd => by
  obtain ⟨b, ys, e, hl, _⟩ := other_ok false xs s
  have e : (onceM xs s).1 = packD b ys := e
  obtain ⟨_, p2, p3⟩ := pack_el b ys
  have hc1 := @cutG_len xs (some 1) none
  have hc2 := @cutG_len xs none (some 1)
  have ht := (thing_nice 3 (onceM xs s).2).ln
  unfold bentL at hd
  simp only [List.cons_append, List.nil_append, List.mem_cons, List.not_mem_nil, or_false] at hd
  rcases hd with rfl | rfl | rfl | rfl | rfl | rfl | rfl
  · show xs.length ≤ 1000; omega
  · rw [e, p3]; omega
  · show xs.length ≤ 1000; omega
  · show (cutG xs (some 1) none).length ≤ 1000; omega
  · show (xs ++ cutG xs none (some 1)).length ≤ 1000; rw [List.length_append]; omega
  · omega
  · unfold lastM
    split
    · obtain ⟨b2, zs, e2, hl2, _⟩ := other_ok (tList (onceM xs s).1) (elmD (onceM xs s).1) (thingM 3 (onceM xs s).2).2
      rw [e2, (pack_el b2 zs).2.2]
      rw [e, p2] at hl2
      omega
    · show lnD (onceM xs s).1 ≤ 1000
      rw [e, p3]; omega
theorem rr1N {xs ys : List D} {k : Nat} {z : Z} (e : z.o[0]? = some (some xs)) (hk : 1 ≤ k) (e2 : z.o[k]? = some (some ys)) : rrRs [xs] (.new ys) (.ptr k) z := ⟨fun j zs h => by
  cases j with
  | zero =>
    have h : xs = zs := by simpa using h
    rw [← h]
    exact e
  | succ j => simp at h, k, rfl, hk, e2⟩
def RLawBent : RT := fun as π r π' => ∃ (s : Int × Int) (xs : List D), (0 < xs.length ∧ xs.length ≤ 20) ∧ (∀ x ∈ xs, Fine x ∧ tStr x = false ∧ tTup x = false) ∧ as = [.tuple xs] ∧ π = [dI s] ∧ π' = [dI (lastM xs s).2] ∧ r = .new (bentL xs s)
theorem ok_law_bent (B : Bt mg) (G_law_otherwise : OkD P w K mg base "_law_otherwise" 7 ["draws", "thing", "deep"] RLawOtherwise) (G_law_thing : OkD P w K mg base "_law_thing" 6 ["draws", "deep"] (RLawThing 3)) (F : FunAt K mg "_law_bent" sLawBent ["draws", "thing"]) : OkD P w K mg base "_law_bent" 8 ["draws", "thing"] RLawBent := by
  refine mk_def F scLawBent (fun as π r π' h => ?_) (fun f cdv A outer s H E N as π r π' hr hpa hR => ?_)
  · obtain ⟨s, xs, _, _, rfl, rfl, rfl, rfl⟩ := h
    exact ⟨rfl, rfl⟩
  · obtain ⟨s0, xs, ⟨h0, h20⟩, hf, rfl, rfl, rfl, rfl⟩ := hR
    have hp1 : N.pa.length ≤ 1 := Nat.le_of_eq hpa
    have hpk : ∀ k, N.pa.length ≤ k + 1 := fun k => Nat.le_trans hp1 (Nat.le_add_left _ _)
    have hz : (10000 : Nat) ≤ sizeLine := by decide
    obtain ⟨b, ys, e, hl, hfy⟩ := other_ok false xs s0
    have hfy := hfy hf
    have e : (onceM xs s0).1 = packD b ys := e
    obtain ⟨p1, p2, p3⟩ := pack_el b ys
    have hlayO : (onceM xs s0).1.canLay0 = true := by
      rw [e]
      have : PyData.canLayAll0 ys = true := layAll fun y hy => (hfy y hy).lay
      rcases p1 with q | q <;> rw [q] <;> exact this
    refine ds_seq (d1_set (i := 2) scLawBent.nd rfl (.inl rfl) (de_cl1 G_law_otherwise hr (by rfl) (dap_cons (de_ptr (pv 0)) (da_cons (de_var (pv 1)) (da_cons de_int da_nil))) rfl ⟨s0, .tuple xs, xs, .inr rfl, by omega, fun x hx => by have := (hf x hx).1.sl; omega, rfl, rfl, rfl, rfl⟩) rfl) ?_
    refine ds_at (z1 := ⟨[.ptr 0, .d (.tuple xs), .d (onceM xs s0).1, .no], [some (dI (onceM xs s0).2)]⟩) rfl ?_
    have hc1 := @cutG_len xs (some 1) none
    have hc2 := @cutG_len xs none (some 1)
    refine ds_seq (d1_set (i := 3) scLawBent.nd rfl (.inl rfl) (de_lst (da_cons (de_var (pv 1)) (da_cons (de_var (pv 2)) (da_cons (de_frz (xs := xs) (de_listT (by rfl) B.list (de_var (pv 1))) rfl (hpk _)) (da_cons (de_slT (de_var (pv 1)) (do_some de_int) do_none) (da_cons (de_catT (de_var (pv 1)) (de_slT (de_var (pv 1)) do_none (do_some de_int)) (by omega)) (da_cons (de_cl1 G_law_thing hr (by rfl) (dap_cons (de_ptr (pv 0)) (da_cons de_int da_nil)) rfl ⟨3, (onceM xs s0).2, by decide, rfl, rfl, rfl, rfl⟩) da_nil))))))) rfl) ?_
    refine ds_at (z1 := ⟨[.ptr 0, .d (.tuple xs), .d (onceM xs s0).1, .ptr 2], [some (dI (thingM 3 (onceM xs s0).2).2), none, some [.tuple xs, (onceM xs s0).1, .list xs, .tuple (cutG xs (some 1) none), .tuple (xs ++ cutG xs none (some 1)), (thingM 3 (onceM xs s0).2).1]]⟩) rfl ?_
    by_cases q : notE (onceM xs s0).1 = true
    · have el : lastM xs s0 = otherM (tList (onceM xs s0).1) (elmD (onceM xs s0).1) (thingM 3 (onceM xs s0).2).2 := if_pos q
      have eb : bentL xs s0 = [.tuple xs, (onceM xs s0).1, .list xs, .tuple (cutG xs (some 1) none), .tuple (xs ++ cutG xs none (some 1)), (thingM 3 (onceM xs s0).2).1] ++ [(otherM (tList (onceM xs s0).1) (elmD (onceM xs s0).1) (thingM 3 (onceM xs s0).2).2).1] := by unfold bentL; rw [el]
      rw [eb, el]
      refine ds_last (d1_ret (de_catP (de_ptr (pv 3)) (de_lst (da_cons (de_cast (y := (otherM (tList (onceM xs s0).1) (elmD (onceM xs s0).1) (thingM 3 (onceM xs s0).2).2).1) (de_if (x := (otherM (tList (onceM xs s0).1) (elmD (onceM xs s0).1) (thingM 3 (onceM xs s0).2).2).1) (y := .none) (dt_cast (dt_notinD hr.units (de_var (pv 2)) (de_tup (da_cons (de_tup da_nil) (da_cons (de_frz (de_lst da_nil) rfl (hpk _)) da_nil))) hlayO (by decide) (by decide)) (show _ = true from q)) (fun hb => (de_cl1 G_law_otherwise hr (by rfl) (dap_cons (de_ptr (pv 0)) (da_cons (de_var (pv 2)) (da_cons de_int da_nil))) rfl ⟨(thingM 3 (onceM xs s0).2).2, (onceM xs s0).1, elmD (onceM xs s0).1, by rw [e, p2]; exact p1, by rw [e, p2]; omega, fun x hx => by
        rw [e, p2] at hx
        have := (hfy x hx).sl
        omega, rfl, rfl, rfl, rfl⟩)) fun hb => by cases hb) rfl) da_nil)) rfl rfl (by show 7 ≤ sizeLine; omega)) (rr1N rfl (Nat.le_of_ble_eq_true rfl) rfl))
    · have el : lastM xs s0 = ((onceM xs s0).1, (thingM 3 (onceM xs s0).2).2) := if_neg q
      have eb : bentL xs s0 = [.tuple xs, (onceM xs s0).1, .list xs, .tuple (cutG xs (some 1) none), .tuple (xs ++ cutG xs none (some 1)), (thingM 3 (onceM xs s0).2).1] ++ [(onceM xs s0).1] := by unfold bentL; rw [el]
      rw [eb, el]
      have q : notE (onceM xs s0).1 = false := by simpa using q
      refine ds_last (d1_ret (de_catP (de_ptr (pv 3)) (de_lst (da_cons (de_cast (y := (onceM xs s0).1) (de_if (x := .none) (y := (onceM xs s0).1) (dt_cast (dt_notinD hr.units (de_var (pv 2)) (de_tup (da_cons (de_tup da_nil) (da_cons (de_frz (de_lst da_nil) rfl (hpk _)) da_nil))) hlayO (by decide) (by decide)) (show _ = false from q)) (fun hb => by cases hb) fun hb => (de_var (pv 2))) rfl) da_nil)) rfl rfl (by show 7 ≤ sizeLine; omega)) (rr1N rfl (Nat.le_of_ble_eq_true rfl) rfl))
abbrev rl (o n : Int) : D := .tuple [.int o, .int n]
abbrev sLawRule : Stmt := topS 18
abbrev nmLawRule : List Str := ["draws", "own", "other"]
theorem scLawRule : FnScope nmLawRule ["draws"] (defScope sLawRule) := ⟨rfl, rfl, rfl, by decide +kernel, rfl, by decide +kernel, by decide +kernel⟩
def RLawRule : RT := fun as π r π' => ∃ (s : Int × Int), as = [] ∧ π = [dI s] ∧ π' = [dI (ruleS' s)] ∧ r = .d (rl (ruleM s).1 (ruleM s).2)
theorem ok_law_rule (B : Bt mg) (G_law_draw : OkD P w K mg base "_law_draw" 1 ["draws", "many"] RLawDraw) (G_law_common : OkD P w K mg base "_law_common" 1 ["one", "other"] RLawCommon) (G_law_of : OkD P w K mg base "_law_of" 2 ["draws", "some"] RLawOf) (F : FunAt K mg "_law_rule" sLawRule ["draws"]) : OkD P w K mg base "_law_rule" 3 ["draws"] RLawRule := by
  refine mk_def F scLawRule (fun as π r π' h => ?_) (fun f cdv A outer s H E N as π r π' hr hpa hR => ?_)
  · obtain ⟨s, rfl, rfl, rfl, rfl⟩ := h
    exact ⟨rfl, rfl⟩
  · obtain ⟨s, rfl, rfl, rfl, rfl⟩ := hR
    have h1 := drawV_low s 19 (by decide)
    have h2 := drawV_low (drawS s 19) 19 (by decide)
    have ho1 : -9 ≤ ruleO s := by unfold ruleO; omega
    have ho2 : ruleO s ≤ 9 := by unfold ruleO; omega
    refine ds_seq (d1_par (i := 1) (j := 2) rfl scLawRule.nd rfl rfl (by decide) rfl rfl (da_cons (de_sub (de_cl1 G_law_draw hr (by rfl) (dap_cons (de_ptr (pv 0)) (da_cons de_int da_nil)) rfl ⟨s, 19, rfl, by decide, by decide, rfl, rfl, rfl⟩) de_int) (da_cons (de_sub (de_cl1 G_law_draw hr (by rfl) (dap_cons (de_ptr (pv 0)) (da_cons de_int da_nil)) rfl ⟨drawS s 19, 19, rfl, by decide, by decide, rfl, rfl, rfl⟩) de_int) da_nil)) (by rfl) rfl) ?_
    refine ds_while (fun m z => ∃ n, z = ⟨[.ptr 0, .d (.int (ruleO s)), .d (.int n)], [some (dI (drawS (drawS s 19) 19))]⟩ ∧ ruleOk (ruleO s) m n = true ∧ ruleL (ruleO s) m n = ruleN s ∧ -9 ≤ n ∧ n ≤ 9) 18 (fun m z => match z.s with | [_, _, .d (.int n)] => !decide (commonM (ruleO s) n = 1) | _ => false) PassesOwn.never ⟨_, rfl, ruleOk_nine _ _ ho1 ho2 (by omega) (by omega), rfl, by omega, by omega⟩ ?_ ?_ ?_
    · rintro m _ ⟨n, rfl, _, _, h3, h4⟩
      exact dt_neI (de_clD G_law_common hr (by rfl) (da_cons (de_var (pv 1)) (da_cons (de_var (pv 2)) da_nil)) ⟨_, _, rfl, cmOk_nine _ _ ho1 ho2 h3 h4, rfl, rfl, rfl⟩) de_int
    · rintro m _ ⟨n, rfl, h5, h6, h3, h4⟩ ht
      have hd : ¬ commonM (ruleO s) n = 1 := by
        have ht : (!decide (commonM (ruleO s) n = 1)) = true := ht
        simpa using ht
      cases m with
      | zero => exact absurd (of_decide_eq_true h5) hd
      | succ m =>
        refine ds_seq (d1_set (i := 2) scLawRule.nd rfl (.inl rfl) (de_if (dt_lt (de_var (pv 2)) de_int) (fun hb => (de_add (de_var (pv 2)) de_int)) fun hb => (de_neg de_int)) rfl) ?_
        have e : (if decide (n < 9) = true then PyData.int (n + 1) else PyData.int (-9)) = .int (nextN n) := by
          unfold nextN
          by_cases h : n < 9
          · rw [if_pos h, if_pos (decide_eq_true h)]
          · rw [if_neg h, if_neg (by rw [decide_eq_false h]; decide)]
        refine ds_at (z1 := ⟨[.ptr 0, .d (.int (ruleO s)), .d (.int (nextN n))], [some (dI (drawS (drawS s 19) 19))]⟩) (by rw [← e]; rfl) ?_
        refine ds_nil ⟨m, Nat.lt_succ_self m, _, rfl, ?_, ?_, by unfold nextN; split <;> omega, by unfold nextN; split <;> omega⟩
        · have h5 : (if commonM (ruleO s) n = 1 then true else ruleOk (ruleO s) m (nextN n)) = true := h5
          rw [if_neg hd] at h5
          exact h5
        · have h6 : (if commonM (ruleO s) n = 1 then n else ruleL (ruleO s) m (nextN n)) = ruleN s := h6
          rw [if_neg hd] at h6
          exact h6
    · rintro m _ ⟨n, rfl, h5, h6, h3, h4⟩ ht
      have hd : commonM (ruleO s) n = 1 := by
        have ht : (!decide (commonM (ruleO s) n = 1)) = false := ht
        simpa using ht
      have e : ruleL (ruleO s) m n = n := by
        cases m with
        | zero => rfl
        | succ m =>
          show (if commonM (ruleO s) n = 1 then n else _) = n
          rw [if_pos hd]
      rw [e] at h6
      subst h6
      refine ds_last (d1_ret (de_cl1 (v := rl (ruleM s).1 (ruleM s).2) G_law_of hr (by rfl) (dap_cons (de_ptr (pv 0)) (da_cons (de_frz (de_lst (da_cons (de_tup (da_cons (de_var (pv 1)) (da_cons (de_var (pv 2)) da_nil))) (da_cons (de_tup (da_cons de_int (da_cons de_int da_nil))) (da_cons (de_tup (da_cons de_int (da_cons (de_neg de_int) da_nil))) (da_cons (de_tup (da_cons (de_neg de_int) (da_cons de_int da_nil))) (da_cons (de_tup (da_cons de_int (da_cons de_int da_nil))) (da_cons (de_tup (da_cons de_int (da_cons de_int da_nil))) (da_cons (de_tup (da_cons de_int (da_cons (de_neg de_int) da_nil))) (da_cons (de_tup (da_cons de_int (da_cons de_int da_nil))) (da_cons (de_tup (da_cons de_int (da_cons (de_neg de_int) da_nil))) (da_cons (de_tup (da_cons de_int (da_cons de_int da_nil))) da_nil))))))))))) rfl (Nat.le_of_eq hpa)) da_nil)) rfl ⟨drawS (drawS s 19) 19, (ruleList (ruleO s) (ruleN s)).map fun p => rl p.1 p.2, rfl, (by show 0 < 10; decide), (by show 10 ≤ 1000; decide), rfl, rfl, ?_⟩) (rr1 rfl))
      show Rr.d (rl (ruleM s).1 (ruleM s).2) = .d (((ruleList (ruleO s) (ruleN s)).map fun p => rl p.1 p.2).getD (drawV (drawS (drawS s 19) 19) 10).toNat .none)
      have h7 := drawV_low (drawS (drawS s 19) 19) 10 (by decide)
      have h8 : (drawV (drawS (drawS s 19) 19) 10).toNat < (ruleList (ruleO s) (ruleN s)).length := by show _ < 10; omega
      unfold ruleM
      rw [List.getD_eq_getElem?_getD, List.getD_eq_getElem?_getD, List.getElem?_map, List.getElem?_eq_getElem h8]
      rfl
abbrev sLawRing : Stmt := topS 19
abbrev nmLawRing : List Str := ["draws", "many", "far", "house"]
theorem scLawRing : FnScope nmLawRing ["draws", "many"] (defScope sLawRing) := ⟨rfl, rfl, rfl, by decide +kernel, rfl, by decide +kernel, by decide +kernel⟩
def RLawRing : RT := fun as π r π' => ∃ (s : Int × Int) (many : Nat), as = [.int many] ∧ many ≤ 1000 ∧ π = [dI s] ∧ π' = [dI (ringS s many)] ∧ r = .d (tI (ringM s many))
theorem ok_law_ring (B : Bt mg) (G_law_draw : OkD P w K mg base "_law_draw" 1 ["draws", "many"] RLawDraw) (F : FunAt K mg "_law_ring" sLawRing ["draws", "many"]) : OkD P w K mg base "_law_ring" 2 ["draws", "many"] RLawRing := by
  refine mk_def F scLawRing (fun as π r π' h => ?_) (fun f cdv A outer s H E N as π r π' hr hpa hR => ?_)
  · obtain ⟨s, many, rfl, _, rfl, rfl, rfl⟩ := h
    exact ⟨rfl, rfl⟩
  · obtain ⟨s, many, rfl, hm, rfl, rfl, rfl⟩ := hR
    have h1 := drawV_low s 4 (by decide)
    have hf := farM_bd s
    have hp1 : N.pa.length ≤ 1 := Nat.le_of_eq hpa
    refine ds_seq (d1_set (i := 2) scLawRing.nd rfl (.inr rfl) (de_ixPI (ns := [2, 7, 50, 10 ^ 30]) (de_lst (da_cons de_int (da_cons de_int (da_cons de_int (da_cons (de_pow de_int de_int ⟨by decide, by decide, by decide⟩) da_nil))))) (de_cl1 G_law_draw hr (by rfl) (dap_cons (de_ptr (pv 0)) (da_cons de_int da_nil)) rfl ⟨s, 4, rfl, by decide, by decide, rfl, rfl, rfl⟩) rfl h1.1 h1.2) rfl) ?_
    refine ds_wk (s' := [.ptr 0, .d (.int many), .d (.int (farM s)), .no]) (o' := [some (dI (drawS s 4))]) (.keep (.keep (.keep (.keep .nil)))) rfl hp1 rfl ?_
    exact ds_last (d1_ret (de_tupP (xs := lI (ringM s many)) (by rfl) B.tuple (de_lcSI (own := [("house", 3)]) (O := fun k => [some (dI (drawN (drawS s 4) (2 * farM s + 1) k))]) rfl scLawRing.nd (di_range1 (by rfl) B.range (de_var (pv 1)) (by omega) (by omega)) it_rng (blkOk_by (N := nmLawRing) (sc := defScope sLawRing) (by decide +kernel)) (fun _ _ _ _ _ => pg_name (i := 3) scLawRing.nd rfl (.inl rfl)) (gd_name 3) (by decide) (fun _ _ => trivial) (small1000 (by omega)) rfl (fun _ => rfl)
      (fun k hk _ _ _ _ _ => de_sub (de_cl1 G_law_draw hr (by rfl) (dap_cons (de_ptr (pv 0)) (da_cons (de_add (de_mul de_int (de_var (pv 2)) (.inl ⟨by decide, by decide⟩)) de_int) da_nil)) rfl ⟨drawN (drawS s 4) (2 * farM s + 1) k, 2 * farM s + 1, rfl, by omega, by omega, rfl, rfl, rfl⟩) (de_var (pv 2))) (fun k hk => rfl)) rfl) (rr1 rfl))
abbrev sLawTruly : Stmt := topS 20
abbrev nmLawTruly : List Str := ["found", "due"]
theorem scLawTruly : FnScope nmLawTruly ["found", "due"] (defScope sLawTruly) := ⟨rfl, rfl, rfl, by decide +kernel, rfl, by decide +kernel, by decide +kernel⟩
def RLawTruly : RT := fun as π r π' => ∃ (a b : Bool), as = [.bool a, .bool b] ∧ π = [] ∧ π' = [] ∧ r = .d (.bool (PyData.eqv (.bool a) (.bool b)))
theorem ok_law_truly (B : Bt mg) (F : FunAt K mg "_law_truly" sLawTruly ["found", "due"]) : OkD P w K mg base "_law_truly" 1 ["found", "due"] RLawTruly := by
  refine mk_def F scLawTruly (fun as π r π' h => ?_) (fun f cdv A outer s H E N as π r π' hr hpa hR => ?_)
  · obtain ⟨a, b, rfl, rfl, rfl, rfl⟩ := h
    exact ⟨rfl, rfl⟩
  · obtain ⟨a, b, rfl, rfl, rfl, rfl⟩ := hR
    exact ds_last (d1_ret (de_and (op2 := .none) (de_isi (T := "bool") (d := .bool a) (t := true) (show kitB "bool" "bool" = some true by decide +kernel) (by rfl) B.isinstance (by rfl) B.bool (by rfl) (de_var (pv 0))) fun hb => (de_one (de_eq hr.units (de_var (pv 0)) (de_var (pv 1)) (by simp [PyData.depth])))) rr0)
abbrev sLaw : Stmt := topS 26
abbrev nmLaw : List Str := ["script", "k", "draws", "rule", "ring", "pair", "edges", "thing", "at", "part"]
theorem scLaw : FnScope nmLaw ["script"] (defScope sLaw) := ⟨rfl, rfl, rfl, by decide +kernel, rfl, by decide +kernel, by decide +kernel⟩
theorem de_cl1N {X : Cx} {N : EN} {z z1 : Z} {pos p : Pos} {e : Expr} {es : List Expr} {k : Nat} {ps : List Str} {x : Str} {R : RT} {ds ys : List D} {j k' : Nat} {xs xs' : List D} (G : OkD X.prog X.w X.K X.mg X.base x k ps R) (hr : Room k' X.A) (hg : Gl X x) (ha : DAp X N z (e :: es) j ds z1) (eo : z1.o[j]? = some (some xs)) (hR : R ds [xs] (.new ys) [xs']) (hk : k ≤ k' := by decide)
    (hdb : (x == ("__debug__" : Str)) = false := by decide) (he : starEach (e :: es) X.env = (false, eval e X.env) :: starEach es X.env := by rfl) (hpl : (backTo pos (starEach es X.env)).any (·.1) = false := by rfl) :
    DE X N z (.Call (.Name x p) (e :: es) [] pos) (.ptr (z1.o.set j (some xs')).length) ⟨z1.s, z1.o.set j (some xs') ++ [some ys]⟩ := by
  obtain ⟨f, fd, G, hm, hkp, hb, _⟩ := G.ex
  exact de_call1 (r := .new ys) G (hr.mono hk) hg hm hkp hb pass0 ha eo hR hdb he hpl
theorem lenD_ln (d : D) : lenD d = lnD d := by cases d <;> rfl
theorem eqv_same (b : Bool) : PyData.eqv (.bool b) (.bool b) = true := by cases b <;> rfl
theorem getD_mem {xs : List D} {k : Nat} (h : k < xs.length) : xs.getD k .none ∈ xs := by
  rw [List.getD_eq_getElem?_getD, List.getElem?_eq_getElem h]
  exact List.getElem_mem _
theorem fine_ints (r : List Int) : ∀ x ∈ lI r, Fine x ∧ tStr x = false ∧ tTup x = false := fun x hx => by
  obtain ⟨i, _, rfl⟩ := List.mem_map.mp hx
  exact ⟨⟨rfl, Nat.zero_le _⟩, rfl, rfl⟩
theorem fine_none : Fine .none ∧ tStr .none = false ∧ tTup .none = false := ⟨⟨rfl, Nat.zero_le _⟩, rfl, rfl⟩
theorem ln_app {xs ys : List D} (h : ∀ d ∈ xs, lnD d ≤ 1000) (h2 : ∀ d ∈ ys, lnD d ≤ 1000) : ∀ d ∈ xs ++ ys, lnD d ≤ 1000 := fun d hd => by
  rcases List.mem_append.mp hd with q | q
  · exact h d q
  · exact h2 d q
theorem ln_all {xs : List D} (h : (xs.all fun d => decide (lnD d ≤ 1000)) = true) : ∀ d ∈ xs, lnD d ≤ 1000 := fun d hd => of_decide_eq_true (List.all_eq_true.mp h d hd)
theorem flat_len : ∀ (m : Nat) (xs : List D), (List.replicate m xs).flatten.length = m * xs.length
  | 0, xs => by simp
  | m + 1, xs => by
    rw [List.replicate_succ, List.flatten_cons, List.length_append, flat_len m xs, Nat.succ_mul]
    omega
abbrev ringX (ring : List Int) : List D := [.tuple (cutG (List.replicate 9 (lI ring)).flatten none (some 9)), .tuple (cutG (List.replicate 10 (lI ring)).flatten none (some 10)), .tuple [], .tuple [.int (10 ^ 39)], .tuple [.none], .tuple [.bool true]]
abbrev partX (ring : List Int) (part : List D) : List D := [tI ring, .tuple (part ++ part), .tuple [.none], .tuple [.none, .none], .tuple [.none, .bool true], .tuple part.reverse]
theorem bent_l7 (xs : List D) (s : Int × Int) : (bentL xs s).length = 7 := rfl
theorem ok_law {f : Addr} {fd : FuncData} (B : Bt mg) (G_law_draws : OkD P w K mg base "_law_draws" 1 ["script", "k"] RLawDraws) (G_law_draw : OkD P w K mg base "_law_draw" 1 ["draws", "many"] RLawDraw) (G_law_rule : OkD P w K mg base "_law_rule" 3 ["draws"] RLawRule) (G_law_ring : OkD P w K mg base "_law_ring" 2 ["draws", "many"] RLawRing) (G_law_bent : OkD P w K mg base "_law_bent" 8 ["draws", "thing"] RLawBent) (G_law_truly : OkD P w K mg base "_law_truly" 1 ["found", "due"] RLawTruly) (Gis_rule : OkD P w K mg base "is_rule" 3 ["thing"] RIsRule) (G_law_is_rule : OkD P w K mg base "_law_is_rule" 2 ["thing"] RLawIsRule) (Gis_ring : OkD P w K mg base "is_ring" 2 ["thing"] RIsRing) (G_law_is_ring : OkD P w K mg base "_law_is_ring" 2 ["thing"] RLawIsRing) (Gis_part : OkD P w K mg base "is_part" 2 ["thing"] RIsPart) (G_law_is_part : OkD P w K mg base "_law_is_part" 2 ["thing"] RLawIsPart)
    (F : Fun K "law" "law" sLaw f fd) : FnOk P w K mg base CX0 9 f fd ["script"] (spG K RLaw) := by
  refine mk_fn F scLaw (fun as π r π' h => ?_) (fun cdv A outer s H E N as π r π' hr hpa hR => ?_)
  · obtain ⟨ns, rfl, _, rfl, rfl, rfl⟩ := h
    exact ⟨rfl, rfl⟩
  · obtain ⟨ns, rfl, hns, rfl, rfl, rfl⟩ := hR
    have hp0 : N.pa.length ≤ 0 := Nat.le_of_eq hpa
    have hpk : ∀ k, N.pa.length ≤ k := fun k => Nat.le_trans hp0 (Nat.zero_le _)
    have hz : (10000 : Nat) ≤ sizeLine := by decide
    refine ds_for (fun k z => ∃ s1 s2 s3 s4 s5 s6 s7 s8 s9, z = ⟨[.d (.list (lI ns)), s1, s2, s3, s4, s5, s6, s7, s8, s9], []⟩) PassesOwn.never rfl (di_range1 (by rfl) B.range (de_max2 rfl (by rfl) B.max de_int (de_min2 rfl (by rfl) B.min de_int (de_lenL (by rfl) B.len (de_var (pv 0))))) (by omega) (by omega)) it_rng0 (pg_name (i := 1) scLaw.nd rfl (.inl rfl)) (gd_name 1) (fun _ _ => trivial) ⟨_, _, _, _, _, _, _, _, _, rfl⟩ ?_ ?_
    · rintro k _ hk ⟨s1, s2, s3, s4, s5, s6, s7, s8, s9, rfl⟩
      refine ds_seq (d1_set (i := 2) scLaw.nd rfl (.inl rfl) (de_clN G_law_draws hr (by rfl) (da_cons (de_var (pv 0)) (da_cons (de_var (pv 1)) da_nil)) ⟨ns, (k : Int), rfl, by omega, rfl, rfl, rfl⟩) rfl) ?_
      refine ds_wk (s' := [.d (.list (lI ns)), .d (.int k), .ptr 0, .no, .no, .no, .no, .no, .no, .no]) (o' := [some (dI (drawsM ns k))]) (.keep (.keep (.keep (.drop (.drop (.drop (.drop (.drop (.drop (.drop .nil)))))))))) rfl (hpk _) rfl ?_
      generalize drawsM ns k = d0
      have h9 := drawV_low (ruleS' d0) 9 (by decide)
      obtain ⟨m9, e9⟩ : ∃ m9 : Nat, 1 + drawV (ruleS' d0) 9 = (m9 : Int) := ⟨(1 + drawV (ruleS' d0) 9).toNat, by omega⟩
      have hrl := ringM_len (drawS (ruleS' d0) 9) m9
      refine ds_seq (d1_par (i := 3) (j := 4) rfl scLaw.nd rfl rfl (by decide) rfl rfl (da_cons (de_cl1 G_law_rule hr (by rfl) (dap_cons (de_ptr (pv 2)) da_nil) rfl ⟨d0, rfl, rfl, rfl, rfl⟩) (da_cons (de_cl1 G_law_ring hr (by rfl) (dap_cons (de_ptr (pv 2)) (da_cons (de_cast (y := .int (m9 : Int)) (de_add de_int (de_cl1 G_law_draw hr (by rfl) (dap_cons (de_ptr (pv 2)) (da_cons de_int da_nil)) rfl ⟨ruleS' d0, 9, rfl, by decide, by decide, rfl, rfl, rfl⟩)) (congrArg PyData.int e9)) da_nil)) rfl ⟨drawS (ruleS' d0) 9, m9, rfl, by omega, rfl, rfl, rfl⟩) da_nil)) (by rfl) rfl) ?_
      refine ds_at (z1 := ⟨[.d (.list (lI ns)), .d (.int k), .ptr 0, .d (rl (ruleM d0).1 (ruleM d0).2), .d (tI (ringM (drawS (ruleS' d0) 9) m9)), .no, .no, .no, .no, .no], [some (dI (ringS (drawS (ruleS' d0) 9) m9))]⟩) rfl ?_
      generalize ringM (drawS (ruleS' d0) 9) m9 = ring at hrl
      generalize ringS (drawS (ruleS' d0) 9) m9 = d1
      generalize (ruleM d0).1 = ra
      generalize (ruleM d0).2 = rb
      have hr0 : 0 < ring.length := by omega
      have hr9 : ring.length ≤ 9 := by omega
      have el : ((lI ring).length : Int) = ring.length := by simp
      refine ds_seq (d1_set (i := 5) scLaw.nd rfl (.inl rfl) (de_tup (da_cons (de_sub (de_cl1 G_law_draw hr (by rfl) (dap_cons (de_ptr (pv 2)) (da_cons de_int da_nil)) rfl ⟨d1, 25, rfl, by decide, by decide, rfl, rfl, rfl⟩) de_int) (da_cons (de_sub (de_cl1 G_law_draw hr (by rfl) (dap_cons (de_ptr (pv 2)) (da_cons de_int da_nil)) rfl ⟨drawS d1 25, 25, rfl, by decide, by decide, rfl, rfl, rfl⟩) de_int) da_nil))) rfl) ?_
      refine ds_at (z1 := ⟨[.d (.list (lI ns)), .d (.int k), .ptr 0, .d (rl ra rb), .d (tI ring), .d (rl (drawV d1 25 - 12) (drawV (drawS d1 25) 25 - 12)), .no, .no, .no, .no], [some (dI (drawS (drawS d1 25) 25))]⟩) rfl ?_
      generalize drawV d1 25 - 12 = pa
      generalize drawV (drawS d1 25) 25 - 12 = pb
      generalize drawS (drawS d1 25) 25 = d2
      refine ds_seq (d1_set (i := 6) scLaw.nd rfl (.inl rfl) (de_lst (da_cons (de_tup (da_cons de_int (da_cons (de_neg de_int) da_nil))) (da_cons (de_tup (da_cons de_int (da_cons de_int da_nil))) (da_cons (de_tup (da_cons de_int (da_cons (de_neg de_int) da_nil))) (da_cons (de_tup (da_cons de_int (da_cons de_int da_nil))) (da_cons (de_tup (da_cons de_int (da_cons de_int da_nil))) (da_cons (de_tup (da_cons (de_neg de_int) (da_cons de_int da_nil))) (da_cons (de_tup (da_cons de_int (da_cons de_int da_nil))) (da_cons (de_tup (da_cons de_int (da_cons de_int da_nil))) (da_cons (de_tup (da_cons de_int (da_cons de_bl da_nil))) (da_cons (de_tup (da_cons de_int da_nil)) (da_cons (de_tup (da_cons de_int (da_cons de_int (da_cons de_int da_nil)))) (da_cons (de_var (pv 5)) da_nil))))))))))))) rfl) ?_
      refine ds_at (z1 := ⟨[.d (.list (lI ns)), .d (.int k), .ptr 0, .d (rl ra rb), .d (tI ring), .d (rl pa pb), .ptr 1, .no, .no, .no], [some (dI d2), some [rl 9 (-8), rl 10 1, rl 1 (-10), rl 0 0, rl 0 1, rl (-1) 0, rl 0 2, rl 6 9, .tuple [.int 1, .bool true], .tuple [.int 1], tI [1, 1, 1], rl pa pb]]⟩) rfl ?_
      have hE : ∀ d ∈ ([rl 9 (-8), rl 10 1, rl 1 (-10), rl 0 0, rl 0 1, rl (-1) 0, rl 0 2, rl 6 9, .tuple [.int 1, .bool true], .tuple [.int 1], tI [1, 1, 1], rl pa pb] : List D), lnD d ≤ 1000 := ln_all rfl
      have hEl : ([rl 9 (-8), rl 10 1, rl 1 (-10), rl 0 0, rl 0 1, rl (-1) 0, rl 0 2, rl 6 9, .tuple [.int 1, .bool true], .tuple [.int 1], tI [1, 1, 1], rl pa pb] : List D).length = 12 := rfl
      generalize ([rl 9 (-8), rl 10 1, rl 1 (-10), rl 0 0, rl 0 1, rl (-1) 0, rl 0 2, rl 6 9, .tuple [.int 1, .bool true], .tuple [.int 1], tI [1, 1, 1], rl pa pb] : List D) = edges at hE hEl
      have hL1 := ln_app (bent_len (xs := [.int ra, .int rb]) (s := d2) (Nat.le_of_ble_eq_true rfl)) hE
      refine ds_for (fun j z => ∃ sl, z = ⟨[.d (.list (lI ns)), .d (.int k), .ptr 0, .d (rl ra rb), .d (tI ring), .d (rl pa pb), .ptr 1, sl, .no, .no], [some (dI (lastM [.int ra, .int rb] d2).2), some edges, some (bentL [.int ra, .int rb] d2), none]⟩) PassesOwn.never rfl (di_list (xs := bentL [.int ra, .int rb] d2 ++ edges) (de_frz (xs := bentL [.int ra, .int rb] d2 ++ edges) (de_catP (de_cl1N G_law_bent hr (by rfl) (dap_cons (de_ptr (pv 2)) (da_cons (de_var (pv 3)) da_nil)) rfl ⟨d2, [.int ra, .int rb], ⟨Nat.le_of_ble_eq_true rfl, Nat.le_of_ble_eq_true rfl⟩, fine_ints [ra, rb], rfl, rfl, rfl, rfl⟩) (de_ptr (pv 6)) rfl rfl (by rw [bent_l7, hEl]; omega)) rfl (hpk _))) it_D (pg_name (i := 7) scLaw.nd rfl (.inl rfl)) (gd_name 7) (fun _ _ => trivial) ⟨_, rfl⟩ ?_ ?_
      · rintro j _ hj ⟨sl, rfl⟩
        have hd := hL1 _ (getD_mem hj)
        rw [← lenD_ln] at hd
        refine ds_at (z1 := ⟨[.d (.list (lI ns)), .d (.int k), .ptr 0, .d (rl ra rb), .d (tI ring), .d (rl pa pb), .ptr 1, .d ((bentL [.int ra, .int rb] d2 ++ edges).getD j .none), .no, .no], [some (dI (lastM [.int ra, .int rb] d2).2), some edges, some (bentL [.int ra, .int rb] d2), none]⟩) rfl ?_
        generalize (bentL [.int ra, .int rb] d2 ++ edges).getD j .none = d at hd
        refine ds_ifR (dt_cast (dt_not (dt_val (de_clD G_law_truly hr (by rfl) (da_cons (de_clD Gis_rule hr (by rfl) (da_cons (de_var (pv 7)) da_nil) ⟨d, rfl, hd, rfl, rfl, rfl⟩) (da_cons (de_clD G_law_is_rule hr (by rfl) (da_cons (de_var (pv 7)) da_nil) ⟨d, rfl, hd, rfl, rfl, rfl⟩) da_nil)) ⟨_, _, rfl, rfl, rfl, rfl⟩))) (show (!PyData.eqv (.bool (ruleB d)) (.bool (ruleB d))) = false by rw [eqv_same]; rfl)) (fun hb => by cases hb) (fun hb => ?_)
        exact ds_nil ⟨_, rfl⟩
      rintro _ ⟨sl, rfl⟩
      refine ds_wk (s' := [.d (.list (lI ns)), .d (.int k), .ptr 0, .no, .d (tI ring), .no, .no, .no, .no, .no]) (o' := [some (dI (lastM [.int ra, .int rb] d2).2)]) (.keep (.keep (.keep (.drop (.keep (.drop (.drop (.drop (.drop (.drop .nil)))))))))) rfl (hpk _) rfl ?_
      generalize (lastM [.int ra, .int rb] d2).2 = d3
      have hL2 : ∀ d ∈ bentL (lI ring) d3 ++ (ringX ring), lnD d ≤ 1000 := ln_app (bent_len (by rw [lI_len]; omega)) (fun d hd => by
        have c1 := @cutG_len (List.replicate 9 (lI ring)).flatten none (some 9)
        have c2 := @cutG_len (List.replicate 10 (lI ring)).flatten none (some 10)
        rw [flat_len, lI_len] at c1 c2
        simp only [List.mem_cons, List.not_mem_nil, or_false] at hd
        rcases hd with rfl | rfl | rfl | rfl | rfl | rfl
        · show (cutG _ _ _).length ≤ 1000; omega
        · show (cutG _ _ _).length ≤ 1000; omega
        · exact Nat.zero_le _
        · show 1 ≤ 1000; decide
        · show 1 ≤ 1000; decide
        · show 1 ≤ 1000; decide)
      have hne : lI ring ≠ [] := fun q => by
        have h : (lI ring).length = 0 := by rw [q]; rfl
        rw [lI_len] at h
        omega
      refine ds_for (fun j z => ∃ sl, z = ⟨[.d (.list (lI ns)), .d (.int k), .ptr 0, .no, .d (tI ring), .no, .no, sl, .no, .no], [some (dI (lastM (lI ring) d3).2), some (bentL (lI ring) d3), some (ringX ring), none]⟩) PassesOwn.never rfl (di_list (de_frz (xs := bentL (lI ring) d3 ++ (ringX ring)) (de_catP (de_cl1N G_law_bent hr (by rfl) (dap_cons (de_ptr (pv 2)) (da_cons (de_var (pv 4)) da_nil)) rfl ⟨d3, lI ring, by rw [lI_len]; omega, fine_ints ring, rfl, rfl, rfl, rfl⟩) (de_lst (da_cons (de_slT (de_repT (m := 9) (de_var (pv 4)) de_int hne (by decide) (by decide) (by rw [lI_len]; omega)) do_none (do_some de_int)) (da_cons (de_slT (de_repT (m := 10) (de_var (pv 4)) de_int hne (by decide) (by decide) (by rw [lI_len]; omega)) do_none (do_some de_int)) (da_cons (de_tup da_nil) (da_cons (de_tup (da_cons (de_pow de_int de_int ⟨by decide, by decide, by decide⟩) da_nil)) (da_cons (de_tup (da_cons de_non da_nil)) (da_cons (de_tup (da_cons de_bl da_nil)) da_nil))))))) rfl rfl (by show 7 + 6 ≤ sizeLine; omega)) rfl (hpk _))) it_D (pg_name (i := 7) scLaw.nd rfl (.inl rfl)) (gd_name 7) (fun _ _ => trivial) ⟨_, rfl⟩ ?_ ?_
      · rintro j _ hj ⟨sl, rfl⟩
        have hd := hL2 _ (getD_mem hj)
        rw [← lenD_ln] at hd
        refine ds_at (z1 := ⟨[.d (.list (lI ns)), .d (.int k), .ptr 0, .no, .d (tI ring), .no, .no, .d ((bentL (lI ring) d3 ++ (ringX ring)).getD j .none), .no, .no], [some (dI (lastM (lI ring) d3).2), some (bentL (lI ring) d3), some (ringX ring), none]⟩) rfl ?_
        generalize (bentL (lI ring) d3 ++ (ringX ring)).getD j .none = d at hd
        refine ds_ifR (dt_cast (dt_not (dt_val (de_clD G_law_truly hr (by rfl) (da_cons (de_clD Gis_ring hr (by rfl) (da_cons (de_var (pv 7)) da_nil) ⟨d, rfl, hd, rfl, rfl, rfl⟩) (da_cons (de_clD G_law_is_ring hr (by rfl) (da_cons (de_var (pv 7)) da_nil) ⟨d, rfl, hd, rfl, rfl, rfl⟩) da_nil)) ⟨_, _, rfl, rfl, rfl, rfl⟩))) (show (!PyData.eqv (.bool (ringB d)) (.bool (ringB d))) = false by rw [eqv_same]; rfl)) (fun hb => by cases hb) (fun hb => ?_)
        exact ds_nil ⟨_, rfl⟩
      rintro _ ⟨sl, rfl⟩
      refine ds_wk (s' := [.d (.list (lI ns)), .d (.int k), .ptr 0, .no, .d (tI ring), .no, .no, .no, .no, .no]) (o' := [some (dI (lastM (lI ring) d3).2)]) (.keep (.keep (.keep (.keep (.keep (.keep (.keep (.drop (.keep (.keep .nil)))))))))) rfl (hpk _) rfl ?_
      generalize (lastM (lI ring) d3).2 = d4
      have hva := drawV_low d4 ring.length (by omega)
      refine ds_seq (d1_set (i := 8) scLaw.nd rfl (.inl rfl) (de_cl1 G_law_draw hr (by rfl) (dap_cons (de_ptr (pv 2)) (da_cons (de_cast (de_lenT (by rfl) B.len (de_var (pv 4))) (congrArg PyData.int el)) da_nil)) rfl ⟨d4, ring.length, rfl, by omega, by omega, rfl, rfl, rfl⟩) rfl) ?_
      refine ds_at (z1 := ⟨[.d (.list (lI ns)), .d (.int k), .ptr 0, .no, .d (tI ring), .no, .no, .no, .d (.int (drawV d4 ring.length)), .no], [some (dI (drawS d4 ring.length))]⟩) rfl ?_
      generalize drawV d4 ring.length = va at hva
      generalize drawS d4 ring.length = d5
      have c1 := @cutG_len (lI ring) none (some va)
      have c2 := @cutG_len (lI ring) (some (va + 1)) none
      rw [lI_len] at c1 c2
      refine ds_seq (d1_set (i := 9) scLaw.nd rfl (.inl rfl) (de_catT (de_catT (de_slT (de_var (pv 4)) do_none (do_some (de_var (pv 8)))) (de_tup (da_cons de_non da_nil)) (Nat.le_trans (Nat.add_le_add cutG_len (Nat.le_refl 1)) (by rw [lI_len]; omega))) (de_slT (de_var (pv 4)) (do_some (de_add (de_var (pv 8)) de_int)) do_none) (by rw [List.length_append]; exact Nat.le_trans (Nat.add_le_add (Nat.add_le_add cutG_len (Nat.le_refl 1)) cutG_len) (by rw [lI_len]; omega))) rfl) ?_
      have hfp : ∀ x ∈ cutG (lI ring) none (some va) ++ [.none] ++ cutG (lI ring) (some (va + 1)) none, Fine x ∧ tStr x = false ∧ tTup x = false := fun x hx => by
        rcases List.mem_append.mp hx with q | q
        · rcases List.mem_append.mp q with q | q
          · exact fine_ints ring x (cutG_mem q)
          · rw [List.mem_singleton] at q
            subst q
            exact fine_none
        · exact fine_ints ring x (cutG_mem q)
      have hpl : 0 < (cutG (lI ring) none (some va) ++ [PyData.none] ++ cutG (lI ring) (some (va + 1)) none).length ∧ (cutG (lI ring) none (some va) ++ [PyData.none] ++ cutG (lI ring) (some (va + 1)) none).length ≤ 20 := by
        rw [List.length_append, List.length_append, List.length_singleton]
        omega
      refine ds_at (z1 := ⟨[.d (.list (lI ns)), .d (.int k), .ptr 0, .no, .d (tI ring), .no, .no, .no, .d (.int va), .d (.tuple (cutG (lI ring) none (some va) ++ [.none] ++ cutG (lI ring) (some (va + 1)) none))], [some (dI d5)]⟩) rfl ?_
      generalize cutG (lI ring) none (some va) ++ [PyData.none] ++ cutG (lI ring) (some (va + 1)) none = part at hfp hpl
      have hL3 : ∀ d ∈ bentL part d5 ++ (partX ring part), lnD d ≤ 1000 := ln_app (bent_len (by omega)) (fun d hd => by
        simp only [List.mem_cons, List.not_mem_nil, or_false] at hd
        rcases hd with rfl | rfl | rfl | rfl | rfl | rfl
        · show (lI ring).length ≤ 1000; rw [lI_len]; omega
        · show (part ++ part).length ≤ 1000; rw [List.length_append]; omega
        · show 1 ≤ 1000; decide
        · show 2 ≤ 1000; decide
        · show 2 ≤ 1000; decide
        · show part.reverse.length ≤ 1000; rw [List.length_reverse]; omega)
      refine ds_for (fun j z => ∃ sl, z = ⟨[.d (.list (lI ns)), .d (.int k), .ptr 0, .no, .d (tI ring), .no, .no, sl, .d (.int va), .d (.tuple part)], [some (dI (lastM part d5).2), some (bentL part d5), some (partX ring part), none]⟩) PassesOwn.never rfl (di_list (de_frz (xs := bentL part d5 ++ (partX ring part)) (de_catP (de_cl1N G_law_bent hr (by rfl) (dap_cons (de_ptr (pv 2)) (da_cons (de_var (pv 9)) da_nil)) rfl ⟨d5, part, hpl, hfp, rfl, rfl, rfl, rfl⟩) (de_lst (da_cons (de_var (pv 4)) (da_cons (de_catT (de_var (pv 9)) (de_var (pv 9)) (by omega)) (da_cons (de_tup (da_cons de_non da_nil)) (da_cons (de_tup (da_cons de_non (da_cons de_non da_nil))) (da_cons (de_tup (da_cons de_non (da_cons de_bl da_nil))) (da_cons (de_revT (de_var (pv 9))) da_nil))))))) rfl rfl (by show 7 + 6 ≤ sizeLine; omega)) rfl (hpk _))) it_D (pg_name (i := 7) scLaw.nd rfl (.inl rfl)) (gd_name 7) (fun _ _ => trivial) ⟨_, rfl⟩ ?_ ?_
      · rintro j _ hj ⟨sl, rfl⟩
        have hd := hL3 _ (getD_mem hj)
        rw [← lenD_ln] at hd
        refine ds_at (z1 := ⟨[.d (.list (lI ns)), .d (.int k), .ptr 0, .no, .d (tI ring), .no, .no, .d ((bentL part d5 ++ (partX ring part)).getD j .none), .d (.int va), .d (.tuple part)], [some (dI (lastM part d5).2), some (bentL part d5), some (partX ring part), none]⟩) rfl ?_
        generalize (bentL part d5 ++ (partX ring part)).getD j .none = d at hd
        refine ds_ifR (dt_cast (dt_not (dt_val (de_clD G_law_truly hr (by rfl) (da_cons (de_clD Gis_part hr (by rfl) (da_cons (de_var (pv 7)) da_nil) ⟨d, rfl, hd, rfl, rfl, rfl⟩) (da_cons (de_clD G_law_is_part hr (by rfl) (da_cons (de_var (pv 7)) da_nil) ⟨d, rfl, hd, rfl, rfl, rfl⟩) da_nil)) ⟨_, _, rfl, rfl, rfl, rfl⟩))) (show (!PyData.eqv (.bool (partB d)) (.bool (partB d))) = false by rw [eqv_same]; rfl)) (fun hb => by cases hb) (fun hb => ?_)
        exact ds_nil ⟨_, rfl⟩
      rintro _ ⟨sl, rfl⟩
      refine ds_wk (s' := [.d (.list (lI ns)), .no, .no, .no, .no, .no, .no, .no, .no, .no]) (o' := []) (.keep (.drop (.drop (.drop (.drop (.drop (.drop (.drop (.drop (.drop .nil)))))))))) rfl hp0 rfl ?_
      exact ds_nil ⟨_, _, _, _, _, _, _, _, _, rfl⟩
    · rintro _ ⟨s1, s2, s3, s4, s5, s6, s7, s8, s9, rfl⟩
      exact ds_last (d1_ret de_bl rr0)
end
theorem all_mk {l : PySem.W.OpenLaw} {w : World} {K : PySem.W.Frag} {h : Heap} {mg : Str → Option Value} {fa : Addr} (X : K.In h) (G : h.Ns mainGlobals mg) (hfa : mg "law" = some (.ref fa))
    (Tcommon : Raw K "common" (topS 5))
    (Tis_whole : Raw K "is_whole" (topS 4))
    (Tis_between : Raw K "is_between" (topS 3))
    (T_law_is_whole : Raw K "_law_is_whole" (topS 11))
    (T_law_is_number : Raw K "_law_is_number" (topS 21))
    (Tis_rule : Raw K "is_rule" (topS 6))
    (T_law_common : Raw K "_law_common" (topS 12))
    (T_law_is_rule : Raw K "_law_is_rule" (topS 22))
    (Tis_ring : Raw K "is_ring" (topS 7))
    (T_law_is_ring : Raw K "_law_is_ring" (topS 23))
    (Tis_part : Raw K "is_part" (topS 9))
    (T_law_is_part : Raw K "_law_is_part" (topS 24))
    (T_law_draw : Raw K "_law_draw" (topS 13))
    (T_law_draws : Raw K "_law_draws" (topS 17))
    (T_law_of : Raw K "_law_of" (topS 14))
    (T_law_thing : Raw K "_law_thing" (topS 15))
    (T_law_otherwise : Raw K "_law_otherwise" (topS 16))
    (T_law_bent : Raw K "_law_bent" (topS 25))
    (T_law_rule : Raw K "_law_rule" (topS 18))
    (T_law_ring : Raw K "_law_ring" (topS 19))
    (T_law_truly : Raw K "_law_truly" (topS 20))
    (Tlaw : Raw K "law" (topS 26))
    (zlen : PySem.W.nsIn K mainGlobals "len" = some none)
    (zrange : PySem.W.nsIn K mainGlobals "range" = some none)
    (zenumerate : PySem.W.nsIn K mainGlobals "enumerate" = some none)
    (zzip : PySem.W.nsIn K mainGlobals "zip" = some none)
    (ztuple : PySem.W.nsIn K mainGlobals "tuple" = some none)
    (zlist : PySem.W.nsIn K mainGlobals "list" = some none)
    (zsum : PySem.W.nsIn K mainGlobals "sum" = some none)
    (zabs : PySem.W.nsIn K mainGlobals "abs" = some none)
    (zmax : PySem.W.nsIn K mainGlobals "max" = some none)
    (zmin : PySem.W.nsIn K mainGlobals "min" = some none)
    (zint : PySem.W.nsIn K mainGlobals "int" = some none)
    (zall : PySem.W.nsIn K mainGlobals "all" = some none)
    (zany : PySem.W.nsIn K mainGlobals "any" = some none)
    (zisinstance : PySem.W.nsIn K mainGlobals "isinstance" = some none)
    (zbool : PySem.W.nsIn K mainGlobals "bool" = some none)
    (zstr : PySem.W.nsIn K mainGlobals "str" = some none)
    (zsorted : PySem.W.nsIn K mainGlobals "sorted" = some none)
    (zdict : PySem.W.nsIn K mainGlobals "dict" = some none)
    {tMOST_OWN : Nat} (yMOST_OWN : PySem.W.nsIn K mainGlobals "MOST_OWN" = some (some (.int 9 tMOST_OWN)))
    {tMOST_HOUSES : Nat} (yMOST_HOUSES : PySem.W.nsIn K mainGlobals "MOST_HOUSES" = some (some (.int 9 tMOST_HOUSES)))
    : ∃ fd : FuncData, (∀ (s : Shared) (v : Value), BindsTo s fd ⟨[v], []⟩ [("script", v)]) ∧ ∀ base : Heap, K.In base → base.Ns mainGlobals mg → FnOk l.prog w K mg base CX0 9 fa fd ["script"] (spG K RLaw) := by
  have B : Bt mg := ⟨PySem.W.mg_none_of X G zlen, PySem.W.mg_none_of X G zrange, PySem.W.mg_none_of X G zenumerate, PySem.W.mg_none_of X G zzip, PySem.W.mg_none_of X G ztuple, PySem.W.mg_none_of X G zlist, PySem.W.mg_none_of X G zsum, PySem.W.mg_none_of X G zabs, PySem.W.mg_none_of X G zmax, PySem.W.mg_none_of X G zmin, PySem.W.mg_none_of X G zint, PySem.W.mg_none_of X G zall, PySem.W.mg_none_of X G zany, PySem.W.mg_none_of X G zisinstance, PySem.W.mg_none_of X G zbool, PySem.W.mg_none_of X G zstr, PySem.W.mg_none_of X G zsorted, PySem.W.mg_none_of X G zdict⟩
  have YMOST_OWN : GiAt mg "MOST_OWN" 9 := ⟨_, PySem.W.mg_of X G yMOST_OWN⟩
  have YMOST_HOUSES : GiAt mg "MOST_HOUSES" 9 := ⟨_, PySem.W.mg_of X G yMOST_HOUSES⟩
  have Fcommon := Tcommon.at_ (ps := ["one", "other"]) X G (fun _ _ _ _ _ _ us hl => match us, hl with | [_, _], _ => rfl)
  have Fis_whole := Tis_whole.at_ (ps := ["thing"]) X G (fun _ _ _ _ _ _ us hl => match us, hl with | [_], _ => rfl)
  have Fis_between := Tis_between.at_ (ps := ["thing", "low", "high"]) X G (fun _ _ _ _ _ _ us hl => match us, hl with | [_, _, _], _ => rfl)
  have F_law_is_whole := T_law_is_whole.at_ (ps := ["thing", "low", "high"]) X G (fun _ _ _ _ _ _ us hl => match us, hl with | [_, _, _], _ => rfl)
  have F_law_is_number := T_law_is_number.at_ (ps := ["thing"]) X G (fun _ _ _ _ _ _ us hl => match us, hl with | [_], _ => rfl)
  have Fis_rule := Tis_rule.at_ (ps := ["thing"]) X G (fun _ _ _ _ _ _ us hl => match us, hl with | [_], _ => rfl)
  have F_law_common := T_law_common.at_ (ps := ["one", "other"]) X G (fun _ _ _ _ _ _ us hl => match us, hl with | [_, _], _ => rfl)
  have F_law_is_rule := T_law_is_rule.at_ (ps := ["thing"]) X G (fun _ _ _ _ _ _ us hl => match us, hl with | [_], _ => rfl)
  have Fis_ring := Tis_ring.at_ (ps := ["thing"]) X G (fun _ _ _ _ _ _ us hl => match us, hl with | [_], _ => rfl)
  have F_law_is_ring := T_law_is_ring.at_ (ps := ["thing"]) X G (fun _ _ _ _ _ _ us hl => match us, hl with | [_], _ => rfl)
  have Fis_part := Tis_part.at_ (ps := ["thing"]) X G (fun _ _ _ _ _ _ us hl => match us, hl with | [_], _ => rfl)
  have F_law_is_part := T_law_is_part.at_ (ps := ["thing"]) X G (fun _ _ _ _ _ _ us hl => match us, hl with | [_], _ => rfl)
  have F_law_draw := T_law_draw.at_ (ps := ["draws", "many"]) X G (fun _ _ _ _ _ _ us hl => match us, hl with | [_, _], _ => rfl)
  have F_law_draws := T_law_draws.at_ (ps := ["script", "k"]) X G (fun _ _ _ _ _ _ us hl => match us, hl with | [_, _], _ => rfl)
  have F_law_of := T_law_of.at_ (ps := ["draws", "some"]) X G (fun _ _ _ _ _ _ us hl => match us, hl with | [_, _], _ => rfl)
  have F_law_thing := T_law_thing.at_ (ps := ["draws", "deep"]) X G (fun _ _ _ _ _ _ us hl => match us, hl with | [_, _], _ => rfl)
  have F_law_otherwise := T_law_otherwise.at_ (ps := ["draws", "thing", "deep"]) X G (fun _ _ _ _ _ _ us hl => match us, hl with | [_, _, _], _ => rfl)
  have F_law_bent := T_law_bent.at_ (ps := ["draws", "thing"]) X G (fun _ _ _ _ _ _ us hl => match us, hl with | [_, _], _ => rfl)
  have F_law_rule := T_law_rule.at_ (ps := ["draws"]) X G (fun _ _ _ _ _ _ us hl => match us, hl with | [_], _ => rfl)
  have F_law_ring := T_law_ring.at_ (ps := ["draws", "many"]) X G (fun _ _ _ _ _ _ us hl => match us, hl with | [_, _], _ => rfl)
  have F_law_truly := T_law_truly.at_ (ps := ["found", "due"]) X G (fun _ _ _ _ _ _ us hl => match us, hl with | [_, _], _ => rfl)
  obtain ⟨f, oc, od, an, sl, kV, dc, pm, cd, ct, a, lk, c, kp⟩ := Tlaw.ex
  have e := hfa.symm.trans (PySem.W.mg_of X G a)
  cases e
  refine ⟨PySem.W.fnOf "law" "law" (defArgs sLaw) (defBody sLaw) (defScope sLaw) .none kV dc pm an cd ct, fun s v => .of_eq rfl, fun base _ _ => ?_⟩
  have Gcommon := ok_common (P := l.prog) (w := w) (base := base) B Fcommon
  have Gis_whole := ok_is_whole (P := l.prog) (w := w) (base := base) B Fis_whole
  have Gis_between := ok_is_between (P := l.prog) (w := w) (base := base) Gis_whole Fis_between
  have G_law_is_whole := ok_law_is_whole (P := l.prog) (w := w) (base := base) B F_law_is_whole
  have G_law_is_number := ok_law_is_number (P := l.prog) (w := w) (base := base) B F_law_is_number
  have Gis_rule := ok_is_rule (P := l.prog) (w := w) (base := base) B YMOST_OWN Gis_between Gcommon Fis_rule
  have G_law_common := ok_law_common (P := l.prog) (w := w) (base := base) B F_law_common
  have G_law_is_rule := ok_law_is_rule (P := l.prog) (w := w) (base := base) B G_law_is_whole G_law_common F_law_is_rule
  have Gis_ring := ok_is_ring (P := l.prog) (w := w) (base := base) B YMOST_HOUSES Gis_whole Fis_ring
  have G_law_is_ring := ok_law_is_ring (P := l.prog) (w := w) (base := base) B G_law_is_number F_law_is_ring
  have Gis_part := ok_is_part (P := l.prog) (w := w) (base := base) B YMOST_HOUSES Gis_whole Fis_part
  have G_law_is_part := ok_law_is_part (P := l.prog) (w := w) (base := base) B G_law_is_number F_law_is_part
  have G_law_draw := ok_law_draw (P := l.prog) (w := w) (base := base) B F_law_draw
  have G_law_draws := ok_law_draws (P := l.prog) (w := w) (base := base) B F_law_draws
  have G_law_of := ok_law_of (P := l.prog) (w := w) (base := base) B G_law_draw F_law_of
  have G_law_thing := ok_law_thing (P := l.prog) (w := w) (base := base) B G_law_draw G_law_of F_law_thing
  have G_law_otherwise := ok_law_otherwise (P := l.prog) (w := w) (base := base) B G_law_draw G_law_of G_law_thing F_law_otherwise
  have G_law_bent := ok_law_bent (P := l.prog) (w := w) (base := base) B G_law_otherwise G_law_thing F_law_bent
  have G_law_rule := ok_law_rule (P := l.prog) (w := w) (base := base) B G_law_draw G_law_common G_law_of F_law_rule
  have G_law_ring := ok_law_ring (P := l.prog) (w := w) (base := base) B G_law_draw F_law_ring
  have G_law_truly := ok_law_truly (P := l.prog) (w := w) (base := base) B F_law_truly
  exact ok_law B G_law_draws G_law_draw G_law_rule G_law_ring G_law_bent G_law_truly Gis_rule G_law_is_rule Gis_ring G_law_is_ring Gis_part G_law_is_part (fun_mk (st := sLaw) lk c kp)
end DL

open PySem PySem.W PyProof.Rows in
set_option maxRecDepth 100000 in
set_option maxHeartbeats 0 in
theorem PySem.Challenge.cw_ringage_k01_what_are_rules_and_rings_holds : PySem.Challenge.rw_ringage_k01_what_are_rules_and_rings.Holds := by
  w_on; o_law; k_head; (case hw => w_witness2)
  k_fill
  refine DL.walk (l := PySem.Challenge.rw_ringage_k01_what_are_rules_and_rings) (k := 9) ⟨rfl, by decide, by decide⟩ rfl rfl (fun w h Y => PySem.W.kIn_of Y) ?F
  case F =>
    intro w mg fa h KX G hmg
    refine' DL.all_mk KX G hmg (DL.raw_mk ?a0 ?l0 ?c0 ?k0) (DL.raw_mk ?a1 ?l1 ?c1 ?k1) (DL.raw_mk ?a2 ?l2 ?c2 ?k2) (DL.raw_mk ?a3 ?l3 ?c3 ?k3) (DL.raw_mk ?a4 ?l4 ?c4 ?k4) (DL.raw_mk ?a5 ?l5 ?c5 ?k5) (DL.raw_mk ?a6 ?l6 ?c6 ?k6) (DL.raw_mk ?a7 ?l7 ?c7 ?k7) (DL.raw_mk ?a8 ?l8 ?c8 ?k8) (DL.raw_mk ?a9 ?l9 ?c9 ?k9) (DL.raw_mk ?a10 ?l10 ?c10 ?k10) (DL.raw_mk ?a11 ?l11 ?c11 ?k11) (DL.raw_mk ?a12 ?l12 ?c12 ?k12) (DL.raw_mk ?a13 ?l13 ?c13 ?k13) (DL.raw_mk ?a14 ?l14 ?c14 ?k14) (DL.raw_mk ?a15 ?l15 ?c15 ?k15) (DL.raw_mk ?a16 ?l16 ?c16 ?k16) (DL.raw_mk ?a17 ?l17 ?c17 ?k17) (DL.raw_mk ?a18 ?l18 ?c18 ?k18) (DL.raw_mk ?a19 ?l19 ?c19 ?k19) (DL.raw_mk ?a20 ?l20 ?c20 ?k20) (DL.raw_mk ?a21 ?l21 ?c21 ?k21) ?zlen ?zrange ?zenumerate ?zzip ?ztuple ?zlist ?zsum ?zabs ?zmax ?zmin ?zint ?zall ?zany ?zisinstance ?zbool ?zstr ?zsorted ?zdict ?yMOST_OWN ?yMOST_HOUSES
    (case a0 => k_is)
    (case l0 => k_is)
    (case c0 => k_is)
    (case k0 => k_is)
    (case a1 => k_is)
    (case l1 => k_is)
    (case c1 => k_is)
    (case k1 => k_is)
    (case a2 => k_is)
    (case l2 => k_is)
    (case c2 => k_is)
    (case k2 => k_is)
    (case a3 => k_is)
    (case l3 => k_is)
    (case c3 => k_is)
    (case k3 => k_is)
    (case a4 => k_is)
    (case l4 => k_is)
    (case c4 => k_is)
    (case k4 => k_is)
    (case a5 => k_is)
    (case l5 => k_is)
    (case c5 => k_is)
    (case k5 => k_is)
    (case a6 => k_is)
    (case l6 => k_is)
    (case c6 => k_is)
    (case k6 => k_is)
    (case a7 => k_is)
    (case l7 => k_is)
    (case c7 => k_is)
    (case k7 => k_is)
    (case a8 => k_is)
    (case l8 => k_is)
    (case c8 => k_is)
    (case k8 => k_is)
    (case a9 => k_is)
    (case l9 => k_is)
    (case c9 => k_is)
    (case k9 => k_is)
    (case a10 => k_is)
    (case l10 => k_is)
    (case c10 => k_is)
    (case k10 => k_is)
    (case a11 => k_is)
    (case l11 => k_is)
    (case c11 => k_is)
    (case k11 => k_is)
    (case a12 => k_is)
    (case l12 => k_is)
    (case c12 => k_is)
    (case k12 => k_is)
    (case a13 => k_is)
    (case l13 => k_is)
    (case c13 => k_is)
    (case k13 => k_is)
    (case a14 => k_is)
    (case l14 => k_is)
    (case c14 => k_is)
    (case k14 => k_is)
    (case a15 => k_is)
    (case l15 => k_is)
    (case c15 => k_is)
    (case k15 => k_is)
    (case a16 => k_is)
    (case l16 => k_is)
    (case c16 => k_is)
    (case k16 => k_is)
    (case a17 => k_is)
    (case l17 => k_is)
    (case c17 => k_is)
    (case k17 => k_is)
    (case a18 => k_is)
    (case l18 => k_is)
    (case c18 => k_is)
    (case k18 => k_is)
    (case a19 => k_is)
    (case l19 => k_is)
    (case c19 => k_is)
    (case k19 => k_is)
    (case a20 => k_is)
    (case l20 => k_is)
    (case c20 => k_is)
    (case k20 => k_is)
    (case a21 => k_is)
    (case l21 => k_is)
    (case c21 => k_is)
    (case k21 => k_is)
    (case zlen => k_is)
    (case zrange => k_is)
    (case zenumerate => k_is)
    (case zzip => k_is)
    (case ztuple => k_is)
    (case zlist => k_is)
    (case zsum => k_is)
    (case zabs => k_is)
    (case zmax => k_is)
    (case zmin => k_is)
    (case zint => k_is)
    (case zall => k_is)
    (case zany => k_is)
    (case zisinstance => k_is)
    (case zbool => k_is)
    (case zstr => k_is)
    (case zsorted => k_is)
    (case zdict => k_is)
    (case yMOST_OWN => k_is)
    (case yMOST_HOUSES => k_is)
#print axioms PySem.Challenge.cw_ringage_k01_what_are_rules_and_rings_holds
