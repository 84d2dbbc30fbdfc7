import PyProof.Rows.All
import Wide.All
import OpenK.AllK
import Wide.FinOn
import HandS.ForMost
import HandS.Wide
import HandS.Zip
import HandS.TupAny
import HandS.TupMul
import HandS.IsInst
import HandS.Style
import HandS.Flow
import KE.DataEq
import KE.GoesEnum
import KE.DataMinMax
import PyProof.ListMulRoad
import PyProof.FactsAll.tuple_2
import KE.LtData
import KE.DataCmp
import HandS.Strs
import KE.KTupSum
import KE.KRevSl
import PySem.Challenge.RW_ringage_k13_whole_endless_rings_by_words
set_option Elab.async false
set_option linter.all false
set_option maxRecDepth 100000
set_option maxHeartbeats 4000000
set_option autoImplicit false
/-! DL: judgements over plain data, on top of the hand layer -/
namespace DL
open PySem L2

abbrev D := PyData

theorem same_t {K : PySem.W.Frag} {H H' : Hp} {a : Addr} {xs : List V} (e : Same H H') (h : SqT K H a xs) : SqT K H' a xs := by
  rcases h with (h | ⟨o, h⟩) | h
  · exact .inl (.inl (e _ _ h))
  · exact .inl (.inr ⟨o, e _ _ h⟩)
  · exact .inr h
mutual
theorem dmono {K : PySem.W.Frag} {F F' : Hp} (e : Same F F') : ∀ {v : V} {d : D}, Dp K F v d → Dp K F' v d
  | _, _, .non => .non
  | _, _, .bl b => .bl b
  | _, _, .int i => .int i
  | _, _, .str x => .str x
  | _, _, .lst h a => .lst (e.seq h) (dmonoA e a)
  | _, _, .tup h a => .tup (same_t e h) (dmonoA e a)
theorem dmonoA {K : PySem.W.Frag} {F F' : Hp} (e : Same F F') : ∀ {vs : List V} {ds : List D}, DpAll K F vs ds → DpAll K F' vs ds
  | _, _, .nil => .nil
  | _, _, .cons h t => .cons (dmono e h) (dmonoA e t)
end
mutual
theorem Dp.plain {K : PySem.W.Frag} {F : Hp} : ∀ {v : V} {d : D}, Dp K F v d → d.plain = true
  | _, _, .non => rfl
  | _, _, .bl b => rfl
  | _, _, .int i => rfl
  | _, _, .str x => rfl
  | _, _, .lst h a => by simp only [PyData.plain]; exact DpAll.plain a
  | _, _, .tup h a => by simp only [PyData.plain]; exact DpAll.plain a
theorem DpAll.plain {K : PySem.W.Frag} {F : Hp} : ∀ {vs : List V} {ds : List D}, DpAll K F vs ds → PyData.plainAll ds = true
  | _, _, .nil => rfl
  | _, _, .cons h t => by simp only [PyData.plainAll, Dp.plain h, DpAll.plain t, Bool.and_self]
end
theorem DpAll.len {K : PySem.W.Frag} {F : Hp} : ∀ {vs : List V} {ds : List D}, DpAll K F vs ds → vs.length = ds.length
  | _, _, .nil => rfl
  | _, _, .cons _ t => congrArg Nat.succ (DpAll.len t)
theorem DpAll.get {K : PySem.W.Frag} {F : Hp} : ∀ {vs : List V} {ds : List D} {i : Nat} {d : D}, DpAll K F vs ds → ds[i]? = some d → ∃ v, vs[i]? = some v ∧ Dp K F v d
  | _, _, _, _, .nil, h => by simp at h
  | _, _, 0, _, .cons r _, h => by simp at h; subst h; exact ⟨_, rfl, r⟩
  | _, _, i + 1, d, .cons _ t, h => by
    obtain ⟨v, h1, h2⟩ := DpAll.get (i := i) t (by simpa using h)
    exact ⟨v, by simpa using h1, h2⟩
theorem DpAll.getV {K : PySem.W.Frag} {F : Hp} : ∀ {vs : List V} {ds : List D} {i : Nat} {v : V}, DpAll K F vs ds → vs[i]? = some v → ∃ d, ds[i]? = some d ∧ Dp K F v d
  | _, _, _, _, .nil, h => by simp at h
  | _, _, 0, _, .cons r _, h => by simp at h; subst h; exact ⟨_, rfl, r⟩
  | _, _, i + 1, d, .cons _ t, h => by
    obtain ⟨v, h1, h2⟩ := DpAll.getV (i := i) t (by simpa using h)
    exact ⟨v, by simpa using h1, h2⟩
theorem DpAll.append {K : PySem.W.Frag} {F : Hp} : ∀ {vs : List V} {ds : List D} {ws : List V} {es : List D}, DpAll K F vs ds → DpAll K F ws es → DpAll K F (vs ++ ws) (ds ++ es)
  | _, _, _, _, .nil, s => s
  | _, _, _, _, .cons r t, s => .cons r (DpAll.append t s)
theorem DpAll.take {K : PySem.W.Frag} {F : Hp} : ∀ (n : Nat) {vs : List V} {ds : List D}, DpAll K F vs ds → DpAll K F (vs.take n) (ds.take n)
  | 0, _, _, _ => by simp only [List.take_zero]; exact .nil
  | _ + 1, _, _, .nil => .nil
  | n + 1, _, _, .cons r t => .cons r (DpAll.take n t)
theorem DpAll.drop {K : PySem.W.Frag} {F : Hp} : ∀ (n : Nat) {vs : List V} {ds : List D}, DpAll K F vs ds → DpAll K F (vs.drop n) (ds.drop n)
  | 0, _, _, r => by simpa using r
  | _ + 1, _, _, .nil => .nil
  | n + 1, _, _, .cons _ t => DpAll.drop n t
theorem DpAll.set {K : PySem.W.Frag} {F : Hp} {v : V} {d : D} (r : Dp K F v d) : ∀ (i : Nat) {vs : List V} {ds : List D}, DpAll K F vs ds → DpAll K F (vs.set i v) (ds.set i d)
  | _, _, _, .nil => .nil
  | 0, _, _, .cons _ t => .cons r t
  | i + 1, _, _, .cons q t => .cons q (DpAll.set r i t)
theorem DpAll.reverse {K : PySem.W.Frag} {F : Hp} : ∀ {vs : List V} {ds : List D}, DpAll K F vs ds → DpAll K F vs.reverse ds.reverse
  | _, _, .nil => .nil
  | _, _, .cons r t => by
    rw [List.reverse_cons, List.reverse_cons]
    exact DpAll.append (DpAll.reverse t) (.cons r .nil)
theorem DpAll.eraseIdx {K : PySem.W.Frag} {F : Hp} : ∀ (i : Nat) {vs : List V} {ds : List D}, DpAll K F vs ds → DpAll K F (vs.eraseIdx i) (ds.eraseIdx i)
  | _, _, _, .nil => .nil
  | 0, _, _, .cons _ t => t
  | i + 1, _, _, .cons q t => .cons q (DpAll.eraseIdx i t)
theorem DpAll.rep {K : PySem.W.Frag} {F : Hp} {vs : List V} {ds : List D} (h : DpAll K F vs ds) : ∀ k : Nat, DpAll K F (List.replicate k vs).flatten (List.replicate k ds).flatten
  | 0 => .nil
  | k + 1 => by
    rw [List.replicate_succ, List.replicate_succ, List.flatten_cons, List.flatten_cons]
    exact DpAll.append h (DpAll.rep h k)
theorem DpAll.cut {K : PySem.W.Frag} {F : Hp} {vs : List V} {ds : List D} (h : DpAll K F vs ds) (n k : Nat) : DpAll K F ((vs.drop n).take k) ((ds.drop n).take k) := DpAll.take k (DpAll.drop n h)
/-- ints -/
theorem DpAll.ints {K : PySem.W.Frag} {F : Hp} : ∀ {vs : List V} {ns : List Int}, DpAll K F vs (ns.map PyData.int) → vs = ns.map V.int
  | [], [], _ => rfl
  | [], _ :: _, h => by cases h
  | _ :: _, [], h => by cases h
  | v :: vs, n :: ns, h => by
    cases h with
    | cons r t =>
      cases r
      rw [List.map_cons, DpAll.ints t]
theorem dpAll_ints {K : PySem.W.Frag} {F : Hp} : ∀ (ns : List Int), DpAll K F (ns.map V.int) (ns.map PyData.int)
  | [] => .nil
  | n :: ns => .cons (.int n) (dpAll_ints ns)
theorem DpAll.bools {K : PySem.W.Frag} {F : Hp} : ∀ {vs : List V} {ns : List Bool}, DpAll K F vs (ns.map PyData.bool) → vs = ns.map V.bl
  | [], [], _ => rfl
  | [], _ :: _, h => by cases h
  | _ :: _, [], h => by cases h
  | v :: vs, n :: ns, h => by
    cases h with
    | cons r t =>
      cases r
      rw [List.map_cons, DpAll.bools t]

/-! ### states -/
/-- what a slot holds: nothing known, data, the k-th of the own lists, a tuple without a dict of its own -/
inductive Sl where | no | d (x : D) | ptr (k : Nat) | q (xs : List D)
/-- a tuple whose object is known -/
structure Kn (K : PySem.W.Frag) (F : Hp) (v : V) (ds : List D) : Prop where
  ex : ∃ (a : Addr) (ob : Obj) (vs : List V), v = .ref a ∧ F a = some (.frz ob (.tup vs)) ∧ ob.dict = none ∧ DpAll K F vs ds
theorem Kn.mono {K : PySem.W.Frag} {F F' : Hp} {v : V} {ds : List D} (e : Same F F') (h : Kn K F v ds) : Kn K F' v ds := by
  obtain ⟨a, ob, vs, rfl, h1, h2, h3⟩ := h.ex
  exact ⟨a, ob, vs, rfl, e _ _ h1, h2, dmonoA e h3⟩
theorem Kn.dp {K : PySem.W.Frag} {F : Hp} {v : V} {ds : List D} (h : Kn K F v ds) : Dp K F v (.tuple ds) := by
  obtain ⟨a, ob, vs, rfl, h1, h2, h3⟩ := h.ex
  exact .tup (.inl (.inr ⟨ob, h1⟩)) h3
/-- the slots; the own lists (none: given up) -/
structure Z where
  s : List Sl
  o : List (Option (List D))
/-- a def's entry: the heap, its frozen part, the lists handed in to be changed -/
structure EN where
  H0 : Hp
  F0 : Hp
  pa : List Addr

def SlOk (K : PySem.W.Frag) (F : Hp) (α : List Addr) : Sl → Option (Option V) → Prop
  | .no, _ => True
  | .d x, o => ∃ v, o = some (some v) ∧ Dp K F v x
  | .ptr k, o => ∃ a, α[k]? = some a ∧ o = some (some (.ref a))
  | .q xs, o => ∃ v, o = some (some v) ∧ Kn K F v xs

structure Fr (K : PySem.W.Frag) (N : EN) (F : Hp) (α : List Addr) (z : Z) (σ : L2.St) (H : Hp) : Prop where
  sub : Same F H
  ent : ∀ a o, N.H0 a = some o → a ∉ N.pa → H a = some o
  fz : ∀ a, N.H0 a ≠ none → N.F0 a = none → F a = none
  len : z.o.length = α.length
  slen : z.s.length = σ.length
  nd : α.Nodup
  pre : ∃ β, α = N.pa ++ β ∧ ∀ b ∈ β, N.H0 b = none
  live : ∀ a ∈ α, H a ≠ none
  ob : ∀ (k : Nat) (a : Addr) (xs : List D), α[k]? = some a → z.o[k]? = some (some xs) → F a = none ∧ ∃ vs, H a = some (.lst vs) ∧ DpAll K F vs xs
  sl : ∀ (i : Nat) (s : Sl), z.s[i]? = some s → SlOk K F α s σ[i]?

theorem SlOk.mono {K : PySem.W.Frag} {F F' : Hp} {α β : List Addr} {s : Sl} {o : Option (Option V)} (e : Same F F') (h : SlOk K F α s o) : SlOk K F' (α ++ β) s o := by
  cases s with
  | no => trivial
  | d x => obtain ⟨v, e1, d⟩ := h; exact ⟨v, e1, dmono e d⟩
  | q x => obtain ⟨v, e1, d⟩ := h; exact ⟨v, e1, d.mono e⟩
  | ptr k =>
    obtain ⟨a, e1, e2⟩ := h
    refine ⟨a, ?_, e2⟩
    rw [List.getElem?_append_left (List.getElem?_eq_some_iff.mp e1).1]
    exact e1

/-- an expression's result: data, the k-th own list -/
inductive Rs where | d (x : D) | ptr (k : Nat)
def RsOk (K : PySem.W.Frag) (F : Hp) (α : List Addr) : Rs → V → Prop
  | .d x, v => Dp K F v x
  | .ptr k, v => ∃ a, α[k]? = some a ∧ v = .ref a
theorem RsOk.mono {K : PySem.W.Frag} {F F' : Hp} {α β : List Addr} {r : Rs} {v : V} (e : Same F F') (h : RsOk K F α r v) : RsOk K F' (α ++ β) r v := by
  cases r with
  | d x => exact dmono e h
  | ptr k =>
    obtain ⟨a, e1, e2⟩ := h
    refine ⟨a, ?_, e2⟩
    rw [List.getElem?_append_left (List.getElem?_eq_some_iff.mp e1).1]
    exact e1
inductive RsAll (K : PySem.W.Frag) (F : Hp) (α : List Addr) : List Rs → List V → Prop
  | nil : RsAll K F α [] []
  | cons {r v rs vs} : RsOk K F α r v → RsAll K F α rs vs → RsAll K F α (r :: rs) (v :: vs)

/-- the state has gone on -/
structure On (F F' : Hp) (α α' : List Addr) : Prop where
  f : Same F F'
  a : ∃ β, α' = α ++ β
theorem On.refl (F : Hp) (α : List Addr) : On F F α α := ⟨Same.refl F, [], by simp⟩
theorem On.trans {F F1 F2 : Hp} {α α1 α2 : List Addr} (p : On F F1 α α1) (q : On F1 F2 α1 α2) : On F F2 α α2 := by
  obtain ⟨f, β, rfl⟩ := p
  obtain ⟨g, γ, rfl⟩ := q
  exact ⟨f.trans g, β ++ γ, by simp⟩
theorem On.rs {K : PySem.W.Frag} {F F' : Hp} {α α' : List Addr} (p : On F F' α α') {r : Rs} {v : V} (h : RsOk K F α r v) : RsOk K F' α' r v := by
  obtain ⟨f, β, rfl⟩ := p
  exact h.mono f
theorem On.rsAll {K : PySem.W.Frag} {F F' : Hp} {α α' : List Addr} (p : On F F' α α') : ∀ {rs : List Rs} {vs : List V}, RsAll K F α rs vs → RsAll K F' α' rs vs
  | _, _, .nil => .nil
  | _, _, .cons r t => .cons (p.rs r) (p.rsAll t)
theorem On.sl {K : PySem.W.Frag} {F F' : Hp} {α α' : List Addr} (p : On F F' α α') {s : Sl} {o : Option (Option V)} (h : SlOk K F α s o) : SlOk K F' α' s o := by
  obtain ⟨f, β, rfl⟩ := p
  exact h.mono f
theorem On.dp {K : PySem.W.Frag} {F F' : Hp} {α α' : List Addr} (p : On F F' α α') {v : V} {d : D} (h : Dp K F v d) : Dp K F' v d := dmono p.f h

/-! ### readings -/
def tD (K : PySem.W.Frag) (N : EN) (z : Z) (r : Rs) (z' : Z) : TE := fun σ H Q => ∃ F α, Fr K N F α z σ H ∧ ∀ v F' α' H', On F F' α α' → Fr K N F' α' z' σ H' → RsOk K F' α' r v → Q v H'
def tDT (K : PySem.W.Frag) (N : EN) (z : Z) (b : Bool) (z' : Z) : TT := fun σ H Q => ∃ F α, Fr K N F α z σ H ∧ ∀ F' α' H', On F F' α α' → Fr K N F' α' z' σ H' → Q b H'
def tDA (K : PySem.W.Frag) (N : EN) (z : Z) (rs : List Rs) (z' : Z) : TA := fun σ H Q => ∃ F α, Fr K N F α z σ H ∧ ∀ vs F' α' H', On F F' α α' → Fr K N F' α' z' σ H' → RsAll K F' α' rs vs → Q vs H'
def tDS (K : PySem.W.Frag) (N : EN) (z : Z) (nx : Z → Prop) (rt : Rs → Z → Prop) : TS := fun E σ H => ∃ F α, Fr K N F α z σ H ∧
  (∀ σ' F' α' H' z', Same F F' → Fr K N F' α' z' σ' H' → nx z' → E.nx σ' H') ∧
  (∀ v σ' F' α' H' r z', Same F F' → Fr K N F' α' z' σ' H' → RsOk K F' α' r v → rt r z' → E.rt v H')

abbrev DE (X : Cx) (N : EN) (z : Z) (e : Expr) (r : Rs) (z' : Z) : Prop := PE X e (tD X.K N z r z')
abbrev DT (X : Cx) (N : EN) (z : Z) (e : Expr) (b : Bool) (z' : Z) : Prop := PT X e (tDT X.K N z b z')
abbrev DW (X : Cx) (N : EN) (z : Z) (e : Expr) (b : Bool) (z' : Z) : Prop := PW X e (tDT X.K N z b z')
abbrev DA (X : Cx) (N : EN) (z : Z) (es : List Expr) (rs : List Rs) (z' : Z) : Prop := PA X es (tDA X.K N z rs z')
abbrev DS (X : Cx) (N : EN) (z : Z) (sts : List Stmt) (nx : Z → Prop) (rt : Rs → Z → Prop) : Prop := PSs X sts (tDS X.K N z nx rt)
abbrev D1 (X : Cx) (N : EN) (z : Z) (st : Stmt) (nx : Z → Prop) (rt : Rs → Z → Prop) : Prop := PS X st (tDS X.K N z nx rt)

section
variable {X : Cx}
theorem PE.to {e : Expr} {t t' : TE} (h : PE X e t) (w : ∀ σ H Q, t' σ H Q → t σ H Q) : PE X e t' := ⟨fun pins s σ H Q I q => h.run pins s σ H Q I (w _ _ _ q)⟩
theorem PT.to {e : Expr} {t t' : TT} (h : PT X e t) (w : ∀ σ H Q, t' σ H Q → t σ H Q) : PT X e t' := ⟨fun pins s σ H Q I q => h.run pins s σ H Q I (w _ _ _ q)⟩
theorem PW.to {e : Expr} {t t' : TT} (h : PW X e t) (w : ∀ σ H Q, t' σ H Q → t σ H Q) : PW X e t' := ⟨fun wh pins s σ H Q I q => h.run wh pins s σ H Q I (w _ _ _ q)⟩
theorem PA.to {es : List Expr} {t t' : TA} (h : PA X es t) (w : ∀ σ H Q, t' σ H Q → t σ H Q) : PA X es t' := ⟨fun pos pins s σ H Q I q => h.run pos pins s σ H Q I (w _ _ _ q)⟩
theorem PS.to {st : Stmt} {t t' : TS} (h : PS X st t) (w : ∀ E σ H, t' E σ H → t E σ H) : PS X st t' := ⟨fun pins s σ H E I q => h.run pins s σ H E I (w _ _ _ q)⟩
theorem PSs.to {st : List Stmt} {t t' : TS} (h : PSs X st t) (w : ∀ E σ H, t' E σ H → t E σ H) : PSs X st t' := ⟨fun pins s σ H E I q => h.run pins s σ H E I (w _ _ _ q)⟩
/-- under a fact -/
theorem PE.guard {p : Prop} {e : Expr} {t : TE} (h : p → PE X e t) : PE X e (fun σ H Q => p ∧ t σ H Q) := ⟨fun pins s σ H Q I q => (h q.1).run pins s σ H Q I q.2⟩
theorem PT.guard {p : Prop} {e : Expr} {t : TT} (h : p → PT X e t) : PT X e (fun σ H Q => p ∧ t σ H Q) := ⟨fun pins s σ H Q I q => (h q.1).run pins s σ H Q I q.2⟩
theorem PW.guard {p : Prop} {e : Expr} {t : TT} (h : p → PW X e t) : PW X e (fun σ H Q => p ∧ t σ H Q) := ⟨fun wh pins s σ H Q I q => (h q.1).run wh pins s σ H Q I q.2⟩
theorem PSs.guard {p : Prop} {e : List Stmt} {t : TS} (h : p → PSs X e t) : PSs X e (fun E σ H => p ∧ t E σ H) := ⟨fun pins s σ H Q I q => (h q.1).run pins s σ H Q I q.2⟩
/-- some one of many -/
theorem PE.some {ι : Type} {e : Expr} {t : ι → TE} (h : ∀ i, PE X e (t i)) : PE X e (fun σ H Q => ∃ i, t i σ H Q) := ⟨fun pins s σ H Q I ⟨i, q⟩ => (h i).run pins s σ H Q I q⟩
theorem PT.some {ι : Type} {e : Expr} {t : ι → TT} (h : ∀ i, PT X e (t i)) : PT X e (fun σ H Q => ∃ i, t i σ H Q) := ⟨fun pins s σ H Q I ⟨i, q⟩ => (h i).run pins s σ H Q I q⟩
theorem PTs.some {ι : Type} {e : List Expr} {t : ι → TT} (h : ∀ i, PTs X e (t i)) : PTs X e (fun σ H Q => ∃ i, t i σ H Q) := ⟨fun pins s σ H Q I ⟨i, q⟩ => (h i).run pins s σ H Q I q⟩
theorem PTs.to {e : List Expr} {t t' : TT} (h : PTs X e t) (w : ∀ σ H Q, t' σ H Q → t σ H Q) : PTs X e t' := ⟨fun pins s σ H Q I q => h.run pins s σ H Q I (w _ _ _ q)⟩
theorem PSs.some {ι : Type} {e : List Stmt} {t : ι → TS} (h : ∀ i, PSs X e (t i)) : PSs X e (fun E σ H => ∃ i, t i E σ H) := ⟨fun pins s σ H Q I ⟨i, q⟩ => (h i).run pins s σ H Q I q⟩
end

/-! ### frames: how they go on -/
section
variable {K : PySem.W.Frag} {N : EN} {F : Hp} {α : List Addr} {z : Z} {σ : L2.St} {H : Hp}
theorem same_upd {F : Hp} {p : Addr} {o : HO} (h : F p = none) : Same F (upd F p o) := fun b x e => by
  rw [upd_ne (ne_of_none e h)]
  exact e
theorem Fr.free (fr : Fr K N F α z σ H) {p : Addr} (h : H p = none) : F p = none := fr.sub.free h
theorem Fr.free0 (fr : Fr K N F α z σ H) {p : Addr} (h : H p = none) : N.H0 p = none := by
  cases e : N.H0 p with
  | none => rfl
  | some o =>
    by_cases hp : p ∈ N.pa
    · obtain ⟨β, rfl, _⟩ := fr.pre
      exact absurd h (fr.live p (List.mem_append_left _ hp))
    · rw [fr.ent p o e hp] at h
      cases h
/-- a new frozen object -/
theorem Fr.ext (fr : Fr K N F α z σ H) {p : Addr} {o : HO} (h : H p = none) : On F (upd F p o) α α ∧ Fr K N (upd F p o) α z σ (upd H p o) := by
  have hF := fr.free h
  have h0 := fr.free0 h
  have on : On F (upd F p o) α α := ⟨same_upd hF, [], by simp⟩
  have np : ∀ a ∈ α, a ≠ p := fun a ha e => fr.live a ha (by rw [e]; exact h)
  refine ⟨on, fun b u e => ?_, fun a u e ha => ?_, fun a e1 e2 => ?_, fr.len, fr.slen, fr.nd, fr.pre, fun a ha => ?_, fun k a xs e1 e2 => ?_, fun i s e => on.sl (fr.sl i s e)⟩
  · by_cases hb : b = p
    · rw [hb, upd_same] at e
      rw [hb, upd_same]
      exact e
    · rw [upd_ne hb] at e ⊢
      exact fr.sub _ _ e
  · have hb : a ≠ p := fun q => by rw [q, h0] at e; cases e
    rw [upd_ne hb]
    exact fr.ent a u e ha
  · have hb : a ≠ p := fun q => e1 (by rw [q]; exact h0)
    rw [upd_ne hb]
    exact fr.fz a e1 e2
  · rw [upd_ne (np a ha)]
    exact fr.live a ha
  · obtain ⟨f, vs, e3, da⟩ := fr.ob k a xs e1 e2
    have hb := np a (List.mem_of_getElem? e1)
    rw [upd_ne hb, upd_ne hb]
    exact ⟨f, vs, e3, dmonoA on.f da⟩
/-- a new own list -/
theorem Fr.new (fr : Fr K N F α z σ H) {p : Addr} {vs : List V} {xs : List D} (h : H p = none) (da : DpAll K F vs xs) :
    On F F α (α ++ [p]) ∧ Fr K N F (α ++ [p]) ⟨z.s, z.o ++ [some xs]⟩ σ (upd H p (.lst vs)) ∧ (α ++ [p])[z.o.length]? = some p := by
  have hF := fr.free h
  have h0 := fr.free0 h
  have on : On F F α (α ++ [p]) := ⟨Same.refl F, [p], rfl⟩
  have np : ∀ a ∈ α, a ≠ p := fun a ha e => fr.live a ha (by rw [e]; exact h)
  refine ⟨on, ⟨fun b u e => ?_, fun a u e ha => ?_, fr.fz, ?_, fr.slen, ?_, ?_, fun a ha => ?_, fun k a ys e1 e2 => ?_, fun i s e => on.sl (fr.sl i s e)⟩, ?_⟩
  · have hb : b ≠ p := fun q => by rw [q, hF] at e; cases e
    rw [upd_ne hb]
    exact fr.sub _ _ e
  · have hb : a ≠ p := fun q => by rw [q, h0] at e; cases e
    rw [upd_ne hb]
    exact fr.ent a u e ha
  · show (z.o ++ [some xs]).length = (α ++ [p]).length
    rw [List.length_append, List.length_append, fr.len]
    rfl
  · refine List.nodup_append.mpr ⟨fr.nd, by simp, fun a ha b hb => ?_⟩
    have e : b = p := by simpa using hb
    rw [e]
    exact np a ha
  · obtain ⟨β, e, hβ⟩ := fr.pre
    refine ⟨β ++ [p], by rw [e, List.append_assoc], fun b hb => ?_⟩
    rcases List.mem_append.mp hb with hb | hb
    · exact hβ b hb
    · have e : b = p := by simpa using hb
      rw [e]
      exact h0
  · rcases List.mem_append.mp ha with ha | ha
    · rw [upd_ne (np a ha)]
      exact fr.live a ha
    · have e : a = p := by simpa using ha
      rw [e, upd_same]
      exact fun q => by cases q
  · have e2 : (z.o ++ [some xs])[k]? = some (some ys) := e2
    by_cases hk : k < α.length
    · rw [List.getElem?_append_left hk] at e1
      rw [List.getElem?_append_left (by rw [fr.len]; exact hk)] at e2
      rw [upd_ne (np a (List.mem_of_getElem? e1))]
      exact fr.ob k a ys e1 e2
    · have hk2 : k = α.length := by
        have := (List.getElem?_eq_some_iff.mp e1).1
        rw [List.length_append] at this
        simp at this
        omega
      subst hk2
      rw [List.getElem?_append_right (Nat.le_refl _), Nat.sub_self] at e1
      have e3 : a = p := by simpa using e1.symm
      rw [← fr.len, List.getElem?_append_right (Nat.le_refl _), Nat.sub_self] at e2
      have e4 : xs = ys := by simpa using e2
      subst e3 e4
      rw [upd_same]
      exact ⟨hF, vs, rfl, da⟩
  · rw [fr.len, List.getElem?_append_right (Nat.le_refl _), Nat.sub_self]
    rfl
/-- an own list changes -/
theorem Fr.mut (fr : Fr K N F α z σ H) {k : Nat} {a : Addr} {xs ys : List D} {vs : List V} (ha : α[k]? = some a) (ho : z.o[k]? = some (some xs)) (da : DpAll K F vs ys) :
    Fr K N F α ⟨z.s, z.o.set k (some ys)⟩ σ (upd H a (.lst vs)) := by
  obtain ⟨fa, ws, hw, _⟩ := fr.ob k a xs ha ho
  have hk : k < α.length := (List.getElem?_eq_some_iff.mp ha).1
  refine ⟨fun b u e => ?_, fun b u e hb => ?_, fr.fz, by show (z.o.set k (some ys)).length = _; rw [List.length_set]; exact fr.len, fr.slen, fr.nd, fr.pre, fun b hb => ?_, fun j b zs e1 e2 => ?_, fr.sl⟩
  · have hb : b ≠ a := fun q => by rw [q, fa] at e; cases e
    rw [upd_ne hb]
    exact fr.sub _ _ e
  · have hne : b ≠ a := fun q => by
      obtain ⟨β, e2, hβ⟩ := fr.pre
      have hm : a ∈ N.pa ++ β := by rw [← e2]; exact List.mem_of_getElem? ha
      rcases List.mem_append.mp hm with hm | hm
      · exact hb (by rw [q]; exact hm)
      · rw [q, hβ a hm] at e
        cases e
    rw [upd_ne hne]
    exact fr.ent b u e hb
  · by_cases hne : b = a
    · rw [hne, upd_same]
      exact fun q => by cases q
    · rw [upd_ne hne]
      exact fr.live b hb
  · have e2 : (z.o.set k (some ys))[j]? = some (some zs) := e2
    by_cases hj : k = j
    · subst hj
      rw [ha] at e1
      cases e1
      rw [List.getElem?_set_self (by rw [fr.len]; exact hk)] at e2
      cases e2
      rw [upd_same]
      exact ⟨fa, vs, rfl, da⟩
    · rw [List.getElem?_set_ne hj] at e2
      have hne : b ≠ a := fun q => by
        obtain ⟨h1, q1⟩ := List.getElem?_eq_some_iff.mp e1
        obtain ⟨h2, q2⟩ := List.getElem?_eq_some_iff.mp ha
        exact hj ((List.getElem_inj fr.nd).mp (q2.trans (q.symm.trans q1.symm)))
      rw [upd_ne hne]
      exact fr.ob j b zs e1 e2
/-- a slot is stored -/
theorem Fr.setD (fr : Fr K N F α z σ H) {i : Nat} {v : V} {s : Sl} (h : SlOk K F α s (some (some v))) : Fr K N F α ⟨z.s.set i s, z.o⟩ (σ.set i (some v)) H := by
  refine ⟨fr.sub, fr.ent, fr.fz, fr.len, by show (z.s.set i s).length = _; rw [List.length_set, List.length_set]; exact fr.slen, fr.nd, fr.pre, fr.live, fr.ob, fun j t e => ?_⟩
  have e : (z.s.set i s)[j]? = some t := e
  by_cases hj : i = j
  · subst hj
    have hi : i < z.s.length := by
      have := (List.getElem?_eq_some_iff.mp e).1
      rw [List.length_set] at this
      exact this
    rw [List.getElem?_set_self hi] at e
    cases e
    rw [List.getElem?_set_self (by rw [← fr.slen]; exact hi)]
    exact h
  · rw [List.getElem?_set_ne hj] at e
    rw [List.getElem?_set_ne hj]
    exact fr.sl j t e

/-- what is forgotten: slots, own lists behind -/
structure Wk (z z' : Z) : Prop where
  s : z'.s.length = z.s.length
  sl : ∀ (i : Nat) (t : Sl), z'.s[i]? = some t → t = .no ∨ z.s[i]? = some t
  o : z'.o = z.o.take z'.o.length
theorem Wk.refl (z : Z) : Wk z z := ⟨rfl, fun _ _ h => .inr h, by simp⟩
end
end DL
/-! DL2: expressions -/
namespace DL
open PySem L2

section
variable {X : Cx} {N : EN} {z z1 z2 z3 : Z} {pos : Pos}
/-! ### names, constants -/
theorem de_var {i : Nat} {x : D} {e : Expr} (pe : PE X e (tVar i)) (h : z.s[i]? = some (.d x) := by rfl) : DE X N z e (.d x) z :=
  PE.to pe fun σ H Q ⟨F, α, fr, q⟩ => by
    obtain ⟨v, e1, d⟩ := fr.sl i _ h
    exact ⟨v, e1, q v F α H (On.refl F α) fr d⟩
theorem de_ptr {i k : Nat} {e : Expr} (pe : PE X e (tVar i)) (h : z.s[i]? = some (.ptr k) := by rfl) : DE X N z e (.ptr k) z :=
  PE.to pe fun σ H Q ⟨F, α, fr, q⟩ => by
    obtain ⟨a, e1, e2⟩ := fr.sl i _ h
    exact ⟨.ref a, e2, q _ F α H (On.refl F α) fr ⟨a, e1, rfl⟩⟩
theorem de_c {e : Expr} {v : V} {x : D} (pe : PE X e (tC v)) (h : ∀ F, Dp X.K F v x) : DE X N z e (.d x) z :=
  PE.to pe fun σ H Q ⟨F, α, fr, q⟩ => q v F α H (On.refl F α) fr (h F)
theorem de_int {i j} : DE X N z (.Constant (.int i) j pos) (.d (.int i)) z := de_c pe_int fun _ => .int i
theorem de_str {i j} : DE X N z (.Constant (.str i) j pos) (.d (.str i)) z := de_c pe_str fun _ => .str i
theorem de_bl {i j} : DE X N z (.Constant (.bool i) j pos) (.d (.bool i)) z := de_c pe_bl fun _ => .bl i
theorem de_non {j} : DE X N z (.Constant .none j pos) (.d .none) z := de_c pe_non fun _ => .non
/-- a constant of the module -/
theorem de_glob {x : Str} {v : V} {u : Value} {d : D} (hg : Gl X x) (hm : X.mg x = some u) (r : RelV v u) (h : ∀ F, Dp X.K F v d) (hd : (x == ("__debug__" : Str)) = false := by decide) : DE X N z (.Name x pos) (.d d) z :=
  de_c (pe_glob hg hm r hd) h

/-! ### operators -/
theorem de_opG {op : Operator} {r : R2} {a b : Expr} {rx ry rw : Rs} (ho : OpR X (binaryOp op) r) (ha : DE X N z a rx z1) (hb : DE X N z1 b ry z2)
    (hr : ∀ (F : Hp) (α : List Addr) (σ : L2.St) (v u : V) (H : Hp) (Q : VK), Fr X.K N F α z2 σ H → RsOk X.K F α rx v → RsOk X.K F α ry u →
      (∀ o F' α' H', On F F' α α' → Fr X.K N F' α' z3 σ H' → RsOk X.K F' α' rw o → Q o H') → r v u H Q) : DE X N z (.BinOp a op b pos) rw z3 :=
  PE.to (pe_op ho ha hb) fun σ H Q ⟨F, α, fr, q⟩ => ⟨F, α, fr, fun v F1 α1 H1 o1 fr1 d1 => ⟨F1, α1, fr1, fun u F2 α2 H2 o2 fr2 d2 =>
    hr F2 α2 σ v u H2 Q fr2 (o2.rs d1) d2 fun o F3 α3 H3 o3 fr3 d3 => q o F3 α3 H3 ((o1.trans o2).trans o3) fr3 d3⟩⟩
theorem de_ii {op : Operator} {r : R2} {a b : Expr} {i j k : Int} (ho : OpR X (binaryOp op) r) (ha : DE X N z a (.d (.int i)) z1) (hb : DE X N z1 b (.d (.int j)) z2)
    (hr : ∀ (H : Hp) (Q : VK), Q (.int k) H → r (.int i) (.int j) H Q) : DE X N z (.BinOp a op b pos) (.d (.int k)) z2 :=
  de_opG ho ha hb fun F α σ v u H Q fr d1 d2 q => by
    cases (d1 : Dp X.K F v (.int i))
    cases (d2 : Dp X.K F u (.int j))
    exact hr H Q (q _ F α H (On.refl F α) fr (.int k))
variable {a b c e : Expr} {i j k : Int}
theorem de_add (ha : DE X N z a (.d (.int i)) z1) (hb : DE X N z1 b (.d (.int j)) z2) : DE X N z (.BinOp a .Add b pos) (.d (.int (i + j))) z2 := de_ii op_add ha hb fun _ _ q => ⟨i, j, rfl, rfl, q⟩
theorem de_sub (ha : DE X N z a (.d (.int i)) z1) (hb : DE X N z1 b (.d (.int j)) z2) : DE X N z (.BinOp a .Sub b pos) (.d (.int (i - j))) z2 := de_ii op_sub ha hb fun _ _ q => ⟨i, j, rfl, rfl, q⟩
theorem de_mul (ha : DE X N z a (.d (.int i)) z1) (hb : DE X N z1 b (.d (.int j)) z2) (h : CMul i j) : DE X N z (.BinOp a .Mult b pos) (.d (.int (i * j))) z2 := de_ii op_mul ha hb fun _ _ q => ⟨i, j, rfl, rfl, h, q⟩
theorem de_mulW (ha : DE X N z a (.d (.int i)) z1) (hb : DE X N z1 b (.d (.int j)) z2) (h : CMulW i j) : DE X N z (.BinOp a .Mult b pos) (.d (.int (i * j))) z2 := de_ii op_mulW ha hb fun _ _ q => ⟨i, j, rfl, rfl, h, q⟩
theorem de_divP (ha : DE X N z a (.d (.int i)) z1) (hb : DE X N z1 b (.d (.int j)) z2) (h : CDiv i j) : DE X N z (.BinOp a .FloorDiv b pos) (.d (.int (i / j))) z2 := de_ii op_fdiv ha hb fun _ _ q => ⟨i, j, rfl, rfl, h, q⟩
theorem de_divN (ha : DE X N z a (.d (.int i)) z1) (hb : DE X N z1 b (.d (.int j)) z2) (h : CDivN i j) : DE X N z (.BinOp a .FloorDiv b pos) (.d (.int (i.fdiv j))) z2 := de_ii op_fdivN ha hb fun _ _ q => ⟨i, j, rfl, rfl, h, q⟩
theorem de_divW (ha : DE X N z a (.d (.int i)) z1) (hb : DE X N z1 b (.d (.int j)) z2) (h : CDivW i j) : DE X N z (.BinOp a .FloorDiv b pos) (.d (.int (i / j))) z2 := de_ii op_fdivW ha hb fun _ _ q => ⟨i, j, rfl, rfl, h, q⟩
theorem de_modP (ha : DE X N z a (.d (.int i)) z1) (hb : DE X N z1 b (.d (.int j)) z2) (h : 0 < j) : DE X N z (.BinOp a .Mod b pos) (.d (.int (i % j))) z2 := de_ii op_mod ha hb fun _ _ q => ⟨i, j, rfl, rfl, h, q⟩
theorem de_modN (ha : DE X N z a (.d (.int i)) z1) (hb : DE X N z1 b (.d (.int j)) z2) (h : j ≠ 0) : DE X N z (.BinOp a .Mod b pos) (.d (.int (i.fmod j))) z2 := de_ii op_modN ha hb fun _ _ q => ⟨i, j, rfl, rfl, h, q⟩
theorem de_pow (ha : DE X N z a (.d (.int i)) z1) (hb : DE X N z1 b (.d (.int j)) z2) (h : CPow i j) : DE X N z (.BinOp a .Pow b pos) (.d (.int (i ^ j.toNat))) z2 := de_ii op_pow ha hb fun _ _ q => ⟨i, j, rfl, rfl, h, q⟩
theorem de_neg (ha : DE X N z a (.d (.int i)) z1) : DE X N z (.UnaryOp .USub a pos) (.d (.int (-i))) z1 :=
  PE.to (pe_un un_neg ha) fun σ H Q ⟨F, α, fr, q⟩ => ⟨F, α, fr, fun v F1 α1 H1 o1 fr1 d1 => by
    cases (d1 : Dp X.K F1 v (.int i))
    exact ⟨i, rfl, q _ F1 α1 H1 o1 fr1 (.int (-i))⟩⟩
theorem de_cast {x y : D} (h : DE X N z e (.d x) z1) (e1 : x = y) : DE X N z e (.d y) z1 := e1 ▸ h
theorem de_castZ {r : Rs} (h : DE X N z e r z1) (e1 : z1 = z2) : DE X N z e r z2 := e1 ▸ h

/-! ### comparisons -/
section
variable {op : CmpOp} {r : R2} {rx ry : Rs} {t : Bool}
abbrev CmpOk (X : Cx) (N : EN) (z2 : Z) (r : R2) (rx ry : Rs) (t : Bool) : Prop := ∀ (F : Hp) (α : List Addr) (σ : L2.St) (v u : V) (H : Hp) (Q : VK), Fr X.K N F α z2 σ H → RsOk X.K F α rx v → RsOk X.K F α ry u → Q (.bl t) H → r v u H Q
theorem de_cmp (ho : OpR X (compareOp op) r) (ha : DE X N z a rx z1) (hb : DE X N z1 b ry z2) (hr : CmpOk X N z2 r rx ry t) (hm : behindInMarks op b = false) : DE X N z (.Compare a [op] [b] pos) (.d (.bool t)) z2 :=
  PE.to (pe_cmpR ho ha hb hm) fun σ H Q ⟨F, α, fr, q⟩ => ⟨F, α, fr, fun v F1 α1 H1 o1 fr1 d1 => ⟨F1, α1, fr1, fun u F2 α2 H2 o2 fr2 d2 =>
    hr F2 α2 σ v u H2 Q fr2 (o2.rs d1) d2 (q _ F2 α2 H2 (o1.trans o2) fr2 (.bl t))⟩⟩
theorem dt_cmp (ho : OpR X (compareOp op) r) (ha : DE X N z a rx z1) (hb : DE X N z1 b ry z2) (hr : CmpOk X N z2 r rx ry t) (hm : behindInMarks op b = false) : DT X N z (.Compare a [op] [b] pos) t z2 :=
  PT.to (pt_cmpR ho ha hb hm) fun σ H Q ⟨F, α, fr, q⟩ => ⟨F, α, fr, fun v F1 α1 H1 o1 fr1 d1 => ⟨F1, α1, fr1, fun u F2 α2 H2 o2 fr2 d2 =>
    hr F2 α2 σ v u H2 _ fr2 (o2.rs d1) d2 ⟨t, rfl, q F2 α2 H2 (o1.trans o2) fr2⟩⟩⟩
end
theorem ok_ii {g : Int → Int → Bool} : CmpOk X N z2 (rI0 fun i j => .bl (g i j)) (.d (.int i)) (.d (.int j)) (g i j) := fun F α σ v u H Q _ d1 d2 q => by
  cases (d1 : Dp X.K F v (.int i))
  cases (d2 : Dp X.K F u (.int j))
  exact ⟨i, j, rfl, rfl, q⟩
theorem de_lt (ha : DE X N z a (.d (.int i)) z1) (hb : DE X N z1 b (.d (.int j)) z2) : DE X N z (.Compare a [.Lt] [b] pos) (.d (.bool (decide (i < j)))) z2 := de_cmp op_lt ha hb ok_ii (nomark _)
theorem de_le (ha : DE X N z a (.d (.int i)) z1) (hb : DE X N z1 b (.d (.int j)) z2) : DE X N z (.Compare a [.LtE] [b] pos) (.d (.bool (decide (i ≤ j)))) z2 := de_cmp op_le ha hb ok_ii (nomark _)
theorem de_gt (ha : DE X N z a (.d (.int i)) z1) (hb : DE X N z1 b (.d (.int j)) z2) : DE X N z (.Compare a [.Gt] [b] pos) (.d (.bool (decide (j < i)))) z2 := de_cmp op_gt ha hb ok_ii (nomark _)
theorem de_ge (ha : DE X N z a (.d (.int i)) z1) (hb : DE X N z1 b (.d (.int j)) z2) : DE X N z (.Compare a [.GtE] [b] pos) (.d (.bool (decide (j ≤ i)))) z2 := de_cmp op_ge ha hb ok_ii (nomark _)
theorem dt_lt (ha : DE X N z a (.d (.int i)) z1) (hb : DE X N z1 b (.d (.int j)) z2) : DT X N z (.Compare a [.Lt] [b] pos) (decide (i < j)) z2 := dt_cmp op_lt ha hb ok_ii (nomark _)
theorem dt_le (ha : DE X N z a (.d (.int i)) z1) (hb : DE X N z1 b (.d (.int j)) z2) : DT X N z (.Compare a [.LtE] [b] pos) (decide (i ≤ j)) z2 := dt_cmp op_le ha hb ok_ii (nomark _)
theorem dt_gt (ha : DE X N z a (.d (.int i)) z1) (hb : DE X N z1 b (.d (.int j)) z2) : DT X N z (.Compare a [.Gt] [b] pos) (decide (j < i)) z2 := dt_cmp op_gt ha hb ok_ii (nomark _)
theorem dt_ge (ha : DE X N z a (.d (.int i)) z1) (hb : DE X N z1 b (.d (.int j)) z2) : DT X N z (.Compare a [.GtE] [b] pos) (decide (j ≤ i)) z2 := dt_cmp op_ge ha hb ok_ii (nomark _)
/-- == of data -/
def rEqP (K : PySem.W.Frag) : R2 := fun x y H Q => ∃ d e, Dp K H x d ∧ Dp K H y e ∧ min d.depth e.depth ≤ 64 ∧ Q (.bl (PyData.eqv d e)) H
def rNeP (K : PySem.W.Frag) : R2 := fun x y H Q => ∃ d e, Dp K H x d ∧ Dp K H y e ∧ min d.depth e.depth ≤ 64 ∧ Q (.bl (!PyData.eqv d e)) H
theorem op_eqP (hu : X.A.units + 64 < cLine) : OpR X (compareOp .Eq) (rEqP X.K) := by
  intro pins s σ H x y v u Q I rx ry h
  obtain ⟨d, e, hd, he, hm, q⟩ := h
  obtain ⟨as, r1⟩ := Dp.reads I d x v hd rx
  obtain ⟨bs, r2⟩ := Dp.reads I e y u he ry
  exact SeqAt.eq_plain r1 r2 (Dp.plain hd) (Dp.plain he) (by omega) ⟨.bl _, H, I, rfl, q⟩
theorem op_neP (hu : X.A.units + 64 < cLine) : OpR X (compareOp .NotEq) (rNeP X.K) := by
  intro pins s σ H x y v u Q I rx ry h
  obtain ⟨d, e, hd, he, hm, q⟩ := h
  obtain ⟨as, r1⟩ := Dp.reads I d x v hd rx
  obtain ⟨bs, r2⟩ := Dp.reads I e y u he ry
  exact SeqAt.ne_plain r1 r2 (Dp.plain hd) (Dp.plain he) (by omega) ⟨.bl _, H, I, rfl, q⟩
variable {x y : D}
theorem ok_eq (hm : min x.depth y.depth ≤ 64) : CmpOk X N z2 (rEqP X.K) (.d x) (.d y) (PyData.eqv x y) := fun F α σ v u H Q fr d1 d2 q => ⟨x, y, dmono fr.sub d1, dmono fr.sub d2, hm, q⟩
theorem ok_ne (hm : min x.depth y.depth ≤ 64) : CmpOk X N z2 (rNeP X.K) (.d x) (.d y) (!PyData.eqv x y) := fun F α σ v u H Q fr d1 d2 q => ⟨x, y, dmono fr.sub d1, dmono fr.sub d2, hm, q⟩
theorem de_eq (hu : X.A.units + 64 < cLine) (ha : DE X N z a (.d x) z1) (hb : DE X N z1 b (.d y) z2) (hm : min x.depth y.depth ≤ 64) : DE X N z (.Compare a [.Eq] [b] pos) (.d (.bool (PyData.eqv x y))) z2 := de_cmp (op_eqP hu) ha hb (ok_eq hm) (nomark _)
theorem de_ne (hu : X.A.units + 64 < cLine) (ha : DE X N z a (.d x) z1) (hb : DE X N z1 b (.d y) z2) (hm : min x.depth y.depth ≤ 64) : DE X N z (.Compare a [.NotEq] [b] pos) (.d (.bool (!PyData.eqv x y))) z2 := de_cmp (op_neP hu) ha hb (ok_ne hm) (nomark _)
theorem dt_eq (hu : X.A.units + 64 < cLine) (ha : DE X N z a (.d x) z1) (hb : DE X N z1 b (.d y) z2) (hm : min x.depth y.depth ≤ 64) : DT X N z (.Compare a [.Eq] [b] pos) (PyData.eqv x y) z2 := dt_cmp (op_eqP hu) ha hb (ok_eq hm) (nomark _)
theorem dt_ne (hu : X.A.units + 64 < cLine) (ha : DE X N z a (.d x) z1) (hb : DE X N z1 b (.d y) z2) (hm : min x.depth y.depth ≤ 64) : DT X N z (.Compare a [.NotEq] [b] pos) (!PyData.eqv x y) z2 := dt_cmp (op_neP hu) ha hb (ok_ne hm) (nomark _)
/-- .. of ints -/
theorem ok_eqI : CmpOk X N z2 rEq (.d (.int i)) (.d (.int j)) (decide (i = j)) := fun F α σ v u H Q fr d1 d2 q => by
  cases (d1 : Dp X.K F v (.int i))
  cases (d2 : Dp X.K F u (.int j))
  refine ⟨rfl, ?_⟩
  have e : decide (V.int i = V.int j) = decide (i = j) := by by_cases h : i = j <;> simp [h]
  rw [e]
  exact q
theorem ok_neI : CmpOk X N z2 rNe (.d (.int i)) (.d (.int j)) (!decide (i = j)) := fun F α σ v u H Q fr d1 d2 q => by
  cases (d1 : Dp X.K F v (.int i))
  cases (d2 : Dp X.K F u (.int j))
  refine ⟨rfl, ?_⟩
  have e : decide (V.int i = V.int j) = decide (i = j) := by by_cases h : i = j <;> simp [h]
  rw [e]
  exact q
theorem de_eqI (ha : DE X N z a (.d (.int i)) z1) (hb : DE X N z1 b (.d (.int j)) z2) : DE X N z (.Compare a [.Eq] [b] pos) (.d (.bool (decide (i = j)))) z2 := de_cmp op_eq ha hb ok_eqI (nomark _)
theorem de_neI (ha : DE X N z a (.d (.int i)) z1) (hb : DE X N z1 b (.d (.int j)) z2) : DE X N z (.Compare a [.NotEq] [b] pos) (.d (.bool (!decide (i = j)))) z2 := de_cmp op_ne ha hb ok_neI (nomark _)
theorem dt_eqI (ha : DE X N z a (.d (.int i)) z1) (hb : DE X N z1 b (.d (.int j)) z2) : DT X N z (.Compare a [.Eq] [b] pos) (decide (i = j)) z2 := dt_cmp op_eq ha hb ok_eqI (nomark _)
theorem dt_neI (ha : DE X N z a (.d (.int i)) z1) (hb : DE X N z1 b (.d (.int j)) z2) : DT X N z (.Compare a [.NotEq] [b] pos) (!decide (i = j)) z2 := dt_cmp op_ne ha hb ok_neI (nomark _)
/-- is None -/
def isN : D → Bool | .none => true | _ => false
theorem Dp.isN {K : PySem.W.Frag} {F : Hp} {v : V} {x : D} (h : Dp K F v x) : decide (v = .non) = isN x := by cases h <;> rfl
theorem ok_isN : CmpOk X N z2 (fun x y H Q => y = .non ∧ Q (.bl (decide (x = .non))) H) (.d x) (.d .none) (isN x) := fun F α σ v u H Q fr d1 d2 q => by
  cases (d2 : Dp X.K F u .none)
  exact ⟨rfl, by rw [Dp.isN d1]; exact q⟩
theorem ok_notN : CmpOk X N z2 (fun x y H Q => y = .non ∧ Q (.bl (!decide (x = .non))) H) (.d x) (.d .none) (!isN x) := fun F α σ v u H Q fr d1 d2 q => by
  cases (d2 : Dp X.K F u .none)
  exact ⟨rfl, by rw [Dp.isN d1]; exact q⟩
theorem de_isN (ha : DE X N z a (.d x) z1) (hb : DE X N z1 b (.d .none) z2) : DE X N z (.Compare a [.Is] [b] pos) (.d (.bool (isN x))) z2 := de_cmp op_isN ha hb ok_isN (nomark _)
theorem de_notN (ha : DE X N z a (.d x) z1) (hb : DE X N z1 b (.d .none) z2) : DE X N z (.Compare a [.IsNot] [b] pos) (.d (.bool (!isN x))) z2 := de_cmp op_notN ha hb ok_notN (nomark _)
theorem dt_isN (ha : DE X N z a (.d x) z1) (hb : DE X N z1 b (.d .none) z2) : DT X N z (.Compare a [.Is] [b] pos) (isN x) z2 := dt_cmp op_isN ha hb ok_isN (nomark _)
theorem dt_notN (ha : DE X N z a (.d x) z1) (hb : DE X N z1 b (.d .none) z2) : DT X N z (.Compare a [.IsNot] [b] pos) (!isN x) z2 := dt_cmp op_notN ha hb ok_notN (nomark _)

/-! ### tests -/
variable {t t' : Bool} {es : List Expr}
theorem dt_val (h : DE X N z e (.d (.bool t)) z1) (he : ∀ whole, isTrue e X.env whole = (do let v ← whole; standAt e.pos; holding [v] (truthy v)) := by intro _; rfl) : DT X N z e t z1 :=
  PT.to (pt_val h he) fun σ H Q ⟨F, α, fr, q⟩ => ⟨F, α, fr, fun v F1 α1 H1 o1 fr1 d1 => by
    cases (d1 : Dp X.K F1 v (.bool t))
    exact ⟨t, rfl, q F1 α1 H1 o1 fr1⟩⟩
theorem dt_not (h : DT X N z e t z1) : DT X N z (.UnaryOp .Not e pos) (!t) z1 :=
  PT.to (pt_not h) fun σ H Q ⟨F, α, fr, q⟩ => ⟨F, α, fr, fun F1 α1 H1 o1 fr1 => q F1 α1 H1 o1 fr1⟩
theorem de_not (h : DE X N z e (.d (.bool t)) z1) : DE X N z (.UnaryOp .Not e pos) (.d (.bool (!t))) z1 :=
  PE.to (pe_not h) fun σ H Q ⟨F, α, fr, q⟩ => ⟨F, α, fr, fun v F1 α1 H1 o1 fr1 d1 => by
    cases (d1 : Dp X.K F1 v (.bool t))
    exact ⟨t, rfl, q _ F1 α1 H1 o1 fr1 (.bl _)⟩⟩
theorem dw_and1 (h : DT X N z e t z1) : DW X N z (.BoolOp .And [e] pos) t z1 := pw_and1 h
theorem dw_or1 (h : DT X N z e t z1) : DW X N z (.BoolOp .Or [e] pos) t z1 := pw_or1 h
theorem dw_andG (h : DT X N z a t z1) (h2 : t = true → DW X N z1 (.BoolOp .And (b :: es) pos) t' z2) (hz : t = false → z1 = z2) : DW X N z (.BoolOp .And (a :: b :: es) pos) (t && t') z2 :=
  PW.to (pw_and h (PW.guard h2)) fun σ H Q ⟨F, α, fr, q⟩ => ⟨F, α, fr, fun F1 α1 H1 o1 fr1 => by
    cases t with
    | true => exact ⟨rfl, F1, α1, fr1, fun F2 α2 H2 o2 fr2 => q F2 α2 H2 (o1.trans o2) fr2⟩
    | false => exact q F1 α1 H1 o1 (hz rfl ▸ fr1)⟩
theorem dw_orG (h : DT X N z a t z1) (h2 : t = false → DW X N z1 (.BoolOp .Or (b :: es) pos) t' z2) (hz : t = true → z1 = z2) : DW X N z (.BoolOp .Or (a :: b :: es) pos) (t || t') z2 :=
  PW.to (pw_or h (PW.guard h2)) fun σ H Q ⟨F, α, fr, q⟩ => ⟨F, α, fr, fun F1 α1 H1 o1 fr1 => by
    cases t with
    | false => exact ⟨rfl, F1, α1, fr1, fun F2 α2 H2 o2 fr2 => q F2 α2 H2 (o1.trans o2) fr2⟩
    | true => exact q F1 α1 H1 o1 (hz rfl ▸ fr1)⟩
theorem dw_and (h : DT X N z a t z1) (h2 : t = true → DW X N z1 (.BoolOp .And (b :: es) pos) t' z1) : DW X N z (.BoolOp .And (a :: b :: es) pos) (t && t') z1 := dw_andG h h2 fun _ => rfl
theorem dw_or (h : DT X N z a t z1) (h2 : t = false → DW X N z1 (.BoolOp .Or (b :: es) pos) t' z1) : DW X N z (.BoolOp .Or (a :: b :: es) pos) (t || t') z1 := dw_orG h h2 fun _ => rfl
theorem dt_w (h : DW X N z e t z1) : DT X N z e t z1 := PW.pt h
/-- .. as values -/
theorem de_one {op : BoolOp} {x : D} (h : DE X N z e (.d x) z1) : DE X N z (.BoolOp op [e] pos) (.d x) z1 := pe_one h
theorem de_and {op2 : D} (h : DE X N z a (.d (.bool t)) z1) (h2 : t = true → DE X N z1 (.BoolOp .And (b :: es) pos) (.d (.bool t')) z1) : DE X N z (.BoolOp .And (a :: b :: es) pos) (.d (.bool (t && t'))) z1 :=
  PE.to (pe_and h (PE.guard h2)) fun σ H Q ⟨F, α, fr, q⟩ => ⟨F, α, fr, fun v F1 α1 H1 o1 fr1 d1 => by
    cases (d1 : Dp X.K F1 v (.bool t))
    refine ⟨t, rfl, ?_⟩
    cases t with
    | true => exact ⟨rfl, F1, α1, fr1, fun v F2 α2 H2 o2 fr2 d2 => q v F2 α2 H2 (o1.trans o2) fr2 d2⟩
    | false => exact q _ F1 α1 H1 o1 fr1 (.bl false)⟩
theorem de_or (h : DE X N z a (.d (.bool t)) z1) (h2 : t = false → DE X N z1 (.BoolOp .Or (b :: es) pos) (.d (.bool t')) z1) : DE X N z (.BoolOp .Or (a :: b :: es) pos) (.d (.bool (t || t'))) z1 :=
  PE.to (pe_or h (PE.guard h2)) fun σ H Q ⟨F, α, fr, q⟩ => ⟨F, α, fr, fun v F1 α1 H1 o1 fr1 d1 => by
    cases (d1 : Dp X.K F1 v (.bool t))
    refine ⟨t, rfl, ?_⟩
    cases t with
    | false => exact ⟨rfl, F1, α1, fr1, fun v F2 α2 H2 o2 fr2 d2 => q v F2 α2 H2 (o1.trans o2) fr2 d2⟩
    | true => exact q _ F1 α1 H1 o1 fr1 (.bl true)⟩
/-- a if c else b -/
theorem de_if {x y : D} (hc : DT X N z c t z1) (ha : t = true → DE X N z1 a (.d x) z2) (hb : t = false → DE X N z1 b (.d y) z2) : DE X N z (.IfExp c a b pos) (.d (if t = true then x else y)) z2 :=
  PE.to (pe_ifExp hc (PE.guard ha) (PE.guard hb)) fun σ H Q ⟨F, α, fr, q⟩ => ⟨F, α, fr, fun F1 α1 H1 o1 fr1 => by
    cases t with
    | true => exact ⟨rfl, F1, α1, fr1, fun v F2 α2 H2 o2 fr2 d2 => q v F2 α2 H2 (o1.trans o2) fr2 d2⟩
    | false => exact ⟨rfl, F1, α1, fr1, fun v F2 α2 H2 o2 fr2 d2 => q v F2 α2 H2 (o1.trans o2) fr2 d2⟩⟩
/-- .. the states apart -/
theorem de_ifZ {x y : D} {za zb : Z} (hc : DT X N z c t z1) (ha : t = true → DE X N z1 a (.d x) za) (hb : t = false → DE X N z1 b (.d y) zb) : DE X N z (.IfExp c a b pos) (.d (if t = true then x else y)) (if t = true then za else zb) := by
  cases t with
  | true => exact de_if hc ha (fun e => by cases e)
  | false => exact de_if (x := x) hc (fun e => by cases e) hb

/-! ### arguments, displays -/
/-- all data -/
def tDAd (K : PySem.W.Frag) (N : EN) (z : Z) (ds : List D) (z' : Z) : TA := fun σ H Q => ∃ F α, Fr K N F α z σ H ∧ ∀ vs F' α' H', On F F' α α' → Fr K N F' α' z' σ H' → DpAll K F' vs ds → Q vs H'
abbrev DAd (X : Cx) (N : EN) (z : Z) (es : List Expr) (ds : List D) (z' : Z) : Prop := PA X es (tDAd X.K N z ds z')
/-- an own list first -/
def tDAp (K : PySem.W.Frag) (N : EN) (z : Z) (k : Nat) (ds : List D) (z' : Z) : TA := fun σ H Q => ∃ F α, Fr K N F α z σ H ∧ ∀ a vs F' α' H', On F F' α α' → Fr K N F' α' z' σ H' → α'[k]? = some a → DpAll K F' vs ds → Q (.ref a :: vs) H'
abbrev DAp (X : Cx) (N : EN) (z : Z) (es : List Expr) (k : Nat) (ds : List D) (z' : Z) : Prop := PA X es (tDAp X.K N z k ds z')
theorem da_nil : DAd X N z [] [] z := PA.to pa_nil fun σ H Q ⟨F, α, fr, q⟩ => q [] F α H (On.refl F α) fr .nil
theorem da_cons {x : D} {ds : List D} (h : DE X N z e (.d x) z1) (hr : DAd X N z1 es ds z2) (hs : starEach (e :: es) X.env = (false, eval e X.env) :: starEach es X.env := by rfl) : DAd X N z (e :: es) (x :: ds) z2 :=
  PA.to (pa_cons h hr hs) fun σ H Q ⟨F, α, fr, q⟩ => ⟨F, α, fr, fun v F1 α1 H1 o1 fr1 d1 => ⟨F1, α1, fr1, fun vs F2 α2 H2 o2 fr2 d2 => q _ F2 α2 H2 (o1.trans o2) fr2 (.cons (o2.dp d1) d2)⟩⟩
theorem dap_cons {k : Nat} {ds : List D} (h : DE X N z e (.ptr k) z1) (hr : DAd X N z1 es ds z2) (hs : starEach (e :: es) X.env = (false, eval e X.env) :: starEach es X.env := by rfl) : DAp X N z (e :: es) k ds z2 :=
  PA.to (pa_cons h hr hs) fun σ H Q ⟨F, α, fr, q⟩ => ⟨F, α, fr, fun v F1 α1 H1 o1 fr1 d1 => ⟨F1, α1, fr1, fun vs F2 α2 H2 o2 fr2 d2 => by
    obtain ⟨a, e1, rfl⟩ := d1
    obtain ⟨f, β, rfl⟩ := o2
    refine q a vs F2 _ H2 (o1.trans ⟨f, β, rfl⟩) fr2 ?_ d2
    rw [List.getElem?_append_left (List.getElem?_eq_some_iff.mp e1).1]
    exact e1⟩⟩
theorem de_tup {ds : List D} {k1 : Nat} (h : DAd X N z es ds z1) (hz : ds.length ≤ sizeLine := by exact Nat.le_of_ble_eq_true rfl) : DE X N z (.Tuple es k1 pos) (.d (.tuple ds)) z1 :=
  PE.to (pe_tup h) fun σ H Q ⟨F, α, fr, q⟩ => ⟨F, α, fr, fun vs F1 α1 H1 o1 fr1 d1 => ⟨by rw [DpAll.len d1]; exact hz, fun p hp => by
    obtain ⟨o2, fr2⟩ := fr1.ext (o := .tup vs) hp
    exact q _ _ α1 _ (o1.trans o2) fr2 (.tup (SqT.of upd_same) (dmonoA o2.f d1))⟩⟩
theorem de_lst {ds : List D} (h : DAd X N z es ds z1) (hz : ds.length ≤ sizeLine := by exact Nat.le_of_ble_eq_true rfl) : DE X N z (.List es pos) (.ptr z1.o.length) ⟨z1.s, z1.o ++ [some ds]⟩ :=
  PE.to (pe_lst h) fun σ H Q ⟨F, α, fr, q⟩ => ⟨F, α, fr, fun vs F1 α1 H1 o1 fr1 d1 => ⟨by rw [DpAll.len d1]; exact hz, fun p hp => by
    obtain ⟨o2, fr2, e2⟩ := fr1.new hp d1
    exact q _ _ _ _ (o1.trans o2) fr2 ⟨p, e2, rfl⟩⟩⟩

/-! ### an own list is given up: data from now on -/
def frzS (k : Nat) (xs : List D) : Sl → Sl
  | .ptr j => if j = k then .d (.list xs) else .ptr j
  | t => t
def frz (z : Z) (k : Nat) (xs : List D) : Z := ⟨z.s.map (frzS k xs), z.o.set k none⟩
theorem Fr.frz {K : PySem.W.Frag} {F : Hp} {α : List Addr} {σ : L2.St} {H : Hp} (fr : Fr K N F α z σ H) {k : Nat} {a : Addr} {xs : List D} (ha : α[k]? = some a) (ho : z.o[k]? = some (some xs)) (hk : N.pa.length ≤ k) :
    ∃ F', On F F' α α ∧ Fr K N F' α (frz z k xs) σ H ∧ Dp K F' (.ref a) (.list xs) := by
  obtain ⟨fa, vs, hv, da⟩ := fr.ob k a xs ha ho
  have on : On F (upd F a (.lst vs)) α α := ⟨same_upd fa, [], by simp⟩
  have hd : Dp K (upd F a (.lst vs)) (.ref a) (.list xs) := .lst (SqL.of upd_same) (dmonoA on.f da)
  have h0 : N.H0 a = none := by
    obtain ⟨β, e, hβ⟩ := fr.pre
    rw [e, List.getElem?_append_right hk] at ha
    exact hβ a (List.mem_of_getElem? ha)
  have hkl : k < α.length := (List.getElem?_eq_some_iff.mp ha).1
  refine ⟨_, on, ⟨fun b u e => ?_, fr.ent, fun b e1 e2 => ?_, by show (z.o.set k none).length = _; rw [List.length_set]; exact fr.len, by show (z.s.map _).length = _; rw [List.length_map]; exact fr.slen, fr.nd, fr.pre, fr.live, fun j b ys e1 e2 => ?_, fun i s e => ?_⟩, hd⟩
  · by_cases hb : b = a
    · rw [hb, upd_same] at e
      cases e
      rw [hb]
      exact hv
    · rw [upd_ne hb] at e
      exact fr.sub _ _ e
  · have hb : b ≠ a := fun q => e1 (by rw [q]; exact h0)
    rw [upd_ne hb]
    exact fr.fz b e1 e2
  · have e2 : (z.o.set k none)[j]? = some (some ys) := e2
    by_cases hj : k = j
    · subst hj
      rw [List.getElem?_set_self (by rw [fr.len]; exact hkl)] at e2
      cases e2
    · rw [List.getElem?_set_ne hj] at e2
      have hne : b ≠ a := fun q => by
        obtain ⟨h1, q1⟩ := List.getElem?_eq_some_iff.mp e1
        obtain ⟨h2, q2⟩ := List.getElem?_eq_some_iff.mp ha
        exact hj ((List.getElem_inj fr.nd).mp (q2.trans (q.symm.trans q1.symm)))
      obtain ⟨f, ws, e3, d⟩ := fr.ob j b ys e1 e2
      rw [upd_ne hne]
      exact ⟨f, ws, e3, dmonoA on.f d⟩
  · have e : (z.s.map (frzS k xs))[i]? = some s := e
    rw [List.getElem?_map] at e
    cases q : z.s[i]? with
    | none => rw [q] at e; cases e
    | some t =>
      rw [q] at e
      have e : frzS k xs t = s := Option.some.inj e
      have h := on.sl (fr.sl i t q)
      cases t with
      | no => rw [← e]; exact h
      | d x => rw [← e]; exact h
      | q x => rw [← e]; exact h
      | ptr j =>
        have e : (if j = k then Sl.d (.list xs) else Sl.ptr j) = s := e
        by_cases hj : j = k
        · rw [if_pos hj] at e
          rw [← e]
          obtain ⟨b, e1, e2⟩ := h
          rw [hj, ha] at e1
          cases e1
          exact ⟨_, e2, hd⟩
        · rw [if_neg hj] at e
          rw [← e]
          exact h
theorem de_frz {k : Nat} {xs : List D} (h : DE X N z e (.ptr k) z1) (ho : z1.o[k]? = some (some xs)) (hk : N.pa.length ≤ k) : DE X N z e (.d (.list xs)) (frz z1 k xs) :=
  PE.to h fun σ H Q ⟨F, α, fr, q⟩ => ⟨F, α, fr, fun v F1 α1 H1 o1 fr1 d1 => by
    obtain ⟨a, e1, rfl⟩ := d1
    obtain ⟨F2, o2, fr2, d2⟩ := fr1.frz e1 ho hk
    exact q _ F2 α1 H1 (o1.trans o2) fr2 d2⟩
/-! ### forgetting -/
theorem Fr.weak {K : PySem.W.Frag} {F : Hp} {α : List Addr} {σ : L2.St} {H : Hp} (fr : Fr K N F α z σ H) (w : Wk z z1) (hp : N.pa.length ≤ z1.o.length) (hs : ∀ (i k : Nat), z1.s[i]? = some (.ptr k) → k < z1.o.length) :
    Fr K N F (α.take z1.o.length) z1 σ H := by
  have hle : z1.o.length ≤ z.o.length := by
    have := congrArg List.length w.o
    rw [List.length_take] at this
    omega
  have hla : z1.o.length ≤ α.length := by rw [← fr.len]; exact hle
  refine ⟨fr.sub, fr.ent, fr.fz, ?_, w.s.trans fr.slen, fr.nd.sublist (List.take_sublist _ _), ?_, fun a ha => fr.live a (List.mem_of_mem_take ha), fun k a xs e1 e2 => ?_, fun i s e => ?_⟩
  · rw [List.length_take]
    omega
  · obtain ⟨β, e, hβ⟩ := fr.pre
    refine ⟨β.take (z1.o.length - N.pa.length), ?_, fun b hb => hβ b (List.mem_of_mem_take hb)⟩
    rw [e, List.take_append, List.take_of_length_le hp]
  · have hk : k < z1.o.length := (List.getElem?_eq_some_iff.mp e2).1
    rw [List.getElem?_take_of_lt hk] at e1
    rw [w.o, List.getElem?_take_of_lt hk] at e2
    exact fr.ob k a xs e1 e2
  · rcases w.sl i s e with rfl | e'
    · trivial
    · have h := fr.sl i s e'
      cases s with
      | no => trivial
      | d x => exact h
      | q x => exact h
      | ptr k =>
        obtain ⟨a, e1, e2⟩ := h
        refine ⟨a, ?_, e2⟩
        rw [List.getElem?_take_of_lt (hs i k e)]
        exact e1
end
end DL
/-! DL3: what is walked -/
namespace DL
open PySem PySem.Spec PyProof.Rows L2

/-! ### enumerate(tuple) -/
theorem meets_enum_new1 {v : Value} {o : Obj} {H : Heap → Prop} (B : Begins v o H) :
    Meets (Builtin.«enumerate.__new__» ⟨[.type "enumerate", v], []⟩) (fun _ R s => H s.heap ∧
      R (.ok (.ret (.ref (s.heap.push o).objs.size))) { s with heap := (s.heap.push o).push { cls := .type "enumerate", data := .fields #[.none, .bool false, .ref s.heap.objs.size, rawInt 0, .none, .none] } }) :=
  .of_wp fun prog w A R s h => by
    obtain ⟨hp, g, d, tk, os⟩ := s; obtain ⟨h1, h⟩ := h
    have hsub := sub_enumerate
    have q1 : ∀ {A' : Around} {E : Value → Shared → Prop} {Q : Value → Shared → Prop}, Q (.ref hp.objs.size) ⟨hp.push o, g, d, tk, os⟩ → wpAny (model prog w) A' (pyIter v) Q E ⟨hp, g, d, tk, os⟩ :=
      fun q => B.iter prog w _ _ ⟨hp, g, d, tk, os⟩ _ h1 q
    wp_walk using q1
    refine wpAny_stack_any fun st => wpAny_pure ?_
    split
    · rename_i c _ _ _ _ _
      cases (c == Value.type "enumerate")
      · wp_walk using q1
        exact ⟨_, rfl, h⟩
      · wp_walk using q1
        exact ⟨_, rfl, h⟩
    · wp_walk using q1
      exact ⟨_, rfl, h⟩
section
variable {prog : Program} {w : World} {A : Around} {E : Value → Shared → Prop} {s : Shared}
theorem enum_begins1 {v : Value} {o : Obj} {H : Heap → Prop} {Q : Value → Shared → Prop} (B : Begins v o H) (h1 : H s.heap)
    (h : ∀ h', IsEnum h' (s.heap.objs.size + 1) s.heap.objs.size 0 .none → h'.get? s.heap.objs.size = some o → h'.objs.size = s.heap.objs.size + 2 →
      (∀ b o, s.heap.get? b = some o → h'.get? b = some o) → Q (.ref (s.heap.objs.size + 1)) { s with heap := h' }) :
    wpAny (model prog w) A (call (.type "enumerate") [v]) Q E s := by
  refine callType_new F.called_enumerate (by decide) (F.typeCall_enumerate_1 _) (F.newCall_enumerate_1 _) (fun obj => F.args_object_init_2 obj _) F.entry_enumerate_new
    (meets_enum_new1 B) ⟨h1, ?_⟩
  have hz : (s.heap.push o).objs.size = s.heap.objs.size + 1 := Heap.size_push ..
  show _ ∧ _
  rw [hz]
  have he : IsEnum ((s.heap.push o).push { cls := .type "enumerate", data := .fields #[.none, .bool false, .ref s.heap.objs.size, rawInt 0, .none, .none] }) (s.heap.objs.size + 1) s.heap.objs.size 0 .none := by
    have := Heap.get?_push_size (s.heap.push o) (o := { cls := .type "enumerate", data := .fields #[.none, .bool false, .ref s.heap.objs.size, rawInt 0, .none, .none] }) rfl
    rw [hz] at this; exact this
  refine ⟨⟨_, he, rfl⟩, h _ he (Heap.get?_push_of_some _ (Heap.get?_push_size _ B.free)) (by rw [Heap.size_push, hz]) fun b o x => Heap.get?_push_of_some _ (Heap.get?_push_of_some _ x)⟩
end
/-- the tuple at a, each item in a new pair -/
def ItnT (K : PySem.W.Frag) (a : Addr) : It :=
  ⟨fun i H => ∃ (xs : List V) (x : V), SqT K H a xs ∧ xs[i]? = some x, fun i H v H' => ∃ T x, v = .ref T ∧ H T = none ∧ H' = upd H T (.tup [.int (i : Nat), x]) ∧ ∀ xs, SqT K H a xs → xs[i]? = some x, fun i H => ∃ xs : List V, SqT K H a xs ∧ xs.length ≤ i⟩
theorem turn_enumT {P : Program} {w : World} {K : PySem.W.Frag} {elts : List Expr} {kk : Nat} {tpos : Pos} (a e it : Addr) (hea : e ≠ a) (hia : a ≠ it) :
    Turn P w K (.Tuple elts kk tpos) (ItnT K a) [e, it] e (fun i h => (∃ old, IsEnum h e it ((i : Nat) : Int) old) ∧ h.IsTupleIter it a i ∧ e ≠ it) where
  mem := by simp
  obj := fun i h st b hb => by
    obtain ⟨⟨old, he⟩, ⟨o, ho, hc, hd⟩, _⟩ := st
    have e' : b = e ∨ b = it := by simpa using hb
    rcases e' with z | z
    · rw [z]; exact ⟨_, he, fun v q => nomatch q⟩
    · rw [z]; exact ⟨o, ho, fun v q => by rw [hd] at q; cases q⟩
  keep := fun i h h' st k => let ⟨⟨old, he⟩, hi, hne⟩ := st; ⟨⟨old, k e (by simp) _ he⟩, hi.at fun o q => k it (by simp) o q, hne⟩
  item := by
    intro X hP hw hK hc i pins s σ H E I hf st hg
    subst hP hw hK
    obtain ⟨⟨old, he⟩, hit, hne⟩ := st
    obtain ⟨xs, x, hq, hx⟩ := hg
    obtain ⟨its, rv, p, hz⟩ := I.tuple hq
    obtain ⟨u, hu, ru⟩ := rv.get hx
    have hlen : i < its.toArray.size := by
      have := (List.getElem?_eq_some_iff.mp hu).1
      simpa using this
    have hel : e < s.heap.objs.size := Heap.lt_size he
    have hil : it < s.heap.objs.size := by obtain ⟨_, q, _⟩ := hit; exact Heap.lt_size q
    have hef : e ∉ [it, a] := by simp [hne, hea]
    refine wpAny_pyNext_enum_itemD (Draws.tuple (A := X.A.in1) (I.ok.hd hc) it a hia its.toArray) he ⟨hit, (show s.heap.IsTuple a its.toArray from p)⟩ hlen hne hef fun x' h' tk hP ho hs' hT hsz hk => ?_
    have ex : x' = u := by
      have h1 : its.toArray[i]? = some x' := hP
      have h2 : its.toArray[i]? = some u := by simpa using hu
      exact Option.some.inj (h1.symm.trans h2)
    subst ex
    refine ⟨_, rfl, wpAny_letOwnedTupleGo_enum (s := { s with heap := h', toks := tk + 1 }) ho fun h'' he' sb => ?_⟩
    have hT2 : h''.get? s.heap.objs.size = some { cls := .type "tuple", data := .seq #[.int i tk, x'] } := (sb.2 _ (Nat.ne_of_gt hel)).trans hT
    have new : ObjOk X.prog X.w (upd H s.heap.objs.size (.tup [.int (i : Nat), x])) h'' s.heap.objs.size (.tup [.int (i : Nat), x]) :=
      ⟨by show 2 ≤ sizeLine; decide, [.int i tk, x'], .cons ⟨_, rfl⟩ (.cons ru .nil), ⟨_, hT2, rfl, _, rfl⟩⟩
    have I1 : Inv X pins σ (upd H s.heap.objs.size (.tup [.int (i : Nat), x])) { s with heap := h'', toks := tk + 1 } :=
      I.turnedNew (ch := [e, it]) (fun b ob hb q => (sb.2 b (fun z => hb (by simp [z]))).trans (hk b ob (fun z => hb (by simp [z])) (fun z => hb (by simp [z])) q)) hf (Nat.le_refl _) new
    refine ⟨.ref s.heap.objs.size, _, I1, rfl, ⟨_, x, rfl, I.hok.fresh (Nat.le_refl _), rfl, fun ys hy => by rw [I.tuple_inj hy hq]; exact hx⟩, ⟨⟨x', ?_⟩, hs'.1.at fun o q => (sb.2 it (Ne.symm hne)).trans q, hne⟩, fun b hb => ?_⟩
    · have e1 : ((i + 1 : Nat) : Int) = (i : Int) + 1 := by omega
      rw [e1]; exact he'
    · have hb' : b < s.heap.objs.size := by
        have e' : b = e ∨ b = it := by simpa using hb
        rcases e' with z | z
        · rw [z]; exact hel
        · rw [z]; exact hil
      rw [upd_ne (Nat.ne_of_lt hb')]
      exact (hf b hb).1
  done := by
    intro X hP hw hK hc i pins s σ H E I hf st hg
    subst hP hw hK
    obtain ⟨⟨old, he⟩, hit, hne⟩ := st
    obtain ⟨xs, hq, hx⟩ := hg
    obtain ⟨its, rv, p, hz⟩ := I.tuple hq
    obtain ⟨f0, f1, f2, f3, f4, f5⟩ := hf it (by simp)
    have hl := rv.length
    have hT : s.TypeIs (.ref e) "enumerate" := ⟨_, he, rfl⟩
    unfold pyNext
    refine wpAny_bind (wpAny_attempt (wpAny_callSpecial?_slot (name := Str.ofString "__next__") hT F.slot_enumerate_next
      (wpAny_call_entry F.slot_enumerate_next hT F.entry_enumerate_next ?_ (F.args_enumerate_next_1 _))))
    show wpAny _ _ (field (.ref e) 2 >>= _) _ _ _
    refine wpAny_bind (wpAny_field he rfl (x := .ref it) rfl ?_)
    refine wpAny_bind (wpAny_nextOf_tuple_end (A := X.A.in1) (I.ok.hd hc) hit (show s.heap.IsTuple a its.toArray from p) (by simp; omega) fun h' x he' hx' => ?_)
    obtain ⟨o, ho, hc'⟩ := hx'
    refine wpAny_bind (wpAny_isInstance (T := "StopIteration") (b := true) ⟨o, ho, hc'⟩ isSubtype_stop ?_)
    exact wpAny_pure ⟨rfl, I.turned (t' := s.toks) (fun b o hb q => he' b o hb q) f0 f1 f3 f4 f5⟩
  self := fun A i s Q E st h => let ⟨⟨_, he⟩, _⟩ := st; wpAny_pyIter_enum he h
def iEnumT (K : PySem.W.Frag) (ta : TA) : TI := fun σ H R => ta σ H fun vs H1 => ∃ a xs, vs = [.ref a] ∧ SqT K H1 a xs ∧ R (ItnT K a) H1
theorem pi_enumT {X : Cx} {e : Expr} {ta : TA} {p pos tpos : Pos} {elts : List Expr} {kk : Nat} (hg : Gl X "enumerate") (hm : X.mg "enumerate" = none) (ha : PA X [e] ta) (hs : starEach [e] X.env = [(false, eval e X.env)] := by rfl) :
    PI X (.Tuple elts kk tpos) (.Call (.Name "enumerate" p) [e] [] pos) (iEnumT X.K ta) := by
  refine ⟨fun pins s σ H R I h => ?_⟩
  refine Call_ (ld_blt I hg hm boot_enumerate (PyProof.Rows.callWith_type1 (thn (ha.run pos pins s σ H _ I h) fun us s1 ⟨vs, H1, I1, r1, q1⟩ => ?_) hs rfl))
  obtain ⟨a, xs, ex, hq, q⟩ := q1
  subst ex
  cases r1 with
  | cons r rr =>
    cases rr
    cases r
    obtain ⟨its, rv, p', hz⟩ := I1.tuple hq
    have la : a < s1.heap.objs.size := by obtain ⟨o, ho, _⟩ := id p'; exact Heap.lt_size ho
    refine enum_begins1 (begins_tuple a its.toArray) (show s1.heap.IsTuple a its.toArray from p') fun h' he hit hsz hk => wpAny_pyIter_enum he ?_
    have I2 : Inv X pins σ H1 { s1 with heap := h' } := I1.kept (t' := s1.toks) hk
    refine ⟨s1.heap.objs.size + 1, [s1.heap.objs.size + 1, s1.heap.objs.size], _, _, H1, rfl, I2, turn_enumT a (s1.heap.objs.size + 1) s1.heap.objs.size (Nat.ne_of_gt (Nat.lt_succ_of_lt la)) (Nat.ne_of_lt la), ⟨⟨.none, he⟩, ⟨_, hit, rfl, rfl⟩, Nat.succ_ne_self _⟩, fun b hb => ?_, q⟩
    have e' : b = s1.heap.objs.size + 1 ∨ b = s1.heap.objs.size := by simpa using hb
    have hle : s1.heap.objs.size ≤ b := by
      rcases e' with z | z
      · rw [z]; exact Nat.le_add_right _ _
      · rw [z]; exact Nat.le_refl _
    exact I1.fpOk hle (I1.hok.fresh hle)

/-! ### a walk over data -/
/-- J draws xs wherever the frozen part holds -/
def ItOk (K : PySem.W.Frag) (F : Hp) (J : It) (xs : List D) : Prop :=
  (∀ i H, Same F H → i < xs.length → J.go i H) ∧ (∀ i H, Same F H → xs.length ≤ i → J.stop i H) ∧
  ∀ i H x H', i < xs.length → Same F H → J.yld i H x H' → ∃ d, xs[i]? = some d ∧ ((H' = H ∧ Dp K F x d) ∨ ∃ T vs ds, x = .ref T ∧ H T = none ∧ H' = upd H T (.tup vs) ∧ DpAll K F vs ds ∧ d = .tuple ds)
def tDI (K : PySem.W.Frag) (N : EN) (z : Z) (xs : List D) (z' : Z) : TI := fun σ H R => ∃ F α, Fr K N F α z σ H ∧ ∀ J F' α' H', On F F' α α' → Fr K N F' α' z' σ H' → ItOk K F' J xs → R J H'
abbrev DI (X : Cx) (N : EN) (z : Z) (tg e : Expr) (xs : List D) (z' : Z) : Prop := PI X tg e (tDI X.K N z xs z')
section
variable {X : Cx} {N : EN} {z z1 z2 z3 : Z} {pos p : Pos} {tg e e2 : Expr}
theorem PI.to {t t' : TI} (h : PI X tg e t) (w : ∀ σ H R, t' σ H R → t σ H R) : PI X tg e t' := ⟨fun pins s σ H R I q => h.run pins s σ H R I (w _ _ _ q)⟩
theorem SqT_of_dp {K : PySem.W.Frag} {F H : Hp} {v : V} {ds : List D} (h : Dp K F v (.tuple ds)) (e : Same F H) : ∃ a xs, v = .ref a ∧ SqT K H a xs ∧ SqT K F a xs ∧ DpAll K F xs ds := by
  cases h with
  | tup hs ha => exact ⟨_, _, rfl, same_t e hs, hs, ha⟩
theorem SqL_of_dp {K : PySem.W.Frag} {F H : Hp} {v : V} {ds : List D} (h : Dp K F v (.list ds)) (e : Same F H) : ∃ a xs, v = .ref a ∧ SqL K H a xs ∧ SqL K F a xs ∧ DpAll K F xs ds := by
  cases h with
  | lst hs ha => exact ⟨_, _, rfl, e.seq hs, hs, ha⟩
theorem itok_list {K : PySem.W.Frag} {F : Hp} {a : Addr} {xs : List V} {ds : List D} (hs : SqL K F a xs) (ha : DpAll K F xs ds) : ItOk K F (Itl K a) ds := by
  have hl := DpAll.len ha
  refine ⟨fun i H e hi => ⟨xs, xs[i]'(by omega), e.seq hs, by simp [show i < xs.length by omega]⟩, fun i H e hi => ⟨xs, e.seq hs, by omega⟩, fun i H x H' hi e ⟨e1, y⟩ => ?_⟩
  obtain ⟨d, h1, h2⟩ := DpAll.getV ha (y xs (e.seq hs))
  exact ⟨d, h1, .inl ⟨e1, h2⟩⟩
theorem itok_tup {K : PySem.W.Frag} {F : Hp} {a : Addr} {xs : List V} {ds : List D} (hs : SqT K F a xs) (ha : DpAll K F xs ds) : ItOk K F (Itt K a) ds := by
  have hl := DpAll.len ha
  refine ⟨fun i H e hi => ⟨xs, xs[i]'(by omega), same_t e hs, by simp [show i < xs.length by omega]⟩, fun i H e hi => ⟨xs, same_t e hs, by omega⟩, fun i H x H' hi e ⟨e1, y⟩ => ?_⟩
  obtain ⟨d, h1, h2⟩ := DpAll.getV ha (y xs (same_t e hs))
  exact ⟨d, h1, .inl ⟨e1, h2⟩⟩
/-- a list, a tuple, by data -/
theorem di_list {xs : List D} (h : DE X N z e (.d (.list xs)) z1) : DI X N z tg e xs z1 :=
  PI.to (pi_list h) fun σ H R ⟨F, α, fr, q⟩ => ⟨F, α, fr, fun v F1 α1 H1 o1 fr1 d1 => by
    obtain ⟨a, vs, rfl, h1, h2, h3⟩ := SqL_of_dp (d1 : Dp X.K F1 v (.list xs)) fr1.sub
    exact ⟨a, rfl, ⟨vs, h1⟩, q _ F1 α1 H1 o1 fr1 (itok_list h2 h3)⟩⟩
theorem di_tup {xs : List D} (h : DE X N z e (.d (.tuple xs)) z1) : DI X N z tg e xs z1 :=
  PI.to (pi_tup h) fun σ H R ⟨F, α, fr, q⟩ => ⟨F, α, fr, fun v F1 α1 H1 o1 fr1 d1 => by
    obtain ⟨a, vs, rfl, h1, h2, h3⟩ := SqT_of_dp (d1 : Dp X.K F1 v (.tuple xs)) fr1.sub
    exact ⟨a, rfl, ⟨vs, h1⟩, q _ F1 α1 H1 o1 fr1 (itok_tup h2 h3)⟩⟩
/-- lo, lo + 1, .. -/
def rngD (lo : Int) (n : Nat) : List D := (List.range n).map fun i => PyData.int (lo + (i : Nat))
theorem rngD_len (lo : Int) (n : Nat) : (rngD lo n).length = n := by simp [rngD]
theorem rngD_get {lo : Int} {n i : Nat} (h : i < n) : (rngD lo n)[i]? = some (.int (lo + (i : Nat))) := by simp [rngD, h]
theorem itok_range {K : PySem.W.Frag} {F : Hp} {lo : Int} {n : Nat} : ItOk K F (Itr lo n) (rngD lo n) := by
  refine ⟨fun i H e hi => by rw [rngD_len] at hi; exact hi, fun i H e hi => by rw [rngD_len] at hi; exact hi, fun i H x H' hi e y => ?_⟩
  rw [rngD_len] at hi
  obtain ⟨e1, rfl⟩ := y
  exact ⟨_, rngD_get hi, .inl ⟨e1, .int _⟩⟩
theorem di_range1 {a : Expr} {j : Int} (hg : Gl X "range") (hm : X.mg "range" = none) (h : DE X N z a (.d (.int j)) z1) (h1 : -(2 ^ 62) ≤ j) (h2 : j < 2 ^ 62) (hs : starEach [a] X.env = [(false, eval a X.env)] := by rfl) :
    DI X N z tg (.Call (.Name "range" p) [a] [] pos) (rngD 0 j.toNat) z1 :=
  PI.to (pi_range1 hg hm (da_cons h da_nil hs) hs) fun σ H R ⟨F, α, fr, q⟩ => ⟨F, α, fr, fun vs F1 α1 H1 o1 fr1 d1 => by
    cases d1 with
    | cons r t =>
      cases t
      cases r
      exact ⟨j, rfl, h1, h2, q _ F1 α1 H1 o1 fr1 itok_range⟩⟩
theorem di_range2 {a b : Expr} {i j : Int} (hg : Gl X "range") (hm : X.mg "range" = none) (h : DE X N z a (.d (.int i)) z1) (hb : DE X N z1 b (.d (.int j)) z2) (hc : -(2 ^ 62) ≤ i ∧ i < 2 ^ 62 ∧ -(2 ^ 62) ≤ j ∧ j < 2 ^ 62)
    (hs : starEach [a, b] X.env = [(false, eval a X.env), (false, eval b X.env)] := by rfl) (hs2 : starEach [b] X.env = [(false, eval b X.env)] := by rfl) (hs3 : starEach [a, b] X.env = (false, eval a X.env) :: starEach [b] X.env := by rfl) :
    DI X N z tg (.Call (.Name "range" p) [a, b] [] pos) (rngD i (j - i).toNat) z2 :=
  PI.to (pi_range2 hg hm (da_cons h (da_cons hb da_nil hs2) hs3) hs hs2) fun σ H R ⟨F, α, fr, q⟩ => ⟨F, α, fr, fun vs F1 α1 H1 o1 fr1 d1 => by
    cases d1 with
    | cons r t =>
      cases t with
      | cons r' t =>
        cases t
        cases r
        cases r'
        exact ⟨i, j, rfl, hc, q _ F1 α1 H1 o1 fr1 itok_range⟩⟩
/-- (0, x0), (1, x1), .. -/
def enumD (xs : List D) : List D := xs.mapIdx fun i x => .tuple [.int (i : Nat), x]
theorem enumD_len (xs : List D) : (enumD xs).length = xs.length := by simp [enumD]
theorem enumD_get {xs : List D} {i : Nat} {x : D} (h : xs[i]? = some x) : (enumD xs)[i]? = some (.tuple [.int (i : Nat), x]) := by simp [enumD, h]
variable {elts : List Expr} {kk : Nat} {tpos : Pos}
theorem di_enumL {xs : List D} (hg : Gl X "enumerate") (hm : X.mg "enumerate" = none) (h : DE X N z e (.d (.list xs)) z1) (hs : starEach [e] X.env = [(false, eval e X.env)] := by rfl) :
    DI X N z (.Tuple elts kk tpos) (.Call (.Name "enumerate" p) [e] [] pos) (enumD xs) z1 :=
  PI.to (pi_enum hg hm (da_cons h da_nil hs) hs) fun σ H R ⟨F, α, fr, q⟩ => ⟨F, α, fr, fun vs F1 α1 H1 o1 fr1 d1 => by
    cases d1 with
    | cons r t =>
      cases t
      obtain ⟨a, vs, rfl, h1, h2, h3⟩ := SqL_of_dp r fr1.sub
      refine ⟨a, vs, rfl, h1, q _ F1 α1 H1 o1 fr1 ?_⟩
      have hl := DpAll.len h3
      refine ⟨fun i H e hi => ⟨vs, vs[i]'(by rw [enumD_len] at hi; omega), e.seq h2, by simp [show i < vs.length by rw [enumD_len] at hi; omega]⟩, fun i H e hi => ⟨vs, e.seq h2, by rw [enumD_len] at hi; omega⟩, fun i H x H' hi e y => ?_⟩
      obtain ⟨T, x1, e1, e2, e3, y⟩ := y
      obtain ⟨d, g1, g2⟩ := DpAll.getV h3 (y vs (e.seq h2))
      exact ⟨_, enumD_get g1, .inr ⟨T, _, _, e1, e2, e3, .cons (.int _) (.cons g2 .nil), rfl⟩⟩⟩
theorem di_enumT {xs : List D} (hg : Gl X "enumerate") (hm : X.mg "enumerate" = none) (h : DE X N z e (.d (.tuple xs)) z1) (hs : starEach [e] X.env = [(false, eval e X.env)] := by rfl) :
    DI X N z (.Tuple elts kk tpos) (.Call (.Name "enumerate" p) [e] [] pos) (enumD xs) z1 :=
  PI.to (pi_enumT hg hm (da_cons h da_nil hs) hs) fun σ H R ⟨F, α, fr, q⟩ => ⟨F, α, fr, fun vs F1 α1 H1 o1 fr1 d1 => by
    cases d1 with
    | cons r t =>
      cases t
      obtain ⟨a, vs, rfl, h1, h2, h3⟩ := SqT_of_dp r fr1.sub
      refine ⟨a, vs, rfl, h1, q _ F1 α1 H1 o1 fr1 ?_⟩
      have hl := DpAll.len h3
      refine ⟨fun i H e hi => ⟨vs, vs[i]'(by rw [enumD_len] at hi; omega), same_t e h2, by simp [show i < vs.length by rw [enumD_len] at hi; omega]⟩, fun i H e hi => ⟨vs, same_t e h2, by rw [enumD_len] at hi; omega⟩, fun i H x H' hi e y => ?_⟩
      obtain ⟨T, x1, e1, e2, e3, y⟩ := y
      obtain ⟨d, g1, g2⟩ := DpAll.getV h3 (y vs (same_t e h2))
      exact ⟨_, enumD_get g1, .inr ⟨T, _, _, e1, e2, e3, .cons (.int _) (.cons g2 .nil), rfl⟩⟩⟩
/-- (x0, y0), (x1, y1), .. -/
def zipD (xs ys : List D) : List D := (xs.zip ys).map fun p => .tuple [p.1, p.2]
theorem zipD_len (xs ys : List D) : (zipD xs ys).length = min xs.length ys.length := by simp [zipD]
theorem zipD_get {xs ys : List D} {i : Nat} {x y : D} (h : xs[i]? = some x) (h' : ys[i]? = some y) : (zipD xs ys)[i]? = some (.tuple [x, y]) := by
  have e : (xs.zip ys)[i]? = some (x, y) := List.getElem?_zip_eq_some.mpr ⟨h, h'⟩
  unfold zipD
  rw [List.getElem?_map, e]
  rfl
theorem di_zipT {xs ys : List D} (hg : Gl X "zip") (hm : X.mg "zip" = none) (h : DE X N z e (.d (.tuple xs)) z1) (h' : DE X N z1 e2 (.d (.tuple ys)) z2)
    (hs : starEach [e, e2] X.env = (false, eval e X.env) :: starEach [e2] X.env := by rfl) (hs2 : starEach [e2] X.env = (false, eval e2 X.env) :: starEach [] X.env := by rfl) (hpl : (backTo pos (starEach [e2] X.env)).any (·.1) = false := by rfl) :
    DI X N z (.Tuple elts kk tpos) (.Call (.Name "zip" p) [e, e2] [] pos) (zipD xs ys) z2 :=
  PI.to (RZ.pi_zipA hg hm (da_cons h (da_cons h' da_nil hs2) hs) hs hpl) fun σ H R ⟨F, α, fr, q⟩ => ⟨F, α, fr, fun vs F1 α1 H1 o1 fr1 d1 => by
    cases d1 with
    | cons r t =>
      cases t with
      | cons r' t =>
        cases t
        obtain ⟨a, vs, rfl, h1, h2, h3⟩ := SqT_of_dp r fr1.sub
        obtain ⟨b, ws, rfl, k1, k2, k3⟩ := SqT_of_dp r' fr1.sub
        refine ⟨a, b, vs, ws, rfl, .inr ⟨h1, k1, q _ F1 α1 H1 o1 fr1 ?_⟩⟩
        have hl := DpAll.len h3
        have kl := DpAll.len k3
        refine ⟨fun i H e hi => ?_, fun i H e hi => ⟨vs, ws, same_t e h2, same_t e k2, by rw [zipD_len] at hi; omega⟩, fun i H x H' hi e y => ?_⟩
        · rw [zipD_len] at hi
          exact ⟨vs, ws, vs[i]'(by omega), ws[i]'(by omega), same_t e h2, same_t e k2, by simp [show i < vs.length by omega], by simp [show i < ws.length by omega]⟩
        · obtain ⟨T, x1, y1, e1, e2, e3, f1, f2⟩ := y
          obtain ⟨d, g1, g2⟩ := DpAll.getV h3 (f1 vs (same_t e h2))
          obtain ⟨d', g1', g2'⟩ := DpAll.getV k3 (f2 ws (same_t e k2))
          exact ⟨_, zipD_get g1 g1', .inr ⟨T, _, _, e1, e2, e3, .cons g2 (.cons g2' .nil), rfl⟩⟩⟩
theorem di_zipL {xs ys : List D} (hg : Gl X "zip") (hm : X.mg "zip" = none) (h : DE X N z e (.d (.list xs)) z1) (h' : DE X N z1 e2 (.d (.list ys)) z2)
    (hs : starEach [e, e2] X.env = (false, eval e X.env) :: starEach [e2] X.env := by rfl) (hs2 : starEach [e2] X.env = (false, eval e2 X.env) :: starEach [] X.env := by rfl) (hpl : (backTo pos (starEach [e2] X.env)).any (·.1) = false := by rfl) :
    DI X N z (.Tuple elts kk tpos) (.Call (.Name "zip" p) [e, e2] [] pos) (zipD xs ys) z2 :=
  PI.to (RZ.pi_zipA hg hm (da_cons h (da_cons h' da_nil hs2) hs) hs hpl) fun σ H R ⟨F, α, fr, q⟩ => ⟨F, α, fr, fun vs F1 α1 H1 o1 fr1 d1 => by
    cases d1 with
    | cons r t =>
      cases t with
      | cons r' t =>
        cases t
        obtain ⟨a, vs, rfl, h1, h2, h3⟩ := SqL_of_dp r fr1.sub
        obtain ⟨b, ws, rfl, k1, k2, k3⟩ := SqL_of_dp r' fr1.sub
        refine ⟨a, b, vs, ws, rfl, .inl ⟨h1, k1, q _ F1 α1 H1 o1 fr1 ?_⟩⟩
        have hl := DpAll.len h3
        have kl := DpAll.len k3
        refine ⟨fun i H e hi => ?_, fun i H e hi => ⟨vs, ws, e.seq h2, e.seq k2, by rw [zipD_len] at hi; omega⟩, fun i H x H' hi e y => ?_⟩
        · rw [zipD_len] at hi
          exact ⟨vs, ws, vs[i]'(by omega), ws[i]'(by omega), e.seq h2, e.seq k2, by simp [show i < vs.length by omega], by simp [show i < ws.length by omega]⟩
        · obtain ⟨T, x1, y1, e1, e2, e3, f1, f2⟩ := y
          obtain ⟨d, g1, g2⟩ := DpAll.getV h3 (f1 vs (e.seq h2))
          obtain ⟨d', g1', g2'⟩ := DpAll.getV k3 (f2 ws (e.seq k2))
          exact ⟨_, zipD_get g1 g1', .inr ⟨T, _, _, e1, e2, e3, .cons g2 (.cons g2' .nil), rfl⟩⟩⟩
end

/-! ### targets -/
theorem wipe_in {σ : L2.St} {i : Nat} : ∀ {vs : List Nat}, i ∈ vs → (L2.wipe σ vs)[i]? = if i < σ.length then some none else none
  | v :: vs, h => by
    show ((L2.wipe σ vs).set v none)[i]? = _
    by_cases hv : v = i
    · subst hv
      by_cases hl : v < σ.length
      · rw [List.getElem?_set_self (by rw [L2.wipe_length]; exact hl), if_pos hl]
      · rw [if_neg hl, List.getElem?_eq_none (by rw [List.length_set, L2.wipe_length]; omega)]
    · rw [List.getElem?_set_ne hv]
      rcases List.mem_cons.mp h with e | h
      · exact absurd e.symm hv
      · exact wipe_in h
theorem wipe_eq {σ σ' : L2.St} {vs : List Nat} (hl : σ.length = σ'.length) (h : ∀ i, i ∉ vs → σ[i]? = σ'[i]?) : L2.wipe σ vs = L2.wipe σ' vs := by
  apply List.ext_getElem?
  intro i
  by_cases hi : i ∈ vs
  · rw [wipe_in hi, wipe_in hi, hl]
  · rw [L2.wipe_out hi, L2.wipe_out hi]
    exact h i hi
theorem wipe_wipe {σ : L2.St} {vs : List Nat} : L2.wipe (L2.wipe σ vs) vs = L2.wipe σ vs := wipe_eq (L2.wipe_length _ _) fun _ h => L2.wipe_out h
/-- the target stores d: the state goes from z to f d z, where ok d; the slots that it stores are is -/
structure GD (K : PySem.W.Frag) (g : TG) (f : D → List Sl → List Sl) (ok : D → Prop) (is : List Nat) : Prop where
  run : ∀ (N : EN) (F : Hp) (α : List Addr) (z : Z) (σ : L2.St) (H : Hp) (v : V) (d : D) (Q : L2.St → Hp → Prop), Fr K N F α z σ H → Dp K F v d → ok d →
    (∀ σ', Fr K N F α ⟨f d z.s, z.o⟩ σ' H → σ'.length = σ.length → (∀ i, i ∉ is → σ'[i]? = σ[i]?) → Q σ' H) → g v σ H Q
theorem gd_name {K : PySem.W.Frag} (i : Nat) : GD K (gName i) (fun d s => s.set i (.d d)) (fun _ => True) [i] :=
  ⟨fun N F α z σ H v d Q fr hd _ q => q _ (fr.setD (s := .d d) ⟨v, rfl, hd⟩) (by simp) fun j hj => List.getElem?_set_ne (by simp at hj; exact fun e => hj e.symm)⟩
/-- a tuple of names -/
def setAll : List Nat → List D → List Sl → List Sl
  | i :: is, d :: ds, s => setAll is ds (s.set i (.d d))
  | _, _, s => s
structure GsD (K : PySem.W.Frag) (g : TGs) (is : List Nat) : Prop where
  run : ∀ (N : EN) (F : Hp) (α : List Addr) (z : Z) (σ : L2.St) (H : Hp) (vs : List V) (ds : List D) (Q : L2.St → Hp → Prop), Fr K N F α z σ H → DpAll K F vs ds → ds.length = is.length →
    (∀ σ', Fr K N F α ⟨setAll is ds z.s, z.o⟩ σ' H → σ'.length = σ.length → (∀ i, i ∉ is → σ'[i]? = σ[i]?) → Q σ' H) → g vs σ H Q
theorem gsd_nil {K : PySem.W.Frag} : GsD K gNil [] := ⟨fun N F α z σ H vs ds Q fr hd hl q => by
  cases hd with
  | nil => exact ⟨rfl, q σ fr rfl fun _ _ => rfl⟩
  | cons _ _ => cases hl⟩
theorem gsd_cons {K : PySem.W.Frag} {i : Nat} {u : TGs} {is : List Nat} (h : GsD K u is) : GsD K (gCons (gName i) u) (i :: is) := ⟨fun N F α z σ H vs ds Q fr hd hl q => by
  cases hd with
  | nil => cases hl
  | cons r t => exact ⟨_, _, rfl, h.run N F α _ _ H _ _ Q (fr.setD (s := .d _) ⟨_, rfl, r⟩) t (by simpa using hl) fun σ' fr' hl' hi' => q σ' fr' (by rw [hl', List.length_set]) fun j hj => by
      rw [hi' j fun h => hj (List.mem_cons_of_mem _ h)]
      exact List.getElem?_set_ne fun e => hj (by rw [e]; exact List.mem_cons_self)⟩⟩
def tupIs (n : Nat) (d : D) : Prop := ∃ ds, d = .tuple ds ∧ ds.length = n
def setTup (is : List Nat) : D → List Sl → List Sl
  | .tuple ds, s => setAll is ds s
  | _, s => s
theorem gd_tup {K : PySem.W.Frag} {u : TGs} {is : List Nat} {n : Nat} (h : GsD K u is) (hn : is.length = n := by rfl) : GD K (gTup K n u) (setTup is) (tupIs n) is := ⟨fun N F α z σ H v d Q fr hd hok q => by
  obtain ⟨ds, rfl, hl⟩ := hok
  obtain ⟨a, vs, rfl, h1, h2, h3⟩ := SqT_of_dp hd fr.sub
  exact ⟨a, vs, rfl, h1, (DpAll.len h3).trans hl, h.run N F α z σ H vs ds Q fr h3 (hl.trans hn.symm) q⟩⟩
end DL
/-! DL4: statements, loops, comprehensions, calls -/
namespace DL
open PySem PySem.Spec PyProof.Rows L2

section
variable {X : Cx} {N : EN} {z z1 z2 z3 : Z} {pos p : Pos} {tg e e2 iter : Expr} {nx : Z → Prop} {rt : Rs → Z → Prop} {rest body orelse : List Stmt} {st : Stmt}
/-! ### statements -/
theorem ds_nil (h : nx z) : DS X N z [] nx rt := PSs.to pss_nil fun E σ H ⟨F, α, fr, q, _⟩ => q σ F α H z (Same.refl F) fr h
/-- forgetting, ahead of statements -/
theorem ds_weak (w : Wk z z1) (hp : N.pa.length ≤ z1.o.length) (hs : ∀ (i k : Nat), z1.s[i]? = some (.ptr k) → k < z1.o.length) (h : DS X N z1 rest nx rt) : DS X N z rest nx rt :=
  PSs.to h fun E σ H ⟨F, α, fr, q, r⟩ => ⟨F, _, fr.weak w hp hs, q, r⟩
theorem ds_imp {nx' : Z → Prop} {rt' : Rs → Z → Prop} (h : DS X N z rest nx rt) (h1 : ∀ z, nx z → nx' z) (h2 : ∀ r z, rt r z → rt' r z) : DS X N z rest nx' rt' :=
  PSs.to h fun E σ H ⟨F, α, fr, q, r⟩ => ⟨F, α, fr, fun σ' F' α' H' z' a b c => q σ' F' α' H' z' a b (h1 _ c), fun v σ' F' α' H' rr z' a b c d => r v σ' F' α' H' rr z' a b c (h2 _ _ d)⟩
theorem ds_cons {mid : Z → Prop} (h1 : D1 X N z st mid rt) (h2 : ∀ z', mid z' → DS X N z' rest nx rt) : DS X N z (st :: rest) nx rt :=
  PSs.to (pss_cons h1 (PSs.some fun (w : { z' // mid z' }) => h2 w.1 w.2)) fun E σ H ⟨F, α, fr, q, r⟩ => ⟨F, α, fr,
    fun σ' F' α' H' z' o' fr' m => ⟨⟨z', m⟩, F', α', fr', fun σ2 F2 α2 H2 z2 o2 => q σ2 F2 α2 H2 z2 (o'.trans o2), fun v σ2 F2 α2 H2 rr z2 o2 => r v σ2 F2 α2 H2 rr z2 (o'.trans o2)⟩, r⟩
theorem ds_last (h1 : D1 X N z st nx rt) : DS X N z [st] nx rt := ds_cons h1 fun z' h => ds_nil h
/-- an expression dropped -/
theorem d1_expr {r : Rs} (he : DE X N z e r z1) (h : nx z1) (hs : swapsWith e none pos.line X.env = pure false := by rfl) : D1 X N z (.Expr e pos) nx rt :=
  PS.to (ps_expr he hs) fun E σ H ⟨F, α, fr, q, _⟩ => ⟨F, α, fr, fun v F1 α1 H1 o1 fr1 d1 => q σ F1 α1 H1 z1 o1.f fr1 h⟩
theorem d1_ret {r : Rs} (he : DE X N z e r z1) (h : rt r z1) : D1 X N z (.Return (some e) pos) nx rt :=
  PS.to (ps_ret he) fun E σ H ⟨F, α, fr, _, q⟩ => ⟨F, α, fr, fun v F1 α1 H1 o1 fr1 d1 => q v σ F1 α1 H1 r z1 o1.f fr1 d1 h⟩
theorem d1_retN (h : rt (.d .none) z) : D1 X N z (.Return none pos) nx rt :=
  PS.to ps_retN fun E σ H ⟨F, α, fr, _, q⟩ => q .non σ F α H (.d .none) z (Same.refl F) fr .non h
def rsSl : Rs → Sl | .d x => .d x | .ptr k => .ptr k
theorem RsOk.sl {K : PySem.W.Frag} {F : Hp} {α : List Addr} {r : Rs} {v : V} (h : RsOk K F α r v) : SlOk K F α (rsSl r) (some (some v)) := by
  cases r with
  | d x => exact ⟨v, rfl, h⟩
  | ptr k => obtain ⟨a, e1, rfl⟩ := h; exact ⟨a, e1, rfl⟩
/-- name = e -/
theorem d1_set {i : Nat} {x : Str} {pos' : Pos} {r : Rs} (hN : X.N.Nodup) (hi : X.N[i]? = some x) (hx : Loc X.env.scope x) (he : DE X N z e r z1) (h : nx ⟨z1.s.set i (rsSl r), z1.o⟩) (hs : swapsWith e (some (.Name x pos')) pos.line X.env = pure false := by rfl)
    (hf : X.fn x = true ∨ X.env.scope.names.lookup x = some .local := by first | exact .inl rfl | exact .inr rfl | assumption) : D1 X N z (.Assign [.Name x pos'] e pos) nx rt :=
  PS.to (ps_set hN hi hx he hs hf) fun E σ H ⟨F, α, fr, q, _⟩ => ⟨F, α, fr, fun v F1 α1 H1 o1 fr1 d1 => q _ F1 α1 H1 _ o1.f (fr1.setD d1.sl) h⟩
/-- a target by data -/
theorem d1_asg {g : TG} {f : D → List Sl → List Sl} {ok : D → Prop} {is : List Nat} {x : D} (he : DE X N z e (.d x) z1) (hg : PG X tg g) (gd : GD X.K g f ok is) (hok : ok x) (h : nx ⟨f x z1.s, z1.o⟩)
    (hs : swapsWithSole [tg] e pos.line X.env = pure false := by rfl) (hw : swappedStores [tg] e X.env = pure none := by rfl) (h1 : (assignEach [tg] X.env).map (·.2) = [assign tg X.env] := by rfl) : D1 X N z (.Assign [tg] e pos) nx rt :=
  PS.to (ps_asg he hg hs hw h1) fun E σ H ⟨F, α, fr, q, _⟩ => ⟨F, α, fr, fun v F1 α1 H1 o1 fr1 d1 => gd.run N F1 α1 z1 σ H1 v x _ fr1 d1 hok fun σ' fr' _ _ => q σ' F1 α1 H1 _ o1.f fr' h⟩
/-- a, b = x, y of plain locals -/
theorem d1_par {i j : Nat} {x y : Str} {a b : Expr} {u w : D} {px py pt : Pos} {kt k2 pt2} (hc : X.calm = true) (hN : X.N.Nodup) (hi : X.N[i]? = some x) (hj : X.N[j]? = some y) (hij : i ≠ j)
    (hx : X.env.scope.names.lookup x = some .local) (hy : X.env.scope.names.lookup y = some .local) (ha : DAd X N z [a, b] [u, w] z1)
    (hw : swappedStores [.Tuple [.Name x px, .Name y py] kt pt] (.Tuple [a, b] k2 pt2) X.env = pure (some [x, y])) (h : nx ⟨(z1.s.set i (.d u)).set j (.d w), z1.o⟩)
    (hs : swapsWithSole [.Tuple [.Name x px, .Name y py] kt pt] (.Tuple [a, b] k2 pt2) pos.line X.env = pure false := by rfl) : D1 X N z (.Assign [.Tuple [.Name x px, .Name y py] kt pt] (.Tuple [a, b] k2 pt2) pos) nx rt :=
  PS.to (ps_par hc hN hi hj hij hx hy ha hw hs) fun E σ H ⟨F, α, fr, q, _⟩ => ⟨F, α, fr, fun vs F1 α1 H1 o1 fr1 d1 => by
    cases d1 with
    | cons r1 t =>
      cases t with
      | cons r2 t =>
        cases t
        exact ⟨_, _, rfl, q _ F1 α1 H1 _ o1.f ((fr1.setD (s := .d u) ⟨_, rfl, r1⟩).setD (s := .d w) ⟨_, rfl, r2⟩) h⟩⟩
theorem d1_par3 {i j l : Nat} {x y w : Str} {a b c : Expr} {u1 u2 u3 : D} {px py pw pt : Pos} {kt k2 pt2} (hc : X.calm = true) (hN : X.N.Nodup) (hi : X.N[i]? = some x) (hj : X.N[j]? = some y) (hl : X.N[l]? = some w) (hij : i ≠ j) (hil : i ≠ l) (hjl : j ≠ l)
    (hx : X.env.scope.names.lookup x = some .local) (hy : X.env.scope.names.lookup y = some .local) (hz : X.env.scope.names.lookup w = some .local) (ha : DAd X N z [a, b, c] [u1, u2, u3] z1)
    (hw : swappedStores [.Tuple [.Name x px, .Name y py, .Name w pw] kt pt] (.Tuple [a, b, c] k2 pt2) X.env = pure (some [x, y, w])) (h : nx ⟨((z1.s.set i (.d u1)).set j (.d u2)).set l (.d u3), z1.o⟩)
    (hs : swapsWithSole [.Tuple [.Name x px, .Name y py, .Name w pw] kt pt] (.Tuple [a, b, c] k2 pt2) pos.line X.env = pure false := by rfl) : D1 X N z (.Assign [.Tuple [.Name x px, .Name y py, .Name w pw] kt pt] (.Tuple [a, b, c] k2 pt2) pos) nx rt :=
  PS.to (ps_par3 hc hN hi hj hl hij hil hjl hx hy hz ha hw hs) fun E σ H ⟨F, α, fr, q, _⟩ => ⟨F, α, fr, fun vs F1 α1 H1 o1 fr1 d1 => by
    cases d1 with
    | cons r1 t =>
      cases t with
      | cons r2 t =>
        cases t with
        | cons r3 t =>
          cases t
          exact ⟨_, _, _, rfl, q _ F1 α1 H1 _ o1.f (((fr1.setD (s := .d u1) ⟨_, rfl, r1⟩).setD (s := .d u2) ⟨_, rfl, r2⟩).setD (s := .d u3) ⟨_, rfl, r3⟩) h⟩⟩
/-- if -/
theorem d1_if {c : Expr} {b : Bool} (hc : DT X N z c b z1) (h1 : b = true → DS X N z1 body nx rt) (h2 : b = false → DS X N z1 orelse nx rt) : D1 X N z (.If c body orelse pos) nx rt :=
  PS.to (ps_if hc (PSs.guard h1) (PSs.guard h2)) fun E σ H ⟨F, α, fr, q, r⟩ => ⟨F, α, fr, fun F1 α1 H1 o1 fr1 => by
    cases b with
    | true => exact ⟨rfl, F1, α1, fr1, fun σ2 F2 α2 H2 z2 o2 => q σ2 F2 α2 H2 z2 (o1.f.trans o2), fun v σ2 F2 α2 H2 rr z2 o2 => r v σ2 F2 α2 H2 rr z2 (o1.f.trans o2)⟩
    | false => exact ⟨rfl, F1, α1, fr1, fun σ2 F2 α2 H2 z2 o2 => q σ2 F2 α2 H2 z2 (o1.f.trans o2), fun v σ2 F2 α2 H2 rr z2 o2 => r v σ2 F2 α2 H2 rr z2 (o1.f.trans o2)⟩⟩
/-- if whose body leaves -/
theorem ds_ifR {c : Expr} {b : Bool} (hc : DT X N z c b z1) (h1 : b = true → DS X N z1 body (fun _ => False) rt) (h2 : b = false → DS X N z1 rest nx rt) : DS X N z (.If c body [] pos :: rest) nx rt :=
  ds_cons (mid := fun z' => b = false ∧ z' = z1) (d1_if hc (fun e => ds_imp (h1 e) (fun _ f => f.elim) fun _ _ h => h) fun e => ds_nil ⟨e, rfl⟩) fun z' ⟨e, e2⟩ => e2 ▸ h2 e
/-- name += e of ints -/
theorem d1_augI {i : Nat} {x : Str} {pos' : Pos} {m n : Int} (hN : X.N.Nodup) (hi : X.N[i]? = some x) (hx : Loc X.env.scope x) (hm : z.s[i]? = some (.d (.int m))) (he : DE X N z e (.d (.int n)) z1) (h : nx ⟨z1.s.set i (.d (.int (m + n))), z1.o⟩)
    (hf : X.fn x = true ∨ X.env.scope.names.lookup x = some .local := by first | exact .inl rfl | exact .inr rfl | assumption) : D1 X N z (.AugAssign (.Name x pos') .Add e pos) nx rt :=
  PS.to (ps_aug hN hi hx he ip_add hf) fun E σ H ⟨F, α, fr, q, _⟩ => by
    obtain ⟨v, e1, d⟩ := fr.sl i _ hm
    cases d
    refine ⟨_, e1, F, α, fr, fun v F1 α1 H1 o1 fr1 d1 => ?_⟩
    cases (d1 : Dp X.K F1 v (.int n))
    exact ⟨m, n, rfl, rfl, q _ F1 α1 H1 _ o1.f (fr1.setD (s := .d (.int (m + n))) ⟨_, rfl, .int _⟩) h⟩

/-! ### for -/
theorem d1_for {xs : List D} {g : TG} {f : D → List Sl → List Sl} {ok : D → Prop} {is : List Nat} (Pv : Nat → Z → Prop) (hp : PassesOwn (model X.prog X.w) X.A X.env X.xe) (hc : X.calm = true) (hi : DI X N z tg iter xs z1) (hg : PG X tg g) (gd : GD X.K g f ok is) (h0 : Pv 0 z1) (hok : ∀ (k : Nat) (d : D), xs[k]? = some d → ok d)
    (hb : ∀ (k : Nat) (d : D) (z : Z), xs[k]? = some d → Pv k z → DS X N ⟨f d z.s, z.o⟩ body (Pv (k + 1)) rt) (hd : ∀ z, Pv xs.length z → nx z)
    (hs : ∀ x, foldedSetIterable iter X.env x = pure x := by intro _; rfl) : D1 X N z (.For tg iter body [] pos) nx rt :=
  PS.to (ps_for hp hc hi hg (PSs.some fun (w : { t : Nat × D × Z // xs[t.1]? = some t.2.1 ∧ Pv t.1 t.2.2 }) => hb w.1.1 w.1.2.1 w.1.2.2 w.2.1 w.2.2) hs) fun E σ H ⟨F, α, fr, qn, qr⟩ => by
    refine ⟨F, α, fr, fun J F1 α1 H1 o1 fr1 ⟨j1, j2, j3⟩ => ?_⟩
    refine ⟨fun i m σ' H' => m = xs.length - i ∧ i ≤ xs.length ∧ ∃ F' α' z', Same F1 F' ∧ Fr X.K N F' α' z' σ' H' ∧ Pv i z', ⟨xs.length, by simp, Nat.zero_le _, F1, α1, z1, Same.refl _, fr1, h0⟩, ?_⟩
    rintro i m σ' H' ⟨rfl, hi', F', α', z', sf, fr', pv⟩
    have sH : Same F1 H' := sf.trans fr'.sub
    by_cases hlt : i < xs.length
    · refine .inr ⟨j1 i H' sH hlt, fun σ2 H2 => ∃ F2 α2 z2, Same F1 F2 ∧ Fr X.K N F2 α2 z2 σ2 H2 ∧ Pv (i + 1) z2, fun σ2 H2 ⟨F2, α2, z2, a, b, c⟩ => ⟨xs.length - (i + 1), by omega, rfl, hlt, F2, α2, z2, a, b, c⟩, fun x H2 y => ?_⟩
      obtain ⟨d, hxd, hy⟩ := j3 i H' x H2 hlt sH y
      have key : ∀ F2 H2, Same F' F2 → Fr X.K N F2 α' z' σ' H2 → Dp X.K F2 x d → g x σ' H2 fun σ2 H3 => ∃ (w : { t : Nat × D × Z // xs[t.1]? = some t.2.1 ∧ Pv t.1 t.2.2 }), tDS X.K N ⟨f w.1.2.1 w.1.2.2.s, w.1.2.2.o⟩ (Pv (w.1.1 + 1)) rt
            { E with nx := fun σ2 H2 => ∃ F2 α2 z2, Same F1 F2 ∧ Fr X.K N F2 α2 z2 σ2 H2 ∧ Pv (i + 1) z2, ct := fun σ2 H2 => ∃ F2 α2 z2, Same F1 F2 ∧ Fr X.K N F2 α2 z2 σ2 H2 ∧ Pv (i + 1) z2, bk := E.nx } σ2 H3 := fun F2 H2 s2 fr2 dx =>
        gd.run N F2 α' z' σ' H2 x d _ fr2 dx (hok i d hxd) fun σ2 fr3 _ _ => ⟨⟨(i, d, z'), hxd, pv⟩, F2, α', fr3, fun σ4 F4 α4 H4 z4 s4 fr4 p4 => ⟨F4, α4, z4, (sf.trans s2).trans s4, fr4, p4⟩,
          fun v σ4 F4 α4 H4 rr z4 s4 => qr v σ4 F4 α4 H4 rr z4 ((o1.f.trans (sf.trans s2)).trans s4)⟩
      rcases hy with ⟨rfl, dx⟩ | ⟨T, vs, ds, rfl, hT, rfl, da, rfl⟩
      · exact key F' _ (Same.refl _) fr' (dmono sf dx)
      · obtain ⟨o2, fr2⟩ := fr'.ext (o := .tup vs) hT
        exact key _ _ o2.f fr2 (.tup (SqT.of upd_same) (dmonoA (sf.trans o2.f) da))
    · have e : i = xs.length := by omega
      subst e
      exact .inl ⟨j2 _ H' sH (Nat.le_refl _), qn σ' F' α' H' z' (o1.f.trans sf) fr' (hd z' pv)⟩
/-! ### while -/
theorem d1_while {c : Expr} (Pv : Nat → Z → Prop) (hp : PassesOwn (model X.prog X.w) X.A X.env X.xe) (m0 : Nat) (h0 : Pv m0 z) (t : Nat → Z → Bool) (zt : Nat → Z → Z)
    (hc : ∀ m z, Pv m z → DT X N z c (t m z) (zt m z))
    (hb : ∀ m z, Pv m z → t m z = true → DS X N (zt m z) body (fun z' => ∃ m', m' < m ∧ Pv m' z') rt) (hd : ∀ m z, Pv m z → t m z = false → nx (zt m z)) : D1 X N z (.While c body [] pos) nx rt :=
  PS.to (ps_while hp (PT.some fun (w : { q : Nat × Z // Pv q.1 q.2 }) => hc w.1.1 w.1.2 w.2) (PSs.some fun (w : { q : Nat × Z // Pv q.1 q.2 ∧ t q.1 q.2 = true }) => hb w.1.1 w.1.2 w.2.1 w.2.2)) fun E σ H ⟨F, α, fr, qn, qr⟩ => by
    refine ⟨fun m σ' H' => ∃ F' α' z', Same F F' ∧ Fr X.K N F' α' z' σ' H' ∧ Pv m z', ⟨m0, F, α, z, Same.refl _, fr, h0⟩, ?_⟩
    rintro m σ' H' ⟨F', α', z', sf, fr', pv⟩
    refine ⟨⟨(m, z'), pv⟩, F', α', fr', fun F2 α2 H2 o2 fr2 => ?_⟩
    show if t m z' = true then _ else _
    by_cases ht : t m z' = true
    · rw [if_pos ht]
      exact ⟨fun σ3 H3 => ∃ m', m' < m ∧ ∃ F' α' z', Same F F' ∧ Fr X.K N F' α' z' σ3 H3 ∧ Pv m' z', fun σ3 H3 ⟨m', h1, h2⟩ => ⟨m', h1, h2⟩, ⟨(m, z'), pv, ht⟩, F2, α2, fr2,
        fun σ4 F4 α4 H4 z4 s4 fr4 ⟨m', h1, h2⟩ => ⟨m', h1, F4, α4, z4, (sf.trans o2.f).trans s4, fr4, h2⟩, fun v σ4 F4 α4 H4 rr z4 s4 => qr v σ4 F4 α4 H4 rr z4 ((sf.trans o2.f).trans s4)⟩
    · rw [if_neg ht]
      exact qn σ' F2 α2 H2 _ (sf.trans o2.f) fr2 (hd m z' pv (by simpa using ht))

/-! ### comprehensions -/
def wipeS (s : List Sl) : List Nat → List Sl
  | [] => s
  | v :: vs => (wipeS s vs).set v .no
theorem Fr.wipe {K : PySem.W.Frag} {F : Hp} {α : List Addr} {σ : L2.St} {H : Hp} (fr : Fr K N F α z σ H) : ∀ vs : List Nat, Fr K N F α ⟨wipeS z.s vs, z.o⟩ (L2.wipe σ vs) H
  | [] => fr
  | v :: vs => by
    have ih := Fr.wipe fr vs
    refine ⟨ih.sub, ih.ent, ih.fz, ih.len, by show ((wipeS z.s vs).set v .no).length = ((L2.wipe σ vs).set v none).length; rw [List.length_set, List.length_set]; exact ih.slen, ih.nd, ih.pre, ih.live, ih.ob, fun i s e => ?_⟩
    have e : ((wipeS z.s vs).set v .no)[i]? = some s := e
    show SlOk K F α s ((L2.wipe σ vs).set v none)[i]?
    by_cases hj : v = i
    · subst hj
      have hi : v < (wipeS z.s vs).length := by
        have := (List.getElem?_eq_some_iff.mp e).1
        rw [List.length_set] at this
        exact this
      rw [List.getElem?_set_self hi] at e
      cases e
      trivial
    · rw [List.getElem?_set_ne hj] at e
      rw [List.getElem?_set_ne hj]
      exact ih.sl i s e
theorem Fr.back {K : PySem.W.Frag} {F F' : Hp} {α α' : List Addr} {z0 z' : Z} {σ σ2 : L2.St} {H H' : Hp} {o1 : List (Option (List D))} (fr0 : Fr K N F α z0 σ H) (fr1 : Fr K N F' α' z' σ2 H') (on : On F F' α α') (ho : z'.o.take α.length = o1) (hl : o1.length = α.length) :
    Fr K N F' α ⟨z0.s, o1⟩ σ H' := by
  obtain ⟨f, β, rfl⟩ := on
  refine ⟨fr1.sub, fr1.ent, fr1.fz, hl, fr0.slen, fr0.nd, fr0.pre, fun a ha => fr1.live a (List.mem_append_left _ ha), fun k a xs e1 e2 => ?_, fun i s e => ?_⟩
  · have hk : k < α.length := (List.getElem?_eq_some_iff.mp e1).1
    refine fr1.ob k a xs (by rw [List.getElem?_append_left hk]; exact e1) ?_
    have e2 : o1[k]? = some (some xs) := e2
    rw [← ho, List.getElem?_take_of_lt hk] at e2
    exact e2
  · have h := fr0.sl i s e
    have := h.mono (β := []) f
    rw [List.append_nil] at this
    exact this
abbrev DTs (X : Cx) (N : EN) (z : Z) (ifs : List Expr) (b : Bool) (z' : Z) : Prop := PTs X ifs (tDT X.K N z b z')
theorem dts_nil : DTs X N z [] true z := PTs.to pts_nil fun σ H Q ⟨F, α, fr, q⟩ => q F α H (On.refl F α) fr
theorem dts_one {c : Expr} {b : Bool} (h : DT X N z c b z1) : DTs X N z [c] b z1 := pts_one h
/-- what a comprehension's turns do: own lists O, the new list acc, tests b, items y -/
structure LcD (N : EN) (z1 : Z) (xs : List D) (s0 : D → List Sl) (O : Nat → List (Option (List D))) (acc : Nat → List D) (b : Nat → Bool) (y : Nat → D) (zt ze : Nat → D → Z) : Prop where
  o0 : O 0 = z1.o
  a0 : acc 0 = []
  small : ∀ k, k < xs.length → (acc k).length < sizeLine
  ol : ∀ k, (O k).length = z1.o.length
  yes : ∀ (k : Nat) (d : D), xs[k]? = some d → b k = true → (ze k d).o.take (z1.o.length + 1) = O (k + 1) ++ [some (acc k)] ∧ acc (k + 1) = acc k ++ [y k]
  no : ∀ (k : Nat) (d : D), xs[k]? = some d → b k = false → (zt k d).o.take (z1.o.length + 1) = O (k + 1) ++ [some (acc k)] ∧ acc (k + 1) = acc k
theorem tlc {xs : List D} {g : TG} {f : D → List Sl → List Sl} {ok : D → Prop} {is vs : List Nat} {O : Nat → List (Option (List D))} {acc : Nat → List D} {b : Nat → Bool} {y : Nat → D} {zt ze : Nat → D → Z} {K : PySem.W.Frag}
    (gd : GD K g f ok is) (hiv : ∀ i ∈ is, i ∈ vs) (hok : ∀ (k : Nat) (d : D), xs[k]? = some d → ok d) (L : LcD N z1 xs (fun d => f d (wipeS z1.s vs)) O acc b y zt ze)
    {σ : L2.St} {H : Hp} {Q : VK} (h : tD K N z (.ptr z1.o.length) ⟨z1.s, O xs.length ++ [some (acc xs.length)]⟩ σ H Q) :
    tLc (tDI K N z xs z1) g (fun σ H Q => ∃ w : { t : Nat × D // xs[t.1]? = some t.2 }, tDT K N ⟨f w.1.2 (wipeS z1.s vs), O w.1.1 ++ [some (acc w.1.1)]⟩ (b w.1.1) (zt w.1.1 w.1.2) σ H Q)
      (fun σ H Q => ∃ w : { t : Nat × D // xs[t.1]? = some t.2 ∧ b t.1 = true }, tD K N (zt w.1.1 w.1.2) (.d (y w.1.1)) (ze w.1.1 w.1.2) σ H Q) vs σ H Q := by
  obtain ⟨F, α, fr, q⟩ := h
  refine ⟨F, α, fr, fun J F1 α1 H1 o1 fr1 ⟨j1, j2, j3⟩ Da hD => ?_⟩
  obtain ⟨on, frn, eD⟩ := fr1.new hD (.nil (K := K) (H := F1))
  have hla : α1.length = z1.o.length := fr1.len.symm
  have eD' : (α1 ++ [Da])[z1.o.length]? = some Da := eD
  refine ⟨fun i m H' => m = xs.length - i ∧ i ≤ xs.length ∧ ∃ F', Same F1 F' ∧ Fr K N F' (α1 ++ [Da]) ⟨z1.s, O i ++ [some (acc i)]⟩ σ H', ⟨xs.length, by simp, Nat.zero_le _, F1, Same.refl _, by rw [L.o0, L.a0]; exact frn⟩, ?_⟩
  rintro i m H' ⟨rfl, hi, F', sf, fr'⟩
  have sH : Same F1 H' := sf.trans fr'.sub
  by_cases hlt : i < xs.length
  · refine .inr ⟨j1 i H' sH hlt, fun H2 => ∃ F2, Same F1 F2 ∧ Fr K N F2 (α1 ++ [Da]) ⟨z1.s, O (i + 1) ++ [some (acc (i + 1))]⟩ σ H2, fun H2 ⟨F2, a, c⟩ => ⟨xs.length - (i + 1), by omega, rfl, hlt, F2, a, c⟩, fun x H2 yy => ?_⟩
    obtain ⟨d, hxd, hy⟩ := j3 i H' x H2 hlt sH yy
    -- the turn over a heap that knows the item
    have key : ∀ F2 H2, Same F' F2 → Fr K N F2 (α1 ++ [Da]) ⟨z1.s, O i ++ [some (acc i)]⟩ σ H2 → Dp K F2 x d → g x (L2.wipe σ vs) H2 fun σ2 H3 => L2.wipe σ2 vs = L2.wipe σ vs ∧
        (∃ w : { t : Nat × D // xs[t.1]? = some t.2 }, tDT K N ⟨f w.1.2 (wipeS z1.s vs), O w.1.1 ++ [some (acc w.1.1)]⟩ (b w.1.1) (zt w.1.1 w.1.2) σ2 H3 fun b' H3 =>
          if b' = true then (∃ w : { t : Nat × D // xs[t.1]? = some t.2 ∧ b t.1 = true }, tD K N (zt w.1.1 w.1.2) (.d (y w.1.1)) (ze w.1.1 w.1.2) σ2 H3 fun y' H4 => ∃ ac, H4 Da = some (.lst ac) ∧ ac.length < sizeLine ∧ ∃ F2, Same F1 F2 ∧ Fr K N F2 (α1 ++ [Da]) ⟨z1.s, O (i + 1) ++ [some (acc (i + 1))]⟩ σ (upd H4 Da (.lst (ac ++ [y']))))
          else ∃ F2, Same F1 F2 ∧ Fr K N F2 (α1 ++ [Da]) ⟨z1.s, O (i + 1) ++ [some (acc (i + 1))]⟩ σ H3) := fun F2 H2 s2 fr2 dx => by
      refine gd.run N F2 _ _ _ H2 x d _ (fr2.wipe vs) dx (hok i d hxd) fun σ2 fr3 hl2 hi2 => ⟨?_, ⟨(i, d), hxd⟩, F2, _, fr3, fun F3 α3 H3 o3 fr4 => ?_⟩
      · rw [← wipe_wipe (σ := σ)]
        exact wipe_eq hl2 fun j hj => hi2 j fun h => hj (hiv j h)
      · have hol : (O (i + 1) ++ [some (acc i)]).length = (α1 ++ [Da]).length := by
          rw [List.length_append, List.length_append, L.ol, hla]
          rfl
        have hln : (α1 ++ [Da]).length = z1.o.length + 1 := by rw [List.length_append, hla]; rfl
        show if b i = true then _ else _
        by_cases hb : b i = true
        · rw [if_pos hb]
          refine ⟨⟨(i, d), hxd, hb⟩, F3, α3, fr4, fun v F4 α4 H4 o4 fr5 d5 => ?_⟩
          obtain ⟨h1, h2⟩ := L.yes i d hxd hb
          have bk := fr2.back fr5 (o3.trans o4) (by rw [hln]; exact h1) hol
          have e1 : (O (i + 1) ++ [some (acc i)])[z1.o.length]? = some (some (acc i)) := by
            rw [← L.ol (i + 1), List.getElem?_append_right (Nat.le_refl _), Nat.sub_self]
            rfl
          obtain ⟨fa, ws, hw, da⟩ := bk.ob z1.o.length Da (acc i) eD' e1
          refine ⟨ws, hw, by rw [DpAll.len da]; exact L.small i hlt, F4, ((sf.trans s2).trans o3.f).trans o4.f, ?_⟩
          have mt := bk.mut (vs := ws ++ [v]) (ys := acc i ++ [y i]) eD' e1 (DpAll.append da (.cons d5 .nil))
          have e2 : (O (i + 1) ++ [some (acc i)]).set z1.o.length (some (acc i ++ [y i])) = O (i + 1) ++ [some (acc (i + 1))] := by
            rw [h2, ← L.ol (i + 1), List.set_append_right _ _ (Nat.le_refl _), Nat.sub_self]
            rfl
          rw [← e2]
          exact mt
        · rw [if_neg hb]
          have hb : b i = false := by simpa using hb
          obtain ⟨h1, h2⟩ := L.no i d hxd hb
          have bk := fr2.back fr4 o3 (by rw [hln]; exact h1) hol
          rw [h2]
          exact ⟨F3, (sf.trans s2).trans o3.f, bk⟩
    rcases hy with ⟨rfl, dx⟩ | ⟨T, ws, ds, rfl, hT, rfl, da, rfl⟩
    · exact key F' _ (Same.refl _) fr' (dmono sf dx)
    · obtain ⟨o2, fr2⟩ := fr'.ext (o := .tup ws) hT
      exact key _ _ o2.f fr2 (.tup (SqT.of upd_same) (dmonoA (sf.trans o2.f) da))
  · have e : i = xs.length := by omega
    subst e
    refine .inl ⟨j2 _ H' sH (Nat.le_refl _), ?_⟩
    exact q _ F' (α1 ++ [Da]) H' ⟨o1.f.trans sf, by obtain ⟨_, β, rfl⟩ := o1; exact ⟨β ++ [Da], by simp⟩⟩ fr' ⟨Da, eD', rfl⟩
/-- [elt for tg in iter if ..] -/
theorem de_lc {xs : List D} {elt : Expr} {ifs : List Expr} {scope : Scope} {own : List (Str × Nat)} {g : TG} {f : D → List Sl → List Sl} {ok : D → Prop} {is : List Nat} {O : Nat → List (Option (List D))} {acc : Nat → List D} {b : Nat → Bool} {y : Nat → D} {zt ze : Nat → D → Z}
    (hc : X.calm = true) (hN : X.N.Nodup) (hi : DI X N z tg iter xs z1) (okb : BlkOk X.N X.env.scope scope own)
    (hg : ∀ (s : Shared) (H : Hp) (C : Addr) (cl : List (Str × Addr)) (fp : List Addr), PG (X.blk s H scope (compEnvC scope cl C X.env) fp) tg g) (gd : GD X.K g f ok is) (hiv : ∀ i ∈ is, i ∈ own.map (·.2)) (hok : ∀ (k : Nat) (d : D), xs[k]? = some d → ok d)
    (L : LcD N z1 xs (fun d => f d (wipeS z1.s (own.map (·.2)))) O acc b y zt ze)
    (ht : ∀ (k : Nat) (d : D), xs[k]? = some d → ∀ (s : Shared) (H : Hp) (C : Addr) (cl : List (Str × Addr)) (fp : List Addr), DTs (X.blk s H scope (compEnvC scope cl C X.env) fp) N ⟨f d (wipeS z1.s (own.map (·.2))), O k ++ [some (acc k)]⟩ ifs (b k) (zt k d))
    (he : ∀ (k : Nat) (d : D), xs[k]? = some d → b k = true → ∀ (s : Shared) (H : Hp) (C : Addr) (cl : List (Str × Addr)) (fp : List Addr), DE (X.blk s H scope (compEnvC scope cl C X.env) fp) N (zt k d) elt (.d (y k)) (ze k d))
    (hs : ∀ x, foldedSetIterable iter X.env x = pure x := by intro _; rfl) :
    DE X N z (.ListComp elt [⟨tg, iter, ifs, 0⟩] scope pos) (.ptr z1.o.length) ⟨z1.s, O xs.length ++ [some (acc xs.length)]⟩ :=
  PE.to (pe_lc hc hN hi okb hg (fun s H C cl fp => PTs.some fun (w : { t : Nat × D // xs[t.1]? = some t.2 }) => ht w.1.1 w.1.2 w.2 s H C cl fp) (fun s H C cl fp => PE.some fun (w : { t : Nat × D // xs[t.1]? = some t.2 ∧ b t.1 = true }) => he w.1.1 w.1.2 w.2.1 w.2.2 s H C cl fp) hs)
    fun σ H Q h => tlc gd hiv hok L h
/-- name = [elt for tg in iter if ..], the name a local, on one line -/
theorem d1_setLc {i : Nat} {yn : Str} {py spos : Pos} {xs : List D} {elt : Expr} {ifs : List Expr} {scope : Scope} {own : List (Str × Nat)} {g : TG} {f : D → List Sl → List Sl} {ok : D → Prop} {is : List Nat} {O : Nat → List (Option (List D))} {acc : Nat → List D} {b : Nat → Bool} {y : Nat → D} {zt ze : Nat → D → Z}
    (hc : X.calm = true) (hN : X.N.Nodup) (hy : X.N[i]? = some yn) (hyl : X.env.scope.names.lookup yn = some .local) (hsw : swapsWith (.ListComp elt [⟨tg, iter, ifs, 0⟩] scope pos) (some (.Name yn py)) spos.line X.env = pure true) (hi : DI X N z tg iter xs z1) (okb : BlkOk X.N X.env.scope scope own)
    (hg : ∀ (s : Shared) (H : Hp) (C : Addr) (cl : List (Str × Addr)) (fp : List Addr), PG (X.blk s H scope (compEnvC scope cl C X.env) fp) tg g) (gd : GD X.K g f ok is) (hiv : ∀ i ∈ is, i ∈ own.map (·.2)) (hok : ∀ (k : Nat) (d : D), xs[k]? = some d → ok d)
    (L : LcD N z1 xs (fun d => f d (wipeS z1.s (own.map (·.2)))) O acc b y zt ze)
    (ht : ∀ (k : Nat) (d : D), xs[k]? = some d → ∀ (s : Shared) (H : Hp) (C : Addr) (cl : List (Str × Addr)) (fp : List Addr), DTs (X.blk s H scope (compEnvC scope cl C X.env) fp) N ⟨f d (wipeS z1.s (own.map (·.2))), O k ++ [some (acc k)]⟩ ifs (b k) (zt k d))
    (he : ∀ (k : Nat) (d : D), xs[k]? = some d → b k = true → ∀ (s : Shared) (H : Hp) (C : Addr) (cl : List (Str × Addr)) (fp : List Addr), DE (X.blk s H scope (compEnvC scope cl C X.env) fp) N (zt k d) elt (.d (y k)) (ze k d))
    (h : nx ⟨z1.s.set i (.ptr z1.o.length), O xs.length ++ [some (acc xs.length)]⟩)
    (hs : ∀ x, foldedSetIterable iter X.env x = pure x := by intro _; rfl) :
    D1 X N z (.Assign [.Name yn py] (.ListComp elt [⟨tg, iter, ifs, 0⟩] scope pos) spos) nx rt :=
  PS.to (ps_setLc hc hN hy hyl hsw hi okb hg (fun s H C cl fp => PTs.some fun (w : { t : Nat × D // xs[t.1]? = some t.2 }) => ht w.1.1 w.1.2 w.2 s H C cl fp) (fun s H C cl fp => PE.some fun (w : { t : Nat × D // xs[t.1]? = some t.2 ∧ b t.1 = true }) => he w.1.1 w.1.2 w.2.1 w.2.2 s H C cl fp) hs)
    fun E σ H ⟨F, α, fr, q, _⟩ => tlc gd hiv hok L ⟨F, α, fr, fun v F1 α1 H1 o1 fr1 d1 => by
      obtain ⟨a, e1, rfl⟩ := d1
      exact q _ F1 α1 H1 _ o1.f (fr1.setD (s := .ptr z1.o.length) ⟨a, e1, rfl⟩) h⟩
end
end DL
/-! DL5: a def's promise by data; its call; its body -/
namespace DL
open PySem PySem.Spec PyProof.Rows L2

/-- a def's answer: data, or a new list that is its caller's own -/
inductive Rr where | d (x : D) | new (xs : List D)
def RrOk (K : PySem.W.Frag) (H F' H' : Hp) : Rr → V → Prop
  | .d x, v => Dp K F' v x
  | .new xs, v => ∃ a vs, v = .ref a ∧ H a = none ∧ F' a = none ∧ H' a = some (.lst vs) ∧ DpAll K F' vs xs
structure PaOk (K : PySem.W.Frag) (F H : Hp) (pa : List Addr) (π : List (List D)) : Prop where
  len : pa.length = π.length
  at_ : ∀ (k : Nat) (a : Addr) (xs : List D), pa[k]? = some a → π[k]? = some xs → F a = none ∧ ∃ vs, H a = some (.lst vs) ∧ DpAll K F vs xs
/-- the promise: R arguments, the own lists handed in, the answer, these lists behind -/
def spG (K : PySem.W.Frag) (R : List D → List (List D) → Rr → List (List D) → Prop) : Sp := fun vs H Q _ =>
  ∃ (pa : List Addr) (F : Hp) (ws : List V) (as : List D) (π π' : List (List D)) (r : Rr), R as π r π' ∧ vs = pa.map V.ref ++ ws ∧ DpAll K F ws as ∧ Same F H ∧ PaOk K F H pa π ∧ pa.Nodup ∧ π.length = π'.length ∧
    ∀ v F' H', Same F F' → Same F' H' → (∀ b o, H b = some o → b ∉ pa → H' b = some o) → (∀ b, H b ≠ none → F b = none → F' b = none) → PaOk K F' H' pa π' → RrOk K H F' H' r v → Q v H'

section
variable {X : Cx} {N : EN} {z z1 z2 : Z} {pos p : Pos} {e : Expr} {es : List Expr} {CX : CXT} {k : Nat} {f : Addr} {fd : FuncData} {ps : List Str} {x : Str} {E : XK} {R : List D → List (List D) → Rr → List (List D) → Prop}
/-- the state behind a call, its answer not yet laid in -/
theorem Fr.after {K : PySem.W.Frag} {F F' : Hp} {α : List Addr} {σ : L2.St} {H H' : Hp} {pa : List Addr} (fr : Fr K N F α z σ H) (hpa : ∀ a ∈ pa, a ∈ α) (o' : List (Option (List D))) (hl : o'.length = z.o.length) (s1 : Same F F') (s2 : Same F' H')
    (h1 : ∀ b o, H b = some o → b ∉ pa → H' b = some o) (h2 : ∀ b, H b ≠ none → F b = none → F' b = none) (hl' : ∀ a ∈ pa, H' a ≠ none)
    (ho : ∀ (j : Nat) (a : Addr) (xs : List D), α[j]? = some a → o'[j]? = some (some xs) → a ∈ pa → F' a = none ∧ ∃ vs, H' a = some (.lst vs) ∧ DpAll K F' vs xs)
    (hk : ∀ (j : Nat) (a : Addr) (xs : List D), α[j]? = some a → o'[j]? = some (some xs) → a ∉ pa → z.o[j]? = some (some xs)) : Fr K N F' α ⟨z.s, o'⟩ σ H' := by
  have live0 : ∀ a, N.H0 a ≠ none → H a ≠ none := fun a h => by
    by_cases hp : a ∈ N.pa
    · obtain ⟨β, e, _⟩ := fr.pre
      exact fr.live a (by rw [e]; exact List.mem_append_left _ hp)
    · cases e : N.H0 a with
      | none => exact absurd e h
      | some o =>
        rw [fr.ent a o e hp]
        exact fun q => by cases q
  refine ⟨s2, fun a o e hn => h1 a o (fr.ent a o e hn) fun hm => ?_, fun a e1 e2 => h2 a (live0 a e1) (fr.fz a e1 e2), hl.trans fr.len, fr.slen, fr.nd, fr.pre, fun a ha => ?_, fun j a xs e1 e2 => ?_, fun i s e => ?_⟩
  · obtain ⟨β, e2, hβ⟩ := fr.pre
    have hm2 := hpa a hm
    rw [e2] at hm2
    rcases List.mem_append.mp hm2 with h | h
    · exact hn h
    · rw [hβ a h] at e
      cases e
  · by_cases hm : a ∈ pa
    · exact hl' a hm
    · cases e : H a with
      | none => exact absurd e (fr.live a ha)
      | some o =>
        rw [h1 a o e hm]
        exact fun q => by cases q
  · by_cases hm : a ∈ pa
    · exact ho j a xs e1 e2 hm
    · obtain ⟨fa, vs, hv, da⟩ := fr.ob j a xs e1 (hk j a xs e1 e2 hm)
      exact ⟨h2 a (by rw [hv]; exact fun q => by cases q) fa, vs, h1 a _ hv hm, dmonoA s1 da⟩
  · have h := (fr.sl i s e).mono (β := []) s1
    rw [List.append_nil] at h
    exact h
/-- the answer laid in -/
def rsOf (z : Z) : Rr → Rs | .d x => .d x | .new _ => .ptr z.o.length
def zOf (z : Z) : Rr → Z | .d _ => z | .new xs => ⟨z.s, z.o ++ [some xs]⟩
theorem Fr.answer {K : PySem.W.Frag} {F' : Hp} {α : List Addr} {σ : L2.St} {H H' : Hp} {r : Rr} {v : V} (fr : Fr K N F' α z σ H') (live : ∀ a ∈ α, H a ≠ none) (h0 : ∀ a, N.H0 a ≠ none → H a ≠ none) (hr : RrOk K H F' H' r v) :
    ∃ α', On F' F' α α' ∧ Fr K N F' α' (zOf z r) σ H' ∧ RsOk K F' α' (rsOf z r) v := by
  cases r with
  | d x => exact ⟨α, On.refl F' α, fr, hr⟩
  | new xs =>
    obtain ⟨a, vs, rfl, ha, fa, hv, da⟩ := hr
    have na : a ∉ α := fun h => live a h ha
    have h0a : N.H0 a = none := by
      cases e : N.H0 a with
      | none => rfl
      | some o => exact absurd ha (h0 a (by rw [e]; exact fun q => by cases q))
    refine ⟨α ++ [a], ⟨Same.refl F', [a], rfl⟩, ⟨fr.sub, fr.ent, fr.fz, by show (z.o ++ [some xs]).length = _; rw [List.length_append, List.length_append, fr.len]; rfl, fr.slen, ?_, ?_, fun b hb => ?_, fun j b ys e1 e2 => ?_, fun i s e => (fr.sl i s e).mono (Same.refl F')⟩, a, ?_, rfl⟩
    · refine List.nodup_append.mpr ⟨fr.nd, by simp, fun b hb c hc => ?_⟩
      have e : c = a := by simpa using hc
      rw [e]
      exact fun q => na (q ▸ hb)
    · obtain ⟨β, e, hβ⟩ := fr.pre
      refine ⟨β ++ [a], by rw [e, List.append_assoc], fun b hb => ?_⟩
      rcases List.mem_append.mp hb with hb | hb
      · exact hβ b hb
      · have e : b = a := by simpa using hb
        rw [e]
        exact h0a
    · rcases List.mem_append.mp hb with hb | hb
      · exact fr.live b hb
      · have e : b = a := by simpa using hb
        rw [e, hv]
        exact fun q => by cases q
    · have e2 : (z.o ++ [some xs])[j]? = some (some ys) := e2
      by_cases hk : j < α.length
      · rw [List.getElem?_append_left hk] at e1
        rw [List.getElem?_append_left (by rw [fr.len]; exact hk)] at e2
        exact fr.ob j b ys e1 e2
      · have hk2 : j = α.length := by
          have := (List.getElem?_eq_some_iff.mp e1).1
          rw [List.length_append] at this
          simp at this
          omega
        subst hk2
        rw [List.getElem?_append_right (Nat.le_refl _), Nat.sub_self] at e1
        have e3 : a = b := by simpa using e1
        rw [← fr.len, List.getElem?_append_right (Nat.le_refl _), Nat.sub_self] at e2
        have e4 : xs = ys := by simpa using e2
        subst e3 e4
        exact ⟨fa, vs, hv, da⟩
    · rw [fr.len, List.getElem?_append_right (Nat.le_refl _), Nat.sub_self]
      rfl
theorem Fr.live0 {K : PySem.W.Frag} {F : Hp} {α : List Addr} {σ : L2.St} {H : Hp} (fr : Fr K N F α z σ H) : ∀ a, N.H0 a ≠ none → H a ≠ none := fun a h => by
  by_cases hp : a ∈ N.pa
  · obtain ⟨β, e, _⟩ := fr.pre
    exact fr.live a (by rw [e]; exact List.mem_append_left _ hp)
  · cases e : N.H0 a with
    | none => exact absurd e h
    | some o =>
      rw [fr.ent a o e hp]
      exact fun q => by cases q

/-- the promise met, no own list handed in -/
theorem sp_call0 {K : PySem.W.Frag} {F : Hp} {α : List Addr} {σ : L2.St} {H : Hp} {Q : VK} {vs : List V} {ds : List D} {r : Rr} (fr : Fr K N F α z σ H) (da : DpAll K F vs ds) (hR : R ds [] r [])
    (q : ∀ v F' α' H', On F F' α α' → Fr K N F' α' (zOf z r) σ H' → RsOk K F' α' (rsOf z r) v → Q v H') : spG K R vs H Q E := by
  refine ⟨[], F, vs, ds, [], [], r, hR, rfl, da, fr.sub, ⟨rfl, fun k a xs e => by simp at e⟩, List.nodup_nil, rfl, fun v F' H' s1 s2 h1 h2 _ hr => ?_⟩
  have f2 : Fr K N F' α z σ H' := fr.after (pa := []) (fun a h => by cases h) z.o rfl s1 s2 h1 h2 (fun a h => by cases h) (fun j a xs _ _ h => by cases h) fun j a xs _ e _ => e
  obtain ⟨α', o3, f3, r3⟩ := f2.answer fr.live fr.live0 hr
  exact q v F' α' H' (On.trans ⟨s1, [], by simp⟩ o3) f3 r3
/-- .. the k-th own list handed in -/
theorem sp_call1 {K : PySem.W.Frag} {F : Hp} {α : List Addr} {σ : L2.St} {H : Hp} {Q : VK} {vs : List V} {ds : List D} {r : Rr} {j : Nat} {a : Addr} {xs xs' : List D} (fr : Fr K N F α z σ H) (da : DpAll K F vs ds) (hR : R ds [xs] r [xs']) (ea : α[j]? = some a) (eo : z.o[j]? = some (some xs))
    (q : ∀ v F' α' H', On F F' α α' → Fr K N F' α' (zOf ⟨z.s, z.o.set j (some xs')⟩ r) σ H' → RsOk K F' α' (rsOf ⟨z.s, z.o.set j (some xs')⟩ r) v → Q v H') : spG K R (.ref a :: vs) H Q E := by
  obtain ⟨fa, ws, hw, dw⟩ := fr.ob j a xs ea eo
  have hj : j < z.o.length := (List.getElem?_eq_some_iff.mp eo).1
  refine ⟨[a], F, vs, ds, [xs], [xs'], r, hR, rfl, da, fr.sub, ⟨rfl, fun k b ys e1 e2 => ?_⟩, by simp, rfl, fun v F' H' s1 s2 h1 h2 pk hr => ?_⟩
  · cases k with
    | zero =>
      simp at e1 e2
      subst e1 e2
      exact ⟨fa, ws, hw, dw⟩
    | succ k => simp at e1
  · obtain ⟨fa', ws', hw', dw'⟩ := pk.at_ 0 a xs' rfl rfl
    have f2 : Fr K N F' α ⟨z.s, z.o.set j (some xs')⟩ σ H' := by
      refine fr.after (pa := [a]) (fun b h => ?_) _ (by rw [List.length_set]) s1 s2 h1 h2 (fun b h => ?_) (fun i b ys e1 e2 h => ?_) fun i b ys e1 e2 h => ?_
      · have e : b = a := by simpa using h
        rw [e]
        exact List.mem_of_getElem? ea
      · have e : b = a := by simpa using h
        rw [e, hw']
        exact fun q => by cases q
      · have e : b = a := by simpa using h
        subst e
        have ij : i = j := by
          obtain ⟨g1, q1⟩ := List.getElem?_eq_some_iff.mp e1
          obtain ⟨g2, q2⟩ := List.getElem?_eq_some_iff.mp ea
          exact (List.getElem_inj fr.nd).mp (q1.trans q2.symm)
        subst ij
        rw [List.getElem?_set_self hj] at e2
        cases e2
        exact ⟨fa', ws', hw', dw'⟩
      · have ij : j ≠ i := fun q => by
          subst q
          rw [ea] at e1
          cases e1
          exact h (by simp)
        rw [List.getElem?_set_ne ij] at e2
        exact e2
    obtain ⟨α', o3, f3, r3⟩ := f2.answer fr.live fr.live0 hr
    exact q v F' α' H' (On.trans ⟨s1, [], by simp⟩ o3) f3 r3
/-- f(e, ..) -/
theorem de_call {ds : List D} {r : Rr} (G : FnOk X.prog X.w X.K X.mg X.base CX k f fd ps (spG X.K R)) (hr : Room k X.A) (hg : Gl X x) (hm : X.mg x = some (.ref f)) (hk : PySem.W.keepIn X.K (.ref f) = true) (hb : Binds X.K fd ps []) (hx : Passes CX X E)
    (ha : DAd X N z (e :: es) ds z1) (hR : R ds [] r []) (hdb : (x == ("__debug__" : Str)) = false := by decide) (he : starEach (e :: es) X.env = (false, eval e X.env) :: starEach es X.env := by rfl) (hpl : (backTo pos (starEach es X.env)).any (·.1) = false := by rfl) :
    DE X N z (.Call (.Name x p) (e :: es) [] pos) (rsOf z1 r) (zOf z1 r) :=
  PE.to (pe_call G hr hg hm hk hb .nil hx ha hdb he hpl) fun σ H Q ⟨F, α, fr, q⟩ => ⟨F, α, fr, fun vs F1 α1 H1 o1 fr1 d1 => by
    show spG X.K R (vs ++ []) H1 Q E
    rw [List.append_nil]
    exact sp_call0 fr1 d1 hR fun v F2 α2 H2 o2 f2 r2 => q v F2 α2 H2 (o1.trans o2) f2 r2⟩
theorem de_call1 {ds : List D} {r : Rr} {j : Nat} {xs xs' : List D} (G : FnOk X.prog X.w X.K X.mg X.base CX k f fd ps (spG X.K R)) (hr : Room k X.A) (hg : Gl X x) (hm : X.mg x = some (.ref f)) (hk : PySem.W.keepIn X.K (.ref f) = true) (hb : Binds X.K fd ps []) (hx : Passes CX X E)
    (ha : DAp X N z (e :: es) j ds z1) (eo : z1.o[j]? = some (some xs)) (hR : R ds [xs] r [xs']) (hdb : (x == ("__debug__" : Str)) = false := by decide) (he : starEach (e :: es) X.env = (false, eval e X.env) :: starEach es X.env := by rfl) (hpl : (backTo pos (starEach es X.env)).any (·.1) = false := by rfl) :
    DE X N z (.Call (.Name x p) (e :: es) [] pos) (rsOf ⟨z1.s, z1.o.set j (some xs')⟩ r) (zOf ⟨z1.s, z1.o.set j (some xs')⟩ r) :=
  PE.to (pe_call G hr hg hm hk hb .nil hx ha hdb he hpl) fun σ H Q ⟨F, α, fr, q⟩ => ⟨F, α, fr, fun a vs F1 α1 H1 o1 fr1 ea d1 => by
    show spG X.K R (V.ref a :: vs ++ []) H1 Q E
    rw [List.append_nil]
    exact sp_call1 fr1 d1 hR ea eo fun v F2 α2 H2 o2 f2 r2 => q v F2 α2 H2 (o1.trans o2) f2 r2⟩
end

/-! ### a def's body -/
def z0 (N : List Str) (π : List (List D)) (as : List D) : Z := ⟨(List.range π.length).map Sl.ptr ++ as.map Sl.d ++ List.replicate (N.length - (π.length + as.length)) Sl.no, π.map some⟩
def rrRs (π' : List (List D)) (r : Rr) (q : Rs) (z : Z) : Prop :=
  (∀ (j : Nat) (xs : List D), π'[j]? = some xs → z.o[j]? = some (some xs)) ∧ match r with | .d x => q = .d x | .new xs => ∃ k, q = .ptr k ∧ π'.length ≤ k ∧ z.o[k]? = some (some xs)
section
variable {P : Program} {w : World} {K : PySem.W.Frag} {mg : Str → Option Value} {base : Heap}
theorem mk_fn {x qual : Str} {st : Stmt} {f : Addr} {fd : FuncData} {Nm ps : List Str} {k : Nat} {R : List D → List (List D) → Rr → List (List D) → Prop} (F : Fun K x qual st f fd) (S : FnScope Nm ps (defScope st))
    (len : ∀ as π r π', R as π r π' → π.length + as.length = ps.length ∧ π.length = π'.length)
    (body : ∀ (cdv : Value) (A : Around) (outer : List Env) (s : Shared) (H : Hp) (E : XK) (N : EN) (as : List D) (π : List (List D)) (r : Rr) (π' : List (List D)), Room k (A.deeper (envOfC qual (defScope st) s.heap.objs.size f cdv)) → N.pa.length = π.length → R as π r π' →
      DS (cxOf CX0 P w K mg base Nm qual (defScope st) f cdv A outer s H E).nox N (z0 Nm π as) (defBody st) (fun z => rrRs π' r (.d .none) z) (fun q z => rrRs π' r q z)) :
    FnOk P w K mg base CX0 (k + 1) f fd ps (spG K R) := by
  refine F.ok S (fun vs H Q E h => ?_) (fun cdv A outer s H vs Q E hr h => ?_)
  · obtain ⟨pa, F, ws, as, π, π', r, hR, rfl, da, _, pk, _⟩ := h
    rw [List.length_append, List.length_map, DpAll.len da, pk.len]
    exact (len as π r π' hR).1
  · obtain ⟨pa, F0, ws, as, π, π', r, hR, rfl, da, sF, pk, nd, hl', q⟩ := h
    have hlen := (len as π r π' hR).1
    have hps : ps.length ≤ Nm.length := by have := congrArg List.length S.pre; rw [List.length_take] at this; omega
    have hda := DpAll.len da
    have hpl := pk.len
    have fr0 : Fr K ⟨H, F0, pa⟩ F0 pa (z0 Nm π as) (L2.start Nm (pa.map V.ref ++ ws)) H := by
      refine ⟨sF, fun a o e _ => e, fun a _ e => e, by show (π.map some).length = _; rw [List.length_map]; exact hpl.symm, ?_, nd, ⟨[], by simp, fun b h => by cases h⟩, fun a ha e => ?_, fun j a xs e1 e2 => ?_, fun i t e => ?_⟩
      · show ((List.range π.length).map Sl.ptr ++ as.map Sl.d ++ List.replicate (Nm.length - (π.length + as.length)) Sl.no).length = (L2.start Nm (pa.map V.ref ++ ws)).length
        unfold L2.start
        simp only [List.length_append, List.length_map, List.length_range, List.length_replicate]
        omega
      · obtain ⟨j, hj⟩ := List.getElem?_of_mem ha
        have hj2 : j < π.length := by rw [← hpl]; exact (List.getElem?_eq_some_iff.mp hj).1
        obtain ⟨_, vs, hv, _⟩ := pk.at_ j a π[j] hj (List.getElem?_eq_getElem hj2)
        have e : H a = none := e
        rw [hv] at e
        cases e
      · have e2 : (π.map some)[j]? = some (some xs) := e2
        rw [List.getElem?_map] at e2
        cases q2 : π[j]? with
        | none => rw [q2] at e2; cases e2
        | some ys =>
          rw [q2] at e2
          have e3 : ys = xs := by simpa using e2
          subst e3
          exact pk.at_ j a ys e1 q2
      · have e : ((List.range π.length).map Sl.ptr ++ as.map Sl.d ++ List.replicate (Nm.length - (π.length + as.length)) Sl.no)[i]? = some t := e
        show SlOk K F0 pa t (L2.start Nm (pa.map V.ref ++ ws))[i]?
        by_cases h1 : i < π.length
        · rw [List.append_assoc, List.getElem?_append_left (by simpa using h1), List.getElem?_map, List.getElem?_range h1] at e
          have e3 : Sl.ptr i = t := by simpa using e
          subst e3
          have hi : i < pa.length := by omega
          refine ⟨pa[i], List.getElem?_eq_getElem hi, ?_⟩
          unfold L2.start
          rw [List.getElem?_append_left (by simp; omega), List.getElem?_map, List.getElem?_append_left (by simpa using hi), List.getElem?_map, List.getElem?_eq_getElem hi]
          rfl
        · by_cases h2 : i < π.length + as.length
          · rw [List.getElem?_append_left (by simp; omega), List.getElem?_append_right (by simp; omega), List.getElem?_map] at e
            simp only [List.length_map, List.length_range] at e
            have h3 : i - π.length < as.length := by omega
            rw [List.getElem?_eq_getElem h3] at e
            have e3 : Sl.d as[i - π.length] = t := by simpa using e
            subst e3
            obtain ⟨v, hv, dv⟩ := DpAll.get da (List.getElem?_eq_getElem h3)
            refine ⟨v, ?_, dv⟩
            unfold L2.start
            rw [List.getElem?_append_left (by simp; omega), List.getElem?_map, List.getElem?_append_right (by simp; omega), List.length_map, hpl, hv]
            rfl
          · rw [List.getElem?_append_right (by simp; omega)] at e
            have := List.mem_of_getElem? e
            have e3 : t = Sl.no := List.eq_of_mem_replicate this
            subst e3
            trivial
    have fin : ∀ (v : V) (σ' : L2.St) (F' : Hp) (α' : List Addr) (H' : Hp) (rr : Rs) (z' : Z), Same F0 F' → Fr K ⟨H, F0, pa⟩ F' α' z' σ' H' → RsOk K F' α' rr v → rrRs π' r rr z' → Q v H' := by
        intro v σ' F' α' H' rr z' s1 fr1 r1 ⟨hp', hq⟩
        obtain ⟨β, eα, hβ⟩ := fr1.pre
        have eα : α' = pa ++ β := eα
        have hβ : ∀ b ∈ β, H b = none := hβ
        refine q v F' H' s1 fr1.sub (fun b o e hn => fr1.ent b o e hn) (fun b e1 e2 => fr1.fz b e1 e2) ⟨by omega, fun j a xs e1 e2 => ?_⟩ ?_
        · refine fr1.ob j a xs ?_ (hp' j xs e2)
          rw [eα, List.getElem?_append_left (List.getElem?_eq_some_iff.mp e1).1]
          exact e1
        · cases r with
          | d x =>
            have hq : rr = .d x := hq
            subst hq
            exact r1
          | new xs =>
            obtain ⟨j, e1, e2, e3⟩ := hq
            subst e1
            obtain ⟨a, e4, rfl⟩ := r1
            obtain ⟨fa, vs, hv, da'⟩ := fr1.ob j a xs e4 e3
            refine ⟨a, vs, rfl, ?_, fa, hv, da'⟩
            rw [eα, List.getElem?_append_right (by omega)] at e4
            exact hβ a (List.mem_of_getElem? e4)
    refine ⟨_, body cdv A outer s H E ⟨H, F0, pa⟩ as π r π' hr hpl hR, F0, pa, fr0, ?_, ?_⟩
    · intro σ' F' α' H' z' s1 fr1 h
      exact fin .non σ' F' α' H' (.d .none) z' s1 fr1 .non h
    · intro v σ' F' α' H' rr z' s1 fr1 r1 h
      exact fin v σ' F' α' H' rr z' s1 fr1 r1 h
end
end DL
/-! DL6: built-ins, subscripts, slices, lists' methods -/
namespace DL
open PySem PySem.Spec PyProof.Rows L2

section
variable {X : Cx} {N : EN} {z z1 z2 z3 : Z} {pos p p2 : Pos} {a b e : Expr} {es : List Expr} {x : Str} {nx : Z → Prop} {rt : Rs → Z → Prop}
/-! ### built-ins -/
theorem de_bt {id : String} {r : List V → Hp → VK → Prop} {ds : List D} {rw : Rs} (hc : CallR X (.builtin id) r) (hg : Gl X x) (hm : X.mg x = none) (hv : bootBuiltins x = some (.builtin id)) (ha : DAd X N z (e :: es) ds z1)
    (hr : ∀ (F : Hp) (α : List Addr) (σ : L2.St) (vs : List V) (H : Hp) (Q : VK), Fr X.K N F α z1 σ H → DpAll X.K F vs ds → (∀ o F' α' H', On F F' α α' → Fr X.K N F' α' z2 σ H' → RsOk X.K F' α' rw o → Q o H') → r vs H Q)
    (hn : x ≠ "__name__" := by decide) (hdb : (x == ("__debug__" : Str)) = false := by decide)
    (he : starEach (e :: es) X.env = (false, eval e X.env) :: starEach es X.env := by rfl) (hpl : (backTo pos (starEach es X.env)).any (·.1) = false := by rfl) : DE X N z (.Call (.Name x p) (e :: es) [] pos) rw z2 :=
  PE.to (pe_callB hc hg hm hv ha hn hdb he hpl) fun σ H Q ⟨F, α, fr, q⟩ => ⟨F, α, fr, fun vs F1 α1 H1 o1 fr1 d1 => hr F1 α1 σ vs H1 Q fr1 d1 fun o F2 α2 H2 o2 f2 r2 => q o F2 α2 H2 (o1.trans o2) f2 r2⟩
theorem de_ty {T : String} {r : List V → Hp → VK → Prop} {ds : List D} {rw : Rs} (hc : CallR X (.type T) r) (hg : Gl X x) (hm : X.mg x = none) (hv : bootBuiltins x = some (.type T)) (ha : DAd X N z (e :: es) ds z1)
    (hr : ∀ (F : Hp) (α : List Addr) (σ : L2.St) (vs : List V) (H : Hp) (Q : VK), Fr X.K N F α z1 σ H → DpAll X.K F vs ds → (∀ o F' α' H', On F F' α α' → Fr X.K N F' α' z2 σ H' → RsOk X.K F' α' rw o → Q o H') → r vs H Q)
    (hn : x ≠ "__name__" := by decide) (hdb : (x == ("__debug__" : Str)) = false := by decide)
    (he : starEach (e :: es) X.env = (false, eval e X.env) :: starEach es X.env := by rfl) (hpl : (backTo pos (starEach es X.env)).any (·.1) = false := by rfl) : DE X N z (.Call (.Name x p) (e :: es) [] pos) rw z2 :=
  PE.to (pe_callTy hc hg hm hv ha hn hdb he hpl) fun σ H Q ⟨F, α, fr, q⟩ => ⟨F, α, fr, fun vs F1 α1 H1 o1 fr1 d1 => hr F1 α1 σ vs H1 Q fr1 d1 fun o F2 α2 H2 o2 f2 r2 => q o F2 α2 H2 (o1.trans o2) f2 r2⟩
/-- .. an own list handed in first -/
theorem de_btP {id : String} {r : List V → Hp → VK → Prop} {ds : List D} {k : Nat} {rw : Rs} (hc : CallR X (.builtin id) r) (hg : Gl X x) (hm : X.mg x = none) (hv : bootBuiltins x = some (.builtin id)) (ha : DAp X N z (e :: es) k ds z1)
    (hr : ∀ (F : Hp) (α : List Addr) (σ : L2.St) (c : Addr) (vs : List V) (H : Hp) (Q : VK), Fr X.K N F α z1 σ H → α[k]? = some c → DpAll X.K F vs ds → (∀ o F' α' H', On F F' α α' → Fr X.K N F' α' z2 σ H' → RsOk X.K F' α' rw o → Q o H') → r (.ref c :: vs) H Q)
    (hn : x ≠ "__name__" := by decide) (hdb : (x == ("__debug__" : Str)) = false := by decide)
    (he : starEach (e :: es) X.env = (false, eval e X.env) :: starEach es X.env := by rfl) (hpl : (backTo pos (starEach es X.env)).any (·.1) = false := by rfl) : DE X N z (.Call (.Name x p) (e :: es) [] pos) rw z2 :=
  PE.to (pe_callB hc hg hm hv ha hn hdb he hpl) fun σ H Q ⟨F, α, fr, q⟩ => ⟨F, α, fr, fun c vs F1 α1 H1 o1 fr1 ec d1 => hr F1 α1 σ c vs H1 Q fr1 ec d1 fun o F2 α2 H2 o2 f2 r2 => q o F2 α2 H2 (o1.trans o2) f2 r2⟩
theorem de_tyP {T : String} {r : List V → Hp → VK → Prop} {ds : List D} {k : Nat} {rw : Rs} (hc : CallR X (.type T) r) (hg : Gl X x) (hm : X.mg x = none) (hv : bootBuiltins x = some (.type T)) (ha : DAp X N z (e :: es) k ds z1)
    (hr : ∀ (F : Hp) (α : List Addr) (σ : L2.St) (c : Addr) (vs : List V) (H : Hp) (Q : VK), Fr X.K N F α z1 σ H → α[k]? = some c → DpAll X.K F vs ds → (∀ o F' α' H', On F F' α α' → Fr X.K N F' α' z2 σ H' → RsOk X.K F' α' rw o → Q o H') → r (.ref c :: vs) H Q)
    (hn : x ≠ "__name__" := by decide) (hdb : (x == ("__debug__" : Str)) = false := by decide)
    (he : starEach (e :: es) X.env = (false, eval e X.env) :: starEach es X.env := by rfl) (hpl : (backTo pos (starEach es X.env)).any (·.1) = false := by rfl) : DE X N z (.Call (.Name x p) (e :: es) [] pos) rw z2 :=
  PE.to (pe_callTy hc hg hm hv ha hn hdb he hpl) fun σ H Q ⟨F, α, fr, q⟩ => ⟨F, α, fr, fun c vs F1 α1 H1 o1 fr1 ec d1 => hr F1 α1 σ c vs H1 Q fr1 ec d1 fun o F2 α2 H2 o2 f2 r2 => q o F2 α2 H2 (o1.trans o2) f2 r2⟩
/-- one data argument -/
theorem DpAll.one {K : PySem.W.Frag} {F : Hp} {vs : List V} {d : D} (h : DpAll K F vs [d]) : ∃ v, vs = [v] ∧ Dp K F v d := by
  cases h with
  | cons r t => cases t; exact ⟨_, rfl, r⟩
theorem DpAll.two {K : PySem.W.Frag} {F : Hp} {vs : List V} {d d' : D} (h : DpAll K F vs [d, d']) : ∃ v v', vs = [v, v'] ∧ Dp K F v d ∧ Dp K F v' d' := by
  cases h with
  | cons r t =>
    cases t with
    | cons r' t => cases t; exact ⟨_, _, rfl, r, r'⟩
/-- the list at an own place, read -/
theorem Fr.seq {K : PySem.W.Frag} {F : Hp} {α : List Addr} {σ : L2.St} {H : Hp} (fr : Fr K N F α z σ H) {k : Nat} {c : Addr} {xs : List D} (ec : α[k]? = some c) (eo : z.o[k]? = some (some xs)) : ∃ vs, H c = some (.lst vs) ∧ SqL K H c vs ∧ DpAll K F vs xs := by
  obtain ⟨_, vs, hv, da⟩ := fr.ob k c xs ec eo
  exact ⟨vs, hv, SqL.of hv, da⟩
variable {xs ys : List D} {k : Nat} {i j : Int}
abbrev S1 (X : Cx) (e : Expr) : Prop := starEach [e] X.env = (false, eval e X.env) :: starEach [] X.env
abbrev S2 (X : Cx) (e e' : Expr) : Prop := starEach [e, e'] X.env = (false, eval e X.env) :: starEach [e'] X.env
/-- len -/
theorem de_lenT (hg : Gl X "len") (hm : X.mg "len" = none) (h : DE X N z e (.d (.tuple xs)) z1) (hs : S1 X e := by rfl) : DE X N z (.Call (.Name "len" p) [e] [] pos) (.d (.int xs.length)) z1 :=
  de_bt call_len_seq hg hm PySem.boot_len (da_cons h da_nil hs) (fun F α σ vs H Q fr d q => by
    obtain ⟨v, rfl, dd⟩ := DpAll.one d
    obtain ⟨c, ws, rfl, h1, h2, h3⟩ := SqT_of_dp dd fr.sub
    refine ⟨c, ws, rfl, .inr h1, ?_⟩
    rw [DpAll.len h3]
    exact q _ F α H (On.refl F α) fr (.int _)) (he := hs)
theorem de_lenL (hg : Gl X "len") (hm : X.mg "len" = none) (h : DE X N z e (.d (.list xs)) z1) (hs : S1 X e := by rfl) : DE X N z (.Call (.Name "len" p) [e] [] pos) (.d (.int xs.length)) z1 :=
  de_bt call_len_seq hg hm PySem.boot_len (da_cons h da_nil hs) (fun F α σ vs H Q fr d q => by
    obtain ⟨v, rfl, dd⟩ := DpAll.one d
    obtain ⟨c, ws, rfl, h1, h2, h3⟩ := SqL_of_dp dd fr.sub
    refine ⟨c, ws, rfl, .inl h1, ?_⟩
    rw [DpAll.len h3]
    exact q _ F α H (On.refl F α) fr (.int _)) (he := hs)
theorem de_lenP (hg : Gl X "len") (hm : X.mg "len" = none) (h : DE X N z e (.ptr k) z1) (eo : z1.o[k]? = some (some xs) := by rfl) (hs : S1 X e := by rfl) : DE X N z (.Call (.Name "len" p) [e] [] pos) (.d (.int xs.length)) z1 :=
  de_btP call_len_seq hg hm PySem.boot_len (dap_cons h da_nil hs) (fun F α σ c vs H Q fr ec d q => by
    cases d
    obtain ⟨ws, hv, hs, da⟩ := fr.seq ec eo
    refine ⟨c, ws, rfl, .inl hs, ?_⟩
    rw [DpAll.len da]
    exact q _ F α H (On.refl F α) fr (.int _)) (he := hs)
/-- tuple(list) -/
theorem de_tupL (hg : Gl X "tuple") (hm : X.mg "tuple" = none) (h : DE X N z e (.d (.list xs)) z1) (hs : S1 X e := by rfl) : DE X N z (.Call (.Name "tuple" p) [e] [] pos) (.d (.tuple xs)) z1 :=
  de_ty call_tuple_of hg hm (by decide +kernel) (da_cons h da_nil hs) (fun F α σ vs H Q fr d q => by
    obtain ⟨v, rfl, dd⟩ := DpAll.one d
    obtain ⟨c, ws, rfl, h1, h2, h3⟩ := SqL_of_dp dd fr.sub
    refine ⟨c, ws, rfl, .inl ⟨h1, fun l hl => ?_⟩⟩
    obtain ⟨o2, fr2⟩ := fr.ext (o := .tup ws) hl
    exact q _ _ α _ o2 fr2 (.tup (SqT.of upd_same) (dmonoA o2.f h3))) (he := hs)
theorem de_tupT (hg : Gl X "tuple") (hm : X.mg "tuple" = none) (h : DE X N z e (.d (.tuple xs)) z1) (hs : S1 X e := by rfl) : DE X N z (.Call (.Name "tuple" p) [e] [] pos) (.d (.tuple xs)) z1 :=
  de_ty call_tuple_of hg hm (by decide +kernel) (da_cons h da_nil hs) (fun F α σ vs H Q fr d q => by
    obtain ⟨v, rfl, dd⟩ := DpAll.one d
    obtain ⟨c, ws, rfl, h1, h2, h3⟩ := SqT_of_dp dd fr.sub
    exact ⟨c, ws, rfl, .inr ⟨h1, q _ F α H (On.refl F α) fr dd⟩⟩) (he := hs)
theorem de_tupP (hg : Gl X "tuple") (hm : X.mg "tuple" = none) (h : DE X N z e (.ptr k) z1) (eo : z1.o[k]? = some (some xs)) (hs : S1 X e := by rfl) : DE X N z (.Call (.Name "tuple" p) [e] [] pos) (.d (.tuple xs)) z1 :=
  de_tyP call_tuple_of hg hm (by decide +kernel) (dap_cons h da_nil hs) (fun F α σ c vs H Q fr ec d q => by
    cases d
    obtain ⟨ws, hv, hs, da⟩ := fr.seq ec eo
    refine ⟨c, ws, rfl, .inl ⟨hs, fun l hl => ?_⟩⟩
    obtain ⟨o2, fr2⟩ := fr.ext (o := .tup ws) hl
    exact q _ _ α _ o2 fr2 (.tup (SqT.of upd_same) (dmonoA o2.f da))) (he := hs)
/-- list(..) -/
theorem de_listT (hg : Gl X "list") (hm : X.mg "list" = none) (h : DE X N z e (.d (.tuple xs)) z1) (hs : S1 X e := by rfl) : DE X N z (.Call (.Name "list" p) [e] [] pos) (.ptr z1.o.length) ⟨z1.s, z1.o ++ [some xs]⟩ :=
  de_ty call_list_of hg hm (by decide +kernel) (da_cons h da_nil hs) (fun F α σ vs H Q fr d q => by
    obtain ⟨v, rfl, dd⟩ := DpAll.one d
    obtain ⟨c, ws, rfl, h1, h2, h3⟩ := SqT_of_dp dd fr.sub
    refine ⟨c, ws, rfl, .inr h1, fun l hl => ?_⟩
    obtain ⟨o2, fr2, e2⟩ := fr.new hl h3
    exact q _ _ _ _ o2 fr2 ⟨l, e2, rfl⟩) (he := hs)
theorem de_listL (hg : Gl X "list") (hm : X.mg "list" = none) (h : DE X N z e (.d (.list xs)) z1) (hs : S1 X e := by rfl) : DE X N z (.Call (.Name "list" p) [e] [] pos) (.ptr z1.o.length) ⟨z1.s, z1.o ++ [some xs]⟩ :=
  de_ty call_list_of hg hm (by decide +kernel) (da_cons h da_nil hs) (fun F α σ vs H Q fr d q => by
    obtain ⟨v, rfl, dd⟩ := DpAll.one d
    obtain ⟨c, ws, rfl, h1, h2, h3⟩ := SqL_of_dp dd fr.sub
    refine ⟨c, ws, rfl, .inl h1, fun l hl => ?_⟩
    obtain ⟨o2, fr2, e2⟩ := fr.new hl h3
    exact q _ _ _ _ o2 fr2 ⟨l, e2, rfl⟩) (he := hs)
/-- sum of an own list of ints -/
theorem de_sumP {ns : List Int} (hc : X.calm = true) (hg : Gl X "sum") (hm : X.mg "sum" = none) (h : DE X N z e (.ptr k) z1) (eo : z1.o[k]? = some (some (ns.map PyData.int))) (hs : S1 X e := by rfl) : DE X N z (.Call (.Name "sum" p) [e] [] pos) (.d (.int ns.sum)) z1 :=
  de_btP (cr_sum hc) hg hm (by decide +kernel) (dap_cons h da_nil hs) (fun F α σ c vs H Q fr ec d q => by
    cases d
    obtain ⟨ws, hv, hs, da⟩ := fr.seq ec eo
    have e := DpAll.ints da
    subst e
    exact ⟨c, ns, rfl, hs, q _ F α H (On.refl F α) fr (.int _)⟩) (he := hs)
theorem de_sumL {ns : List Int} (hc : X.calm = true) (hg : Gl X "sum") (hm : X.mg "sum" = none) (h : DE X N z e (.d (.list (ns.map PyData.int))) z1) (hs : S1 X e := by rfl) : DE X N z (.Call (.Name "sum" p) [e] [] pos) (.d (.int ns.sum)) z1 :=
  de_bt (cr_sum hc) hg hm (by decide +kernel) (da_cons h da_nil hs) (fun F α σ vs H Q fr d q => by
    obtain ⟨v, rfl, dd⟩ := DpAll.one d
    obtain ⟨c, ws, rfl, h1, h2, h3⟩ := SqL_of_dp dd fr.sub
    have e := DpAll.ints h3
    subst e
    exact ⟨c, ns, rfl, h1, q _ F α H (On.refl F α) fr (.int _)⟩) (he := hs)
theorem de_abs (hg : Gl X "abs") (hm : X.mg "abs" = none) (h : DE X N z e (.d (.int i)) z1) (hs : S1 X e := by rfl) : DE X N z (.Call (.Name "abs" p) [e] [] pos) (.d (.int i.natAbs)) z1 :=
  de_bt call_abs hg hm (by decide +kernel) (da_cons h da_nil hs) (fun F α σ vs H Q fr d q => by
    obtain ⟨v, rfl, dd⟩ := DpAll.one d
    cases dd
    refine ⟨i, rfl, ?_⟩
    have e : (if i < 0 then -i else i) = (i.natAbs : Int) := by split <;> omega
    rw [e]
    exact q _ F α H (On.refl F α) fr (.int _)) (he := hs)
theorem de_max2 (hc : X.calm = true) (hg : Gl X "max") (hm : X.mg "max" = none) (h : DE X N z a (.d (.int i)) z1) (h' : DE X N z1 b (.d (.int j)) z2) (hs : S2 X a b := by rfl) (hs' : S1 X b := by rfl) (hpl : (backTo pos (starEach [b] X.env)).any (·.1) = false := by rfl) : DE X N z (.Call (.Name "max" p) [a, b] [] pos) (.d (.int (max i j))) z2 :=
  de_bt (call_max2 hc) hg hm (by decide +kernel) (da_cons h (da_cons h' da_nil hs') hs) (fun F α σ vs H Q fr d q => by
    obtain ⟨v, v', rfl, dd, dd'⟩ := DpAll.two d
    cases dd
    cases dd'
    refine ⟨i, j, rfl, ?_⟩
    have e : (if j > i then j else i) = max i j := by omega
    rw [e]
    exact q _ F α H (On.refl F α) fr (.int _)) (he := hs) (hpl := hpl)
theorem de_min2 (hc : X.calm = true) (hg : Gl X "min") (hm : X.mg "min" = none) (h : DE X N z a (.d (.int i)) z1) (h' : DE X N z1 b (.d (.int j)) z2) (hs : S2 X a b := by rfl) (hs' : S1 X b := by rfl) (hpl : (backTo pos (starEach [b] X.env)).any (·.1) = false := by rfl) : DE X N z (.Call (.Name "min" p) [a, b] [] pos) (.d (.int (min i j))) z2 :=
  de_bt (call_min2 hc) hg hm (by decide +kernel) (da_cons h (da_cons h' da_nil hs') hs) (fun F α σ vs H Q fr d q => by
    obtain ⟨v, v', rfl, dd, dd'⟩ := DpAll.two d
    cases dd
    cases dd'
    refine ⟨i, j, rfl, ?_⟩
    have e : (if j < i then j else i) = min i j := by omega
    rw [e]
    exact q _ F α H (On.refl F α) fr (.int _)) (he := hs) (hpl := hpl)
theorem de_intB {t : Bool} (hg : Gl X "int") (hm : X.mg "int" = none) (h : DE X N z e (.d (.bool t)) z1) (hs : S1 X e := by rfl) : DE X N z (.Call (.Name "int" p) [e] [] pos) (.d (.int (if t = true then 1 else 0))) z1 :=
  de_ty call_int1 hg hm (by decide +kernel) (da_cons h da_nil hs) (fun F α σ vs H Q fr d q => by
    obtain ⟨v, rfl, dd⟩ := DpAll.one d
    cases dd
    refine .inr ⟨t, rfl, ?_⟩
    exact q _ F α H (On.refl F α) fr (.int _)) (he := hs)
theorem de_allP {ns : List Bool} (hc : X.calm = true) (hg : Gl X "all") (hm : X.mg "all" = none) (h : DE X N z e (.ptr k) z1) (eo : z1.o[k]? = some (some (ns.map PyData.bool))) (hs : S1 X e := by rfl) : DE X N z (.Call (.Name "all" p) [e] [] pos) (.d (.bool (ns.all id))) z1 :=
  de_btP (cr_all hc) hg hm (by decide +kernel) (dap_cons h da_nil hs) (fun F α σ c vs H Q fr ec d q => by
    cases d
    obtain ⟨ws, hv, hs, da⟩ := fr.seq ec eo
    have e := DpAll.bools da
    subst e
    exact ⟨c, ns, rfl, hs, q _ F α H (On.refl F α) fr (.bl _)⟩) (he := hs)
theorem de_anyP {ns : List Bool} (hc : X.calm = true) (hg : Gl X "any") (hm : X.mg "any" = none) (h : DE X N z e (.ptr k) z1) (eo : z1.o[k]? = some (some (ns.map PyData.bool))) (hs : S1 X e := by rfl) : DE X N z (.Call (.Name "any" p) [e] [] pos) (.d (.bool (ns.any id))) z1 :=
  de_btP (cr_any hc) hg hm (by decide +kernel) (dap_cons h da_nil hs) (fun F α σ c vs H Q fr ec d q => by
    cases d
    obtain ⟨ws, hv, hs, da⟩ := fr.seq ec eo
    have e := DpAll.bools da
    subst e
    exact ⟨c, ns, rfl, hs, q _ F α H (On.refl F α) fr (.bl _)⟩) (he := hs)

/-! ### subscripts -/
theorem atI_all {K : PySem.W.Frag} {F : Hp} {vs : List V} {d : D} (h : DpAll K F vs xs) (e : atI xs i = some d) : ∃ v, atI vs i = some v ∧ Dp K F v d := by
  unfold atI at e ⊢
  rw [DpAll.len h]
  cases q : ixN xs.length i with
  | none => rw [q] at e; cases e
  | some j =>
    rw [q] at e
    exact DpAll.get h e
theorem de_ixT {d : D} (ha : DE X N z a (.d (.tuple xs)) z1) (hb : DE X N z1 b (.d (.int i)) z2) (h : atI xs i = some d) (hs : PlainIx b := by exact fun _ _ => rfl) : DE X N z (.Subscript a b pos) (.d d) z2 :=
  PE.to (pe_ix ix_tup ha hb hs) fun σ H Q ⟨F, α, fr, q⟩ => ⟨F, α, fr, fun v F1 α1 H1 o1 fr1 d1 => ⟨F1, α1, fr1, fun u F2 α2 H2 o2 fr2 d2 => by
    obtain ⟨c, vs, rfl, h1, h2, h3⟩ := SqT_of_dp (o2.dp (show Dp X.K F1 v (.tuple xs) from d1)) fr2.sub
    cases (d2 : Dp X.K F2 u (.int i))
    obtain ⟨w, e1, dw⟩ := atI_all h3 h
    exact ⟨c, vs, i, w, rfl, rfl, h1, e1, q _ F2 α2 H2 (o1.trans o2) fr2 dw⟩⟩⟩
theorem de_ixL {d : D} (ha : DE X N z a (.d (.list xs)) z1) (hb : DE X N z1 b (.d (.int i)) z2) (h : atI xs i = some d) (hs : PlainIx b := by exact fun _ _ => rfl) : DE X N z (.Subscript a b pos) (.d d) z2 :=
  PE.to (pe_ix ix_list ha hb hs) fun σ H Q ⟨F, α, fr, q⟩ => ⟨F, α, fr, fun v F1 α1 H1 o1 fr1 d1 => ⟨F1, α1, fr1, fun u F2 α2 H2 o2 fr2 d2 => by
    obtain ⟨c, vs, rfl, h1, h2, h3⟩ := SqL_of_dp (o2.dp (show Dp X.K F1 v (.list xs) from d1)) fr2.sub
    cases (d2 : Dp X.K F2 u (.int i))
    obtain ⟨w, e1, dw⟩ := atI_all h3 h
    exact ⟨c, vs, i, w, rfl, rfl, h1, e1, q _ F2 α2 H2 (o1.trans o2) fr2 dw⟩⟩⟩
theorem de_ixP {d : D} (ha : DE X N z a (.ptr k) z1) (hb : DE X N z1 b (.d (.int i)) z2) (eo : z2.o[k]? = some (some xs)) (h : atI xs i = some d) (hs : PlainIx b := by exact fun _ _ => rfl) : DE X N z (.Subscript a b pos) (.d d) z2 :=
  PE.to (pe_ix ix_list ha hb hs) fun σ H Q ⟨F, α, fr, q⟩ => ⟨F, α, fr, fun v F1 α1 H1 o1 fr1 d1 => ⟨F1, α1, fr1, fun u F2 α2 H2 o2 fr2 d2 => by
    obtain ⟨c, ec, rfl⟩ := o2.rs d1
    obtain ⟨vs, hv, hs, da⟩ := fr2.seq ec eo
    cases (d2 : Dp X.K F2 u (.int i))
    obtain ⟨w, e1, dw⟩ := atI_all da h
    exact ⟨c, vs, i, w, rfl, rfl, hs, e1, q _ F2 α2 H2 (o1.trans o2) fr2 dw⟩⟩⟩
theorem atI_at {ds : List D} {j : Nat} {d : D} (h : ds[j]? = some d) : atI ds (j : Int) = some d := atI_nat h
theorem atI_int {ns : List Int} (h0 : 0 ≤ i) (h1 : i < ns.length) : atI (ns.map PyData.int) i = some (.int (ns.getD i.toNat 0)) := by
  have e : ((i.toNat : Nat) : Int) = i := by omega
  have hl : i.toNat < ns.length := by omega
  have q : (ns.map PyData.int)[i.toNat]? = some (.int (ns.getD i.toNat 0)) := by
    rw [List.getElem?_map, List.getElem?_eq_getElem hl, List.getD_eq_getElem?_getD, List.getElem?_eq_getElem hl]
    rfl
  have := atI_nat q
  rw [e] at this
  exact this

/-! ### slices -/
def cutG {α : Type} (xs : List α) (lo hi : Option Int) : List α := (xs.drop (HT.sIx xs.length 0 lo)).take (HT.sIx xs.length xs.length hi - HT.sIx xs.length 0 lo)
theorem cut_all {K : PySem.W.Frag} {F : Hp} {vs : List V} (h : DpAll K F vs xs) (lo hi : Option Int) : DpAll K F (cutV vs lo hi) (cutG xs lo hi) := by
  unfold cutV cutG
  rw [DpAll.len h]
  exact DpAll.cut h _ _
theorem cutG_whole {α : Type} {xs : List α} {lo hi : Option Int} (h : HT.sIx xs.length 0 lo = 0 ∧ HT.sIx xs.length xs.length hi = xs.length) : cutG xs lo hi = xs := by
  unfold cutG
  rw [h.1, h.2]
  simp
theorem cutG_map {α β : Type} (g : α → β) (xs : List α) (lo hi : Option Int) : cutG (xs.map g) lo hi = (cutG xs lo hi).map g := by
  unfold cutG
  rw [List.length_map, List.map_take, List.map_drop]
def tDO (K : PySem.W.Frag) (N : EN) (z : Z) (o : Option Int) (z' : Z) : TO := fun σ H Q => ∃ F α, Fr K N F α z σ H ∧ ∀ F' α' H', On F F' α α' → Fr K N F' α' z' σ H' → Q o H'
abbrev DO (X : Cx) (N : EN) (z : Z) (e : Option Expr) (o : Option Int) (z' : Z) : Prop := PO X e (tDO X.K N z o z')
theorem PO.to {e : Option Expr} {t t' : TO} (h : PO X e t) (w : ∀ σ H Q, t' σ H Q → t σ H Q) : PO X e t' := ⟨fun pins s σ H Q I q => h.run pins s σ H Q I (w _ _ _ q)⟩
theorem do_none : DO X N z none none z := PO.to po_none fun σ H Q ⟨F, α, fr, q⟩ => q F α H (On.refl F α) fr
theorem do_some (h : DE X N z e (.d (.int i)) z1) : DO X N z (some e) (some i) z1 :=
  PO.to (po_some h) fun σ H Q ⟨F, α, fr, q⟩ => ⟨F, α, fr, fun v F1 α1 H1 o1 fr1 d1 => by
    cases (d1 : Dp X.K F1 v (.int i))
    exact ⟨i, rfl, q F1 α1 H1 o1 fr1⟩⟩
variable {lo hi : Option Expr} {l u : Option Int}
theorem de_slT (he : DE X N z e (.d (.tuple xs)) z1) (hl : DO X N z1 lo l z2) (hu : DO X N z2 hi u z3) : DE X N z (.Subscript e (.Slice lo hi none p2) pos) (.d (.tuple (cutG xs l u))) z3 :=
  PE.to (pe_slice sl_tupA he hl hu) fun σ H Q ⟨F, α, fr, q⟩ => ⟨F, α, fr, fun v F1 α1 H1 o1 fr1 d1 => ⟨F1, α1, fr1, fun F2 α2 H2 o2 fr2 => ⟨F2, α2, fr2, fun F3 α3 H3 o3 fr3 => by
    have dd := (o2.trans o3).dp (show Dp X.K F1 v (.tuple xs) from d1)
    obtain ⟨c, vs, rfl, h1, h2, h3⟩ := SqT_of_dp dd fr3.sub
    have hlen := DpAll.len h3
    refine ⟨c, vs, rfl, h1, fun hw => ?_, fun hw pp hp => ?_⟩
    · rw [hlen] at hw
      refine q _ F3 α3 H3 ((o1.trans o2).trans o3) fr3 ?_
      show Dp X.K F3 _ (.tuple (cutG xs l u))
      rw [cutG_whole hw]
      exact dd
    · obtain ⟨o4, fr4⟩ := fr3.ext (o := .tup (cutV vs l u)) hp
      exact q _ _ α3 _ (((o1.trans o2).trans o3).trans o4) fr4 (.tup (SqT.of upd_same) (dmonoA o4.f (cut_all h3 l u)))⟩⟩⟩
theorem de_slL (he : DE X N z e (.d (.list xs)) z1) (hl : DO X N z1 lo l z2) (hu : DO X N z2 hi u z3) : DE X N z (.Subscript e (.Slice lo hi none p2) pos) (.ptr z3.o.length) ⟨z3.s, z3.o ++ [some (cutG xs l u)]⟩ :=
  PE.to (pe_slice sl_list he hl hu) fun σ H Q ⟨F, α, fr, q⟩ => ⟨F, α, fr, fun v F1 α1 H1 o1 fr1 d1 => ⟨F1, α1, fr1, fun F2 α2 H2 o2 fr2 => ⟨F2, α2, fr2, fun F3 α3 H3 o3 fr3 => by
    have dd := (o2.trans o3).dp (show Dp X.K F1 v (.list xs) from d1)
    obtain ⟨c, vs, rfl, h1, h2, h3⟩ := SqL_of_dp dd fr3.sub
    refine ⟨c, vs, rfl, h1, fun pp hp => ?_⟩
    obtain ⟨o4, fr4, e4⟩ := fr3.new hp (cut_all h3 l u)
    exact q _ _ _ _ (((o1.trans o2).trans o3).trans o4) fr4 ⟨pp, e4, rfl⟩⟩⟩⟩
theorem de_slP (he : DE X N z e (.ptr k) z1) (hl : DO X N z1 lo l z2) (hu : DO X N z2 hi u z3) (eo : z3.o[k]? = some (some xs)) : DE X N z (.Subscript e (.Slice lo hi none p2) pos) (.ptr z3.o.length) ⟨z3.s, z3.o ++ [some (cutG xs l u)]⟩ :=
  PE.to (pe_slice sl_list he hl hu) fun σ H Q ⟨F, α, fr, q⟩ => ⟨F, α, fr, fun v F1 α1 H1 o1 fr1 d1 => ⟨F1, α1, fr1, fun F2 α2 H2 o2 fr2 => ⟨F2, α2, fr2, fun F3 α3 H3 o3 fr3 => by
    obtain ⟨c, ec, rfl⟩ := (o2.trans o3).rs d1
    obtain ⟨vs, hv, hs, da⟩ := fr3.seq ec eo
    refine ⟨c, vs, rfl, hs, fun pp hp => ?_⟩
    obtain ⟨o4, fr4, e4⟩ := fr3.new hp (cut_all da l u)
    exact q _ _ _ _ (((o1.trans o2).trans o3).trans o4) fr4 ⟨pp, e4, rfl⟩⟩⟩⟩
/-- xs[::-1] of a list -/
theorem de_revP {k1 : Nat} {q1 q2 q3 : Pos} (he : DE X N z e (.ptr k) z1) (eo : z1.o[k]? = some (some xs)) : DE X N z (.Subscript e (.Slice none none (some (.UnaryOp .USub (.Constant (.int 1) k1 q1) q2)) q3) pos) (.ptr z1.o.length) ⟨z1.s, z1.o ++ [some xs.reverse]⟩ :=
  PE.to (pe_revL he) fun σ H Q ⟨F, α, fr, q⟩ => ⟨F, α, fr, fun v F1 α1 H1 o1 fr1 d1 => by
    obtain ⟨c, ec, rfl⟩ := d1
    obtain ⟨vs, hv, hs, da⟩ := fr1.seq ec eo
    refine ⟨c, vs, rfl, hs, fun pp hp => ?_⟩
    obtain ⟨o4, fr4, e4⟩ := fr1.new hp (DpAll.reverse da)
    exact q _ _ _ _ (o1.trans o4) fr4 ⟨pp, e4, rfl⟩⟩

/-! ### joined, so many times -/
theorem de_catT (ha : DE X N z a (.d (.tuple xs)) z1) (hb : DE X N z1 b (.d (.tuple ys)) z2) (hz : xs.length + ys.length ≤ sizeLine) : DE X N z (.BinOp a .Add b pos) (.d (.tuple (xs ++ ys))) z2 :=
  de_opG op_catA ha hb fun F α σ v u H Q fr d1 d2 q => by
    obtain ⟨c, vs, rfl, h1, h2, h3⟩ := SqT_of_dp (show Dp X.K F v (.tuple xs) from d1) fr.sub
    obtain ⟨c', ws, rfl, k1, k2, k3⟩ := SqT_of_dp (show Dp X.K F u (.tuple ys) from d2) fr.sub
    have l1 := DpAll.len h3
    have l2 := DpAll.len k3
    refine ⟨c, c', vs, ws, rfl, rfl, h1, k1, by omega, fun e => ?_, fun _ e => ?_, fun _ _ pp hp => ?_⟩
    · have e2 : xs = [] := List.eq_nil_of_length_eq_zero (by rw [← l1, e]; rfl)
      refine q _ F α H (On.refl F α) fr ?_
      show Dp X.K F _ (.tuple (xs ++ ys))
      rw [e2]
      exact d2
    · have e2 : ys = [] := List.eq_nil_of_length_eq_zero (by rw [← l2, e]; rfl)
      refine q _ F α H (On.refl F α) fr ?_
      show Dp X.K F _ (.tuple (xs ++ ys))
      rw [e2, List.append_nil]
      exact d1
    · obtain ⟨o4, fr4⟩ := fr.ext (o := .tup (vs ++ ws)) hp
      exact q _ _ α _ o4 fr4 (.tup (SqT.of upd_same) (dmonoA o4.f (DpAll.append h3 k3)))
theorem de_catP {j : Nat} (ha : DE X N z a (.ptr k) z1) (hb : DE X N z1 b (.ptr j) z2) (eo : z2.o[k]? = some (some xs)) (ep : z2.o[j]? = some (some ys)) (hz : xs.length + ys.length ≤ sizeLine) : DE X N z (.BinOp a .Add b pos) (.ptr z2.o.length) ⟨z2.s, z2.o ++ [some (xs ++ ys)]⟩ :=
  de_opG op_cat ha hb fun F α σ v u H Q fr d1 d2 q => by
    obtain ⟨c, ec, rfl⟩ := d1
    obtain ⟨c', ec', rfl⟩ := d2
    obtain ⟨vs, hv, _, da⟩ := fr.seq ec eo
    obtain ⟨ws, hw, _, db⟩ := fr.seq ec' ep
    refine ⟨c, c', vs, ws, rfl, rfl, hv, hw, by rw [DpAll.len da, DpAll.len db]; exact hz, fun pp hp => ?_⟩
    obtain ⟨o4, fr4, e4⟩ := fr.new hp (DpAll.append da db)
    exact q _ _ _ _ o4 fr4 ⟨pp, e4, rfl⟩
theorem de_repP (ha : DE X N z a (.ptr k) z1) (hb : DE X N z1 b (.d (.int i)) z2) (eo : z2.o[k]? = some (some xs)) (h1 : -(2 ^ 63) ≤ i) (h2 : i < 2 ^ 63) (hz : xs.length * i.toNat ≤ sizeLine) : DE X N z (.BinOp a .Mult b pos) (.ptr z2.o.length) ⟨z2.s, z2.o ++ [some (List.replicate i.toNat xs).flatten]⟩ :=
  de_opG op_rep ha hb fun F α σ v u H Q fr d1 d2 q => by
    obtain ⟨c, ec, rfl⟩ := d1
    cases (d2 : Dp X.K F u (.int i))
    obtain ⟨vs, hv, _, da⟩ := fr.seq ec eo
    refine ⟨c, i, vs, rfl, rfl, hv, h1, h2, by rw [DpAll.len da]; exact hz, fun pp hp => ?_⟩
    obtain ⟨o4, fr4, e4⟩ := fr.new hp (DpAll.rep da i.toNat)
    exact q _ _ _ _ o4 fr4 ⟨pp, e4, rfl⟩

/-! ### lists that change -/
theorem de_app {d : D} {apos : Pos} (ha : DE X N z a (.ptr k) z1) (hb : DE X N z1 b (.d d) z2) (e1 : z1.o[k]? = some (some ys)) (eo : z2.o[k]? = some (some xs)) (hz : xs.length < sizeLine)
    (hbase : attributeBase a "append" X.env (eval a X.env) = eval a X.env := by rfl)
    (hfew : ((backTo pos (starEach [b] X.env)).all (fun x => !x.1) && (backToKw pos (keywordEach [] X.env)).all (fun x => x.1.isSome) && decide ([b].length + ([] : List Keyword).length + (if ([] : List Keyword).isEmpty then 0 else 1) < 30)) = true := by rfl)
    (hline : (apos.endLine == pos.line) = true := by rfl) (hs : S1 X b := by rfl) :
    DE X N z (.Call (.Attribute a "append" apos) [b] [] pos) (.d .none) ⟨z2.s, z2.o.set k (some (xs ++ [d]))⟩ :=
  PE.to (pe_bm PySem.F.plainAttrs_list PySem.F.slot_list_append PySem.F.type_list_append mt_append ha (da_cons hb da_nil hs) hbase hfew hline hs (by rfl)) fun σ H Q ⟨F, α, fr, q⟩ => ⟨F, α, fr, fun v F1 α1 H1 o1 fr1 d1 => by
    obtain ⟨c, ec, rfl⟩ := d1
    obtain ⟨vs0, _, hs0, _⟩ := fr1.seq ec e1
    refine ⟨.inl ⟨rfl, vs0, hs0⟩, F1, α1, fr1, fun ws F2 α2 H2 o2 fr2 d2 => ?_⟩
    obtain ⟨w, rfl, dw⟩ := DpAll.one d2
    obtain ⟨c', ec', hc'⟩ := o2.rs (K := X.K) (r := .ptr k) (v := .ref c) ⟨c, ec, rfl⟩
    cases hc'
    obtain ⟨vs, hv, _, da⟩ := fr2.seq ec' eo
    exact ⟨c, vs, w, rfl, rfl, hv, by rw [DpAll.len da]; exact hz, q _ F2 α2 _ (o1.trans o2) (fr2.mut ec' eo (DpAll.append da (.cons dw .nil))) .non⟩⟩
/-- xs[i] = e -/
theorem d1_setitem {d : D} {jn : Nat} {tpos : Pos} (he : DE X N z e (.d d) z1) (ha : DE X N z1 a (.ptr k) z2) (hb : DE X N z2 b (.d (.int i)) z3) (eo : z3.o[k]? = some (some xs)) (hj : ixN xs.length i = some jn) (h : nx ⟨z3.s, z3.o.set k (some (xs.set jn d))⟩)
    (hasg : ∀ v, assign (.Subscript a b tpos) X.env v = (do
      let ov ← holding [v] (eval a X.env)
      let iv ← holding [v, ov] (eval b X.env)
      standAt tpos
      holding [v, ov, iv] (setItem ov iv v)
      release [v, ov, iv] []) := by intro _; rfl)
    (hs : swapsWithSole [.Subscript a b tpos] e pos.line X.env = pure false := by rfl) (hw : swappedStores [.Subscript a b tpos] e X.env = pure none := by rfl) (h1 : (assignEach [.Subscript a b tpos] X.env).map (·.2) = [assign (.Subscript a b tpos) X.env] := by rfl) :
    D1 X N z (.Assign [.Subscript a b tpos] e pos) nx rt :=
  PS.to (ps_asg he (pg_sub ha hb set_list hasg) hs hw h1) fun E σ H ⟨F, α, fr, q, _⟩ => ⟨F, α, fr, fun v F1 α1 H1 o1 fr1 d1 => ⟨F1, α1, fr1, fun u F2 α2 H2 o2 fr2 d2 => ⟨F2, α2, fr2, fun w F3 α3 H3 o3 fr3 d3 => by
    obtain ⟨c, ec, rfl⟩ := o3.rs d2
    cases (d3 : Dp X.K F3 w (.int i))
    obtain ⟨vs, hv, _, da⟩ := fr3.seq ec eo
    refine ⟨c, vs, i, jn, rfl, rfl, hv, by rw [DpAll.len da]; exact hj, ?_⟩
    exact q σ F3 α3 _ _ ((o1.trans o2).trans o3).f (fr3.mut ec eo (DpAll.set ((o2.trans o3).dp (show Dp X.K F1 v d from d1)) jn da)) h⟩⟩⟩
/-- xs[i] += e of ints -/
def rGetL (K : PySem.W.Frag) : V → V → Hp → VK → Prop := fun o i H Q => rIxL K o i H Q
theorem get_list : PGet X (rGetL X.K) := by
  intro pins s σ H x y v u Q I rx ry h
  obtain ⟨p, xs, i, z, rfl, rfl, hq, he, q⟩ := h
  cases rx
  obtain ⟨t, rfl⟩ := ry
  obtain ⟨its, r, pl, hz⟩ := I.list hq
  obtain ⟨j, h1, h2, h3, h4, h5⟩ := atI_get he
  obtain ⟨w, ew, rw'⟩ := r.get h2
  have hl := r.length
  have hn := line63
  have fin : EP X pins σ Q w s := ⟨z, H, I, rw', q⟩
  by_cases h0 : 0 ≤ i
  · have hj : i.toNat = j := by
      rw [seqIndex_of h0 h5] at h1
      exact Option.some.inj h1
    exact wpAny_getItem_list pl.isList h0 (by omega) (by rw [hj]; simpa using ew) fin
  · have hj : (i + (its.toArray.size : Int)).toNat = j := by
      rw [seqIndex_neg (by omega) h4] at h1
      rw [List.size_toArray, ← hl]
      exact Option.some.inj h1
    exact wpAny_getItem_list_neg pl.isList (by omega) (by rw [List.size_toArray] <;> omega) (by omega) (by rw [hj]; simpa using ew) fin
theorem d1_augL {m n : Int} {jn : Nat} {tpos : Pos} (ha : DE X N z a (.ptr k) z1) (hb : DE X N z1 b (.d (.int i)) z2) (he : DE X N z2 e (.d (.int n)) z3) (e2 : z2.o[k]? = some (some ys)) (hm : atI ys i = some (.int m)) (eo : z3.o[k]? = some (some xs)) (hj : ixN xs.length i = some jn) (h : nx ⟨z3.s, z3.o.set k (some (xs.set jn (.int (m + n))))⟩)
    (hasg : ∀ ov iv new, augStore b ov iv new = (do holding [new, ov, iv] (setItem ov iv new); release [new, ov, iv] []; pure .next) := by intros; rfl) : D1 X N z (.AugAssign (.Subscript a b tpos) .Add e pos) nx rt :=
  PS.to (ps_augS ha hb get_list he ip_add set_list hasg) fun E σ H ⟨F, α, fr, q, _⟩ => ⟨F, α, fr, fun v F1 α1 H1 o1 fr1 d1 => ⟨F1, α1, fr1, fun u F2 α2 H2 o2 fr2 d2 => by
    obtain ⟨c, ec, rfl⟩ := o2.rs d1
    cases (d2 : Dp X.K F2 u (.int i))
    obtain ⟨ws, hw, hsw, dw⟩ := fr2.seq ec e2
    obtain ⟨w, e4, d4⟩ := atI_all dw hm
    cases d4
    refine ⟨c, ws, i, _, rfl, rfl, hsw, e4, F2, α2, fr2, fun w F3 α3 H3 o3 fr3 d3 => ?_⟩
    cases (d3 : Dp X.K F3 w (.int n))
    obtain ⟨c', ec', hc'⟩ := o3.rs (K := X.K) (r := .ptr k) (v := .ref c) ⟨c, ec, rfl⟩
    cases hc'
    obtain ⟨vs, hv, _, da⟩ := fr3.seq ec' eo
    refine ⟨m, n, rfl, rfl, c, vs, i, jn, rfl, rfl, hv, by rw [DpAll.len da]; exact hj, ?_⟩
    exact q σ F3 α3 _ _ ((o1.trans o2).trans o3).f (fr3.mut ec' eo (DpAll.set (.int _) jn da)) h⟩⟩
end
end DL
/-! DL7: defs of a text, short words -/
namespace DL
open PySem PySem.Spec PyProof.Rows L2

/-- a def as it stands behind the top -/
structure FunAt (K : PySem.W.Frag) (mg : Str → Option Value) (x : Str) (st : Stmt) (ps : List Str) : Prop where
  ex : ∃ f fd, Fun K x x st f fd ∧ mg x = some (.ref f) ∧ Binds K fd ps []
abbrev RT := List D → List (List D) → Rr → List (List D) → Prop
structure OkD (P : Program) (w : World) (K : PySem.W.Frag) (mg : Str → Option Value) (base : Heap) (x : Str) (k : Nat) (ps : List Str) (R : RT) : Prop where
  ex : ∃ f fd, FnOk P w K mg base CX0 k f fd ps (spG K R) ∧ mg x = some (.ref f) ∧ PySem.W.keepIn K (.ref f) = true ∧ Binds K fd ps [] ∧ ∃ oc od osl, K.lookup f = some ⟨oc, od, .func fd, osl⟩
/-- the built-in names stand -/
structure Bt (mg : Str → Option Value) : Prop where
  len : mg "len" = none
  range : mg "range" = none
  enumerate : mg "enumerate" = none
  zip : mg "zip" = none
  tuple : mg "tuple" = none
  list : mg "list" = none
  sum : mg "sum" = none
  abs : mg "abs" = none
  max : mg "max" = none
  min : mg "min" = none
  int : mg "int" = none
  all : mg "all" = none
  any : mg "any" = none
  isinstance : mg "isinstance" = none
  bool : mg "bool" = none
  str : mg "str" = none
  sorted : mg "sorted" = none
  dict : mg "dict" = none
section
variable {X : Cx} {N : EN} {z z1 z2 : Z} {pos p : Pos} {e a b : Expr} {es : List Expr} {k : Nat} {ps : List Str} {x : Str} {R : RT} {nx : Z → Prop} {rt : Rs → Z → Prop} {rest : List Stmt} {st : Stmt}
theorem de_cl {ds : List D} {r : Rr} {k' : Nat} (G : OkD X.prog X.w X.K X.mg X.base x k ps R) (hr : Room k' X.A) (hg : Gl X x) (ha : DAd X N z (e :: es) ds z1) (hR : R ds [] r []) (hk : k ≤ k' := by decide)
    (hdb : (x == ("__debug__" : Str)) = false := by decide) (he : starEach (e :: es) X.env = (false, eval e X.env) :: starEach es X.env := by rfl) (hpl : (backTo pos (starEach es X.env)).any (·.1) = false := by rfl) :
    DE X N z (.Call (.Name x p) (e :: es) [] pos) (rsOf z1 r) (zOf z1 r) := by
  obtain ⟨f, fd, G, hm, hkp, hb, _⟩ := G.ex
  exact de_call G (hr.mono hk) hg hm hkp hb pass0 ha hR hdb he hpl
/-- .. that answers data -/
theorem de_clD {ds : List D} {v : D} {k' : Nat} (G : OkD X.prog X.w X.K X.mg X.base x k ps R) (hr : Room k' X.A) (hg : Gl X x) (ha : DAd X N z (e :: es) ds z1) (hR : R ds [] (.d v) []) (hk : k ≤ k' := by decide)
    (hdb : (x == ("__debug__" : Str)) = false := by decide) (he : starEach (e :: es) X.env = (false, eval e X.env) :: starEach es X.env := by rfl) (hpl : (backTo pos (starEach es X.env)).any (·.1) = false := by rfl) :
    DE X N z (.Call (.Name x p) (e :: es) [] pos) (.d v) z1 := de_cl G hr hg ha hR hk hdb he hpl
/-- .. that answers a new list -/
theorem de_clN {ds xs : List D} {k' : Nat} (G : OkD X.prog X.w X.K X.mg X.base x k ps R) (hr : Room k' X.A) (hg : Gl X x) (ha : DAd X N z (e :: es) ds z1) (hR : R ds [] (.new xs) []) (hk : k ≤ k' := by decide)
    (hdb : (x == ("__debug__" : Str)) = false := by decide) (he : starEach (e :: es) X.env = (false, eval e X.env) :: starEach es X.env := by rfl) (hpl : (backTo pos (starEach es X.env)).any (·.1) = false := by rfl) :
    DE X N z (.Call (.Name x p) (e :: es) [] pos) (.ptr z1.o.length) ⟨z1.s, z1.o ++ [some xs]⟩ := de_cl G hr hg ha hR hk hdb he hpl
/-- an own list handed in; data answered -/
theorem de_cl1 {ds : List D} {v : D} {j k' : Nat} {xs xs' : List D} (G : OkD X.prog X.w X.K X.mg X.base x k ps R) (hr : Room k' X.A) (hg : Gl X x) (ha : DAp X N z (e :: es) j ds z1) (eo : z1.o[j]? = some (some xs)) (hR : R ds [xs] (.d v) [xs']) (hk : k ≤ k' := by decide)
    (hdb : (x == ("__debug__" : Str)) = false := by decide) (he : starEach (e :: es) X.env = (false, eval e X.env) :: starEach es X.env := by rfl) (hpl : (backTo pos (starEach es X.env)).any (·.1) = false := by rfl) :
    DE X N z (.Call (.Name x p) (e :: es) [] pos) (.d v) ⟨z1.s, z1.o.set j (some xs')⟩ := by
  obtain ⟨f, fd, G, hm, hkp, hb, _⟩ := G.ex
  exact de_call1 (r := .d v) G (hr.mono hk) hg hm hkp hb pass0 ha eo hR hdb he hpl
/-- a statement whose end is one state -/
theorem ds_seq (h1 : D1 X N z st (fun z' => z' = z1) rt) (h2 : DS X N z1 rest nx rt) : DS X N z (st :: rest) nx rt := ds_cons h1 fun z' e => by rw [e]; exact h2
theorem dt_cast {c c' : Bool} (h : DT X N z e c z1) (q : c = c') : DT X N z e c' z1 := q ▸ h
theorem ds_at (e : z = z1) (h : DS X N z1 rest nx rt) : DS X N z rest nx rt := by rw [e]; exact h
/-- what is forgotten: slot by slot, own lists behind the n-th -/
inductive WkS : List Sl → List Sl → Prop
  | nil : WkS [] []
  | keep {t s s'} : WkS s s' → WkS (t :: s) (t :: s')
  | drop {t s s'} : WkS s s' → WkS (t :: s) (.no :: s')
theorem WkS.len : ∀ {s s' : List Sl}, WkS s s' → s'.length = s.length
  | _, _, .nil => rfl
  | _, _, .keep h => congrArg Nat.succ h.len
  | _, _, .drop h => congrArg Nat.succ h.len
theorem WkS.at_ : ∀ {s s' : List Sl}, WkS s s' → ∀ (i : Nat) (t : Sl), s'[i]? = some t → t = .no ∨ s[i]? = some t
  | _, _, .nil, _, _, e => by simp at e
  | _, _, .keep h, 0, t, e => .inr (by simpa using e)
  | _, _, .keep h, i + 1, t, e => by
    rcases h.at_ i t (by simpa using e) with q | q
    · exact .inl q
    · exact .inr (by simpa using q)
  | _, _, .drop h, 0, t, e => .inl (by simpa using e.symm)
  | _, _, .drop h, i + 1, t, e => by
    rcases h.at_ i t (by simpa using e) with q | q
    · exact .inl q
    · exact .inr (by simpa using q)
def ptrOk (s : List Sl) (m : Nat) : Bool := s.all fun | .ptr k => decide (k < m) | _ => true
theorem ptrOk_at {s : List Sl} {m : Nat} (h : ptrOk s m = true) (i k : Nat) (e : s[i]? = some (.ptr k)) : k < m := by
  have := List.all_eq_true.mp h _ (List.mem_of_getElem? e)
  simpa using this
theorem ds_wk {s' : List Sl} {o' g : List (Option (List D))} (w : WkS z.s s') (ho : z.o = o' ++ g) (hp : N.pa.length ≤ o'.length) (hs : ptrOk s' o'.length = true) (h : DS X N ⟨s', o'⟩ rest nx rt) : DS X N z rest nx rt :=
  ds_weak (z1 := ⟨s', o'⟩) ⟨w.len, w.at_, by rw [ho]; simp⟩ hp (ptrOk_at hs) h
/-- items of tuples, lists of ints -/
abbrev tI (r : List Int) : D := .tuple (r.map PyData.int)
abbrev lI (r : List Int) : List D := r.map PyData.int
def at_ (r : List Int) (i : Int) : Int := r.getD i.toNat 0
variable {i j : Int} {ns : List Int}
theorem de_ixTI (ha : DE X N z a (.d (tI ns)) z1) (hb : DE X N z1 b (.d (.int i)) z2) (h0 : 0 ≤ i) (h1 : i < ns.length) (hs : PlainIx b := by exact fun _ _ => rfl) : DE X N z (.Subscript a b pos) (.d (.int (at_ ns i))) z2 := de_ixT ha hb (atI_int h0 h1) hs
theorem de_ixLI (ha : DE X N z a (.d (.list (lI ns))) z1) (hb : DE X N z1 b (.d (.int i)) z2) (h0 : 0 ≤ i) (h1 : i < ns.length) (hs : PlainIx b := by exact fun _ _ => rfl) : DE X N z (.Subscript a b pos) (.d (.int (at_ ns i))) z2 := de_ixL ha hb (atI_int h0 h1) hs
theorem de_ixPI {k : Nat} (ha : DE X N z a (.ptr k) z1) (hb : DE X N z1 b (.d (.int i)) z2) (eo : z2.o[k]? = some (some (lI ns))) (h0 : 0 ≤ i) (h1 : i < ns.length) (hs : PlainIx b := by exact fun _ _ => rfl) : DE X N z (.Subscript a b pos) (.d (.int (at_ ns i))) z2 := de_ixP ha hb eo (atI_int h0 h1) hs
theorem ixN_at {n : Nat} (h0 : 0 ≤ i) (h1 : i < n) : ixN n i = some i.toNat := by
  unfold ixN
  rw [if_pos h0, if_pos h1]
/-- the answer of a def -/
theorem rr0 {v : D} {z : Z} : rrRs [] (.d v) (.d v) z := ⟨fun j xs h => by simp at h, rfl⟩
theorem rr0e {v u : D} {z : Z} (e : u = v) : rrRs [] (.d v) (.d u) z := ⟨fun j xs h => by simp at h, by rw [e]⟩
theorem rrN {xs : List D} {k : Nat} {z : Z} (e : z.o[k]? = some (some xs)) : rrRs [] (.new xs) (.ptr k) z := ⟨fun j xs h => by simp at h, k, rfl, Nat.zero_le _, e⟩
theorem rr1 {v : D} {z : Z} {xs : List D} (e : z.o[0]? = some (some xs)) : rrRs [xs] (.d v) (.d v) z := ⟨fun j ys h => by
  cases j with
  | zero =>
    have h : xs = ys := by simpa using h
    rw [← h]
    exact e
  | succ j => simp at h, rfl⟩
end
section
variable {P : Program} {w : World} {K : PySem.W.Frag} {mg : Str → Option Value} {base : Heap}
theorem mk_def {x : Str} {st : Stmt} {Nm ps : List Str} {k : Nat} {R : RT} (F : FunAt K mg x st ps) (S : FnScope Nm ps (defScope st))
    (len : ∀ as π r π', R as π r π' → π.length + as.length = ps.length ∧ π.length = π'.length)
    (body : ∀ (f : Addr) (cdv : Value) (A : Around) (outer : List Env) (s : Shared) (H : Hp) (E : XK) (N : EN) (as : List D) (π : List (List D)) (r : Rr) (π' : List (List D)), Room k (A.deeper (envOfC x (defScope st) s.heap.objs.size f cdv)) → N.pa.length = π.length → R as π r π' →
      DS (cxOf CX0 P w K mg base Nm x (defScope st) f cdv A outer s H E).nox N (z0 Nm π as) (defBody st) (fun z => rrRs π' r (.d .none) z) (fun q z => rrRs π' r q z)) : OkD P w K mg base x (k + 1) ps R := by
  obtain ⟨f, fd, F, hm, hb⟩ := F.ex
  obtain ⟨oc, od, _, _, _, _, _, _, osl, _, lk, _⟩ := id F.ex
  exact ⟨f, fd, mk_fn F S len (body f), hm, F.kp, hb, oc, od, osl, lk⟩
end
end DL
/-! DL8: loops and comprehensions over items by place -/
namespace DL
open PySem PySem.Spec PyProof.Rows L2

structure Items (xs : List D) (n : Nat) (item : Nat → D) : Prop where
  len : xs.length = n
  get : ∀ (k : Nat) (d : D), xs[k]? = some d → d = item k
theorem Items.lt {xs : List D} {n : Nat} {item : Nat → D} (I : Items xs n item) {k : Nat} {d : D} (h : xs[k]? = some d) : k < n := by
  rw [← I.len]
  exact (List.getElem?_eq_some_iff.mp h).1
theorem it_rng {lo : Int} {n : Nat} : Items (rngD lo n) n (fun k => .int (lo + (k : Nat))) := ⟨rngD_len _ _, fun k d h => by
  have hk : k < n := by rw [← rngD_len lo n]; exact (List.getElem?_eq_some_iff.mp h).1
  rw [rngD_get hk] at h
  exact (Option.some.inj h).symm⟩
theorem it_rng0 {n : Nat} : Items (rngD 0 n) n (fun k => .int (k : Nat)) := ⟨rngD_len _ _, fun k d h => by
  have := it_rng.get k d h
  rw [Int.zero_add] at this
  exact this⟩
theorem getD_of {r : List Int} {k : Nat} {d : D} (h : (lI r)[k]? = some d) : d = .int (r.getD k 0) := by
  rw [List.getElem?_map] at h
  cases q : r[k]? with
  | none => rw [q] at h; cases h
  | some v =>
    rw [q] at h
    rw [List.getD_eq_getElem?_getD, q]
    exact (Option.some.inj h).symm
theorem it_ints {r : List Int} : Items (lI r) r.length (fun k => .int (r.getD k 0)) := ⟨by simp, fun k d h => getD_of h⟩
theorem it_enumI {r : List Int} : Items (enumD (lI r)) r.length (fun k => .tuple [.int (k : Nat), .int (r.getD k 0)]) := ⟨by simp [enumD_len], fun k d h => by
  have hk : k < (lI r).length := by rw [← enumD_len]; exact (List.getElem?_eq_some_iff.mp h).1
  have e := getD_of (List.getElem?_eq_getElem hk)
  rw [enumD_get (List.getElem?_eq_getElem hk), e] at h
  exact (Option.some.inj h).symm⟩
theorem it_zipI {r s : List Int} (hl : r.length = s.length) : Items (zipD (lI r) (lI s)) r.length (fun k => .tuple [.int (r.getD k 0), .int (s.getD k 0)]) := ⟨by rw [zipD_len]; simp [hl], fun k d h => by
  have hk : k < r.length := by
    have := (List.getElem?_eq_some_iff.mp h).1
    rw [zipD_len] at this
    simp at this
    omega
  have h1 : k < (lI r).length := by simpa using hk
  have h2 : k < (lI s).length := by simp; omega
  have e1 := getD_of (List.getElem?_eq_getElem h1)
  have e2 := getD_of (List.getElem?_eq_getElem h2)
  rw [zipD_get (List.getElem?_eq_getElem h1) (List.getElem?_eq_getElem h2), e1, e2] at h
  exact (Option.some.inj h).symm⟩
theorem it_list {xs : List D} : Items xs xs.length (fun k => xs.getD k .none) := ⟨rfl, fun k d h => by rw [List.getD_eq_getElem?_getD, h]; rfl⟩

section
variable {X : Cx} {N : EN} {z z1 : Z} {pos p : Pos} {tg iter elt : Expr} {nx : Z → Prop} {rt : Rs → Z → Prop} {rest body : List Stmt} {xs : List D} {n : Nat} {item : Nat → D} {g : TG} {f : D → List Sl → List Sl} {ok : D → Prop} {is : List Nat}
theorem ds_for (Pv : Nat → Z → Prop) (hp : PassesOwn (model X.prog X.w) X.A X.env X.xe) (hc : X.calm = true) (hi : DI X N z tg iter xs z1) (I : Items xs n item) (hg : PG X tg g) (gd : GD X.K g f ok is) (hok : ∀ k, k < n → ok (item k)) (h0 : Pv 0 z1)
    (hb : ∀ k z, k < n → Pv k z → DS X N ⟨f (item k) z.s, z.o⟩ body (Pv (k + 1)) rt) (hd : ∀ z, Pv n z → DS X N z rest nx rt)
    (hs : ∀ x, foldedSetIterable iter X.env x = pure x := by intro _; rfl) : DS X N z (.For tg iter body [] pos :: rest) nx rt :=
  ds_cons (mid := Pv n) (d1_for Pv hp hc hi hg gd h0 (fun k d h => by rw [I.get k d h]; exact hok k (I.lt h)) (fun k d z h pv => by rw [I.get k d h]; exact hb k z (I.lt h) pv) (fun z h => by rw [I.len] at h; exact h) hs) hd
variable {scope : Scope} {own : List (Str × Nat)}
abbrev BX (X : Cx) (scope : Scope) (s : Shared) (H : Hp) (C : Addr) (cl : List (Str × Addr)) (fp : List Addr) : Cx := X.blk s H scope (compEnvC scope cl C X.env) fp
/-- a comprehension without a test whose items change no own list -/
theorem de_lcR {y : Nat → D} {ze : Nat → Z} (hc : X.calm = true) (hN : X.N.Nodup) (hi : DI X N z tg iter xs z1) (I : Items xs n item) (okb : BlkOk X.N X.env.scope scope own)
    (hg : ∀ (s : Shared) (H : Hp) (C : Addr) (cl : List (Str × Addr)) (fp : List Addr), PG (BX X scope s H C cl fp) tg g) (gd : GD X.K g f ok is) (hiv : ∀ i ∈ is, i ∈ own.map (·.2)) (hok : ∀ k, k < n → ok (item k)) (hsm : n < sizeLine)
    (he : ∀ k, k < n → ∀ (s : Shared) (H : Hp) (C : Addr) (cl : List (Str × Addr)) (fp : List Addr), DE (BX X scope s H C cl fp) N ⟨f (item k) (wipeS z1.s (own.map (·.2))), z1.o ++ [some ((List.range k).map y)]⟩ elt (.d (y k)) (ze k))
    (hz : ∀ k, k < n → (ze k).o.take (z1.o.length + 1) = z1.o ++ [some ((List.range k).map y)])
    (hs : ∀ x, foldedSetIterable iter X.env x = pure x := by intro _; rfl) :
    DE X N z (.ListComp elt [⟨tg, iter, [], 0⟩] scope pos) (.ptr z1.o.length) ⟨z1.s, z1.o ++ [some ((List.range n).map y)]⟩ := by
  have := de_lc (X := X) (N := N) (z := z) (z1 := z1) (O := fun _ => z1.o) (acc := fun k => (List.range k).map y) (b := fun _ => true) (y := y) (zt := fun k d => ⟨f d (wipeS z1.s (own.map (·.2))), z1.o ++ [some ((List.range k).map y)]⟩) (ze := fun k _ => ze k) (ifs := []) (elt := elt) (pos := pos)
    hc hN hi okb hg gd hiv (fun k d h => by rw [I.get k d h]; exact hok k (I.lt h))
    ⟨rfl, rfl, fun k hk => by rw [List.length_map, List.length_range]; rw [I.len] at hk; omega, fun _ => rfl, fun k d h _ => ⟨hz k (I.lt h), by rw [List.range_succ, List.map_append]; rfl⟩, fun k d h e => by cases e⟩
    (fun k d h s H C cl fp => dts_nil) (fun k d h _ s H C cl fp => by rw [I.get k d h]; exact he k (I.lt h) s H C cl fp) hs
  rw [I.len] at this
  exact this
/-- .. of ints -/
theorem de_lcI {y : Nat → Int} {ze : Nat → Z} (hc : X.calm = true) (hN : X.N.Nodup) (hi : DI X N z tg iter xs z1) (I : Items xs n item) (okb : BlkOk X.N X.env.scope scope own)
    (hg : ∀ (s : Shared) (H : Hp) (C : Addr) (cl : List (Str × Addr)) (fp : List Addr), PG (BX X scope s H C cl fp) tg g) (gd : GD X.K g f ok is) (hiv : ∀ i ∈ is, i ∈ own.map (·.2)) (hok : ∀ k, k < n → ok (item k)) (hsm : n < sizeLine)
    (he : ∀ k, k < n → ∀ (s : Shared) (H : Hp) (C : Addr) (cl : List (Str × Addr)) (fp : List Addr), DE (BX X scope s H C cl fp) N ⟨f (item k) (wipeS z1.s (own.map (·.2))), z1.o ++ [some (lI ((List.range k).map y))]⟩ elt (.d (.int (y k))) (ze k))
    (hz : ∀ k, k < n → (ze k).o.take (z1.o.length + 1) = z1.o ++ [some (lI ((List.range k).map y))])
    (hs : ∀ x, foldedSetIterable iter X.env x = pure x := by intro _; rfl) :
    DE X N z (.ListComp elt [⟨tg, iter, [], 0⟩] scope pos) (.ptr z1.o.length) ⟨z1.s, z1.o ++ [some (lI ((List.range n).map y))]⟩ := by
  have e : ∀ k, (List.range k).map (fun i => PyData.int (y i)) = lI ((List.range k).map y) := fun k => (List.map_map (f := y) (g := PyData.int) (l := List.range k)).symm
  have := de_lcR (X := X) (N := N) (y := fun i => .int (y i)) (ze := ze) (elt := elt) (pos := pos) hc hN hi I okb hg gd hiv hok hsm (fun k hk s H C cl fp => by rw [e]; exact he k hk s H C cl fp) (fun k hk => by rw [e]; exact hz k hk) hs
  rw [e] at this
  exact this
theorem de_lcB {y : Nat → Bool} {ze : Nat → Z} (hc : X.calm = true) (hN : X.N.Nodup) (hi : DI X N z tg iter xs z1) (I : Items xs n item) (okb : BlkOk X.N X.env.scope scope own)
    (hg : ∀ (s : Shared) (H : Hp) (C : Addr) (cl : List (Str × Addr)) (fp : List Addr), PG (BX X scope s H C cl fp) tg g) (gd : GD X.K g f ok is) (hiv : ∀ i ∈ is, i ∈ own.map (·.2)) (hok : ∀ k, k < n → ok (item k)) (hsm : n < sizeLine)
    (he : ∀ k, k < n → ∀ (s : Shared) (H : Hp) (C : Addr) (cl : List (Str × Addr)) (fp : List Addr), DE (BX X scope s H C cl fp) N ⟨f (item k) (wipeS z1.s (own.map (·.2))), z1.o ++ [some (((List.range k).map y).map PyData.bool)]⟩ elt (.d (.bool (y k))) (ze k))
    (hz : ∀ k, k < n → (ze k).o.take (z1.o.length + 1) = z1.o ++ [some (((List.range k).map y).map PyData.bool)])
    (hs : ∀ x, foldedSetIterable iter X.env x = pure x := by intro _; rfl) :
    DE X N z (.ListComp elt [⟨tg, iter, [], 0⟩] scope pos) (.ptr z1.o.length) ⟨z1.s, z1.o ++ [some (((List.range n).map y).map PyData.bool)]⟩ := by
  have e : ∀ k, (List.range k).map (fun i => PyData.bool (y i)) = ((List.range k).map y).map PyData.bool := fun k => by rw [List.map_map]; rfl
  have := de_lcR (X := X) (N := N) (y := fun i => .bool (y i)) (ze := ze) (elt := elt) (pos := pos) hc hN hi I okb hg gd hiv hok hsm (fun k hk s H C cl fp => by rw [e]; exact he k hk s H C cl fp) (fun k hk => by rw [e]; exact hz k hk) hs
  rw [e] at this
  exact this
/-- a comprehension without a test whose items change own lists (O) -/
theorem de_lcS {y : Nat → D} {O : Nat → List (Option (List D))} {ze : Nat → Z} (hc : X.calm = true) (hN : X.N.Nodup) (hi : DI X N z tg iter xs z1) (I : Items xs n item) (okb : BlkOk X.N X.env.scope scope own)
    (hg : ∀ (s : Shared) (H : Hp) (C : Addr) (cl : List (Str × Addr)) (fp : List Addr), PG (BX X scope s H C cl fp) tg g) (gd : GD X.K g f ok is) (hiv : ∀ i ∈ is, i ∈ own.map (·.2)) (hok : ∀ k, k < n → ok (item k)) (hsm : n < sizeLine) (hO : O 0 = z1.o) (hOl : ∀ k, (O k).length = z1.o.length)
    (he : ∀ k, k < n → ∀ (s : Shared) (H : Hp) (C : Addr) (cl : List (Str × Addr)) (fp : List Addr), DE (BX X scope s H C cl fp) N ⟨f (item k) (wipeS z1.s (own.map (·.2))), O k ++ [some ((List.range k).map y)]⟩ elt (.d (y k)) (ze k))
    (hz : ∀ k, k < n → (ze k).o.take (z1.o.length + 1) = O (k + 1) ++ [some ((List.range k).map y)])
    (hs : ∀ x, foldedSetIterable iter X.env x = pure x := by intro _; rfl) :
    DE X N z (.ListComp elt [⟨tg, iter, [], 0⟩] scope pos) (.ptr z1.o.length) ⟨z1.s, O n ++ [some ((List.range n).map y)]⟩ := by
  have := de_lc (X := X) (N := N) (z := z) (z1 := z1) (O := O) (acc := fun k => (List.range k).map y) (b := fun _ => true) (y := y) (zt := fun k d => ⟨f d (wipeS z1.s (own.map (·.2))), O k ++ [some ((List.range k).map y)]⟩) (ze := fun k _ => ze k) (ifs := []) (elt := elt) (pos := pos)
    hc hN hi okb hg gd hiv (fun k d h => by rw [I.get k d h]; exact hok k (I.lt h))
    ⟨hO, rfl, fun k hk => by rw [List.length_map, List.length_range]; rw [I.len] at hk; omega, hOl, fun k d h _ => ⟨hz k (I.lt h), by rw [List.range_succ, List.map_append]; rfl⟩, fun k d h e => by cases e⟩
    (fun k d h s H C cl fp => dts_nil) (fun k d h _ s H C cl fp => by rw [I.get k d h]; exact he k (I.lt h) s H C cl fp) hs
  rw [I.len] at this
  exact this
theorem de_lcSI {y : Nat → Int} {O : Nat → List (Option (List D))} {ze : Nat → Z} (hc : X.calm = true) (hN : X.N.Nodup) (hi : DI X N z tg iter xs z1) (I : Items xs n item) (okb : BlkOk X.N X.env.scope scope own)
    (hg : ∀ (s : Shared) (H : Hp) (C : Addr) (cl : List (Str × Addr)) (fp : List Addr), PG (BX X scope s H C cl fp) tg g) (gd : GD X.K g f ok is) (hiv : ∀ i ∈ is, i ∈ own.map (·.2)) (hok : ∀ k, k < n → ok (item k)) (hsm : n < sizeLine) (hO : O 0 = z1.o) (hOl : ∀ k, (O k).length = z1.o.length)
    (he : ∀ k, k < n → ∀ (s : Shared) (H : Hp) (C : Addr) (cl : List (Str × Addr)) (fp : List Addr), DE (BX X scope s H C cl fp) N ⟨f (item k) (wipeS z1.s (own.map (·.2))), O k ++ [some (lI ((List.range k).map y))]⟩ elt (.d (.int (y k))) (ze k))
    (hz : ∀ k, k < n → (ze k).o.take (z1.o.length + 1) = O (k + 1) ++ [some (lI ((List.range k).map y))])
    (hs : ∀ x, foldedSetIterable iter X.env x = pure x := by intro _; rfl) :
    DE X N z (.ListComp elt [⟨tg, iter, [], 0⟩] scope pos) (.ptr z1.o.length) ⟨z1.s, O n ++ [some (lI ((List.range n).map y))]⟩ := by
  have e : ∀ k, (List.range k).map (fun i => PyData.int (y i)) = lI ((List.range k).map y) := fun k => (List.map_map (f := y) (g := PyData.int) (l := List.range k)).symm
  have := de_lcS (X := X) (N := N) (y := fun i => .int (y i)) (O := O) (ze := ze) (elt := elt) (pos := pos) hc hN hi I okb hg gd hiv hok hsm hO hOl (fun k hk s H C cl fp => by rw [e]; exact he k hk s H C cl fp) (fun k hk => by rw [e]; exact hz k hk) hs
  rw [e] at this
  exact this
/-- a while: the word by a measure; the state is one of the word's -/
theorem ds_while {c : Expr} (Pv : Nat → Z → Prop) (m0 : Nat) (t : Nat → Z → Bool) (hp : PassesOwn (model X.prog X.w) X.A X.env X.xe) (h0 : Pv m0 z) (hc : ∀ m z, Pv m z → DT X N z c (t m z) z)
    (hb : ∀ m z, Pv m z → t m z = true → DS X N z body (fun z' => ∃ m', m' < m ∧ Pv m' z') rt) (hd : ∀ m z, Pv m z → t m z = false → DS X N z rest nx rt) : DS X N z (.While c body [] pos :: rest) nx rt :=
  ds_cons (mid := fun z' => ∃ m, Pv m z' ∧ t m z' = false) (d1_while Pv hp m0 h0 t (fun _ z => z) hc hb fun m z h e => ⟨m, h, e⟩) fun z' ⟨m, h, e⟩ => hd m z' h e
end
section
variable {X : Cx} {N : EN} {z z1 z2 z3 : Z} {pos p apos tpos : Pos} {a b e : Expr} {k : Nat} {nx : Z → Prop} {rt : Rs → Z → Prop} {rest : List Stmt} {i v m n : Int} {ns ms : List Int} {xs : List D}
theorem lI_set (ns : List Int) (j : Nat) (v : Int) : (lI ns).set j (.int v) = lI (ns.set j v) := (List.map_set ..).symm
theorem lI_app (ns : List Int) (v : Int) : lI ns ++ [.int v] = lI (ns ++ [v]) := by simp
theorem lI_len (ns : List Int) : (lI ns).length = ns.length := by simp
/-- an own list of ints changes -/
theorem d1_setI (he : DE X N z e (.d (.int v)) z1) (ha : DE X N z1 a (.ptr k) z2) (hb : DE X N z2 b (.d (.int i)) z3) (eo : z3.o[k]? = some (some (lI ns))) (h0 : 0 ≤ i) (h1 : i < ns.length) (h : nx ⟨z3.s, z3.o.set k (some (lI (ns.set i.toNat v)))⟩)
    (hasg : ∀ v, assign (.Subscript a b tpos) X.env v = (do
      let ov ← holding [v] (eval a X.env)
      let iv ← holding [v, ov] (eval b X.env)
      standAt tpos
      holding [v, ov, iv] (setItem ov iv v)
      release [v, ov, iv] []) := by intro _; rfl)
    (hs : swapsWithSole [.Subscript a b tpos] e pos.line X.env = pure false := by rfl) (hw : swappedStores [.Subscript a b tpos] e X.env = pure none := by rfl) (hq : (assignEach [.Subscript a b tpos] X.env).map (·.2) = [assign (.Subscript a b tpos) X.env] := by rfl) :
    D1 X N z (.Assign [.Subscript a b tpos] e pos) nx rt :=
  d1_setitem he ha hb eo (by rw [lI_len]; exact ixN_at h0 h1) (by rw [lI_set]; exact h) hasg hs hw hq
theorem d1_augLI (ha : DE X N z a (.ptr k) z1) (hb : DE X N z1 b (.d (.int i)) z2) (he : DE X N z2 e (.d (.int n)) z3) (e2 : z2.o[k]? = some (some (lI ms))) (g0 : 0 ≤ i) (g1 : i < ms.length) (eo : z3.o[k]? = some (some (lI ns))) (h1 : i < ns.length) (h : nx ⟨z3.s, z3.o.set k (some (lI (ns.set i.toNat (at_ ms i + n))))⟩)
    (hasg : ∀ ov iv new, augStore b ov iv new = (do holding [new, ov, iv] (setItem ov iv new); release [new, ov, iv] []; pure .next) := by intros; rfl) : D1 X N z (.AugAssign (.Subscript a b tpos) .Add e pos) nx rt :=
  d1_augL ha hb he e2 (atI_int g0 g1) eo (by rw [lI_len]; exact ixN_at g0 h1) (by rw [lI_set]; exact h) hasg
theorem de_appI (ha : DE X N z a (.ptr k) z1) (hb : DE X N z1 b (.d (.int v)) z2) (e1 : z1.o[k]? = some (some (lI ms))) (eo : z2.o[k]? = some (some (lI ns))) (hz : ns.length < sizeLine)
    (hbase : attributeBase a "append" X.env (eval a X.env) = eval a X.env := by rfl)
    (hfew : ((backTo pos (starEach [b] X.env)).all (fun x => !x.1) && (backToKw pos (keywordEach [] X.env)).all (fun x => x.1.isSome) && decide ([b].length + ([] : List Keyword).length + (if ([] : List Keyword).isEmpty then 0 else 1) < 30)) = true := by rfl)
    (hline : (apos.endLine == pos.line) = true := by rfl) (hs : S1 X b := by rfl) :
    DE X N z (.Call (.Attribute a "append" apos) [b] [] pos) (.d .none) ⟨z2.s, z2.o.set k (some (lI (ns ++ [v])))⟩ := by
  have := de_app (pos := pos) (apos := apos) ha hb e1 eo (by rw [lI_len]; exact hz) hbase hfew hline hs
  rw [lI_app] at this
  exact this
/-- an own list becomes data -/
theorem ds_frz (k : Nat) (ho : z.o[k]? = some (some xs)) (hk : N.pa.length ≤ k) (h : DS X N (frz z k xs) rest nx rt) : DS X N z rest nx rt :=
  PSs.to h fun E σ H ⟨F, α, fr, q, r⟩ => by
    have hk2 : k < α.length := by rw [← fr.len]; exact (List.getElem?_eq_some_iff.mp ho).1
    obtain ⟨F2, o2, fr2, _⟩ := fr.frz (List.getElem?_eq_getElem hk2) ho hk
    exact ⟨F2, α, fr2, fun σ' F' α' H' z' s => q σ' F' α' H' z' (o2.f.trans s), fun v σ' F' α' H' rr z' s => r v σ' F' α' H' rr z' (o2.f.trans s)⟩
end
section
variable {X : Cx} {N : EN} {z z1 z2 z3 : Z} {pos : Pos} {a b : Expr} {k j : Nat} {i v : Int} {ns ms : List Int}
theorem de_repPI (ha : DE X N z a (.ptr k) z1) (hb : DE X N z1 b (.d (.int i)) z2) (eo : z2.o[k]? = some (some (lI [v]))) (h1 : -(2 ^ 63) ≤ i) (h2 : i < 2 ^ 63) (hz : i.toNat ≤ sizeLine) : DE X N z (.BinOp a .Mult b pos) (.ptr z2.o.length) ⟨z2.s, z2.o ++ [some (lI (List.replicate i.toNat v))]⟩ := by
  have := de_repP (pos := pos) ha hb eo h1 h2 (by simpa using hz)
  have e : (List.replicate i.toNat (lI [v])).flatten = lI (List.replicate i.toNat v) := Eq.trans List.flatten_replicate_singleton List.map_replicate.symm
  rw [e] at this
  exact this
theorem de_catPI (ha : DE X N z a (.ptr k) z1) (hb : DE X N z1 b (.ptr j) z2) (eo : z2.o[k]? = some (some (lI ns))) (ep : z2.o[j]? = some (some (lI ms))) (hz : ns.length + ms.length ≤ sizeLine) : DE X N z (.BinOp a .Add b pos) (.ptr z2.o.length) ⟨z2.s, z2.o ++ [some (lI (ns ++ ms))]⟩ := by
  have := de_catP (pos := pos) ha hb eo ep (by simpa using hz)
  rw [← List.map_append] at this
  exact this
end
section
variable {X : Cx} {N : EN} {z z1 z2 : Z} {pos : Pos} {a b c : Expr} {t : Bool} {i j : Int}
theorem de_ifI (hc : DT X N z c t z1) (ha : t = true → DE X N z1 a (.d (.int i)) z2) (hb : t = false → DE X N z1 b (.d (.int j)) z2) : DE X N z (.IfExp c a b pos) (.d (.int (if t = true then i else j))) z2 := by
  have := de_if (pos := pos) hc ha hb
  have e : (if t = true then PyData.int i else PyData.int j) = PyData.int (if t = true then i else j) := by split <;> rfl
  rw [e] at this
  exact this
end
theorem cutG_drop {α : Type} {xs : List α} {i : Int} (h0 : 0 ≤ i) (h1 : i ≤ xs.length) : cutG xs (some i) none = xs.drop i.toNat := by
  unfold cutG
  have e : HT.sIx xs.length 0 (some i) = i.toNat := by
    have e2 : i = ((i.toNat : Nat) : Int) := by omega
    rw [e2, HT.sIx_nat]
    simp
    omega
  rw [e, HT.sIx_none]
  exact List.take_of_length_le (by rw [List.length_drop]; exact Nat.le_refl _)
theorem cutG_take {α : Type} {xs : List α} {i : Int} (h0 : 0 ≤ i) (h1 : i ≤ xs.length) : cutG xs none (some i) = xs.take i.toNat := by
  unfold cutG
  have e : HT.sIx xs.length xs.length (some i) = i.toNat := by
    have e2 : i = ((i.toNat : Nat) : Int) := by omega
    rw [e2, HT.sIx_nat]
    simp
    omega
  rw [e, HT.sIx_none]
  simp
/-- tuples of ints told alike -/
theorem eqv_ints : ∀ (r s : List Int), PyData.eqvAll (lI r) (lI s) = decide (r = s)
  | [], [] => rfl
  | [], _ :: _ => rfl
  | _ :: _, [] => rfl
  | x :: r, y :: s => by
    show (PyData.eqv (.int x) (.int y) && PyData.eqvAll (lI r) (lI s)) = _
    rw [eqv_ints r s]
    show ((x == y) && decide (r = s)) = _
    by_cases h : x = y <;> by_cases h2 : r = s <;> simp [h, h2]
theorem eqv_tI (r s : List Int) : PyData.eqv (tI r) (tI s) = decide (r = s) := eqv_ints r s
theorem depth_ints : ∀ r : List Int, PyData.depthAll (lI r) ≤ 1
  | [] => by simp [PyData.depthAll]
  | x :: r => by
    have : PyData.depthAll (r.map PyData.int) ≤ 1 := depth_ints r
    simp only [List.map_cons, PyData.depthAll, PyData.depth]
    omega
theorem depth_tI (r : List Int) (y : D) : min (PyData.depth (tI r)) y.depth ≤ 64 := by
  have : PyData.depthAll (r.map PyData.int) ≤ 1 := depth_ints r
  simp only [PyData.depth]
  omega
end DL
/-! DL9: least and greatest; calls by keywords; the law's own end -/
namespace DL
open PySem PySem.Spec PyProof.Rows L2

section
variable {X : Cx}
theorem DpAll.none {K : PySem.W.Frag} {F : Hp} : ∀ {vs : List V} {ds : List D} {i : Nat}, DpAll K F vs ds → vs[i]? = Option.none → ds[i]? = Option.none := fun {vs ds i} h e => by
  have := DpAll.len h
  have h2 := List.getElem?_eq_none_iff.mp e
  exact List.getElem?_eq_none_iff.mpr (by omega)
/-- the item that data names -/
theorem item_of {pins : List (Addr × Obj)} {σ : L2.St} {H : Hp} {s : Shared} {xs : List V} {ds : List D} {its : List Value} {h' : Heap} {i : Nat} {v : Value} {d : D} {bs : List Addr} (I : Inv X pins σ H s) (da : DpAll X.K H xs ds) (rv : Vals xs its) (hv : its[i]? = some v)
    (hk : ∀ b o, s.heap.get? b = some o → h'.get? b = some o) (hd : Reads h' v d bs) : ∃ x, RelV x v ∧ Dp X.K H x d := by
  cases q : xs[i]? with
  | none => rw [rv.none_of q] at hv; cases hv
  | some x =>
    obtain ⟨u, hu, ru⟩ := rv.get q
    rw [hv] at hu
    cases hu
    obtain ⟨d', hd', dp⟩ := DpAll.getV da q
    obtain ⟨as, r⟩ := Dp.reads I d' x v dp ru
    have e : d' = d := SeqAt.plain_unique d' d v as bs (Dp.plain dp) (PySem.W.reads_keeps hk r) hd
    rw [← e]
    exact ⟨x, ru, dp⟩
def rMinT (K : PySem.W.Frag) : List V → Hp → VK → Prop := fun vs H Q => ∃ v x xs, vs = [v] ∧ (Dp K H v (.tuple (x :: xs)) ∨ Dp K H v (.list (x :: xs))) ∧ PySem.W.AlikeAll (x :: xs) ∧ PyData.depthAll (x :: xs) ≤ 60 ∧ ∀ u, Dp K H u (PySem.W.minD x xs) → Q u H
theorem cr_minD (hc : X.calm = true) (hu : X.A.units + 64 < cLine) : CallR X (.builtin "min") (rMinT X.K) := by
  intro pins s σ H vs us Q I r h
  obtain ⟨v, x, xs, rfl, hd, ha, hz, q⟩ := h
  obtain ⟨u, rfl, ru⟩ := r.one
  rcases hd with hd | hd
  · obtain ⟨c, ws, rfl, h1, _, da⟩ := SqT_of_dp hd (Same.refl H)
    cases ru
    obtain ⟨its, rv, p, _⟩ := I.tuple h1
    obtain ⟨as, hr⟩ := Dp.readsAll I _ _ its da rv
    refine PySem.W.min_tuple_data (I.ok.hd hc) (show s.heap.IsTuple c its.toArray from p) hr ha (by omega) fun i v h' tk bs hv hd' hk => ?_
    obtain ⟨y, ry, dy⟩ := item_of I da rv (by simpa using hv) hk hd'
    exact ⟨y, H, I.kept hk, ry, q y dy⟩
  · obtain ⟨c, ws, rfl, h1, _, da⟩ := SqL_of_dp hd (Same.refl H)
    cases ru
    obtain ⟨its, rv, p, _⟩ := I.list h1
    obtain ⟨as, hr⟩ := Dp.readsAll I _ _ its da rv
    refine PySem.W.min_list_data (I.ok.hd hc) p.isList hr ha (by omega) fun i v h' tk bs hv hd' hk => ?_
    obtain ⟨y, ry, dy⟩ := item_of I da rv (by simpa using hv) hk hd'
    exact ⟨y, H, I.kept hk, ry, q y dy⟩
def rMaxT (K : PySem.W.Frag) : List V → Hp → VK → Prop := fun vs H Q => ∃ v x xs, vs = [v] ∧ Dp K H v (.tuple (x :: xs)) ∧ PySem.W.AlikeAll (x :: xs) ∧ PyData.depthAll (x :: xs) ≤ 60 ∧ ∀ u, Dp K H u (PySem.W.maxD x xs) → Q u H
theorem cr_maxD (hc : X.calm = true) (hu : X.A.units + 64 < cLine) : CallR X (.builtin "max") (rMaxT X.K) := by
  intro pins s σ H vs us Q I r h
  obtain ⟨v, x, xs, rfl, hd, ha, hz, q⟩ := h
  obtain ⟨u, rfl, ru⟩ := r.one
  obtain ⟨c, ws, rfl, h1, _, da⟩ := SqT_of_dp hd (Same.refl H)
  cases ru
  obtain ⟨its, rv, p, _⟩ := I.tuple h1
  obtain ⟨as, hr⟩ := Dp.readsAll I _ _ its da rv
  refine PySem.W.max_tuple_data (I.ok.hd hc) (show s.heap.IsTuple c its.toArray from p) hr ha (by omega) fun i v h' tk bs hv hd' hk => ?_
  obtain ⟨y, ry, dy⟩ := item_of I da rv (by simpa using hv) hk hd'
  exact ⟨y, H, I.kept hk, ry, q y dy⟩
variable {N : EN} {z z1 : Z} {pos p : Pos} {e : Expr} {es : List Expr} {x : Str} {ns : List Int} {n : Int}
theorem alike_ints : PySem.W.AlikeAll (lI ns) := ⟨fun a ha b hb => by
  obtain ⟨i, _, rfl⟩ := List.mem_map.mp ha
  obtain ⟨j, _, rfl⟩ := List.mem_map.mp hb
  rfl, fun a ha => by
  obtain ⟨i, _, rfl⟩ := List.mem_map.mp ha
  exact fun q => by cases q⟩
theorem de_minTI (hc : X.calm = true) (hu : X.A.units + 64 < cLine) (hg : Gl X "min") (hm : X.mg "min" = none) (h : DE X N z e (.d (tI (n :: ns))) z1) (hs : S1 X e := by rfl) : DE X N z (.Call (.Name "min" p) [e] [] pos) (.d (.int (ns.foldl min n))) z1 :=
  de_bt (cr_minD hc hu) hg hm (by decide +kernel) (da_cons h da_nil hs) (fun F α σ vs H Q fr d q => by
    obtain ⟨v, rfl, dd⟩ := DpAll.one d
    have h2 : PyData.depthAll (lI (n :: ns)) ≤ 1 := depth_ints (n :: ns)
    refine ⟨v, .int n, lI ns, rfl, .inl (dmono fr.sub dd), alike_ints (ns := n :: ns), Nat.le_trans h2 (by decide), fun u du => ?_⟩
    rw [PySem.W.minD_ints] at du
    cases du
    exact q _ F α H (On.refl F α) fr (.int _)) (he := hs)
theorem de_maxTI (hc : X.calm = true) (hu : X.A.units + 64 < cLine) (hg : Gl X "max") (hm : X.mg "max" = none) (h : DE X N z e (.d (tI (n :: ns))) z1) (hs : S1 X e := by rfl) : DE X N z (.Call (.Name "max" p) [e] [] pos) (.d (.int (ns.foldl max n))) z1 :=
  de_bt (cr_maxD hc hu) hg hm (by decide +kernel) (da_cons h da_nil hs) (fun F α σ vs H Q fr d q => by
    obtain ⟨v, rfl, dd⟩ := DpAll.one d
    have h2 : PyData.depthAll (lI (n :: ns)) ≤ 1 := depth_ints (n :: ns)
    refine ⟨v, .int n, lI ns, rfl, dmono fr.sub dd, alike_ints (ns := n :: ns), Nat.le_trans h2 (by decide), fun u du => ?_⟩
    rw [PySem.W.maxD_ints] at du
    cases du
    exact q _ F α H (On.refl F α) fr (.int _)) (he := hs)
theorem foldl_min_bd {lo hi : Int} : ∀ (ns : List Int) (n : Int), lo ≤ n ∧ n < hi → (∀ v ∈ ns, lo ≤ v ∧ v < hi) → lo ≤ ns.foldl min n ∧ ns.foldl min n < hi
  | [], n, h, _ => h
  | m :: ns, n, h, hs => by
    have := hs m List.mem_cons_self
    exact foldl_min_bd ns (min n m) (by omega) fun v hv => hs v (List.mem_cons_of_mem _ hv)
theorem foldl_max_bd {lo hi : Int} : ∀ (ns : List Int) (n : Int), lo ≤ n ∧ n < hi → (∀ v ∈ ns, lo ≤ v ∧ v < hi) → lo ≤ ns.foldl max n ∧ ns.foldl max n < hi
  | [], n, h, _ => h
  | m :: ns, n, h, hs => by
    have := hs m List.mem_cons_self
    exact foldl_max_bd ns (max n m) (by omega) fun v hv => hs v (List.mem_cons_of_mem _ hv)
end

/-! ### calls by keywords alone -/
/-- how keywords ks bind: g puts their values in the parameters' order -/
structure OkK (P : Program) (w : World) (K : PySem.W.Frag) (mg : Str → Option Value) (base : Heap) (x : Str) (k : Nat) (ps ks : List Str) (g : {α : Type} → List α → List α) (R : RT) : Prop where
  ex : ∃ f fd, FnOk P w K mg base CX0 k f fd ps (spG K R) ∧ mg x = some (.ref f) ∧ PySem.W.keepIn K (.ref f) = true ∧ ∀ (s : Shared) (ws : List Value), ws.length = ks.length → BindsTo s fd ⟨[], ks.zip ws⟩ (ps.zip (g ws))
section
variable {X : Cx} {N : EN} {z z1 z2 : Z} {pos p kpos : Pos} {e : Expr} {kws : List Keyword} {k k' : Nat} {ps ks : List Str} {x : Str} {nm : Option Str} {R : RT} {g : {α : Type} → List α → List α}
abbrev DK (X : Cx) (N : EN) (z : Z) (kws : List Keyword) (ds : List D) (z' : Z) : Prop := PK X kws (tDAd X.K N z ds z')
theorem PK.to {t t' : TA} (h : PK X kws t) (w : ∀ σ H Q, t' σ H Q → t σ H Q) : PK X kws t' := ⟨fun pos pins s σ H Q I q => h.run pos pins s σ H Q I (w _ _ _ q)⟩
theorem dk_nil : DK X N z [] [] z := PK.to pk_nil fun σ H Q ⟨F, α, fr, q⟩ => q [] F α H (On.refl F α) fr .nil
theorem dk_cons {x : D} {ds : List D} (h : DE X N z e (.d x) z1) (hr : DK X N z1 kws ds z2) : DK X N z (⟨nm, e, kpos⟩ :: kws) (x :: ds) z2 :=
  PK.to (pk_cons h hr) fun σ H Q ⟨F, α, fr, q⟩ => ⟨F, α, fr, fun v F1 α1 H1 o1 fr1 d1 => ⟨F1, α1, fr1, fun vs F2 α2 H2 o2 fr2 d2 => q _ F2 α2 H2 (o1.trans o2) fr2 (.cons (o2.dp d1) d2)⟩⟩
theorem de_clK {ds : List D} {v : D} (G : OkK X.prog X.w X.K X.mg X.base x k ps ks g R) (hr : Room k' X.A) (hg : Gl X x) (ha : DK X N z kws ds z1) (hl : ds.length = ks.length) (hR : R (g ds) [] (.d v) [])
    (gV : ∀ {vs : List V} {us : List Value}, vs.length = ks.length → Vals vs us → Vals (g vs) (g us)) (gD : ∀ {K : PySem.W.Frag} {F : Hp} {vs : List V}, DpAll K F vs ds → DpAll K F (g vs) (g ds)) (hk : k ≤ k' := by decide)
    (hall : (backToKw pos (keywordEach kws X.env)).all (·.1.isSome) = true := by rfl) (hks : (backToKw pos (keywordEach kws X.env)).filterMap (·.1) = ks := by rfl) (hdb : (x == ("__debug__" : Str)) = false := by decide)
    (hpl : ((backTo pos (starEach [] X.env)).any (·.1) || (backToKw pos (keywordEach kws X.env)).any (·.1.isNone)) = false := by rfl) :
    DE X N z (.Call (.Name x p) [] kws pos) (.d v) z1 := by
  obtain ⟨f, fd, F, hm, hkp, hb⟩ := G.ex
  refine ⟨fun pins s σ H Q I h => ?_⟩
  obtain ⟨Fh, α, fr, q⟩ := h
  refine wpAny_Call_Name_kw (ld_glob I hg hm ?_ hdb)
  refine PySem.W.callWith_KW0 (h₀ := X.base) I.ok.mod.kin hkp hall ?_ hpl
  refine thn (ha.run pos pins s σ H (fun zs H2 => ∃ F2 α2, On Fh F2 α α2 ∧ Fr X.K N F2 α2 z1 σ H2 ∧ DpAll X.K F2 zs ds) I ⟨Fh, α, fr, fun vs F2 α2 H2 o2 fr2 d2 => ⟨F2, α2, o2, fr2, d2⟩⟩) fun ws s2 ⟨zs, H2, I2, rz, F2, α2, o2, fr2, d2⟩ => ⟨I2.kIn, ?_⟩
  rw [hks]
  have lz : zs.length = ks.length := (DpAll.len d2).trans hl
  have r2 := gV lz rz
  have hsp : spG X.K R (g zs) H2 Q E0 := sp_call0 (r := .d v) fr2 (gD d2) hR fun v F3 α3 H3 o3 f3 r3 => q v F3 α3 H3 (o2.trans o3) f3 r3
  refine wpAny_call (codeAny_mono (F.run X.A X.stack s2 H2 ⟨[], ks.zip ws⟩ (g ws) (g zs) Q E0 (hr.mono hk) I2.env0 (hb s2 ws (rz.length.symm.trans lz)) r2 hsp) fun r s' hq => ?_)
  cases r with
  | error e => exact pass0 (X := X) pins σ H2 s2 e s' I2 hq
  | ok fl =>
    cases fl with
    | ret u => exact I2.after hq
    | next => exact False.elim hq
    | brk => exact False.elim hq
    | cont => exact False.elim hq
end

/-! ### the end of a law -/
def spLaw (K : PySem.W.Frag) : Sp := fun vs H Q _ => ∃ (a : Addr) (ns : List Int), vs = [.ref a] ∧ SqL K H a (ns.map V.int) ∧ ns.length ≤ 63 ∧ ∀ H', Q (.bl true) H'
def RLaw : RT := fun as π r π' => ∃ ns : List Int, as = [.list (lI ns)] ∧ ns.length ≤ 63 ∧ π = [] ∧ π' = [] ∧ r = .d (.bool true)
theorem sp_law {K : PySem.W.Frag} {vs : List V} {H : Hp} {Q : VK} {E : XK} (h : spLaw K vs H Q E) : spG K RLaw vs H Q E := by
  obtain ⟨a, ns, rfl, hs, hl, q⟩ := h
  refine ⟨[], H, [.ref a], [.list (lI ns)], [], [], .d (.bool true), ⟨ns, rfl, hl, rfl, rfl, rfl⟩, rfl, .cons (.lst hs (dpAll_ints ns)) .nil, Same.refl H, ⟨rfl, fun k a xs e => by simp at e⟩, List.nodup_nil, rfl, fun v F' H' _ _ _ _ _ r => ?_⟩
  cases (r : Dp K F' v (.bool true))
  exact q H'
/-- a def behind the top, by the head's facts -/
structure Raw (K : PySem.W.Frag) (x : Str) (st : Stmt) : Prop where
  ex : ∃ (f : Addr) (oc : Value) (od an : Option Addr) (sl : Array (Option Value)) (kV dc pm cd ct : Value), PySem.W.nsIn K mainGlobals x = some (some (.ref f)) ∧
    K.lookup f = some ⟨oc, od, .func (PySem.W.fnOf x x (defArgs st) (defBody st) (defScope st) .none kV dc pm an cd ct), sl⟩ ∧ PySem.W.codeIn K cd x = true ∧ PySem.W.keepIn K (.ref f) = true
theorem raw_mk {K : PySem.W.Frag} {x : Str} {st : Stmt} {f : Addr} {oc : Value} {od an : Option Addr} {sl : Array (Option Value)} {kV dc pm cd ct : Value} (a : PySem.W.nsIn K mainGlobals x = some (some (.ref f)))
    (l : K.lookup f = some ⟨oc, od, .func (PySem.W.fnOf x x (defArgs st) (defBody st) (defScope st) .none kV dc pm an cd ct), sl⟩) (c : PySem.W.codeIn K cd x = true) (k : PySem.W.keepIn K (.ref f) = true) : Raw K x st := ⟨f, oc, od, an, sl, kV, dc, pm, cd, ct, a, l, c, k⟩
theorem Raw.at_ {K : PySem.W.Frag} {x : Str} {st : Stmt} {h : Heap} {mg : Str → Option Value} {ps : List Str} (R : Raw K x st) (X : K.In h) (G : h.Ns mainGlobals mg)
    (b : ∀ (kV doc pm : Value) (an : Option Addr) (cdv ct : Value) (us : List Value), us.length = ps.length → bindArgs (PySem.W.fnOf x x (defArgs st) (defBody st) (defScope st) .none kV doc pm an cdv ct) ⟨us, []⟩ = pure (ps.zip us)) : FunAt K mg x st ps := by
  obtain ⟨f, oc, od, an, sl, kV, dc, pm, cd, ct, a, l, c, k⟩ := R.ex
  have F := fun_mk (st := st) l c k
  exact ⟨f, _, F, PySem.W.mg_of X G a, F.binds b⟩
/-- the same with keywords -/
theorem OkD.kw {P : Program} {w : World} {K : PySem.W.Frag} {mg : Str → Option Value} {base : Heap} {x : Str} {k : Nat} {ps ks : List Str} {R : RT} {st : Stmt} {g : {α : Type} → List α → List α} (O : OkD P w K mg base x k ps R) (F : FunAt K mg x st ps)
    (b : ∀ (kV doc pm : Value) (an : Option Addr) (cdv ct : Value) (ws : List Value), ws.length = ks.length → bindArgs (PySem.W.fnOf x x (defArgs st) (defBody st) (defScope st) .none kV doc pm an cdv ct) ⟨[], ks.zip ws⟩ = pure (ps.zip (g ws))) : OkK P w K mg base x k ps ks g R := by
  obtain ⟨f, fd, G, hm, hkp, hb, oc, od, osl, lk⟩ := O.ex
  obtain ⟨f', fd', F', hm', _⟩ := F.ex
  rw [hm] at hm'
  cases hm'
  obtain ⟨oc', od', kV, doc, pm, an, cdv, ct, osl', e, lk', _⟩ := F'.ex
  rw [lk] at lk'
  cases lk'
  exact ⟨f, fd, G, hm, hkp, fun s ws hl => .of_eq (by rw [e]; exact b kV doc pm an cdv ct ws hl)⟩
theorem vals_rev0 : ∀ {vs : List V} {us : List Value}, Vals vs us → Vals vs.reverse us.reverse
  | _, _, .nil => .nil
  | _, _, .cons r t => by
    rw [List.reverse_cons, List.reverse_cons]
    exact (vals_rev0 t).append (.cons r .nil)
theorem vals_rev {vs : List V} {us : List Value} {n : Nat} (_ : vs.length = n) (h : Vals vs us) : Vals vs.reverse us.reverse := vals_rev0 h
theorem dps_rev {K : PySem.W.Frag} {F : Hp} {vs : List V} {ds : List D} (h : DpAll K F vs ds) : DpAll K F vs.reverse ds.reverse := DpAll.reverse h
theorem neq1 {r s : List Int} (h : r = s) : (!PyData.eqv (tI r) (tI s)) = false := by rw [eqv_tI, decide_eq_true h]; rfl
theorem neq2 {r s u v : List Int} (h : r = s) (h2 : u = v) : (!PyData.eqv (tI r) (tI s) || !PyData.eqv (tI u) (tI v)) = false := by rw [neq1 h, neq1 h2]; rfl
theorem walk {l : PySem.W.OpenLaw} {q : Program} {loose : List Str} {XP : (Str → Option Value) → Heap → Prop} {YP : World → Heap → Prop} {d : DefRec} {K : Params → PySem.W.Frag} {k : Nat} (hr : Room k callerA) (hn : l.most = some 63) (hdf : d.params.defaults = [])
    (hY : ∀ (w : World) (h : Heap), YP w h → (K w.params).In h)
    (F : ∀ (w : World) (mg : Str → Option Value) (fa : Addr) (h : Heap), (K w.params).In h → h.Ns mainGlobals mg → mg d.name = some (.ref fa) →
      ∃ fd : FuncData, (∀ (s : Shared) (u : Value), BindsTo s fd ⟨[u], []⟩ [("script", u)]) ∧ ∀ base : Heap, (K w.params).In base → base.Ns mainGlobals mg → FnOk l.prog w (K w.params) mg base CX0 k fa fd ["script"] (spG (K w.params) RLaw)) :
    PySem.W.WalkO q loose XP YP l.row.toRowW d [] (fun f vs => PySem.call f vs) :=
  L2.walk_of (n := 63) (k := k) (x := "script") (CX := fun _ => CX0) (sp := fun w => spLaw (K w.params)) hn (by decide) hdf hr hY (fun w mg fa h KX G hm => by
    obtain ⟨fd, h1, h2⟩ := F w mg fa h KX G hm
    exact ⟨fd, h1, fun base a b => (h2 base a b).imp fun vs H Q E z => sp_law z⟩) (fun _ _ a ns hl _ hS => ⟨a, ns, rfl, hS, hl, fun _ => rfl⟩) fun _ _ _ _ _ z => z
end DL
/-! DL10: isinstance of data; tuple * int -/
namespace DL
open PySem PySem.Spec PyProof.Rows L2
/-! ### isinstance -/
def tyD : D → String
  | .none => "NoneType"
  | .bool _ => "bool"
  | .int _ => "int"
  | .str _ => "str"
  | .list _ => "list"
  | .tuple _ => "tuple"
  | _ => "object"
theorem ty_of {K : PySem.W.Frag} {F H : Hp} {v : V} {d : D} (h : Dp K F v d) (e : Same F H) : TyX K H v (.type (tyD d)) := by
  cases h with
  | non => exact .base .non
  | bl b => exact .base (.bl b)
  | int i => exact .base (.int i)
  | str x => exact .base (.str x)
  | lst h a =>
    rcases h with (h | ⟨o, h⟩) | ⟨o, its, n, h1, h2, _⟩
    · exact .base (.lst (e _ _ h))
    · exact .base (.frz (e _ _ h))
    · exact .kList h1 h2
  | tup h a =>
    rcases h with (h | ⟨o, h⟩) | ⟨o, its, n, h1, h2, _⟩
    · exact .base (.tup (e _ _ h))
    · exact .fTuple (e _ _ h)
    · exact .kTuple h1 h2
section
variable {X : Cx} {N : EN} {z z1 z2 : Z} {pos p p2 : Pos} {a b e : Expr}
theorem de_isi {T : String} {x : Str} {d : D} {t : Bool} (hk : kitB (tyD d) T = some t) (hg : Gl X "isinstance") (hm : X.mg "isinstance" = none) (hgT : Gl X x) (hmT : X.mg x = none) (hv : bootBuiltins x = some (.type T)) (h : DE X N z e (.d d) z1)
    (hn : x ≠ "__name__" := by decide) (hdb : (x == ("__debug__" : Str)) = false := by decide)
    (he : starEach (e :: [.Name x p2]) X.env = (false, eval e X.env) :: starEach [.Name x p2] X.env := by rfl) (hpl : (backTo pos (starEach [.Name x p2] X.env)).any (·.1) = false := by rfl)
    (hs2 : starEach [.Name x p2] X.env = (false, eval (.Name x p2) X.env) :: starEach [] X.env := by rfl) : DE X N z (.Call (.Name "isinstance" p) [e, .Name x p2] [] pos) (.d (.bool t)) z1 :=
  PE.to (pe_callB call_isi hg hm PyProof.Rows.boot_isinstance (pa_cons h (pa_cons (show PE X (.Name x p2) (tC (.ty T)) from ⟨fun _ _ _ H _ I h => ld_blt I hgT hmT hv ⟨.ty T, H, I, rfl, h⟩ hn hdb⟩) pa_nil hs2) he) (he := he) (hpl := hpl)) fun σ H Q ⟨F, α, fr, q⟩ => ⟨F, α, fr, fun v F1 α1 H1 o1 fr1 d1 => by
    refine ⟨v, .ty T, .type (tyD d), .type T, t, rfl, .ty T, ty_of d1 fr1.sub, kit_ty hk, q _ F1 α1 H1 o1 fr1 (.bl t)⟩⟩
end
/-! ### tuple * int -/
theorem tup_once (l : Addr) (its : Array Value) (n : Nat) (dd : Option Addr) (sl : Array (Option Value)) (u : Tok) (c1 : (its.isEmpty || (1 : Int) == 1) = true) :
    Meets (Builtin.«tuple.__mul__» ⟨[.ref l, .int 1 u], []⟩) (fun _ R s => s.heap.get? l = some { cls := .type "tuple", dict := dd, data := .seq its n, slots := sl } ∧ R (.ok (.ret (.ref l))) s) :=
  .of_wp fun prog w A R s h => by
    obtain ⟨hp, g, d, tk, os⟩ := s
    obtain ⟨hl, h⟩ := h
    have f1 := AutoSeq1.idx_int
    wp_walk using wpAny_loadPart' hl
    repeat (first
      | (refine wpAny_ite_true (decide_eq_true c1) ?_; wp_walk using wpAny_loadPart' hl))
    exact ⟨_, rfl, h⟩
def rRep1 (K : PySem.W.Frag) : R2 := fun x y H Q => ∃ l xs, x = .ref l ∧ y = .int 1 ∧ SqT K H l xs ∧ xs ≠ [] ∧ Q (.ref l) H
theorem op_rep1 {X : Cx} : OpR X (binaryOp .Mult) (rRep1 X.K) := by
  intro pins s σ H x y v u Q I rx ry h
  obtain ⟨l, xs, rfl, rfl, hT, hne, q⟩ := h
  cases rx
  obtain ⟨t, rfl⟩ := ry
  obtain ⟨its, r, ⟨⟨cls, dd, data, sl⟩, ho, hc, n, hd⟩, hs⟩ := I.tuple hT
  simp only at hc hd
  subst hc hd
  have c1 : (its.toArray.isEmpty || (1 : Int) == 1) = true := by simp
  refine wpAny_binaryOp_repeat_ref (T := "tuple") (U := "int") (by decide) ⟨_, ho, rfl⟩ (fun s' => typeIs_int s' 1 t) noFill_tuple_mul F.fills_int_mul F.slot_int_rmul repeat_tuple F.slot_int_index.lookup
    (call_meets F.slot_int_rmul (typeIs_int s 1 t) F.entry_int_rmul (F.args_int_rmul_2 _ _) (int_rmul_tuple 1 t l its.toArray n dd sl)
      ⟨ho, rfl, ⟨_, ho, rfl⟩, call_meets F.slot_tuple_mul ⟨_, ho, rfl⟩ F.entry_tuple_mul (F.args_tuple_mul_2 _ _) (tup_once l its.toArray n dd sl t c1) ⟨ho, ?_⟩⟩)
  exact ⟨.ref l, H, I, rfl, q⟩
section
variable {X : Cx} {N : EN} {z z1 z2 : Z} {pos : Pos} {a b : Expr}
theorem de_repTI {v : Int} {m : Nat} (ha : DE X N z a (.d (tI [v])) z1) (hb : DE X N z1 b (.d (.int m)) z2) (h1 : 1 ≤ m) (h2 : m ≤ 1000) : DE X N z (.BinOp a .Mult b pos) (.d (tI (List.replicate m v))) z2 := by
  by_cases h : m = 1
  · subst h
    exact de_opG op_rep1 ha hb fun F α σ x u H Q fr d1 d2 q => by
      cases (d2 : Dp X.K F u (.int 1))
      obtain ⟨c, vs, rfl, e1, e2, e3⟩ := SqT_of_dp (show Dp X.K F x (tI [v]) from d1) fr.sub
      refine ⟨c, vs, rfl, rfl, e1, fun e => ?_, q _ F α H (On.refl F α) fr d1⟩
      subst e
      have := DpAll.len e3
      simp at this
  · exact de_opG op_repT ha hb fun F α σ x u H Q fr d1 d2 q => by
      cases (d2 : Dp X.K F u (.int m))
      obtain ⟨c, vs, rfl, e1, e2, e3⟩ := SqT_of_dp (show Dp X.K F x (tI [v]) from d1) fr.sub
      have hl := DpAll.len e3
      refine ⟨c, m, vs, rfl, rfl, e1, fun e => ?_, by omega, by omega, by rw [hl]; simp, fun pp hp => ?_⟩
      · subst e
        simp at hl
      · obtain ⟨o4, fr4⟩ := fr.ext (o := .tup (List.replicate (m : Int).toNat vs).flatten) hp
        refine q _ _ α _ o4 fr4 ?_
        have e : lI (List.replicate m v) = (List.replicate (m : Int).toNat (lI [v])).flatten := by
          rw [Int.toNat_natCast]
          exact (Eq.trans List.flatten_replicate_singleton List.map_replicate.symm).symm
        show Dp X.K _ _ (.tuple (lI (List.replicate m v)))
        rw [e]
        exact .tup (SqT.of upd_same) (dmonoA o4.f (DpAll.rep e3 _))
end
/-! ### forgetting behind an expression -/
section
variable {X : Cx} {N : EN} {z z1 z2 : Z} {pos p : Pos} {e iter elt tg : Expr} {x : D}
theorem On.cut {F F' : Hp} {α α' : List Addr} (o : On F F' α α') {m : Nat} (h : α.length ≤ m) : On F F' α (α'.take m) := by
  obtain ⟨f, β, rfl⟩ := o
  exact ⟨f, β.take (m - α.length), by rw [List.take_append, List.take_of_length_le h]⟩
theorem de_wk {s' : List Sl} {o' g : List (Option (List D))} (h : DE X N z e (.d x) z1) (w : WkS z1.s s') (ho : z1.o = o' ++ g) (hl : z.o.length ≤ o'.length) (hs : ptrOk s' o'.length = true) (hp : N.pa.length ≤ z.o.length) : DE X N z e (.d x) ⟨s', o'⟩ :=
  PE.to h fun σ H Q ⟨F, α, fr, q⟩ => ⟨F, α, fr, fun v F1 α1 H1 o1 fr1 d1 => q v F1 _ H1 (o1.cut (by rw [← fr.len]; exact hl)) (fr1.weak (z1 := ⟨s', o'⟩) ⟨w.len, w.at_, by rw [ho]; simp⟩ (Nat.le_trans hp hl) (ptrOk_at hs)) d1⟩
theorem dt_wk {t : Bool} {s' : List Sl} {o' g : List (Option (List D))} (h : DT X N z e t z1) (w : WkS z1.s s') (ho : z1.o = o' ++ g) (hl : z.o.length ≤ o'.length) (hs : ptrOk s' o'.length = true) (hp : N.pa.length ≤ z.o.length) : DT X N z e t ⟨s', o'⟩ :=
  PT.to h fun σ H Q ⟨F, α, fr, q⟩ => ⟨F, α, fr, fun F1 α1 H1 o1 fr1 => q F1 _ H1 (o1.cut (by rw [← fr.len]; exact hl)) (fr1.weak (z1 := ⟨s', o'⟩) ⟨w.len, w.at_, by rw [ho]; simp⟩ (Nat.le_trans hp hl) (ptrOk_at hs))⟩
variable {nx : Z → Prop} {rt : Rs → Z → Prop} {xs : List D} {n : Nat} {item : Nat → D} {g : TG} {f : D → List Sl → List Sl} {ok : D → Prop} {is : List Nat} {scope : Scope} {own : List (Str × Nat)}
theorem d1_setLcI {i : Nat} {yn : Str} {py spos : Pos} {y : Nat → Int} {ze : Nat → Z} (hc : X.calm = true) (hN : X.N.Nodup) (hy : X.N[i]? = some yn) (hyl : X.env.scope.names.lookup yn = some .local) (hsw : swapsWith (.ListComp elt [⟨tg, iter, [], 0⟩] scope pos) (some (.Name yn py)) spos.line X.env = pure true) (hi : DI X N z tg iter xs z1) (I : Items xs n item) (okb : BlkOk X.N X.env.scope scope own)
    (hg : ∀ (s : Shared) (H : Hp) (C : Addr) (cl : List (Str × Addr)) (fp : List Addr), PG (BX X scope s H C cl fp) tg g) (gd : GD X.K g f ok is) (hiv : ∀ i ∈ is, i ∈ own.map (·.2)) (hok : ∀ k, k < n → ok (item k)) (hsm : n < sizeLine)
    (he : ∀ k, k < n → ∀ (s : Shared) (H : Hp) (C : Addr) (cl : List (Str × Addr)) (fp : List Addr), DE (BX X scope s H C cl fp) N ⟨f (item k) (wipeS z1.s (own.map (·.2))), z1.o ++ [some (lI ((List.range k).map y))]⟩ elt (.d (.int (y k))) (ze k))
    (hz : ∀ k, k < n → (ze k).o.take (z1.o.length + 1) = z1.o ++ [some (lI ((List.range k).map y))])
    (h : nx ⟨z1.s.set i (.ptr z1.o.length), z1.o ++ [some (lI ((List.range n).map y))]⟩)
    (hs : ∀ x, foldedSetIterable iter X.env x = pure x := by intro _; rfl) :
    D1 X N z (.Assign [.Name yn py] (.ListComp elt [⟨tg, iter, [], 0⟩] scope pos) spos) nx rt := by
  have e : ∀ k, (List.range k).map (fun i => PyData.int (y i)) = lI ((List.range k).map y) := fun k => (List.map_map (f := y) (g := PyData.int) (l := List.range k)).symm
  refine d1_setLc (X := X) (N := N) (z := z) (z1 := z1) (O := fun _ => z1.o) (acc := fun k => (List.range k).map fun i => .int (y i)) (b := fun _ => true) (y := fun k => .int (y k)) (zt := fun k d => ⟨f d (wipeS z1.s (own.map (·.2))), z1.o ++ [some ((List.range k).map fun i => .int (y i))]⟩) (ze := fun k _ => ze k) (ifs := []) (elt := elt) (pos := pos) (spos := spos)
    hc hN hy hyl hsw hi okb hg gd hiv (fun k d h => by rw [I.get k d h]; exact hok k (I.lt h))
    ⟨rfl, rfl, fun k hk => by rw [List.length_map, List.length_range]; rw [I.len] at hk; omega, fun _ => rfl, fun k d h _ => ⟨by rw [e]; exact hz k (I.lt h), by rw [List.range_succ, List.map_append]; rfl⟩, fun k d h e => by cases e⟩
    (fun k d h s H C cl fp => dts_nil) (fun k d h _ s H C cl fp => by rw [I.get k d h, e]; exact he k (I.lt h) s H C cl fp) ?_ hs
  rw [I.len, e]
  exact h
end
theorem eqv_lI (r s : List Int) : PyData.eqv (.list (lI r)) (.list (lI s)) = decide (r = s) := eqv_ints r s
theorem depth_lI (r : List Int) (y : D) : min (PyData.depth (.list (lI r))) y.depth ≤ 64 := by
  have : PyData.depthAll (lI r) ≤ 1 := depth_ints r
  simp only [PyData.depth]
  omega
theorem neqL {r s : List Int} (h : r = s) : (!PyData.eqv (.list (lI r)) (.list (lI s))) = false := by rw [eqv_lI, decide_eq_true h]; rfl
theorem eqL {r s : List Int} (h : r = s) : PyData.eqv (.list (lI r)) (.list (lI s)) = true := by rw [eqv_lI, decide_eq_true h]
theorem or2f {a b : Bool} (h : a = false) (h2 : b = false) : (a || b) = false := by rw [h, h2]; rfl
theorem and1f {a b : Bool} (h : a = false) : (a && b) = false := by rw [h]; rfl
theorem and2f {a b : Bool} (h : b = false) : (a && b) = false := by rw [h, Bool.and_false]
theorem nei {i j : Int} (h : i = j) : (!decide (i = j)) = false := by rw [decide_eq_true h]; rfl
end DL
/-! DL11: triples in order, the least of many data, tuple.index(None), chains -/
namespace DL
open PySem PySem.Spec PyProof.Rows L2
abbrev t3 (a b c : Int) : D := .tuple [.int a, .int b, .int c]
def lex3 (a b c x y z : Int) : Bool := decide (a < x ∨ (a = x ∧ (b < y ∨ (b = y ∧ c < z))))
theorem lex_step (p q : Int) (r t : List (Int ⊕ List Nat)) : PyProof.Rows.lexLt itemOrd (.inl p :: r) (.inl q :: t) = if p = q then PyProof.Rows.lexLt itemOrd r t else decide (p < q) := by
  by_cases h : p = q
  · subst h
    rw [if_pos rfl]
    exact lex_self (O := itemOrd) _ _ _
  · rw [if_neg h]
    exact lex_diff (O := itemOrd) fun e => h (by injection e)
theorem lt3 (a b c x y z : Int) : PySem.W.dataLt (t3 a b c) (t3 x y z) = lex3 a b c x y z := by
  have e : ∀ a b c : Int, PySem.W.keyToks (t3 a b c) = [.inl 1, .inl a, .inl 1, .inl b, .inl 1, .inl c, .inl 0] := fun a b c => by simp [PySem.W.keyToks, PySem.W.keyToksAll]
  unfold PySem.W.dataLt lex3
  rw [e, e, lex_step, if_pos rfl, lex_step, lex_step, if_pos rfl, lex_step, lex_step, if_pos rfl, lex_step, lex_step, if_pos rfl]
  show (if a = x then (if b = y then (if c = z then false else decide (c < z)) else decide (b < y)) else decide (a < x)) = _
  by_cases h1 : a = x <;> by_cases h2 : b = y <;> by_cases h3 : c = z <;> simp [h1, h2, h3]
theorem alike3 (a b c x y z : Int) : PySem.W.alike (t3 a b c) (t3 x y z) = true := rfl
section
variable {X : Cx}
/-- min over a list that stands among the frozen data -/
def rMinF (K : PySem.W.Frag) : List V → Hp → VK → Prop := fun vs H Q => ∃ F v x xs, vs = [v] ∧ Same F H ∧ Dp K F v (.list (x :: xs)) ∧ PySem.W.AlikeAll (x :: xs) ∧ PyData.depthAll (x :: xs) ≤ 60 ∧ ∀ u, Dp K F u (PySem.W.minD x xs) → Q u H
theorem item_ofF {pins : List (Addr × Obj)} {σ : L2.St} {F H : Hp} {s : Shared} {xs : List V} {ds : List D} {its : List Value} {h' : Heap} {i : Nat} {v : Value} {d : D} {bs : List Addr} (I : Inv X pins σ H s) (sf : Same F H) (da : DpAll X.K F xs ds) (rv : Vals xs its) (hv : its[i]? = some v)
    (hk : ∀ b o, s.heap.get? b = some o → h'.get? b = some o) (hd : Reads h' v d bs) : ∃ x, RelV x v ∧ Dp X.K F x d := by
  cases q : xs[i]? with
  | none => rw [rv.none_of q] at hv; cases hv
  | some x =>
    obtain ⟨u, hu, ru⟩ := rv.get q
    rw [hv] at hu
    cases hu
    obtain ⟨d', hd', dp⟩ := DpAll.getV da q
    obtain ⟨as, r⟩ := Dp.reads I d' x v (dmono sf dp) ru
    have e : d' = d := SeqAt.plain_unique d' d v as bs (Dp.plain dp) (PySem.W.reads_keeps hk r) hd
    rw [← e]
    exact ⟨x, ru, dp⟩
theorem cr_minF (hc : X.calm = true) (hu : X.A.units + 64 < cLine) : CallR X (.builtin "min") (rMinF X.K) := by
  intro pins s σ H vs us Q I r h
  obtain ⟨F, v, x, xs, rfl, sf, hd, ha, hz, q⟩ := h
  obtain ⟨u, rfl, ru⟩ := r.one
  obtain ⟨c, ws, rfl, h1, _, da⟩ := SqL_of_dp hd sf
  cases ru
  obtain ⟨its, rv, p, _⟩ := I.list h1
  obtain ⟨as, hr⟩ := Dp.readsAll I _ _ its (dmonoA sf da) rv
  refine PySem.W.min_list_data (I.ok.hd hc) p.isList hr ha (by omega) fun i v h' tk bs hv hd' hk => ?_
  obtain ⟨y, ry, dy⟩ := item_ofF I sf da rv (by simpa using hv) hk hd'
  exact ⟨y, H, I.kept hk, ry, q y dy⟩
end
section
variable {X : Cx} {N : EN} {z z1 z2 z3 : Z} {pos p apos : Pos} {a b c e : Expr} {x y : D} {i j k : Int}
def rLtP (K : PySem.W.Frag) : R2 := fun x y H Q => ∃ d e, Dp K H x d ∧ Dp K H y e ∧ PySem.W.alike d e = true ∧ d ≠ .none ∧ min d.depth e.depth ≤ 60 ∧ Q (.bl (PySem.W.dataLt d e)) H
theorem op_ltP (hu : X.A.units + 64 < cLine) : OpR X (compareOp .Lt) (rLtP X.K) := by
  intro pins s σ H x y v u Q I rx ry h
  obtain ⟨d, e, hd, he, ha, hn, hm, q⟩ := h
  obtain ⟨as, r1⟩ := Dp.reads I d x v hd rx
  obtain ⟨bs, r2⟩ := Dp.reads I e y u he ry
  exact PySem.W.lt_data r1 r2 ha hn (by omega) ⟨.bl _, H, I, rfl, q⟩
theorem dt_lt3 {a1 a2 a3 b1 b2 b3 : Int} (hu : X.A.units + 64 < cLine) (ha : DE X N z a (.d (t3 a1 a2 a3)) z1) (hb : DE X N z1 b (.d (t3 b1 b2 b3)) z2) : DT X N z (.Compare a [.Lt] [b] pos) (lex3 a1 a2 a3 b1 b2 b3) z2 := by
  rw [← lt3]
  exact dt_cmp (op_ltP hu) ha hb (fun F α σ v u H Q fr d1 d2 q => ⟨_, _, dmono fr.sub d1, dmono fr.sub d2, alike3 _ _ _ _ _ _, (fun q => by cases q), by simp [PyData.depth, PyData.depthAll], q⟩) (nomark _)
/-- min of a list of alike data -/
theorem de_minL {x : D} {xs : List D} (hc : X.calm = true) (hu : X.A.units + 64 < cLine) (hg : Gl X "min") (hm : X.mg "min" = none) (h : DE X N z e (.d (.list (x :: xs))) z1) (hal : PySem.W.AlikeAll (x :: xs)) (hd : PyData.depthAll (x :: xs) ≤ 60) (hs : S1 X e := by rfl) : DE X N z (.Call (.Name "min" p) [e] [] pos) (.d (PySem.W.minD x xs)) z1 :=
  de_bt (cr_minF hc hu) hg hm (by decide +kernel) (da_cons h da_nil hs) (fun F α σ vs H Q fr d q => by
    obtain ⟨v, rfl, dd⟩ := DpAll.one d
    exact ⟨F, v, x, xs, rfl, fr.sub, dd, hal, hd, fun u du => q _ F α H (On.refl F α) fr du⟩) (he := hs)
/-- a op1 b op2 c, of ints -/
theorem dt_chLL (ha : DE X N z a (.d (.int i)) z1) (hb : DE X N z1 b (.d (.int j)) z2) (hc : DE X N z2 c (.d (.int k)) z2)
    (hm : lastMarks [.LtE, .Lt] [b, c] = false := by with_unfolding_all rfl) : DT X N z (.Compare a [.LtE, .Lt] [b, c] pos) (decide (i ≤ j) && decide (j < k)) z2 :=
  PT.to (pt_chain op_le op_lt ha hb hc hm) fun σ H Q ⟨F, α, fr, q⟩ => ⟨F, α, fr, fun v F1 α1 H1 o1 fr1 d1 => ⟨F1, α1, fr1, fun u F2 α2 H2 o2 fr2 d2 => by
    have d1 := o2.dp (show Dp X.K F1 v (.int i) from d1)
    cases d1
    cases (d2 : Dp X.K F2 u (.int j))
    refine ⟨i, j, rfl, rfl, _, rfl, ?_⟩
    by_cases h : i ≤ j
    · rw [if_pos (decide_eq_true h)]
      refine ⟨F2, α2, fr2, fun w F3 α3 H3 o3 fr3 d3 => ?_⟩
      cases (d3 : Dp X.K F3 w (.int k))
      refine ⟨j, k, rfl, rfl, _, rfl, ?_⟩
      have := q F3 α3 H3 ((o1.trans o2).trans o3) fr3
      rw [decide_eq_true h] at this
      exact this
    · rw [if_neg (by rw [decide_eq_false h]; decide)]
      refine ⟨_, rfl, ?_⟩
      have := q F2 α2 H2 (o1.trans o2) fr2
      rw [decide_eq_false h] at this
      exact this⟩⟩
end
/-! ### tuple.index(None) -/
def optI : Option Int → D
  | none => .none
  | some i => .int i
def optV : Option Int → V
  | none => .non
  | some i => .int i
abbrev oD (ps : List (Option Int)) : D := .tuple (ps.map optI)
theorem DpAll.opts {K : PySem.W.Frag} {F : Hp} : ∀ {vs : List V} {ps : List (Option Int)}, DpAll K F vs (ps.map optI) → vs = ps.map optV
  | [], [], _ => rfl
  | [], _ :: _, h => by cases h
  | _ :: _, [], h => by cases h
  | v :: vs, p :: ps, h => by
    cases h with
    | cons r t =>
      rw [List.map_cons, DpAll.opts t]
      cases p <;> (cases r; rfl)
section
variable {X : Cx}
theorem mt_tup_none : MtR X "tuple.index" (fun x xs H Q => ∃ (p : Addr) (ps : List (Option Int)) (j : Nat), x = .ref p ∧ xs = [.non] ∧ SqT X.K H p (ps.map optV) ∧ ps[j]? = some none ∧ (∀ m, m < j → ps[m]? ≠ some none) ∧ Q (.int (j : Nat)) H) := by
  intro pins s σ H x xs v us Q I rx rs h
  obtain ⟨p, ps, j, rfl, rfl, hq, hy, hno, q⟩ := h
  cases rx
  obtain ⟨u, rfl, ru⟩ := vals1 rs
  cases ru
  obtain ⟨its, r, ⟨⟨cls, dd, dt, sl⟩, ho, hc, n, hd⟩, hz⟩ := I.tuple hq
  simp only at hc hd
  subst hc hd
  have hl : its.toArray.size = ps.length := by rw [List.size_toArray, ← r.length, List.length_map]
  have hj : j < its.toArray.size := by rw [hl]; exact (List.getElem?_eq_some_iff.mp hy).1
  have fl : (ps.map optV).all flatV = true := by
    rw [List.all_map]
    exact List.all_eq_true.mpr fun o _ => by cases o <;> rfl
  have key : ∀ (m : Nat) (hm : m < its.toArray.size), eqU .non its.toArray[m] = decide (ps[m]? = some none) := fun m hm => by
    have hm' : m < ps.length := by rw [← hl]; exact hm
    obtain ⟨w, hw, rw'⟩ := r.get (i := m) (x := optV ps[m]) (by simp [hm'])
    have e := (List.getElem?_eq_some_iff.mp hw).2
    have e2 : its.toArray[m] = w := by rw [← e]; simp
    rw [e2, eqU_of rw' (by cases ps[m] <;> rfl), List.getElem?_eq_getElem hm']
    cases ps[m] <;> rfl
  refine call_meets PySem.F.slot_tuple_index ⟨_, ho, rfl⟩ PySem.F.entry_tuple_index (PySem.F.args_tuple_index_2 _ _) (TI.tuple_indexAt p its.toArray n dd sl .none (eqU .non) j hj ?_ ?_)
    ⟨ho, fun w hw => mem_eqAt (x := .non) rfl rfl r fl w (by simpa using hw), ⟨.int (j : Nat), H, I.tok _, ⟨_, rfl⟩, q⟩⟩
  · rw [key j hj, decide_eq_true hy]
  · intro m hm hmj
    rw [key m hm, decide_eq_false (hno m hmj)]
variable {N : EN} {z z1 z2 : Z} {pos p apos cpos : Pos} {a b e : Expr}
/-- part.index(None), part a local that holds a known tuple -/
theorem de_idxN {ps : List (Option Int)} {i j n0 : Nat} (pe : PE X e (tVar i)) (h : z.s[i]? = some (.q (ps.map optI))) (hy : ps[j]? = some none) (hno : ∀ m, m < j → ps[m]? ≠ some none)
    (hbase : attributeBase e "index" X.env (eval e X.env) = eval e X.env := by rfl)
    (hfew : ((backTo pos (starEach [.Constant .none n0 cpos] X.env)).all (fun x => !x.1) && (backToKw pos (keywordEach [] X.env)).all (fun x => x.1.isSome) && decide ([Expr.Constant .none n0 cpos].length + ([] : List Keyword).length + (if ([] : List Keyword).isEmpty then 0 else 1) < 30)) = true := by rfl)
    (hline : (apos.endLine == pos.line) = true := by rfl) (hs : starEach [.Constant .none n0 cpos] X.env = (false, eval (.Constant .none n0 cpos) X.env) :: starEach [] X.env := by rfl) (hpl : (backTo pos (starEach [] X.env)).any (·.1) = false := by rfl) :
    DE X N z (.Call (.Attribute e "index" apos) [.Constant .none n0 cpos] [] pos) (.d (.int (j : Nat))) z := by
  refine ⟨fun pins s σ H Q I hq => ?_⟩
  obtain ⟨F, α, fr, q⟩ := hq
  obtain ⟨v0, e0, kn⟩ := fr.sl i _ h
  obtain ⟨c, ob, vs, rfl, hF, hd, da⟩ := kn.ex
  refine wpAny_Call_method_late hbase hfew hline rfl (thn (pe.run pins s σ H (fun x H1 => x = .ref c ∧ H1 = H) I ⟨.ref c, e0, rfl, rfl⟩) fun v s1 ⟨x, H1, I1, r1, ex, eH⟩ => ?_)
  subst ex eH
  have rv := r1
  cases r1
  have hH := fr.sub _ _ hF
  obtain ⟨g1, _, its, rits, oc, g2, g3, _⟩ := (show ObjOk X.prog X.w H1 s1.heap c (.frz ob (.tup vs)) from I1.hok c _ hH)
  have e1 : oc = ob := by
    rw [g1] at g2
    exact (Option.some.inj g2).symm
  subst e1
  refine ⟨"tuple", "tuple.index", PySem.F.plainAttrs_tuple, PySem.F.slot_tuple_index, PySem.F.type_tuple_index, ⟨oc, g1, g3⟩, fun a' e => by cases e; exact ⟨oc, g1, hd⟩, ?_⟩
  have hA := (pa_cons (X := X) (pe_non (j := n0) (pos := cpos)) pa_nil hs).run pos pins s1 σ H1 (fun ws H2 => ws = [.non] ∧ H2 = H1) I1 ⟨rfl, rfl⟩
  rw [hs] at hA ⊢
  refine Calls.callWith_builtin (by show (false || (backTo pos (starEach [] X.env)).any (·.1)) = false; rw [hpl] <;> rfl) (Calls.evalArgs_plain ?_)
  refine thn hA fun us s2 ⟨ws, H2, I2, r2, ew, eH2⟩ => ?_
  subst ew eH2
  refine mt_tup_none pins s2 σ H2 (.ref c) [.non] _ us Q I2 rfl r2 ⟨c, ps, j, rfl, rfl, ?_, hy, hno, q _ F α H2 (On.refl F α) fr (.int _)⟩
  rw [← DpAll.opts da]
  exact .inl (.inr ⟨oc, hH⟩)
end
/-! ### tuples whose object is known -/
def tDQ (K : PySem.W.Frag) (N : EN) (z : Z) (ds : List D) (z' : Z) : TE := fun σ H Q => ∃ F α, Fr K N F α z σ H ∧ ∀ v F' α' H', On F F' α α' → Fr K N F' α' z' σ H' → Kn K F' v ds → Q v H'
abbrev DQ (X : Cx) (N : EN) (z : Z) (e : Expr) (ds : List D) (z' : Z) : Prop := PE X e (tDQ X.K N z ds z')
def tTupQ (t : TA) : TE := fun σ H Q => t σ H fun xs H1 => xs.length ≤ sizeLine ∧ ∀ p ob, H1 p = none → ob.dict = none → Q (.ref p) (upd H1 p (.frz ob (.tup xs)))
def rCatQ (K : PySem.W.Frag) : R2 := fun x y H Q => ∃ a b xs ys, x = .ref a ∧ y = .ref b ∧ SqT K H a xs ∧ SqT K H b ys ∧ xs ≠ [] ∧ xs.length + ys.length ≤ sizeLine ∧
  (ys = [] → Q (.ref a) H) ∧ (ys ≠ [] → ∀ p ob, H p = none → ob.dict = none → Q (.ref p) (upd H p (.frz ob (.tup (xs ++ ys)))))
section
variable {X : Cx} {N : EN} {z z1 z2 : Z} {pos p : Pos} {a b e : Expr} {es : List Expr} {xs ys ds : List D}
theorem pe_tupQ {k1 : Nat} {t : TA} (h : PA X es t) : PE X (.Tuple es k1 pos) (tTupQ t) := by
  refine ⟨fun pins s σ H Q I hq => ?_⟩
  refine wpAny_Tuple_spliced (thn (h.run pos pins s σ H _ I hq) fun us s1 ⟨ws, H1, I1, r, hz, q⟩ => ⟨by rw [← r.length]; exact hz, ?_⟩)
  have new := Heap.get?_push_size s1.heap (o := { cls := .type "tuple", data := .seq us.toArray }) rfl
  exact ⟨.ref s1.heap.objs.size, _, I1.laid (t' := s1.toks) (o := .frz { cls := .type "tuple", data := .seq us.toArray } (.tup ws)) (fun b u e => Heap.get?_push_of_some _ e) (Nat.le_refl _) ⟨new, hz, us, r, _, new, rfl, _, rfl⟩, rfl, q _ _ (I1.hok.fresh (Nat.le_refl _)) rfl⟩
theorem op_catQ : OpR X (binaryOp .Add) (rCatQ X.K) := by
  intro pins s σ H x y v u Q I rx ry h
  obtain ⟨a, b, xs, ys, rfl, rfl, ha, hb, hx, hz, q1, q2⟩ := h
  cases rx
  cases ry
  obtain ⟨us, r1, p1, _⟩ := I.tuple ha
  obtain ⟨ws, r2, p2, _⟩ := I.tuple hb
  refine HT.cat_tup p1 p2 (fun e => hx (r1.nil_iff.mp e)) (fun e => ⟨.ref a, H, I, rfl, q1 (r2.nil_iff.mp e)⟩) (fun e => ?_) (by rw [← r1.length, ← r2.length]; exact hz)
  have new := Heap.get?_push_size s.heap (o := { cls := .type "tuple", data := .seq (us ++ ws).toArray }) rfl
  exact ⟨.ref s.heap.objs.size, _, I.laid (t' := s.toks) (o := .frz { cls := .type "tuple", data := .seq (us ++ ws).toArray } (.tup (xs ++ ys))) (fun b ob q => Heap.get?_push_of_some _ q) (Nat.le_refl _) ⟨new, by rw [List.length_append]; exact hz, _, r1.append r2, _, new, rfl, _, rfl⟩, rfl, q2 (fun w => e (r2.nil_iff.mpr w)) _ _ (I.hok.fresh (Nat.le_refl _)) rfl⟩
theorem dq_tup {k1 : Nat} (h : DAd X N z es ds z1) (hz : ds.length ≤ sizeLine := by exact Nat.le_of_ble_eq_true rfl) : DQ X N z (.Tuple es k1 pos) ds z1 :=
  PE.to (pe_tupQ h) fun σ H Q ⟨F, α, fr, q⟩ => ⟨F, α, fr, fun vs F1 α1 H1 o1 fr1 d1 => ⟨by rw [DpAll.len d1]; exact hz, fun p ob hp hd => by
    obtain ⟨o2, fr2⟩ := fr1.ext (o := .frz ob (.tup vs)) hp
    exact q _ _ α1 _ (o1.trans o2) fr2 ⟨p, ob, vs, rfl, upd_same, hd, dmonoA o2.f d1⟩⟩⟩
theorem dq_cat (ha : DE X N z a (.d (.tuple xs)) z1) (hb : DE X N z1 b (.d (.tuple ys)) z2) (hx : xs ≠ []) (hy : ys ≠ []) (hz : xs.length + ys.length ≤ sizeLine) : DQ X N z (.BinOp a .Add b pos) (xs ++ ys) z2 :=
  PE.to (pe_op op_catQ ha hb) fun σ H Q ⟨F, α, fr, q⟩ => ⟨F, α, fr, fun v F1 α1 H1 o1 fr1 d1 => ⟨F1, α1, fr1, fun u F2 α2 H2 o2 fr2 d2 => by
    obtain ⟨c, vs, rfl, h1, h2, h3⟩ := SqT_of_dp (o2.dp (show Dp X.K F1 v (.tuple xs) from d1)) fr2.sub
    obtain ⟨c', ws, rfl, k1, k2, k3⟩ := SqT_of_dp (show Dp X.K F2 u (.tuple ys) from d2) fr2.sub
    have l1 := DpAll.len h3
    have l2 := DpAll.len k3
    refine ⟨c, c', vs, ws, rfl, rfl, h1, k1, fun e => hx ?_, by omega, fun e => absurd ?_ hy, fun _ p ob hp hd => ?_⟩
    · exact List.eq_nil_of_length_eq_zero (by rw [← l1, e]; rfl)
    · exact List.eq_nil_of_length_eq_zero (by rw [← l2, e]; rfl)
    · obtain ⟨o4, fr4⟩ := fr2.ext (o := .frz ob (.tup (vs ++ ws))) hp
      exact q _ _ α2 _ ((o1.trans o2).trans o4) fr4 ⟨p, ob, _, rfl, upd_same, hd, dmonoA o4.f (DpAll.append h3 k3)⟩⟩⟩
theorem dq_catQ (ha : DQ X N z a xs z1) (hb : DE X N z1 b (.d (.tuple ys)) z2) (hx : xs ≠ []) (hz : xs.length + ys.length ≤ sizeLine) : DQ X N z (.BinOp a .Add b pos) (xs ++ ys) z2 :=
  PE.to (pe_op op_catQ ha hb) fun σ H Q ⟨F, α, fr, q⟩ => ⟨F, α, fr, fun v F1 α1 H1 o1 fr1 kn => ⟨F1, α1, fr1, fun u F2 α2 H2 o2 fr2 d2 => by
    have kn2 := kn.mono o2.f
    obtain ⟨c, vs, rfl, h1, h2, h3⟩ := SqT_of_dp kn2.dp fr2.sub
    obtain ⟨c', ws, rfl, k1, k2, k3⟩ := SqT_of_dp (show Dp X.K F2 u (.tuple ys) from d2) fr2.sub
    have l1 := DpAll.len h3
    have l2 := DpAll.len k3
    refine ⟨c, c', vs, ws, rfl, rfl, h1, k1, fun e => hx ?_, by omega, fun e => ?_, fun _ p ob hp hd => ?_⟩
    · exact List.eq_nil_of_length_eq_zero (by rw [← l1, e]; rfl)
    · have e2 : ys = [] := List.eq_nil_of_length_eq_zero (by rw [← l2, e]; rfl)
      subst e2
      rw [List.append_nil] at q
      exact q _ F2 α2 H2 (o1.trans o2) fr2 kn2
    · obtain ⟨o4, fr4⟩ := fr2.ext (o := .frz ob (.tup (vs ++ ws))) hp
      exact q _ _ α2 _ ((o1.trans o2).trans o4) fr4 ⟨p, ob, _, rfl, upd_same, hd, dmonoA o4.f (DpAll.append h3 k3)⟩⟩⟩
end
/-- a promise for one argument of data and one known tuple -/
def spQ (K : PySem.W.Frag) (R : D → List D → D → Prop) : Sp := fun vs H Q _ => ∃ (F : Hp) (rv pv : V) (d : D) (ds : List D) (r : D), R d ds r ∧ vs = [rv, pv] ∧ Dp K F rv d ∧ Kn K F pv ds ∧ Same F H ∧
  ∀ v F' H', Same F F' → Same F' H' → (∀ b o, H b = some o → H' b = some o) → (∀ b, H b ≠ none → F b = none → F' b = none) → Dp K F' v r → Q v H'
section
variable {P : Program} {w : World} {K : PySem.W.Frag} {mg : Str → Option Value} {base : Heap} {N : EN}
theorem sp_callQ {F : Hp} {α : List Addr} {z : Z} {σ : L2.St} {H : Hp} {Q : VK} {E : XK} {rv pv : V} {d r : D} {ds : List D} {R : D → List D → D → Prop} (fr : Fr K N F α z σ H) (h1 : Dp K F rv d) (h2 : Kn K F pv ds) (hR : R d ds r)
    (q : ∀ v F' α' H', On F F' α α' → Fr K N F' α' z σ H' → Dp K F' v r → Q v H') : spQ K R [rv, pv] H Q E :=
  ⟨F, rv, pv, d, ds, r, hR, rfl, h1, h2, fr.sub, fun v F' H' s1 s2 e1 e2 hr => q v F' α H' ⟨s1, [], by simp⟩ (fr.after (pa := []) (fun a h => by cases h) z.o rfl s1 s2 (fun b o e _ => e1 b o e) e2 (fun a h => by cases h) (fun j a xs _ _ h => by cases h) fun j a xs _ e _ => e) hr⟩
theorem mk_fnQ {x qual : Str} {st : Stmt} {f : Addr} {fd : FuncData} {Nm : List Str} {p1 p2 : Str} {k : Nat} {R : D → List D → D → Prop} (F : Fun K x qual st f fd) (S : FnScope Nm [p1, p2] (defScope st))
    (body : ∀ (cdv : Value) (A : Around) (outer : List Env) (s : Shared) (H : Hp) (E : XK) (N : EN) (d : D) (ds : List D) (r : D), Room k (A.deeper (envOfC qual (defScope st) s.heap.objs.size f cdv)) → N.pa.length = 0 → R d ds r →
      DS (cxOf CX0 P w K mg base Nm qual (defScope st) f cdv A outer s H E).nox N ⟨[.d d, .q ds] ++ List.replicate (Nm.length - 2) .no, []⟩ (defBody st) (fun z => rrRs [] (.d r) (.d .none) z) (fun q z => rrRs [] (.d r) q z)) :
    FnOk P w K mg base CX0 (k + 1) f fd [p1, p2] (spQ K R) := by
  refine F.ok S (fun vs H Q E h => ?_) (fun cdv A outer s H vs Q E hr h => ?_)
  · obtain ⟨F, rv, pv, d, ds, r, _, rfl, _⟩ := h
    rfl
  · obtain ⟨F0, rv, pv, d, ds, r, hR, rfl, h1, h2, sF, q⟩ := h
    have hN : 2 ≤ Nm.length := by have := congrArg List.length S.pre; rw [List.length_take] at this; simp at this; omega
    have fr0 : Fr K ⟨H, F0, []⟩ F0 [] ⟨[.d d, .q ds] ++ List.replicate (Nm.length - 2) .no, []⟩ (L2.start Nm [rv, pv]) H := by
      refine ⟨sF, fun a o e _ => e, fun a _ e => e, rfl, ?_, List.nodup_nil, ⟨[], rfl, fun b h => (by cases h)⟩, fun a ha => (by cases ha), fun j a xs e1 e2 => (by simp at e1), fun i t e => ?_⟩
      · show ([Sl.d d, Sl.q ds] ++ List.replicate (Nm.length - 2) Sl.no).length = (L2.start Nm [rv, pv]).length
        unfold L2.start
        simp
      · have e : ([Sl.d d, Sl.q ds] ++ List.replicate (Nm.length - 2) Sl.no)[i]? = some t := e
        match i, e with
        | 0, e =>
          have e : Sl.d d = t := by simpa using e
          subst e
          exact ⟨rv, rfl, h1⟩
        | 1, e =>
          have e : Sl.q ds = t := by simpa using e
          subst e
          exact ⟨pv, rfl, h2⟩
        | i + 2, e =>
          have e : (List.replicate (Nm.length - 2) Sl.no)[i]? = some t := e
          have e3 : t = Sl.no := List.eq_of_mem_replicate (List.mem_of_getElem? e)
          subst e3
          trivial
    have fin : ∀ (v : V) (σ' : L2.St) (F' : Hp) (α' : List Addr) (H' : Hp) (rr : Rs) (z' : Z), Same F0 F' → Fr K ⟨H, F0, []⟩ F' α' z' σ' H' → RsOk K F' α' rr v → rrRs [] (.d r) rr z' → Q v H' := by
      intro v σ' F' α' H' rr z' s1 fr1 r1 ⟨_, hq⟩
      have hq : rr = .d r := hq
      subst hq
      exact q v F' H' s1 fr1.sub (fun b o e => fr1.ent b o e (fun h => by cases h)) (fun b e1 e2 => fr1.fz b e1 e2) r1
    refine ⟨_, body cdv A outer s H E ⟨H, F0, []⟩ d ds r hr rfl hR, F0, [], fr0, ?_, ?_⟩
    · intro σ' F' α' H' z' s1 fr1 h
      exact fin .non σ' F' α' H' (.d .none) z' s1 fr1 .non h
    · intro v σ' F' α' H' rr z' s1 fr1 r1 h
      exact fin v σ' F' α' H' rr z' s1 fr1 r1 h
structure OkQ (P : Program) (w : World) (K : PySem.W.Frag) (mg : Str → Option Value) (base : Heap) (x : Str) (k : Nat) (p1 p2 : Str) (R : D → List D → D → Prop) : Prop where
  ex : ∃ f fd, FnOk P w K mg base CX0 k f fd [p1, p2] (spQ K R) ∧ mg x = some (.ref f) ∧ PySem.W.keepIn K (.ref f) = true ∧ Binds K fd [p1, p2] [] ∧ ∀ (s : Shared) (v1 v2 : Value), BindsTo s fd ⟨[], [(p2, v1), (p1, v2)]⟩ [(p1, v2), (p2, v1)]
theorem mk_defQ {x : Str} {st : Stmt} {Nm : List Str} {p1 p2 : Str} {k : Nat} {R : D → List D → D → Prop} (F : FunAt K mg x st [p1, p2]) (S : FnScope Nm [p1, p2] (defScope st))
    (b : ∀ (kV doc pm : Value) (an : Option Addr) (cdv ct v1 v2 : Value), bindArgs (PySem.W.fnOf x x (defArgs st) (defBody st) (defScope st) .none kV doc pm an cdv ct) ⟨[], [(p2, v1), (p1, v2)]⟩ = pure [(p1, v2), (p2, v1)])
    (body : ∀ (f : Addr) (cdv : Value) (A : Around) (outer : List Env) (s : Shared) (H : Hp) (E : XK) (N : EN) (d : D) (ds : List D) (r : D), Room k (A.deeper (envOfC x (defScope st) s.heap.objs.size f cdv)) → N.pa.length = 0 → R d ds r →
      DS (cxOf CX0 P w K mg base Nm x (defScope st) f cdv A outer s H E).nox N ⟨[.d d, .q ds] ++ List.replicate (Nm.length - 2) .no, []⟩ (defBody st) (fun z => rrRs [] (.d r) (.d .none) z) (fun q z => rrRs [] (.d r) q z)) : OkQ P w K mg base x (k + 1) p1 p2 R := by
  obtain ⟨f, fd, F, hm, hb⟩ := F.ex
  obtain ⟨oc, od, kV, doc, pm, an, cdv, ct, osl, e, lk, _⟩ := id F.ex
  exact ⟨f, fd, mk_fnQ F S (body f), hm, F.kp, hb, fun s v1 v2 => .of_eq (by rw [e]; exact b kV doc pm an cdv ct v1 v2)⟩
end
section
variable {X : Cx} {N : EN} {z z1 z2 : Z} {pos p kp1 kp2 : Pos} {a b : Expr} {k k' : Nat} {x p1 p2 : Str} {d r : D} {ds : List D} {R : D → List D → D → Prop}
theorem de_clQ (G : OkQ X.prog X.w X.K X.mg X.base x k p1 p2 R) (hr : Room k' X.A) (hg : Gl X x) (ha : DE X N z a (.d d) z1) (hb : DQ X N z1 b ds z2) (hR : R d ds r) (hk : k ≤ k' := by decide)
    (hdb : (x == ("__debug__" : Str)) = false := by decide) (he : starEach [a, b] X.env = (false, eval a X.env) :: starEach [b] X.env := by rfl) (hs2 : starEach [b] X.env = (false, eval b X.env) :: starEach [] X.env := by rfl) (hpl : (backTo pos (starEach [b] X.env)).any (·.1) = false := by rfl) :
    DE X N z (.Call (.Name x p) [a, b] [] pos) (.d r) z2 := by
  obtain ⟨f, fd, F, hm, hkp, hbi, _⟩ := G.ex
  exact PE.to (pe_call F (hr.mono hk) hg hm hkp hbi .nil pass0 (pa_cons ha (pa_cons hb pa_nil hs2) he) hdb he hpl) fun σ H Q ⟨F, α, fr, q⟩ => ⟨F, α, fr, fun v F1 α1 H1 o1 fr1 d1 => ⟨F1, α1, fr1, fun u F2 α2 H2 o2 fr2 kn =>
    sp_callQ (E := E0) fr2 (o2.dp (show Dp X.K F1 v d from d1)) kn hR fun v F3 α3 H3 o3 fr3 d3 => q v F3 α3 H3 ((o1.trans o2).trans o3) fr3 d3⟩⟩
theorem de_clQK (G : OkQ X.prog X.w X.K X.mg X.base x k p1 p2 R) (hr : Room k' X.A) (hg : Gl X x) (hb : DQ X N z b ds z1) (ha : DE X N z1 a (.d d) z2) (hR : R d ds r) (hk : k ≤ k' := by decide)
    (hall : (backToKw pos (keywordEach [⟨some p2, b, kp1⟩, ⟨some p1, a, kp2⟩] X.env)).all (·.1.isSome) = true := by rfl) (hks : (backToKw pos (keywordEach [⟨some p2, b, kp1⟩, ⟨some p1, a, kp2⟩] X.env)).filterMap (·.1) = [p2, p1] := by rfl) (hdb : (x == ("__debug__" : Str)) = false := by decide)
    (hpl : ((backTo pos (starEach [] X.env)).any (·.1) || (backToKw pos (keywordEach [⟨some p2, b, kp1⟩, ⟨some p1, a, kp2⟩] X.env)).any (·.1.isNone)) = false := by rfl) :
    DE X N z (.Call (.Name x p) [] [⟨some p2, b, kp1⟩, ⟨some p1, a, kp2⟩] pos) (.d r) z2 := by
  obtain ⟨f, fd, F, hm, hkp, _, hbi⟩ := G.ex
  refine ⟨fun pins s σ H Q I h => ?_⟩
  obtain ⟨Fh, α, fr, q⟩ := h
  refine wpAny_Call_Name_kw (ld_glob I hg hm ?_ hdb)
  refine PySem.W.callWith_KW0 (h₀ := X.base) I.ok.mod.kin hkp hall ?_ hpl
  refine thn ((pk_cons hb (pk_cons ha pk_nil)).run pos pins s σ H (fun zs H2 => ∃ F2 α2 pv rv, zs = [pv, rv] ∧ On Fh F2 α α2 ∧ Fr X.K N F2 α2 z2 σ H2 ∧ Dp X.K F2 rv d ∧ Kn X.K F2 pv ds) I ⟨Fh, α, fr, fun v F1 α1 H1 o1 fr1 kn => ⟨F1, α1, fr1, fun u F2 α2 H2 o2 fr2 d2 => ⟨F2, α2, v, u, rfl, o1.trans o2, fr2, d2, kn.mono o2.f⟩⟩⟩) fun ws s2 ⟨zs, H2, I2, rz, F2, α2, pv, rv, ez, o2, fr2, d2, kn⟩ => ⟨I2.kIn, ?_⟩
  rw [hks]
  subst ez
  obtain ⟨u1, u2, rfl, r1, r2⟩ := vals2 rz
  have hsp : spQ X.K R [rv, pv] H2 Q E0 := sp_callQ fr2 d2 kn hR fun v F3 α3 H3 o3 fr3 d3 => q v F3 α3 H3 (o2.trans o3) fr3 d3
  refine wpAny_call (codeAny_mono (F.run X.A X.stack s2 H2 ⟨[], [(p2, u1), (p1, u2)]⟩ [u2, u1] [rv, pv] Q E0 (hr.mono hk) I2.env0 (hbi s2 u1 u2) (.cons r2 (.cons r1 .nil)) hsp) fun r s' hq => ?_)
  cases r with
  | error e => exact pass0 (X := X) pins σ H2 s2 e s' I2 hq
  | ok fl =>
    cases fl with
    | ret u => exact I2.after hq
    | next => exact False.elim hq
    | brk => exact False.elim hq
    | cont => exact False.elim hq
end
theorem de_varQ {X : Cx} {N : EN} {z : Z} {i : Nat} {xs : List D} {e : Expr} (pe : PE X e (tVar i)) (h : z.s[i]? = some (.q xs)) : DE X N z e (.d (.tuple xs)) z :=
  PE.to pe fun σ H Q ⟨F, α, fr, q⟩ => by
    obtain ⟨v, e1, d⟩ := fr.sl i _ h
    exact ⟨v, e1, q v F α H (On.refl F α) fr d.dp⟩
end DL
/-! DL12: data and an own list assigned together; places from behind -/
namespace DL
open PySem PySem.Spec PyProof.Rows L2
section
variable {X : Cx} {N : EN} {z z1 z2 : Z} {pos : Pos} {a b : Expr} {nx : Z → Prop} {rt : Rs → Z → Prop} {u : D} {k : Nat}
def tDP (K : PySem.W.Frag) (N : EN) (z : Z) (u : D) (k : Nat) (z' : Z) : TA := fun σ H Q => ∃ F α, Fr K N F α z σ H ∧ ∀ v c F' α' H', On F F' α α' → Fr K N F' α' z' σ H' → Dp K F' v u → α'[k]? = some c → Q [v, .ref c] H'
theorem pa_dp (ha : DE X N z a (.d u) z1) (hb : DE X N z1 b (.ptr k) z2) (hs1 : starEach [a, b] X.env = (false, eval a X.env) :: starEach [b] X.env := by rfl) (hs2 : starEach [b] X.env = (false, eval b X.env) :: starEach [] X.env := by rfl) : PA X [a, b] (tDP X.K N z u k z2) :=
  PA.to (pa_cons ha (pa_cons hb pa_nil hs2) hs1) fun σ H Q ⟨F, α, fr, q⟩ => ⟨F, α, fr, fun v F1 α1 H1 o1 fr1 d1 => ⟨F1, α1, fr1, fun w F2 α2 H2 o2 fr2 d2 => by
    obtain ⟨c, ec, rfl⟩ := d2
    exact q v c F2 α2 H2 (o1.trans o2) fr2 (o2.dp (show Dp X.K F1 v u from d1)) ec⟩⟩
theorem d1_parDP {i j : Nat} {x y : Str} {px py pt : Pos} {kt k2 pt2} (hc : X.calm = true) (hN : X.N.Nodup) (hi : X.N[i]? = some x) (hj : X.N[j]? = some y) (hij : i ≠ j)
    (hx : X.env.scope.names.lookup x = some .local) (hy : X.env.scope.names.lookup y = some .local) (ha : PA X [a, b] (tDP X.K N z u k z1))
    (hw : swappedStores [.Tuple [.Name x px, .Name y py] kt pt] (.Tuple [a, b] k2 pt2) X.env = pure (some [x, y])) (h : nx ⟨(z1.s.set i (.d u)).set j (.ptr k), z1.o⟩)
    (hs : swapsWithSole [.Tuple [.Name x px, .Name y py] kt pt] (.Tuple [a, b] k2 pt2) pos.line X.env = pure false := by rfl) : D1 X N z (.Assign [.Tuple [.Name x px, .Name y py] kt pt] (.Tuple [a, b] k2 pt2) pos) nx rt :=
  PS.to (ps_par hc hN hi hj hij hx hy ha hw hs) fun E σ H ⟨F, α, fr, q, _⟩ => ⟨F, α, fr, fun v c F1 α1 H1 o1 fr1 d1 ec => ⟨_, _, rfl, q _ F1 α1 H1 _ o1.f ((fr1.setD (s := .d u) ⟨_, rfl, d1⟩).setD (s := .ptr k) ⟨c, ec, rfl⟩) h⟩⟩
end
theorem atI_neg1 {r : List Int} (h : 0 < r.length) : atI (lI r) (-1) = some (.int (r.getD (r.length - 1) 0)) := by
  unfold atI
  have h1 : ixN (lI r).length (-1) = some (r.length - 1) := by
    rw [lI_len]
    unfold ixN
    rw [if_neg (by decide), if_pos (by omega)]
    congr 1
    omega
  rw [h1]
  show (lI r)[r.length - 1]? = _
  rw [List.getElem?_map, List.getElem?_eq_getElem (by omega), List.getD_eq_getElem?_getD, List.getElem?_eq_getElem (by omega)]
  rfl
theorem cutG_init {α : Type} (xs : List α) : cutG xs none (some (-1)) = xs.take (xs.length - 1) := by
  unfold cutG
  have e : HT.sIx xs.length xs.length (some (-1)) = xs.length - 1 := by
    show (if (-1 : Int) < 0 then ((-1 : Int) + (xs.length : Int)).toNat else min (-1 : Int).toNat xs.length) = _
    rw [if_pos (by decide)]
    omega
  rw [e, HT.sIx_none]
  simp
end DL
/-! DL13: sum of a tuple of ints -/
namespace DL
open PySem PySem.Spec PyProof.Rows L2
def rSumT (K : PySem.W.Frag) : List V → Hp → VK → Prop := fun vs H Q => ∃ (a : Addr) (ns : List Int), vs = [V.ref a] ∧ SqT K H a (ns.map V.int) ∧ Q (.int ns.sum) H
theorem cr_sumT {X : Cx} (hc : X.calm = true) : CallR X (.builtin "sum") (rSumT X.K) := by
  intro pins s σ H vs us Q I r h
  obtain ⟨a, ns, rfl, hs, q⟩ := h
  obtain ⟨its, rv, hl, _⟩ := I.tuple hs
  rw [Vals.ref1 r]
  have hi := rv.ints
  obtain ⟨xs, e⟩ := hi.allInts.items
  have hn : numsOf (intItems xs).toList = ns := by rw [← e]; exact hi.numsOf
  rw [nums_intItems] at hn
  have hl2 : s.heap.IsTuple a its.toArray := hl
  rw [e] at hl2
  refine PySem.W.ktm_sumG (I.ok.hd hc) hl2 fun h' tk t' hk => ?_
  rw [preSum_eq, List.take_of_length_le (by simp), hn]
  exact ⟨.int _, H, I.kept hk, ⟨_, rfl⟩, q⟩
theorem de_sumT {X : Cx} {N : EN} {z z1 : Z} {pos p : Pos} {e : Expr} {ns : List Int} (hc : X.calm = true) (hg : Gl X "sum") (hm : X.mg "sum" = none) (h : DE X N z e (.d (tI ns)) z1) (hs : S1 X e := by rfl) : DE X N z (.Call (.Name "sum" p) [e] [] pos) (.d (.int ns.sum)) z1 :=
  de_bt (cr_sumT hc) hg hm (by decide +kernel) (da_cons h da_nil hs) (fun F α σ vs H Q fr d q => by
    obtain ⟨v, rfl, dd⟩ := DpAll.one d
    obtain ⟨c, ws, rfl, h1, h2, h3⟩ := SqT_of_dp dd fr.sub
    have e := DpAll.ints h3
    subst e
    exact ⟨c, ns, rfl, h1, q _ F α H (On.refl F α) fr (.int _)⟩) (he := hs)
end DL
/-! DL14: a tuple turned round -/
namespace DL
open PySem PySem.Spec PyProof.Rows L2 HT
section
variable {prog : Program} {w : World} {A : Around} {E : Value → Shared → Prop} {s : Shared}
theorem rev_places (n : Nat) : Builtin.Slice.slicePlaces ((n : Int) - 1) (-1) (-1) = n := by
  unfold Builtin.Slice.slicePlaces
  have h1 : ¬ ((-1 : Int) > 0) := by decide
  rw [if_neg h1, show (-(-1) : Int) = 1 from rfl, Int.ediv_one]
  split <;> omega
theorem sliceApplied_rev {sl : Addr} {vl vu vs : Value} {n : Nat} {Q : Int × Int × Nat → Shared → Prop} (hs : s.heap.IsSliceOf sl vl vu vs) (pl : IsPart vl none) (pu : IsPart vu none) (ps : IsPart vs (some (-1)))
    (h : Q ((n : Int) - 1, -1, n) s) : wpAny (model prog w) A (Builtin.Slice.sliceApplied (.ref sl) (pure (n : Int))) Q E s := by
  obtain ⟨os, hos, hcs, hds⟩ := id hs
  unfold Builtin.Slice.sliceApplied Builtin.Slice.sliceFields
  refine wpAny_bind (wpAny_bind (wpAny_field hos hds (x := vl) rfl (wpAny_bind (wpAny_field hos hds (x := vu) rfl (wpAny_bind (wpAny_field hos hds (x := vs) rfl (wpAny_pure ?_)))))))
  refine wpAny_bind (slicePart_ ps ?_)
  show wpAny _ _ (if ((-1 : Int) == 0) = true then _ else _) _ _ s
  rw [if_neg (by decide)]
  refine wpAny_bind (slicePart_ pl (wpAny_bind (slicePart_ pu (wpAny_bind (wpAny_pure ?_)))))
  show wpAny _ _ (pure ((n : Int) - 1, (-1 : Int), Builtin.Slice.slicePlaces ((n : Int) - 1) (-1) (-1))) _ _ s
  rw [rev_places]
  exact wpAny_pure h
theorem pick_rev (xs : Array Value) : ((List.range xs.size).filterMap fun (m : Nat) => xs[((xs.size : Int) - 1 + (m : Int) * -1).toNat]?).toArray = xs.toList.reverse.toArray := by
  have e : (fun (m : Nat) => xs[((xs.size : Int) - 1 + (m : Int) * -1).toNat]?) = fun m => xs[xs.size - 1 - m]? := by
    funext m
    have : ((xs.size : Int) - 1 + (m : Int) * -1).toNat = xs.size - 1 - m := by omega
    rw [this]
  have e2 : (List.range xs.size).filterMap (fun m => xs[xs.size - 1 - m]?) = ((List.range xs.size).map fun k => xs.size - 1 - k).filterMap (xs[·]?) := by
    rw [List.filterMap_map]
    rfl
  rw [e, e2, PySem.W.krv_range, List.filterMap_reverse, PySem.W.krv_all]
theorem getItem_tuple_rev {t sl : Addr} {items : Array Value} {vl vu vs : Value} {Q : Value → Shared → Prop} (ht : IsTup s.heap t items) (hs : s.heap.IsSliceOf sl vl vu vs) (pl : IsPart vl none) (pu : IsPart vu none) (ps : IsPart vs (some (-1)))
    (h : Q (.ref s.heap.objs.size) { s with heap := s.heap.push { cls := .type "tuple", data := .seq items.toList.reverse.toArray } })
    (hsz : items.size ≤ sizeLine) : wpAny (model prog w) A (getItem (.ref t) (.ref sl)) Q E s := by
  have htake : sizeOk (.seq items.toList.reverse.toArray) := by
    show items.toList.reverse.toArray.size ≤ sizeLine
    rw [List.size_toArray, List.length_reverse, Array.length_toList]
    exact hsz
  obtain ⟨os, hos, hcs, hds⟩ := id hs
  have hTs : s.TypeIs (.ref sl) "slice" := ⟨os, hos, hcs⟩
  unfold getItem
  try with_reducible refine wpAny_holding ?_
  first | refine wpAny_bind (wpAny_pure ?_) | skip
  refine wpAny_bind (wpAny_sequenceKey ht.typeIs (by decide) ?_)
  refine wpAny_bind (wpAny_callSpecial?_slot (name := Str.ofString "__getitem__") ht.typeIs PyProof.Rows.slot_tuple_getitem
    (wpAny_call_entry PyProof.Rows.slot_tuple_getitem ht.typeIs entry_tuple_getitem ?_ (args_tuple_getitem _ _)))
  show wpAny _ _ (Builtin.Tuple.tupleItemsOf (.ref t) >>= _) _ _ s
  refine wpAny_bind (tupleItemsOf_ ht ?_)
  refine wpAny_bind (wpAny_typeOf hTs ?_)
  rw [if_pos (by decide)]
  refine wpAny_bind (sliceApplied_rev (n := items.size) hs pl pu ps ?_)
  have hno : ¬ ((((items.size : Int) - 1) == 0 && (-1 : Int) == 1 && items.size == items.size) = true) := by
    rw [show ((-1 : Int) == 1) = false from rfl, Bool.and_false, Bool.false_and]
    exact Bool.false_ne_true
  show wpAny _ _ (if (((items.size : Int) - 1) == 0 && (-1 : Int) == 1 && items.size == items.size) = true then _ else _) _ _ s
  rw [if_neg hno, pick_rev]
  first
    | exact wpAny_bind (m := Builtin.Tuple.tupleExact _) (wpAny_newObj_type (wpAny_pure ⟨_, rfl, wpAny_pure h⟩) htake)
    | exact wpAny_bind (m := Builtin.Tuple.tupleExact _) (wpAny_newObj_type (wpAny_bind (wpAny_pure (wpAny_pure ⟨_, rfl, wpAny_pure h⟩))) htake)
    | exact wpAny_bind (wpAny_bind (m := Builtin.Tuple.tupleExact _) (wpAny_newObj_type (wpAny_pure (wpAny_pure ⟨_, rfl, wpAny_pure h⟩)) htake))
    | exact wpAny_bind (wpAny_bind (m := Builtin.Tuple.tupleExact _) (wpAny_newObj_type (wpAny_pure ⟨_, rfl, wpAny_pure h⟩) htake))
end
section
variable {X : Cx}
def tRevT (K : PySem.W.Frag) (te : TE) : TE := fun σ H Q => te σ H fun x H1 => ∃ a xs, x = .ref a ∧ SqT K H1 a xs ∧ ∀ p, H1 p = none → Q (.ref p) (upd H1 p (.tup xs.reverse))
theorem pe_revT {e : Expr} {te : TE} {k : Nat} {p1 p2 p3 pos : Pos} (he : PE X e te) : PE X (.Subscript e (.Slice none none (some (.UnaryOp .USub (.Constant (.int 1) k p1) p2)) p3) pos) (tRevT X.K te) := by
  refine ⟨fun pins s σ H Q I h => ?_⟩
  refine Subscript_ (thn (he.run pins s σ H _ I h) fun v s1 ⟨x, H1, I1, r1, q1⟩ => ?_)
  obtain ⟨a, xs, ex, hx, q⟩ := q1
  subst ex
  cases r1
  have hst : PO X (some (.UnaryOp .USub (.Constant (.int 1) k p1) p2)) (tPart (tUn (rU fun i => .int (-i)) (tC (.int 1)))) := po_some (pe_un un_neg pe_int)
  refine wpAny_Slice (thn (po_none.run pins s1 σ H1 (fun o H2 => o = none ∧ H2 = H1) I1 ⟨rfl, rfl⟩) fun vl s2 ⟨l, H2, I2, pl, el, e2⟩ => ?_)
  subst el e2
  refine thn (po_none.run pins s2 σ H2 (fun o H3 => o = none ∧ H3 = H2) I2 ⟨rfl, rfl⟩) fun vu s3 ⟨u, H3, I3, pu, eu, e3⟩ => ?_
  subst eu e3
  refine thn (hst.run pins s3 σ H3 (fun o H4 => o = some (-1) ∧ H4 = H3) I3 ⟨1, rfl, -1, rfl, rfl, rfl⟩) fun vs s4 ⟨o, H4, I4, ps, eo, e4⟩ => ?_
  subst eo e4
  have I5 : Inv X pins σ H4 { s4 with heap := s4.heap.push { cls := .type "slice", data := .fields #[vl, vu, vs] } } := I4.kept (t' := s4.toks) fun b ob q => Heap.get?_push_of_some _ q
  obtain ⟨its, r, ht, hz⟩ := I5.tuple hx
  have hlen := r.length
  show wpAny (model X.prog X.w) X.A (subscriptTail e (.Slice none none (some (.UnaryOp .USub (.Constant (.int 1) k p1) p2)) p3) (.ref a) (.ref s4.heap.objs.size)) (EP X pins σ Q) X.xe { s4 with heap := s4.heap.push { cls := .type "slice", data := .fields #[vl, vu, vs] } }
  refine tail_any (ops := [.ref a, .ref s4.heap.objs.size]) ht.typeIs PyProof.Rows.slot_tuple_getitem.lookup ?_ (by with_unfolding_all rfl)
  refine getItem_tuple_rev ht (Heap.IsSliceOf.new _ vl vu vs) pl pu ps ?_ (by rw [List.size_toArray]; omega)
  refine ⟨.ref _, _, I5.laid (t' := s4.toks) (o := .tup xs.reverse) (fun b ob q => Heap.get?_push_of_some _ q) (Nat.le_refl _) ?_, rfl, q _ (I5.hok.fresh (Nat.le_refl _))⟩
  exact ⟨by rw [List.length_reverse]; exact hz, _, r.reverse, IsTup.new _ _⟩
theorem de_revT {N : EN} {z z1 : Z} {e : Expr} {xs : List D} {k1 : Nat} {q1 q2 q3 pos : Pos} (he : DE X N z e (.d (.tuple xs)) z1) : DE X N z (.Subscript e (.Slice none none (some (.UnaryOp .USub (.Constant (.int 1) k1 q1) q2)) q3) pos) (.d (.tuple xs.reverse)) z1 :=
  PE.to (pe_revT he) fun σ H Q ⟨F, α, fr, q⟩ => ⟨F, α, fr, fun v F1 α1 H1 o1 fr1 d1 => by
    obtain ⟨c, vs, rfl, h1, h2, h3⟩ := SqT_of_dp (show Dp X.K F1 v (.tuple xs) from d1) fr1.sub
    refine ⟨c, vs, rfl, h1, fun pp hp => ?_⟩
    obtain ⟨o4, fr4⟩ := fr1.ext (o := .tup vs.reverse) hp
    exact q _ _ α1 _ (o1.trans o4) fr4 (.tup (SqT.of upd_same) (dmonoA o4.f (DpAll.reverse h3)))⟩
end
end DL
/-! DL15: comprehensions of ints with a test; not in a tuple of ints; pop -/
namespace DL
open PySem PySem.Spec PyProof.Rows L2
def filtL (b : Nat → Bool) (y : Nat → Int) (k : Nat) : List Int := ((List.range k).filter b).map y
theorem filtL_succ (b : Nat → Bool) (y : Nat → Int) (k : Nat) : filtL b y (k + 1) = if b k = true then filtL b y k ++ [y k] else filtL b y k := by
  unfold filtL
  rw [List.range_succ, List.filter_append, List.map_append]
  by_cases h : b k = true
  · rw [if_pos h]
    simp [h]
  · rw [if_neg h]
    simp [h]
theorem filtL_len (b : Nat → Bool) (y : Nat → Int) (k : Nat) : (filtL b y k).length ≤ k := by
  unfold filtL
  rw [List.length_map]
  exact Nat.le_trans (List.length_filter_le _ _) (by rw [List.length_range]; exact Nat.le_refl _)
section
variable {X : Cx} {N : EN} {z z1 z2 : Z} {pos p : Pos} {e c iter elt tg a : Expr} {x : D}
variable {nx : Z → Prop} {rt : Rs → Z → Prop} {xs : List D} {n : Nat} {item : Nat → D} {g : TG} {f : D → List Sl → List Sl} {ok : D → Prop} {is : List Nat} {scope : Scope} {own : List (Str × Nat)}
theorem lcF_ok {y : Nat → Int} {b : Nat → Bool} (I : Items xs n item) (hsm : n < sizeLine) {s0 : D → List Sl} : LcD N z1 xs s0 (fun _ => z1.o) (fun k => lI (filtL b y k)) b (fun k => .int (y k)) (fun k d => ⟨s0 d, z1.o ++ [some (lI (filtL b y k))]⟩) (fun k d => ⟨s0 d, z1.o ++ [some (lI (filtL b y k))]⟩) :=
  ⟨rfl, rfl, fun k hk => by
      rw [I.len] at hk
      have := filtL_len b y k
      show (List.map PyData.int (filtL b y k)).length < sizeLine
      rw [List.length_map]
      omega, fun _ => rfl, fun k d _ hb => ⟨List.take_of_length_le (by rw [List.length_append]; exact Nat.le_refl _), by rw [filtL_succ, if_pos hb]; exact List.map_append⟩, fun k d _ hb => ⟨List.take_of_length_le (by rw [List.length_append]; exact Nat.le_refl _), by rw [filtL_succ, if_neg (by rw [hb]; decide)]⟩⟩
theorem de_lcF {y : Nat → Int} {b : Nat → Bool} (hc : X.calm = true) (hN : X.N.Nodup) (hi : DI X N z tg iter xs z1) (I : Items xs n item) (okb : BlkOk X.N X.env.scope scope own)
    (hg : ∀ (s : Shared) (H : Hp) (C : Addr) (cl : List (Str × Addr)) (fp : List Addr), PG (BX X scope s H C cl fp) tg g) (gd : GD X.K g f ok is) (hiv : ∀ i ∈ is, i ∈ own.map (·.2)) (hok : ∀ k, k < n → ok (item k)) (hsm : n < sizeLine)
    (ht : ∀ k, k < n → ∀ (s : Shared) (H : Hp) (C : Addr) (cl : List (Str × Addr)) (fp : List Addr), DT (BX X scope s H C cl fp) N ⟨f (item k) (wipeS z1.s (own.map (·.2))), z1.o ++ [some (lI (filtL b y k))]⟩ c (b k) ⟨f (item k) (wipeS z1.s (own.map (·.2))), z1.o ++ [some (lI (filtL b y k))]⟩)
    (he : ∀ k, k < n → ∀ (s : Shared) (H : Hp) (C : Addr) (cl : List (Str × Addr)) (fp : List Addr), DE (BX X scope s H C cl fp) N ⟨f (item k) (wipeS z1.s (own.map (·.2))), z1.o ++ [some (lI (filtL b y k))]⟩ elt (.d (.int (y k))) ⟨f (item k) (wipeS z1.s (own.map (·.2))), z1.o ++ [some (lI (filtL b y k))]⟩)
    (hs : ∀ x, foldedSetIterable iter X.env x = pure x := by intro _; rfl) :
    DE X N z (.ListComp elt [⟨tg, iter, [c], 0⟩] scope pos) (.ptr z1.o.length) ⟨z1.s, z1.o ++ [some (lI (filtL b y n))]⟩ := by
  have := de_lc (X := X) (N := N) (z := z) (z1 := z1) (elt := elt) (pos := pos) (ifs := [c]) hc hN hi okb hg gd hiv (fun k d h => by rw [I.get k d h]; exact hok k (I.lt h)) (lcF_ok (y := y) (b := b) I hsm)
    (fun k d h s H C cl fp => dts_one (by rw [I.get k d h]; exact ht k (I.lt h) s H C cl fp)) (fun k d h _ s H C cl fp => by rw [I.get k d h]; exact he k (I.lt h) s H C cl fp) hs
  rw [I.len] at this
  exact this
theorem d1_setLcF {i : Nat} {yn : Str} {py spos : Pos} {y : Nat → Int} {b : Nat → Bool} (hc : X.calm = true) (hN : X.N.Nodup) (hy : X.N[i]? = some yn) (hyl : X.env.scope.names.lookup yn = some .local) (hsw : swapsWith (.ListComp elt [⟨tg, iter, [c], 0⟩] scope pos) (some (.Name yn py)) spos.line X.env = pure true) (hi : DI X N z tg iter xs z1) (I : Items xs n item) (okb : BlkOk X.N X.env.scope scope own)
    (hg : ∀ (s : Shared) (H : Hp) (C : Addr) (cl : List (Str × Addr)) (fp : List Addr), PG (BX X scope s H C cl fp) tg g) (gd : GD X.K g f ok is) (hiv : ∀ i ∈ is, i ∈ own.map (·.2)) (hok : ∀ k, k < n → ok (item k)) (hsm : n < sizeLine)
    (ht : ∀ k, k < n → ∀ (s : Shared) (H : Hp) (C : Addr) (cl : List (Str × Addr)) (fp : List Addr), DT (BX X scope s H C cl fp) N ⟨f (item k) (wipeS z1.s (own.map (·.2))), z1.o ++ [some (lI (filtL b y k))]⟩ c (b k) ⟨f (item k) (wipeS z1.s (own.map (·.2))), z1.o ++ [some (lI (filtL b y k))]⟩)
    (he : ∀ k, k < n → ∀ (s : Shared) (H : Hp) (C : Addr) (cl : List (Str × Addr)) (fp : List Addr), DE (BX X scope s H C cl fp) N ⟨f (item k) (wipeS z1.s (own.map (·.2))), z1.o ++ [some (lI (filtL b y k))]⟩ elt (.d (.int (y k))) ⟨f (item k) (wipeS z1.s (own.map (·.2))), z1.o ++ [some (lI (filtL b y k))]⟩)
    (h : nx ⟨z1.s.set i (.ptr z1.o.length), z1.o ++ [some (lI (filtL b y n))]⟩)
    (hs : ∀ x, foldedSetIterable iter X.env x = pure x := by intro _; rfl) :
    D1 X N z (.Assign [.Name yn py] (.ListComp elt [⟨tg, iter, [c], 0⟩] scope pos) spos) nx rt := by
  refine d1_setLc (X := X) (N := N) (z := z) (z1 := z1) (elt := elt) (pos := pos) (spos := spos) (ifs := [c]) hc hN hy hyl hsw hi okb hg gd hiv (fun k d h => by rw [I.get k d h]; exact hok k (I.lt h)) (lcF_ok (y := y) (b := b) I hsm)
    (fun k d h s H C cl fp => dts_one (by rw [I.get k d h]; exact ht k (I.lt h) s H C cl fp)) (fun k d h _ s H C cl fp => by rw [I.get k d h]; exact he k (I.lt h) s H C cl fp) ?_ hs
  rw [I.len]
  exact h
/-! not in a tuple of ints -/
theorem inV_ints (i : Int) (ns : List Int) : inV (.int i) (ns.map V.int) = decide (i ∈ ns) := by
  unfold inV
  induction ns with
  | nil => rfl
  | cons m ns ih =>
    rw [List.map_cons, List.any_cons, ih]
    show ((m == i) || decide (i ∈ ns)) = _
    by_cases h : m = i
    · subst h; simp
    · have h2 : ¬ i = m := fun q => h q.symm
      simp [h, h2]
theorem flat_ints (ns : List Int) : (ns.map V.int).all flatV = true := by
  rw [List.all_eq_true]
  intro v hv
  obtain ⟨m, _, rfl⟩ := List.mem_map.mp hv
  rfl
theorem ok_notin {i : Int} {ns : List Int} : CmpOk X N z2 (rIn X.K true) (.d (.int i)) (.d (tI ns)) (!decide (i ∈ ns)) := fun F α σ v u H Q fr d1 d2 q => by
  cases (d1 : Dp X.K F v (.int i))
  obtain ⟨c, vs, rfl, h1, h2, h3⟩ := SqT_of_dp (show Dp X.K F u (tI ns) from d2) fr.sub
  have e := DpAll.ints h3
  subst e
  refine ⟨c, _, rfl, .inr h1, rfl, flat_ints ns, ?_⟩
  rw [if_pos rfl, inV_ints]
  exact q
theorem dt_notin {i : Int} {ns : List Int} {b : Expr} (ha : DE X N z a (.d (.int i)) z1) (hb : DE X N z1 b (.d (tI ns)) z2) (hm : behindInMarks .NotIn b = false := by rfl) : DT X N z (.Compare a [.NotIn] [b] pos) (!decide (i ∈ ns)) z2 := dt_cmp op_notIn_seq ha hb ok_notin hm
/-! pop -/
theorem de_pop {k : Nat} {ys : List D} {d : D} {apos : Pos} (ha : DE X N z a (.ptr k) z1) (eo : z1.o[k]? = some (some ys)) (hd : ys[ys.length - 1]? = some d)
    (hbase : attributeBase a "pop" X.env (eval a X.env) = eval a X.env := by rfl) (hline : (apos.endLine == pos.line) = true := by rfl) :
    DE X N z (.Call (.Attribute a "pop" apos) [] [] pos) (.d d) ⟨z1.s, z1.o.set k (some ys.dropLast)⟩ :=
  PE.to (pe_bm0 PySem.F.plainAttrs_list PySem.F.slot_list_pop PySem.F.type_list_pop mt_pop ha hbase hline) fun σ H Q ⟨F, α, fr, q⟩ => ⟨F, α, fr, fun v F1 α1 H1 o1 fr1 d1 => by
    obtain ⟨c, ec, rfl⟩ := d1
    obtain ⟨vs, hv, hs, da⟩ := fr1.seq ec eo
    have hl := DpAll.len da
    obtain ⟨w, hw, dw⟩ := DpAll.get da hd
    have dd : DpAll X.K F1 vs.dropLast ys.dropLast := by
      rw [List.dropLast_eq_take, List.dropLast_eq_take, hl]
      exact DpAll.take _ da
    exact ⟨.inl ⟨rfl, vs, hs⟩, c, vs, w, rfl, rfl, hv, by rw [hl]; exact hw, q _ F1 α1 _ o1 (fr1.mut ec eo dd) dw⟩⟩
/-! a call without arguments that answers a new list -/
theorem de_call0 {f : Addr} {fd : FuncData} {CX : CXT} {E : XK} {ys : List D} {x : Str} {k : Nat} {ps : List Str} {R : RT} (G : FnOk X.prog X.w X.K X.mg X.base CX k f fd ps (spG X.K R)) (hr : Room k X.A) (hg : Gl X x) (hm : X.mg x = some (.ref f)) (hk : PySem.W.keepIn X.K (.ref f) = true) (hb : Binds X.K fd ps []) (hx : Passes CX X E)
    (hR : R [] [] (.new ys) []) (hdb : (x == ("__debug__" : Str)) = false := by decide) : DE X N z (.Call (.Name x p) [] [] pos) (.ptr z.o.length) ⟨z.s, z.o ++ [some ys]⟩ :=
  PE.to (pe_call0 G hr hg hm hk hb .nil hx hdb) fun σ H Q ⟨F, α, fr, q⟩ => by
    show spG X.K R ([] ++ []) H Q E
    exact sp_call0 (r := .new ys) fr DpAll.nil hR fun v F2 α2 H2 o2 f2 r2 => q v F2 α2 H2 o2 f2 r2
theorem de_cl0N {ys : List D} {x : Str} {k k' : Nat} {ps : List Str} {R : RT} (G : OkD X.prog X.w X.K X.mg X.base x k ps R) (hr : Room k' X.A) (hg : Gl X x) (hR : R [] [] (.new ys) []) (hk : k ≤ k' := by decide)
    (hdb : (x == ("__debug__" : Str)) = false := by decide) : DE X N z (.Call (.Name x p) [] [] pos) (.ptr z.o.length) ⟨z.s, z.o ++ [some ys]⟩ := by
  obtain ⟨f, fd, G, hm, hkp, hb, _⟩ := G.ex
  exact de_call0 G (hr.mono hk) hg hm hkp hb pass0 hR hdb
end
/-! tuple * 0 -/
theorem tup_none (l : Addr) (its : Array Value) (n : Nat) (dd : Option Addr) (sl : Array (Option Value)) (u : Tok) (c1 : (its.isEmpty || (0 : Int) == 1) = false) :
    Meets (Builtin.«tuple.__mul__» ⟨[.ref l, .int 0 u], []⟩) (fun _ R s => s.heap.get? l = some { cls := .type "tuple", dict := dd, data := .seq its n, slots := sl } ∧ R (.ok (.ret (Value.ref s.heap.objs.size))) { s with heap := s.heap.push { cls := Value.type "tuple", data := Data.seq #[] }, toks := s.toks }) :=
  .of_wp fun prog w A R s h => by
    obtain ⟨hp, g, d, tk, os⟩ := s
    obtain ⟨hl, h⟩ := h
    have f1 := AutoSeq1.idx_int
    have c2 : (decide ((0 : Int) ≤ 0) || its.isEmpty) = true := by simp
    wp_walk using wpAny_loadPart' hl
    repeat (first
      | (refine wpAny_ite_false (decide_eq_false (by rw [c1]; exact Bool.false_ne_true)) ?_; wp_walk using wpAny_loadPart' hl)
      | (refine wpAny_ite_true (decide_eq_true c2) ?_; wp_walk using wpAny_loadPart' hl))
    exact ⟨_, rfl, h⟩
def rRep0 (K : PySem.W.Frag) : R2 := fun x y H Q => ∃ l xs, x = .ref l ∧ y = .int 0 ∧ SqT K H l xs ∧ xs ≠ [] ∧ ∀ p, H p = none → Q (.ref p) (upd H p (.tup []))
theorem op_rep0 {X : Cx} : OpR X (binaryOp .Mult) (rRep0 X.K) := by
  intro pins s σ H x y v u Q I rx ry h
  obtain ⟨l, xs, rfl, rfl, hT, hne, q⟩ := h
  cases rx
  obtain ⟨t, rfl⟩ := ry
  obtain ⟨its, r, ⟨⟨cls, dd, data, sl⟩, ho, hc, n, hd⟩, hs⟩ := I.tuple hT
  simp only at hc hd
  subst hc hd
  have hle : its.length = xs.length := r.length.symm
  have hi : its.toArray.isEmpty = false := by
    cases its with
    | nil => exact absurd (List.eq_nil_of_length_eq_zero hle.symm) hne
    | cons a b => rfl
  have c1 : (its.toArray.isEmpty || (0 : Int) == 1) = false := by rw [hi]; rfl
  refine wpAny_binaryOp_repeat_ref (T := "tuple") (U := "int") (by decide) ⟨_, ho, rfl⟩ (fun s' => typeIs_int s' 0 t) noFill_tuple_mul F.fills_int_mul F.slot_int_rmul repeat_tuple F.slot_int_index.lookup
    (call_meets F.slot_int_rmul (typeIs_int s 0 t) F.entry_int_rmul (F.args_int_rmul_2 _ _) (int_rmul_tuple 0 t l its.toArray n dd sl)
      ⟨ho, rfl, ⟨_, ho, rfl⟩, call_meets F.slot_tuple_mul ⟨_, ho, rfl⟩ F.entry_tuple_mul (F.args_tuple_mul_2 _ _) (tup_none l its.toArray n dd sl t c1) ⟨ho, ?_⟩⟩)
  refine ⟨.ref s.heap.objs.size, _, I.laid (t' := s.toks) (o := .tup []) (fun b ob q => Heap.get?_push_of_some _ q) (Nat.le_refl _) ?_, rfl, q _ (I.hok.fresh (Nat.le_refl _))⟩
  exact ⟨Nat.zero_le _, _, .nil, IsTup.new _ _⟩
section
variable {X : Cx} {N : EN} {z z1 z2 : Z} {pos : Pos} {a b : Expr}
theorem de_repT0 {v : Int} {m : Nat} (ha : DE X N z a (.d (tI [v])) z1) (hb : DE X N z1 b (.d (.int m)) z2) (h2 : m ≤ 1000) : DE X N z (.BinOp a .Mult b pos) (.d (tI (List.replicate m v))) z2 := by
  by_cases h : m = 0
  · subst h
    exact de_opG op_rep0 ha hb fun F α σ x u H Q fr d1 d2 q => by
      cases (d2 : Dp X.K F u (.int 0))
      obtain ⟨c, vs, rfl, e1, e2, e3⟩ := SqT_of_dp (show Dp X.K F x (tI [v]) from d1) fr.sub
      refine ⟨c, vs, rfl, rfl, e1, fun e => ?_, fun pp hp => ?_⟩
      · subst e
        have := DpAll.len e3
        simp at this
      · obtain ⟨o4, fr4⟩ := fr.ext (o := .tup []) hp
        exact q _ _ α _ o4 fr4 (.tup (SqT.of upd_same) DpAll.nil)
  · exact de_repTI ha hb (by omega) h2
end
end DL
/-! MR: days of a ring, in plain Lean -/
namespace DL
def tab (n : Nat) (g : Nat → Int) : List Int := (List.range n).map g
theorem tab_len (n : Nat) (g : Nat → Int) : (tab n g).length = n := by simp [tab]
theorem tab_get (n : Nat) (g : Nat → Int) (k : Nat) (h : k < n) : (tab n g).getD k 0 = g k := by simp [tab, List.getD_eq_getElem?_getD, h]
theorem tab_get? (n : Nat) (g : Nat → Int) (k : Nat) (h : k < n) : (tab n g)[k]? = some (g k) := by simp [tab, h]
theorem list_ext {r s : List Int} (hl : r.length = s.length) (h : ∀ k, k < r.length → r.getD k 0 = s.getD k 0) : r = s := by
  apply List.ext_getElem hl
  intro i h1 h2
  have := h i h1
  rw [List.getD_eq_getElem?_getD, List.getD_eq_getElem?_getD, List.getElem?_eq_getElem h1, List.getElem?_eq_getElem h2] at this
  simpa using this
theorem tab_self (r : List Int) : tab r.length (fun k => r.getD k 0) = r := list_ext (tab_len _ _) fun k hk => by
  rw [tab_len] at hk
  exact tab_get _ _ k hk
theorem tab_congr {n : Nat} {g g' : Nat → Int} (h : ∀ k, k < n → g k = g' k) : tab n g = tab n g' := list_ext (by rw [tab_len, tab_len]) fun k hk => by
  rw [tab_len] at hk
  rw [tab_get _ _ k hk, tab_get _ _ k hk, h k hk]
theorem map_tab (n : Nat) (g : Nat → Int) (f : Int → Int) : (tab n g).map f = tab n fun k => f (g k) := by
  unfold tab
  rw [List.map_map]
  rfl
theorem map_getD (r : List Int) (f : Int → Int) : r.map f = tab r.length fun k => f (r.getD k 0) := by
  have := map_tab r.length (fun k => r.getD k 0) f
  rw [tab_self] at this
  exact this

theorem tab_succ (n : Nat) (g : Nat → Int) : tab (n + 1) g = tab n g ++ [g n] := by
  unfold tab
  rw [List.range_succ, List.map_append]
  rfl
/-- the ring going round -/
def F (r : List Int) (h : Nat) : Int := r.getD (h % r.length) 0
theorem F_at (r : List Int) (h : Nat) (hh : h < r.length) : F r h = r.getD h 0 := by unfold F; rw [Nat.mod_eq_of_lt hh]
theorem F_per (r : List Int) (h : Nat) : F r (h + r.length) = F r h := by unfold F; rw [Nat.add_mod_right]
theorem F_mod (r : List Int) (h : Nat) : F r (h % r.length) = F r h := by unfold F; rw [Nat.mod_mod]
def dayM (o n : Int) (r : List Int) : List Int := tab r.length fun k => o * r.getD k 0 + n * F r (k + 1)
theorem dayM_len (o n : Int) (r : List Int) : (dayM o n r).length = r.length := tab_len _ _
theorem F_day (o n : Int) (r : List Int) (h : Nat) : F (dayM o n r) h = o * F r h + n * F r (h + 1) := by
  by_cases h0 : r.length = 0
  · have e : r = [] := List.eq_nil_of_length_eq_zero h0
    subst e
    simp [F, dayM, tab]
  · unfold F dayM
    rw [tab_len, tab_get _ _ _ (Nat.mod_lt _ (by omega))]
    unfold F
    rw [Nat.mod_add_mod]
def laterM (o n : Int) (r : List Int) : Nat → List Int
  | 0 => r
  | k + 1 => dayM o n (laterM o n r k)
theorem laterM_len (o n : Int) (r : List Int) : ∀ k, (laterM o n r k).length = r.length
  | 0 => rfl
  | k + 1 => (dayM_len o n _).trans (laterM_len o n r k)
theorem laterM_add (o n : Int) (r : List Int) (a : Nat) : ∀ b, laterM o n r (a + b) = laterM o n (laterM o n r a) b
  | 0 => rfl
  | b + 1 => congrArg (dayM o n) (laterM_add o n r a b)
theorem laterM_succ (o n : Int) (r : List Int) (k : Nat) : laterM o n r (k + 1) = laterM o n (dayM o n r) k := by
  rw [Nat.add_comm, laterM_add]
  rfl
theorem ring_ext {r s : List Int} (hl : r.length = s.length) (h : ∀ k, k < r.length → F r k = F s k) : r = s := list_ext hl fun k hk => by
  rw [← F_at r k hk, ← F_at s k (by omega)]
  exact h k hk

/-! ### sums -/
def sumR (n : Nat) (g : Nat → Int) : Int := ((List.range n).map g).sum
theorem sumR_zero (g : Nat → Int) : sumR 0 g = 0 := rfl
theorem sumR_succ (n : Nat) (g : Nat → Int) : sumR (n + 1) g = sumR n g + g n := by
  unfold sumR
  rw [List.range_succ, List.map_append, List.sum_append]
  simp
theorem sumR_congr {n : Nat} {g g' : Nat → Int} (h : ∀ k, k < n → g k = g' k) : sumR n g = sumR n g' := by
  induction n with
  | zero => rfl
  | succ n ih => rw [sumR_succ, sumR_succ, ih fun k hk => h k (by omega), h n (by omega)]
theorem sumR_add (n : Nat) (g g' : Nat → Int) : sumR n (fun k => g k + g' k) = sumR n g + sumR n g' := by
  induction n with
  | zero => rfl
  | succ n ih => rw [sumR_succ, sumR_succ, sumR_succ, ih]; omega
theorem sumR_mul (n : Nat) (c : Int) (g : Nat → Int) : sumR n (fun k => c * g k) = c * sumR n g := by
  induction n with
  | zero => simp [sumR_zero]
  | succ n ih => rw [sumR_succ, sumR_succ, ih, Int.mul_add]
theorem sumR_const0 (n : Nat) : sumR n (fun _ => 0) = 0 := by
  induction n with
  | zero => rfl
  | succ n ih => rw [sumR_succ, ih]; rfl
theorem sumR_comm (n m : Nat) (g : Nat → Nat → Int) : sumR n (fun a => sumR m fun b => g a b) = sumR m (fun b => sumR n fun a => g a b) := by
  induction n with
  | zero => simp only [sumR_zero]; rw [sumR_const0]
  | succ n ih =>
    rw [sumR_succ, ih, ← sumR_add]
    exact sumR_congr fun k _ => (sumR_succ n fun a => g a k).symm
theorem sumR_succ' (n : Nat) (g : Nat → Int) : sumR (n + 1) g = g 0 + sumR n (fun k => g (k + 1)) := by
  induction n with
  | zero => rw [sumR_succ, sumR_zero, sumR_zero]; omega
  | succ n ih => rw [sumR_succ, ih, sumR_succ]; omega
/-- a sum over a whole round, begun elsewhere -/
theorem sumR_shift1 (n : Nat) (g : Nat → Int) (hp : ∀ h, g (h + n) = g h) : sumR n (fun k => g (k + 1)) = sumR n g := by
  cases n with
  | zero => rfl
  | succ n =>
    rw [sumR_succ, sumR_succ']
    have := hp 0
    rw [Nat.zero_add] at this
    rw [this]; omega
theorem sumR_shift (n : Nat) (g : Nat → Int) (hp : ∀ h, g (h + n) = g h) (a : Nat) : sumR n (fun k => g (k + a)) = sumR n g := by
  induction a with
  | zero => rfl
  | succ a ih =>
    rw [← ih]
    have := sumR_shift1 n (fun k => g (k + a)) fun h => by
      show g (h + n + a) = g (h + a)
      rw [Nat.add_right_comm, hp]
    rw [← this]
    exact sumR_congr fun k _ => by rw [Nat.add_right_comm]; rfl

/-! ### rests -/
/-- alike by m -/
def Cg (m a b : Int) : Prop := m ∣ a - b
theorem Cg.refl (m a : Int) : Cg m a a := ⟨0, by omega⟩
theorem Cg.symm {m a b : Int} (h : Cg m a b) : Cg m b a := by
  obtain ⟨q, e⟩ := h
  exact ⟨-q, by rw [Int.mul_neg, ← e]; omega⟩
theorem Cg.trans {m a b c : Int} (h : Cg m a b) (h' : Cg m b c) : Cg m a c := by
  obtain ⟨q, e⟩ := h
  obtain ⟨q', e'⟩ := h'
  exact ⟨q + q', by rw [Int.mul_add, ← e, ← e']; omega⟩
theorem Cg.add {m a b c d : Int} (h : Cg m a b) (h' : Cg m c d) : Cg m (a + c) (b + d) := by
  obtain ⟨q, e⟩ := h
  obtain ⟨q', e'⟩ := h'
  exact ⟨q + q', by rw [Int.mul_add, ← e, ← e']; omega⟩
theorem Cg.mul {m a b : Int} (c : Int) (h : Cg m a b) : Cg m (c * a) (c * b) := by
  obtain ⟨q, e⟩ := h
  exact ⟨c * q, by rw [← Int.mul_sub, e, Int.mul_left_comm]⟩
theorem Cg.mulR {m a b : Int} (c : Int) (h : Cg m a b) : Cg m (a * c) (b * c) := by
  rw [Int.mul_comm a, Int.mul_comm b]
  exact h.mul c
theorem Cg.mod (m a : Int) : Cg m (a % m) a := ⟨-(a / m), by have := Int.emod_add_mul_ediv a m; rw [Int.mul_neg]; omega⟩
theorem Cg.emod {m a b : Int} (h : Cg m a b) : a % m = b % m := Int.emod_eq_emod_iff_emod_sub_eq_zero.mpr (Int.emod_eq_zero_of_dvd h)
theorem Cg.of {m a b : Int} (h : a % m = b % m) : Cg m a b := Int.dvd_of_emod_eq_zero (Int.emod_eq_emod_iff_emod_sub_eq_zero.mp h)
theorem Cg.sum {m : Int} {n : Nat} {g g' : Nat → Int} (h : ∀ k, k < n → Cg m (g k) (g' k)) : Cg m (sumR n g) (sumR n g') := by
  induction n with
  | zero => exact Cg.refl _ _
  | succ n ih => rw [sumR_succ, sumR_succ]; exact (ih fun k hk => h k (by omega)).add (h n (by omega))

/-! ### one go for two goes -/
/-- what a list weighs -/
def dot (n : Nat) (c : List Int) (g : Nat → Int) : Int := sumR n fun s => c.getD s 0 * g s
theorem getD_set (f : List Int) (s : Nat) (v : Int) (j : Nat) (hs : s < f.length) : (f.set s v).getD j 0 = if s = j then v else f.getD j 0 := by
  rw [List.getD_eq_getElem?_getD, List.getD_eq_getElem?_getD, List.getElem?_set]
  by_cases h : s = j
  · rw [if_pos h, if_pos h, if_pos hs]; rfl
  · rw [if_neg h, if_neg h]
theorem dot_set0 (f : List Int) (s : Nat) (v : Int) (g : Nat → Int) (hs : s < f.length) : ∀ m, dot m (f.set s v) g = dot m f g + if s < m then (v - f.getD s 0) * g s else 0
  | 0 => by simp [dot, sumR_zero]
  | m + 1 => by
    have ih := dot_set0 f s v g hs m
    unfold dot at ih ⊢
    rw [sumR_succ, sumR_succ, ih, getD_set f s v m hs]
    by_cases h : s = m
    · subst h
      rw [if_pos rfl, if_neg (by omega), if_pos (by omega), Int.sub_mul]
      omega
    · rw [if_neg h]
      by_cases h2 : s < m
      · rw [if_pos h2, if_pos (by omega)]; omega
      · rw [if_neg h2, if_neg (by omega)]; omega
theorem dot_set (n : Nat) (f : List Int) (s : Nat) (v : Int) (g : Nat → Int) (hs : s < n) (hl : f.length = n) : dot n (f.set s v) g = dot n f g + (v - f.getD s 0) * g s := by
  rw [dot_set0 f s v g (by omega) n, if_pos hs]
def timesIn (n : Nat) (by_ first : Int) (left : Nat) (other : List Int) (f : List Int) : Nat → List Int
  | 0 => f
  | r + 1 => (timesIn n by_ first left other f r).set ((left + r) % n) (((timesIn n by_ first left other f r).getD ((left + r) % n) 0 + first * other.getD r 0) % by_)
def timesOut (n : Nat) (by_ : Int) (one other : List Int) : Nat → List Int
  | 0 => List.replicate n 0
  | l + 1 => timesIn n by_ (one.getD l 0) l other (timesOut n by_ one other l) other.length
def timesM (by_ : Int) (one other : List Int) : List Int := timesOut one.length by_ one other one.length
theorem timesIn_len (n : Nat) (by_ first : Int) (left : Nat) (other f : List Int) : ∀ r, (timesIn n by_ first left other f r).length = f.length
  | 0 => rfl
  | r + 1 => by unfold timesIn; rw [List.length_set]; exact timesIn_len n by_ first left other f r
theorem timesOut_len (n : Nat) (by_ : Int) (one other : List Int) : ∀ l, (timesOut n by_ one other l).length = n
  | 0 => by simp [timesOut]
  | l + 1 => by unfold timesOut; rw [timesIn_len]; exact timesOut_len n by_ one other l
theorem timesM_len (by_ : Int) (one other : List Int) : (timesM by_ one other).length = one.length := timesOut_len _ _ _ _ _
/-- every item lies below by -/
def Low (by_ : Int) (f : List Int) : Prop := ∀ v ∈ f, 0 ≤ v ∧ v < by_
theorem Low.getD {by_ : Int} {f : List Int} (h : Low by_ f) (h0 : 0 < by_) (k : Nat) : 0 ≤ f.getD k 0 ∧ f.getD k 0 < by_ := by
  rw [List.getD_eq_getElem?_getD]
  cases e : f[k]? with
  | none => exact ⟨Int.le_refl 0, h0⟩
  | some v => exact h v (List.mem_of_getElem? e)
theorem Low.set {by_ : Int} {f : List Int} (h : Low by_ f) (h0 : 0 < by_) (s : Nat) (x : Int) : Low by_ (f.set s (x % by_)) := fun v hv => by
  rcases List.mem_or_eq_of_mem_set hv with hv | rfl
  · exact h v hv
  · exact ⟨Int.emod_nonneg _ (by omega), Int.emod_lt_of_pos _ h0⟩
theorem low_in (n : Nat) (by_ first : Int) (left : Nat) (other f : List Int) (h0 : 0 < by_) (h : Low by_ f) : ∀ r, Low by_ (timesIn n by_ first left other f r)
  | 0 => h
  | r + 1 => (low_in n by_ first left other f h0 h r).set h0 _ _
theorem low_out (n : Nat) (by_ : Int) (one other : List Int) (h0 : 0 < by_) : ∀ l, Low by_ (timesOut n by_ one other l)
  | 0 => fun v hv => by
    have e : v = 0 := List.eq_of_mem_replicate hv
    subst e
    exact ⟨Int.le_refl 0, h0⟩
  | l + 1 => low_in n by_ _ l other _ h0 (low_out n by_ one other h0 l) _
theorem low_times (by_ : Int) (one other : List Int) (h0 : 0 < by_) : Low by_ (timesM by_ one other) := low_out _ _ _ _ h0 _
theorem dot_in (n : Nat) (by_ first : Int) (left : Nat) (other f : List Int) (g : Nat → Int) (hn : 0 < n) (hl : f.length = n) : ∀ r, Cg by_ (dot n (timesIn n by_ first left other f r) g) (dot n f g + first * sumR r fun k => other.getD k 0 * g ((left + k) % n))
  | 0 => by
    rw [sumR_zero, Int.mul_zero, Int.add_zero]
    exact Cg.refl _ _
  | r + 1 => by
    have ih := dot_in n by_ first left other f g hn hl r
    have hs : (left + r) % n < n := Nat.mod_lt _ hn
    show Cg by_ (dot n ((timesIn n by_ first left other f r).set ((left + r) % n) _) g) _
    rw [dot_set n _ _ _ g hs (by rw [timesIn_len]; exact hl), sumR_succ, Int.mul_add, ← Int.add_assoc]
    refine ih.add ?_
    rw [← Int.mul_assoc]
    refine Cg.mulR _ ?_
    have := Cg.mod by_ ((timesIn n by_ first left other f r).getD ((left + r) % n) 0 + first * other.getD r 0)
    obtain ⟨q, e⟩ := this
    exact ⟨q, by rw [← e]; omega⟩
theorem dot_out (n : Nat) (by_ : Int) (one other : List Int) (g : Nat → Int) (hn : 0 < n) : ∀ l, Cg by_ (dot n (timesOut n by_ one other l) g) (sumR l fun a => one.getD a 0 * sumR other.length fun k => other.getD k 0 * g ((a + k) % n))
  | 0 => by
    rw [sumR_zero]
    have e : dot n (List.replicate n 0) g = 0 := by
      unfold dot
      refine Eq.trans (sumR_congr (g' := fun _ => 0) fun k hk => ?_) (sumR_const0 n)
      rw [List.getD_eq_getElem?_getD, List.getElem?_replicate, if_pos hk]
      simp
    show Cg by_ (dot n (List.replicate n 0) g) 0
    rw [e]
    exact Cg.refl _ _
  | l + 1 => by
    have ih := dot_out n by_ one other g hn l
    rw [sumR_succ]
    exact (dot_in n by_ (one.getD l 0) l other _ g hn (timesOut_len n by_ one other l) other.length).trans (ih.add (Cg.refl _ _))
/-- the houses taken together -/
def act (n : Nat) (c : List Int) (f : Nat → Int) (h : Nat) : Int := sumR n fun j => c.getD j 0 * f (h + j)
theorem act_times (n : Nat) (by_ : Int) (one other : List Int) (f : Nat → Int) (hp : ∀ h, f (h + n) = f h) (hn : 0 < n) (h1 : one.length = n) (h2 : other.length = n) (h : Nat) :
    Cg by_ (act n (timesM by_ one other) f h) (act n one (act n other f) h) := by
  have hm : ∀ a h, f (h + a % n) = f (h + a) := fun a h => by
    have key : ∀ q b, f (b + n * q) = f b := fun q => by
      induction q with
      | zero => intro b; rfl
      | succ q ih => intro b; rw [Nat.mul_succ, ← Nat.add_assoc, hp, ih]
    have := key (a / n) (h + a % n)
    rw [Nat.add_assoc, Nat.mod_add_div] at this
    exact this.symm
  have q := dot_out n by_ one other (fun s => f (h + s)) hn n
  unfold timesM
  rw [h1]
  refine Cg.trans q ?_
  unfold act
  rw [h2]
  refine Cg.sum fun a _ => Cg.mul _ (Cg.sum fun k _ => ?_)
  rw [hm, Nat.add_assoc]
  exact Cg.refl _ _
theorem act_per (n : Nat) (c : List Int) (f : Nat → Int) (hp : ∀ h, f (h + n) = f h) (h : Nat) : act n c f (h + n) = act n c f h := by
  unfold act
  exact sumR_congr fun k _ => by rw [Nat.add_right_comm, hp]
theorem act_cg {m : Int} (n : Nat) (c : List Int) {f f' : Nat → Int} (hf : ∀ h, Cg m (f h) (f' h)) (h : Nat) : Cg m (act n c f h) (act n c f' h) := Cg.sum fun k _ => Cg.mul _ (hf _)
def iter (n : Nat) (c : List Int) (f : Nat → Int) : Nat → Nat → Int
  | 0 => f
  | k + 1 => act n c (iter n c f k)
theorem iter_per (n : Nat) (c : List Int) (f : Nat → Int) (hp : ∀ h, f (h + n) = f h) : ∀ k h, iter n c f k (h + n) = iter n c f k h
  | 0, h => hp h
  | k + 1, h => act_per n c _ (iter_per n c f hp k) h
/-- two goes in one -/
theorem iter_two {m : Int} (n : Nat) (c : List Int) (f : Nat → Int) (hp : ∀ h, f (h + n) = f h) (hn : 0 < n) (hc : c.length = n) : ∀ k h, Cg m (iter n (timesM m c c) f k h) (iter n c f (2 * k) h)
  | 0, h => Cg.refl _ _
  | k + 1, h => by
    have ih := iter_two (m := m) n c f hp hn hc k
    show Cg m (act n (timesM m c c) (iter n (timesM m c c) f k) h) (act n c (act n c (iter n c f (2 * k))) h)
    refine (act_times n m c c _ (fun h => iter_per n (timesM m c c) f hp k h) hn hc hc h).trans ?_
    exact act_cg n c (act_cg n c ih) h
/-- the rule as a list of weights -/
def step0 (N : Nat) (o n : Int) : List Int := ((List.replicate N 0).set 0 (0 + o)).set (1 % N) ((((List.replicate N 0).set 0 (0 + o)).getD (1 % N) 0) + n)
theorem step0_len (N : Nat) (o n : Int) : (step0 N o n).length = N := by simp [step0]
theorem act_step0 (N : Nat) (o n : Int) (f : Nat → Int) (hp : ∀ h, f (h + N) = f h) (hN : 0 < N) (h : Nat) : act N (step0 N o n) f h = o * f h + n * f (h + 1) := by
  have h1 : 1 % N < N := Nat.mod_lt _ hN
  show dot N (step0 N o n) (fun j => f (h + j)) = _
  unfold step0
  rw [dot_set N _ (1 % N) _ _ h1 (by simp), dot_set N _ 0 _ _ hN (by simp)]
  have e0 : dot N (List.replicate N 0) (fun j => f (h + j)) = 0 := by
    unfold dot
    refine Eq.trans (sumR_congr (g' := fun _ => 0) fun k hk => ?_) (sumR_const0 N)
    rw [List.getD_eq_getElem?_getD, List.getElem?_replicate, if_pos hk]
    simp
  have e1 : (List.replicate N (0 : Int)).getD 0 0 = 0 := by
    rw [List.getD_eq_getElem?_getD, List.getElem?_replicate, if_pos hN]
    rfl
  rw [e0, e1]
  have e2 : f (h + 1 % N) = f (h + 1) := by
    by_cases hN1 : N = 1
    · subst hN1
      exact (hp h).symm
    · rw [Nat.mod_eq_of_lt (by omega)]
  show 0 + (0 + o - 0) * f (h + 0) + (((List.replicate N 0).set 0 (0 + o)).getD (1 % N) 0 + n - ((List.replicate N 0).set 0 (0 + o)).getD (1 % N) 0) * f (h + 1 % N) = _
  rw [e2]
  have e3 : (((List.replicate N 0).set 0 (0 + o)).getD (1 % N) 0 + n - ((List.replicate N 0).set 0 (0 + o)).getD (1 % N) 0) = n := by omega
  rw [e3]
  have e4 : 0 + o - 0 = o := by omega
  rw [e4, Nat.add_zero]
  omega
theorem iter_step0 (o n : Int) (r : List Int) (hN : 0 < r.length) : ∀ k h, iter r.length (step0 r.length o n) (F r) k h = F (laterM o n r k) h
  | 0, h => rfl
  | k + 1, h => by
    show act r.length (step0 r.length o n) (iter r.length (step0 r.length o n) (F r) k) h = F (dayM o n (laterM o n r k)) h
    rw [act_step0 _ _ _ _ (fun h => iter_per _ _ _ (F_per r) k h) hN, F_day, iter_step0 o n r hN k h, iter_step0 o n r hN k (h + 1)]
/-- what the loop of rests keeps -/
structure RInv (N : Nat) (m : Int) (T : Nat → (Nat → Int) → Nat → Int) (D : Nat) (W S : List Int) (d : Nat) : Prop where
  w : W.length = N
  s : S.length = N
  inv : ∀ f : Nat → Int, (∀ h, f (h + N) = f h) → ∀ h, Cg m (act N W (iter N S f d) h) (T D f h)
theorem RInv.even {N : Nat} {m : Int} {T : Nat → (Nat → Int) → Nat → Int} {D : Nat} {W S : List Int} {d : Nat} (I : RInv N m T D W S d) (hN : 0 < N) (h2 : d % 2 = 0) : RInv N m T D W (timesM m S S) (d / 2) :=
  ⟨I.w, (timesM_len _ _ _).trans I.s, fun f hp h => by
    have q := I.inv f hp h
    have e : d = 2 * (d / 2) := by omega
    rw [e] at q
    exact (act_cg N W (iter_two N S f hp hN I.s (d / 2)) h).trans q⟩
theorem RInv.odd {N : Nat} {m : Int} {T : Nat → (Nat → Int) → Nat → Int} {D : Nat} {W S : List Int} {d : Nat} (I : RInv N m T D W S d) (hN : 0 < N) (h2 : d % 2 = 1) : RInv N m T D (timesM m W S) (timesM m S S) (d / 2) :=
  ⟨(timesM_len _ _ _).trans I.w, (timesM_len _ _ _).trans I.s, fun f hp h => by
    have q := I.inv f hp h
    have e : d = 2 * (d / 2) + 1 := by omega
    rw [e] at q
    refine (act_times N m W S _ (fun h => iter_per N _ f hp _ h) hN I.w I.s h).trans ?_
    refine (act_cg N W (fun h => act_cg N S (iter_two N S f hp hN I.s (d / 2)) h) h).trans ?_
    exact q⟩
def one0 (N : Nat) (m : Int) : List Int := [1 % m] ++ List.replicate ((N : Int) - 1).toNat 0
theorem one0_len (N : Nat) (m : Int) (hN : 0 < N) : (one0 N m).length = N := by simp [one0]; omega
theorem act_one0 (N : Nat) (m : Int) (f : Nat → Int) (hN : 0 < N) (h : Nat) : Cg m (act N (one0 N m) f h) (f h) := by
  cases N with
  | zero => omega
  | succ N =>
    unfold act
    rw [sumR_succ']
    have e : (sumR N fun k => (one0 (N + 1) m).getD (k + 1) 0 * f (h + (k + 1))) = 0 := by
      refine Eq.trans (sumR_congr (g' := fun _ => 0) fun k hk => ?_) (sumR_const0 N)
      have e1 : (one0 (N + 1) m).getD (k + 1) 0 = 0 := by
        show ([1 % m] ++ List.replicate ((N + 1 : Nat) - 1 : Int).toNat 0).getD (k + 1) 0 = 0
        rw [List.getD_eq_getElem?_getD]
        show ((List.replicate ((N + 1 : Nat) - 1 : Int).toNat (0 : Int))[k]?).getD 0 = 0
        rw [List.getElem?_replicate, if_pos (by omega)]
        rfl
      rw [e1]
      omega
    rw [e, Int.add_zero]
    show Cg m (1 % m * f (h + 0)) (f h)
    have := (Cg.mod m 1).mulR (f h)
    rw [Int.one_mul] at this
    exact this
theorem RInv.start (o n : Int) (r : List Int) (m : Int) (D : Nat) (hN : 0 < r.length) : RInv r.length m (fun D f h => iter r.length (step0 r.length o n) f D h) D (one0 r.length m) (step0 r.length o n) D :=
  ⟨one0_len _ _ hN, step0_len _ _ _, fun f hp h => act_one0 _ m _ hN h⟩
def restsM (o n : Int) (r : List Int) (D : Nat) (m : Int) : List Int := (laterM o n r D).map (· % m)
theorem RInv.done {o n : Int} {r : List Int} {m : Int} {D : Nat} {W S : List Int} (I : RInv r.length m (fun D f h => iter r.length (step0 r.length o n) f D h) D W S 0) (hN : 0 < r.length) :
    tab r.length (fun h => (sumR r.length fun far => W.getD far 0 * F r (h + far)) % m) = restsM o n r D m := by
  unfold restsM
  rw [map_getD, laterM_len]
  refine tab_congr fun h hh => ?_
  have q := (I.inv (F r) (F_per r) h).emod
  have e : iter r.length (step0 r.length o n) (F r) D h = F (laterM o n r D) h := iter_step0 o n r hN D h
  rw [e, F_at _ _ (by rw [laterM_len]; exact hh)] at q
  exact q
theorem restsM_len (o n : Int) (r : List Int) (D : Nat) (m : Int) : (restsM o n r D m).length = r.length := by simp [restsM, laterM_len]
theorem getD_all {f : List Int} {p : Int → Prop} (h : ∀ v ∈ f, p v) (h0 : p 0) (k : Nat) : p (f.getD k 0) := by
  rw [List.getD_eq_getElem?_getD]
  cases e : f[k]? with
  | none => exact h0
  | some v => exact h v (List.mem_of_getElem? e)
theorem one0_bd (N : Nat) (m : Int) (hm : 0 < m) (k : Nat) : -(2 ^ 64) < (one0 N m).getD k 0 ∧ (one0 N m).getD k 0 < 2 ^ 64 := by
  refine getD_all (p := fun v => -(2 ^ 64) < v ∧ v < 2 ^ 64) (fun v hv => ?_) (by decide) k
  have h3 := Int.emod_nonneg 1 (show m ≠ 0 by omega)
  have h4 : 1 % m ≤ 1 := by
    by_cases h : m = 1
    · subst h; decide
    · rw [Int.emod_eq_of_lt (by omega) (by omega)]; omega
  rcases List.mem_append.mp hv with h | h
  · have : v = 1 % m := by simpa using h
    omega
  · have : v = 0 := List.eq_of_mem_replicate h
    omega
theorem step0_bd (N : Nat) (o n : Int) (ho : -9 ≤ o ∧ o ≤ 9) (hn : -9 ≤ n ∧ n ≤ 9) (k : Nat) : -(2 ^ 64) < (step0 N o n).getD k 0 ∧ (step0 N o n).getD k 0 < 2 ^ 64 := by
  have h5 : ∀ v ∈ (List.replicate N (0 : Int)).set 0 (0 + o), v = 0 ∨ v = o := fun v hv => by
    rcases List.mem_or_eq_of_mem_set hv with hv | rfl
    · exact .inl (List.eq_of_mem_replicate hv)
    · right; omega
  have h6 : ∀ j, ((List.replicate N (0 : Int)).set 0 (0 + o)).getD j 0 = 0 ∨ ((List.replicate N (0 : Int)).set 0 (0 + o)).getD j 0 = o := fun j => getD_all (p := fun v => v = 0 ∨ v = o) h5 (.inl rfl) j
  refine getD_all (p := fun v => -(2 ^ 64) < v ∧ v < 2 ^ 64) (fun v hv => ?_) (by decide) k
  rcases List.mem_or_eq_of_mem_set hv with hv | rfl
  · rcases h5 v hv with h | h <;> omega
  · rcases h6 (1 % N) with h | h <;> rw [h] <;> omega
end DL
/-! MD: the laws' draws, in plain Lean -/
namespace DL
structure RuleS (o n : Int) : Prop where
  o1 : -9 ≤ o
  o2 : o ≤ 9
  n1 : -9 ≤ n
  n2 : n ≤ 9
/-- the loop of a draw: found, wide, the second number -/
def drawL (many : Int) : Nat → Int → Int → Int → Int × Int
  | 0, f, _, b => (f, b)
  | k + 1, f, w, b => if w < many then drawL many k (f * 268435456 + (b * 69621 % 2147483647) * (b * 69621 % 2147483647 / 128 + 3) % 2147483629 / 8) (w * 268435456) (b * 69621 % 2147483647) else (f, b)
def drawM (s : Int × Int) (many : Int) : Int × Int × Int :=
  if 0 < s.1 then (s.1 % many, s.1 / many, s.2) else ((drawL many 8 0 1 s.2).1 % many, s.1, (drawL many 8 0 1 s.2).2)
def drawV (s : Int × Int) (many : Int) : Int := (drawM s many).1
def drawS (s : Int × Int) (many : Int) : Int × Int := (drawM s many).2
theorem drawV_low (s : Int × Int) (many : Int) (h : 0 < many) : 0 ≤ drawV s many ∧ drawV s many < many := by
  unfold drawV drawM
  split
  · exact ⟨Int.emod_nonneg _ (by omega), Int.emod_lt_of_pos _ h⟩
  · exact ⟨Int.emod_nonneg _ (by omega), Int.emod_lt_of_pos _ h⟩
/-- after so many draws by one number -/
def drawN (s : Int × Int) (many : Int) : Nat → Int × Int
  | 0 => s
  | k + 1 => drawS (drawN s many k) many
def drawsM (ns : List Int) (k : Int) : Int × Int :=
  let cell := if k < ns.length then (ns.getD k.toNat 0) % (10 ^ 60 * 10 ^ 60 * 10 ^ 60 * 10 ^ 60 * 10 ^ 60) else if 0 < ns.length then ns.getD (k % ns.length).toNat 0 % 10 ^ 15 + 15485863 * k else 15485863 * k
  (cell * (if 10 ^ 18 ≤ cell then 1 else 0), 1 + (cell * 69621 + 86028121 * (k + 1)) % 2147483646)
/-! the greatest common divisor, by steps -/
def cm : Nat → Int → Int → Int
  | 0, a, _ => a
  | m + 1, a, b => if b = 0 then a else cm m b (a.fmod b)
def cmOk : Nat → Int → Int → Bool
  | 0, _, b => decide (b = 0)
  | m + 1, a, b => if b = 0 then true else cmOk m b (a.fmod b)
def commonM (a b : Int) : Int := (cm 20 a b).natAbs
theorem nine {p : Int → Bool} (h : ((List.range 19).all fun i => p ((i : Int) - 9)) = true) (a : Int) (h1 : -9 ≤ a) (h2 : a ≤ 9) : p a = true := by
  have q := List.all_eq_true.mp h (a + 9).toNat (List.mem_range.mpr (by omega))
  have e : (((a + 9).toNat : Nat) : Int) - 9 = a := by omega
  rw [e] at q
  exact q
theorem nine2 {p : Int → Int → Bool} (h : ((List.range 19).all fun i => (List.range 19).all fun j => p ((i : Int) - 9) ((j : Int) - 9)) = true) (a b : Int) (h1 : -9 ≤ a) (h2 : a ≤ 9) (h3 : -9 ≤ b) (h4 : b ≤ 9) : p a b = true :=
  nine (p := p a) (nine (p := fun a => (List.range 19).all fun j => p a ((j : Int) - 9)) h a h1 h2) b h3 h4
theorem cmOk_nine (a b : Int) (h1 : -9 ≤ a) (h2 : a ≤ 9) (h3 : -9 ≤ b) (h4 : b ≤ 9) : cmOk 20 a b = true := nine2 (p := cmOk 20) (by decide +kernel) a b h1 h2 h3 h4
def nextN (n : Int) : Int := if n < 9 then n + 1 else -9
def ruleL (o : Int) : Nat → Int → Int
  | 0, n => n
  | m + 1, n => if commonM o n = 1 then n else ruleL o m (nextN n)
def ruleOk (o : Int) : Nat → Int → Bool
  | 0, n => decide (commonM o n = 1)
  | m + 1, n => if commonM o n = 1 then true else ruleOk o m (nextN n)
theorem ruleOk_nine (a b : Int) (h1 : -9 ≤ a) (h2 : a ≤ 9) (h3 : -9 ≤ b) (h4 : b ≤ 9) : ruleOk a 18 b = true := nine2 (p := fun a b => ruleOk a 18 b) (by decide +kernel) a b h1 h2 h3 h4
theorem ruleL_nine (a b : Int) (h1 : -9 ≤ a) (h2 : a ≤ 9) (h3 : -9 ≤ b) (h4 : b ≤ 9) : commonM a (ruleL a 18 b) = 1 ∧ -9 ≤ ruleL a 18 b ∧ ruleL a 18 b ≤ 9 := by
  have := nine2 (p := fun a b => decide (commonM a (ruleL a 18 b) = 1 ∧ -9 ≤ ruleL a 18 b ∧ ruleL a 18 b ≤ 9)) (by decide +kernel) a b h1 h2 h3 h4
  exact of_decide_eq_true this
def ruleO (s : Int × Int) : Int := drawV s 19 - 9
def ruleN (s : Int × Int) : Int := ruleL (ruleO s) 18 (drawV (drawS s 19) 19 - 9)
def ruleList (o n : Int) : List (Int × Int) := [(o, n), (1, 1), (1, -1), (-1, 1), (2, 1), (1, 2), (3, -2), (1, 0), (0, -1), (1, 3)]
def ruleM (s : Int × Int) : Int × Int := (ruleList (ruleO s) (ruleN s)).getD (drawV (drawS (drawS s 19) 19) 10).toNat (1, 1)
def ruleS' (s : Int × Int) : Int × Int := drawS (drawS (drawS s 19) 19) 10
/-- a rule: small, without a common divisor -/
structure RuleC (o n : Int) : Prop extends RuleS o n where
  c : commonM o n = 1
theorem rule_ok (s : Int × Int) : RuleC (ruleM s).1 (ruleM s).2 := by
  have h1 := drawV_low s 19 (by decide)
  have h2 := drawV_low (drawS s 19) 19 (by decide)
  have h3 := ruleL_nine (ruleO s) (drawV (drawS s 19) 19 - 9) (by unfold ruleO; omega) (by unfold ruleO; omega) (by omega) (by omega)
  have key : ∀ p ∈ ruleList (ruleO s) (ruleN s), RuleC p.1 p.2 := fun p hp => by
    simp only [ruleList, List.mem_cons, List.not_mem_nil, or_false] at hp
    rcases hp with rfl | rfl | rfl | rfl | rfl | rfl | rfl | rfl | rfl | rfl
    · exact ⟨⟨by unfold ruleO; omega, by unfold ruleO; omega, h3.2.1, h3.2.2⟩, h3.1⟩
    all_goals exact ⟨⟨by decide, by decide, by decide, by decide⟩, by decide +kernel⟩
  unfold ruleM
  rw [List.getD_eq_getElem?_getD]
  cases e : (ruleList (ruleO s) (ruleN s))[(drawV (drawS (drawS s 19) 19) 10).toNat]? with
  | none => exact key (1, 1) (by simp [ruleList])
  | some p => exact key p (List.mem_of_getElem? e)
/-! a ring -/
def farM (s : Int × Int) : Int := [2, 7, 50, 10 ^ 30].getD (drawV s 4).toNat 0
theorem farM_bd (s : Int × Int) : 0 ≤ farM s ∧ farM s ≤ 10 ^ 30 := getD_all (p := fun v => 0 ≤ v ∧ v ≤ 10 ^ 30) (fun v hv => by
  simp only [List.mem_cons, List.not_mem_nil, or_false] at hv
  rcases hv with rfl | rfl | rfl | rfl <;> decide) (by decide) _
def ringM (s : Int × Int) (many : Nat) : List Int := tab many fun k => drawV (drawN (drawS s 4) (2 * farM s + 1) k) (2 * farM s + 1) - farM s
def ringS (s : Int × Int) (many : Nat) : Int × Int := drawN (drawS s 4) (2 * farM s + 1) many
theorem ringM_len (s : Int × Int) (many : Nat) : (ringM s many).length = many := tab_len _ _
/-! a case -/
structure CaseM where
  o : Int
  n : Int
  ring : List Int
  days : Nat
  s : Int × Int
def caseMany (s : Int × Int) : Nat := (1 + drawV (ruleS' s) 9).toNat
def caseS1 (s : Int × Int) : Int × Int := ringS (drawS (ruleS' s) 9) (caseMany s)
def caseDays (s : Int × Int) : Nat := ([0, 0, 1, 2, drawV (caseS1 s) 12].getD (drawV (drawS (caseS1 s) 12) 5).toNat 0).toNat
def caseS2 (s : Int × Int) : Int × Int := drawS (drawS (caseS1 s) 12) 5
def caseRing0 (s : Int × Int) : List Int := if drawV (caseS2 s) 4 = 0 then (ringM (drawS (ruleS' s) 9) (caseMany s)).map fun x => x - (ringM (drawS (ruleS' s) 9) (caseMany s)).getD 0 0 else ringM (drawS (ruleS' s) 9) (caseMany s)
def caseM (s : Int × Int) : CaseM := ⟨(ruleM s).1, (ruleM s).2, laterM (ruleM s).1 (ruleM s).2 (caseRing0 s) (caseDays s), caseDays s, drawS (caseS2 s) 4⟩
theorem caseMany_bd (s : Int × Int) : 1 ≤ caseMany s ∧ caseMany s ≤ 9 := by
  have := drawV_low (ruleS' s) 9 (by decide)
  unfold caseMany
  omega
theorem caseRing0_len (s : Int × Int) : (caseRing0 s).length = caseMany s := by
  unfold caseRing0
  split
  · rw [List.length_map, ringM_len]
  · rw [ringM_len]
theorem case_len (s : Int × Int) : (caseM s).ring.length = caseMany s := (laterM_len _ _ _ _).trans (caseRing0_len s)
theorem case_rule (s : Int × Int) : RuleC (caseM s).o (caseM s).n := rule_ok s
theorem caseDays_bd (s : Int × Int) : caseDays s ≤ 12 := by
  have h := drawV_low (caseS1 s) 12 (by decide)
  have := getD_all (f := [0, 0, 1, 2, drawV (caseS1 s) 12]) (p := fun v => v ≤ 12) (fun v hv => by
    simp only [List.mem_cons, List.not_mem_nil, or_false] at hv
    rcases hv with rfl | rfl | rfl | rfl | rfl <;> omega) (by decide) (drawV (drawS (caseS1 s) 12) 5).toNat
  unfold caseDays
  omega
end DL
/-! ME: elders, in plain Lean -/
namespace DL
def divM (o n : Int) (m : Nat) : Int := o ^ m - (0 - n) ^ m
def wtM (o n : Int) (m g : Nat) : Int := o ^ (m - 1 - g) * (0 - n) ^ g
def wM (o n : Int) (r : List Int) (h : Nat) : Int := sumR r.length fun g => wtM o n r.length g * F r (h + g)
def isM (a b : Int) : Bool := decide (b ∣ a)
def folF (o n : Int) (r : Nat → Int) (a : Int) : Nat → Int
  | 0 => a
  | k + 1 => (r k - o * folF o n r a k) * n
def folM (o n : Int) (r : List Int) (a : Int) : List Int := tab r.length (folF o n (fun k => r.getD k 0) a)
def stepM (o : Int) (m : Nat) : Int := m * o ^ (m - 1)
def elderM (o n : Int) (r : List Int) : Option (List Int) :=
  if ¬ divM o n r.length ∣ wM o n r 0 then none
  else if divM o n r.length ≠ 0 then some (tab r.length fun h => (wM o n r h).fdiv (divM o n r.length))
  else if stepM o r.length ∣ wM o n (folM o n r 0) 0 then some (folM o n r (0 - (wM o n (folM o n r 0) 0).fdiv (stepM o r.length)))
  else some (folM o n r 0)
theorem folM_len (o n : Int) (r : List Int) (a : Int) : (folM o n r a).length = r.length := tab_len _ _
/-! sizes -/
theorem pow_bd {a : Int} (h : a.natAbs ≤ 9) {k : Nat} (hk : k ≤ 9) : -(9 ^ 9) ≤ a ^ k ∧ a ^ k ≤ 9 ^ 9 := by
  have h1 : (a ^ k).natAbs ≤ 9 ^ 9 := by
    rw [Int.natAbs_pow]
    exact Nat.le_trans (Nat.pow_le_pow_left h k) (Nat.pow_le_pow_right (by decide) hk)
  omega
theorem divM_bd {o n : Int} (R : RuleS o n) {m : Nat} (hm : m ≤ 9) : (divM o n m).natAbs < 1073741824 := by
  have h1 := pow_bd (a := o) (by have := R.o1; have := R.o2; omega) hm
  have h2 := pow_bd (a := 0 - n) (by have := R.n1; have := R.n2; omega) hm
  unfold divM
  omega
/-! finite facts -/
theorem cop_fin : ((List.range 19).all fun i => (List.range 19).all fun j => (fun a b => (List.range 10).all fun m => m == 0 || decide (commonM a b ≠ 1) || (Nat.gcd (divM a b m).natAbs b.natAbs == 1 && (divM a b m != 0 || (a.natAbs == 1 && b.natAbs == 1)))) ((i : Int) - 9) ((j : Int) - 9)) = true := by decide +kernel
theorem cop_at {o n : Int} (R : RuleC o n) {m : Nat} (h0 : 0 < m) (hm : m ≤ 9) : Nat.gcd (divM o n m).natAbs n.natAbs = 1 ∧ (divM o n m = 0 → o.natAbs = 1 ∧ n.natAbs = 1) := by
  have h := nine2 (p := fun a b => (List.range 10).all fun m => m == 0 || decide (commonM a b ≠ 1) || (Nat.gcd (divM a b m).natAbs b.natAbs == 1 && (divM a b m != 0 || (a.natAbs == 1 && b.natAbs == 1)))) cop_fin o n R.o1 R.o2 R.n1 R.n2
  have h2 := List.all_eq_true.mp h m (List.mem_range.mpr (by omega))
  have hc := R.c
  simp only [Bool.or_eq_true, Bool.and_eq_true, beq_iff_eq, decide_eq_true_eq, bne_iff_ne] at h2
  rcases h2 with (h2 | h2) | h2
  · omega
  · exact absurd hc h2
  · refine ⟨h2.1, fun e => ?_⟩
    rcases h2.2 with h3 | h3
    · exact absurd e h3
    · exact h3
/-! the sums -/
theorem tele (o n : Int) (f : Nat → Int) (m : Nat) : sumR m (fun g => wtM o n m g * (o * f g + n * f (g + 1))) = o ^ m * f 0 - (0 - n) ^ m * f m := by
  have key : ∀ k, k ≤ m → sumR k (fun g => wtM o n m g * (o * f g + n * f (g + 1))) = o ^ m * f 0 - o ^ (m - k) * (0 - n) ^ k * f k := fun k => by
    induction k with
    | zero => intro _; rw [sumR_zero, Nat.sub_zero, Int.pow_zero, Int.mul_one]; omega
    | succ k ih =>
      intro hk
      rw [sumR_succ, ih (by omega)]
      unfold wtM
      have e1 : o ^ (m - k) = o ^ (m - 1 - k) * o := by
        have : m - k = (m - 1 - k) + 1 := by omega
        rw [this, Int.pow_succ]
      have e2 : m - (k + 1) = m - 1 - k := by omega
      rw [e2, e1, Int.pow_succ]
      generalize o ^ (m - 1 - k) = A
      generalize (0 - n) ^ k = B
      have e3 : A * B * (o * f k + n * f (k + 1)) = A * o * B * f k - A * (B * (0 - n)) * f (k + 1) := by
        have a1 : A * o * B * f k = A * B * (o * f k) := by simp only [Int.mul_assoc, Int.mul_left_comm, Int.mul_comm]
        have a2 : A * (B * (0 - n)) * f (k + 1) = - (A * B * (n * f (k + 1))) := by
          rw [Int.zero_sub, Int.mul_neg, Int.mul_neg, Int.neg_mul]
          congr 1
          simp only [Int.mul_assoc, Int.mul_left_comm, Int.mul_comm]
        rw [a1, a2, Int.mul_add]
        omega
      rw [e3]
      omega
  have := key m (Nat.le_refl m)
  rw [this, Nat.sub_self, Int.pow_zero, Int.one_mul]
theorem wB (o n : Int) (r : List Int) (h : Nat) : wM o n (dayM o n r) h = divM o n r.length * F r h := by
  unfold wM
  rw [dayM_len]
  have e : sumR r.length (fun g => wtM o n r.length g * F (dayM o n r) (h + g)) = sumR r.length (fun g => wtM o n r.length g * (o * (fun g => F r (h + g)) g + n * (fun g => F r (h + g)) (g + 1))) := sumR_congr fun k _ => by rw [F_day]; rfl
  rw [e, tele]
  show o ^ r.length * F r h - (0 - n) ^ r.length * F r (h + r.length) = _
  rw [F_per, ← Int.sub_mul]
  rfl
theorem wA (o n : Int) (r : List Int) (h : Nat) : o * wM o n r h + n * wM o n r (h + 1) = divM o n r.length * F r h := by
  rw [← wB]
  unfold wM
  rw [← sumR_mul, ← sumR_mul, ← sumR_add, dayM_len]
  refine sumR_congr fun k _ => ?_
  rw [F_day, Int.mul_add, Int.mul_left_comm o, Int.mul_left_comm n, Nat.add_right_comm h 1 k]
theorem wM_per (o n : Int) (r : List Int) (h : Nat) : wM o n r (h + r.length) = wM o n r h := sumR_congr fun k _ => by rw [Nat.add_right_comm, F_per]
theorem per_mod {m : Nat} {g : Nat → Int} (hp : ∀ h, g (h + m) = g h) (h : Nat) : g (h % m) = g h := by
  have key : ∀ q b, g (b + m * q) = g b := fun q => by
    induction q with
    | zero => intro b; rfl
    | succ q ih => intro b; rw [Nat.mul_succ, ← Nat.add_assoc, hp, ih]
  have := key (h / m) (h % m)
  rw [Nat.mod_add_div] at this
  exact this.symm
theorem F_tab {m : Nat} {g : Nat → Int} (hm : 0 < m) (hp : ∀ h, g (h + m) = g h) (h : Nat) : F (tab m g) h = g h := by
  unfold F
  rw [tab_len, tab_get _ _ _ (Nat.mod_lt _ hm), per_mod hp]
theorem dvd_all {o n : Int} (R : RuleC o n) {r : List Int} (h0 : 0 < r.length) (h9 : r.length ≤ 9) (hd : divM o n r.length ∣ wM o n r 0) : ∀ h, divM o n r.length ∣ wM o n r h
  | 0 => hd
  | h + 1 => by
    have ih := dvd_all R h0 h9 hd h
    have e := wA o n r h
    have h1 : divM o n r.length ∣ n * wM o n r (h + 1) := by
      have : n * wM o n r (h + 1) = divM o n r.length * F r h - o * wM o n r h := by omega
      rw [this]
      exact Int.dvd_sub (Int.dvd_mul_right _ _) (Int.dvd_mul_of_dvd_right ih)
    have h2 := Int.natAbs_dvd_natAbs.mpr h1
    rw [Int.natAbs_mul] at h2
    exact Int.natAbs_dvd_natAbs.mp (Nat.Coprime.dvd_of_dvd_mul_left (cop_at R h0 h9).1 h2)
/-! divisor not nought -/
def quoM (o n : Int) (r : List Int) : List Int := tab r.length fun h => (wM o n r h).fdiv (divM o n r.length)
theorem quo_len (o n : Int) (r : List Int) : (quoM o n r).length = r.length := tab_len _ _
theorem F_quo (o n : Int) (r : List Int) (h0 : 0 < r.length) (h : Nat) : F (quoM o n r) h = (wM o n r h).fdiv (divM o n r.length) := F_tab h0 (fun h => by rw [wM_per]) h
theorem quo_at {o n : Int} (R : RuleC o n) {r : List Int} (h0 : 0 < r.length) (h9 : r.length ≤ 9) (hD : divM o n r.length ≠ 0) (hd : divM o n r.length ∣ wM o n r 0) (h : Nat) : divM o n r.length * F (quoM o n r) h = wM o n r h := by
  rw [F_quo _ _ _ h0]
  obtain ⟨q, e⟩ := dvd_all R h0 h9 hd h
  rw [e, Int.mul_fdiv_cancel_left _ hD]
theorem quo_day {o n : Int} (R : RuleC o n) {r : List Int} (h0 : 0 < r.length) (h9 : r.length ≤ 9) (hD : divM o n r.length ≠ 0) (hd : divM o n r.length ∣ wM o n r 0) : dayM o n (quoM o n r) = r := by
  refine ring_ext (by rw [dayM_len, quo_len]) fun h _ => ?_
  refine Int.eq_of_mul_eq_mul_left hD ?_
  rw [F_day, Int.mul_add, Int.mul_left_comm _ o, Int.mul_left_comm _ n, quo_at R h0 h9 hD hd, quo_at R h0 h9 hD hd, wA]
theorem quo_of_day {o n : Int} {r : List Int} (h0 : 0 < r.length) (hD : divM o n r.length ≠ 0) : quoM o n (dayM o n r) = r := by
  refine ring_ext (by rw [quo_len, dayM_len]) fun h _ => ?_
  rw [F_quo _ _ _ (by rw [dayM_len]; exact h0), wB, dayM_len, Int.mul_fdiv_cancel_left _ hD]
/-! divisor nought -/
structure Nul (o n : Int) (m : Nat) : Prop where
  m0 : 0 < m
  oo : o * o = 1
  nn : n * n = 1
  pw : o ^ m = (0 - n) ^ m
  on : o ≠ 0
theorem sq1 {a : Int} (h : a.natAbs = 1) : a * a = 1 := by
  have : a = 1 ∨ a = -1 := by omega
  rcases this with rfl | rfl <;> rfl
theorem nul_of {o n : Int} (R : RuleC o n) {m : Nat} (h0 : 0 < m) (hm : m ≤ 9) (e : divM o n m = 0) : Nul o n m := by
  obtain ⟨h1, h2⟩ := (cop_at R h0 hm).2 e
  exact ⟨h0, sq1 h1, sq1 h2, by unfold divM at e; omega, fun q => by subst q; cases h1⟩
theorem pow_sq {o : Int} (h : o * o = 1) : ∀ k : Nat, o ^ k * o ^ k = 1
  | 0 => by rw [Int.pow_zero]; rfl
  | k + 1 => by
    have ih := pow_sq h k
    rw [Int.pow_succ, Int.mul_assoc, Int.mul_left_comm o, h, Int.mul_one, ih]
theorem fol_step {o n : Int} (nn : n * n = 1) (r : Nat → Int) (a : Int) (k : Nat) : o * folF o n r a k + n * folF o n r a (k + 1) = r k := by
  show o * folF o n r a k + n * ((r k - o * folF o n r a k) * n) = r k
  rw [Int.mul_left_comm, nn]
  omega
theorem fol_close {o n : Int} {m : Nat} (U : Nul o n m) (r : List Int) (hl : r.length = m) (hw : wM o n r 0 = 0) (a : Int) : folF o n (fun k => r.getD k 0) a m = a := by
  have e : wM o n r 0 = sumR m (fun g => wtM o n m g * (o * folF o n (fun k => r.getD k 0) a g + n * folF o n (fun k => r.getD k 0) a (g + 1))) := by
    unfold wM
    rw [hl]
    refine sumR_congr fun k hk => ?_
    rw [fol_step U.nn, Nat.zero_add, F_at _ _ (by omega)]
  rw [tele, hw, ← U.pw, ← Int.mul_sub] at e
  have h2 := pow_sq U.oo m
  rcases Int.mul_eq_zero.mp e.symm with h | h
  · rw [h] at h2; cases h2
  · have : folF o n (fun k => r.getD k 0) a 0 = a := rfl
    omega
theorem F_fol {o n : Int} {r : List Int} {a : Int} {k : Nat} (hk : k < r.length) : F (folM o n r a) k = folF o n (fun k => r.getD k 0) a k := by
  rw [F_at _ _ (by rw [folM_len]; exact hk)]
  exact tab_get _ _ _ hk
theorem fol_day {o n : Int} {r : List Int} (U : Nul o n r.length) (hw : wM o n r 0 = 0) (a : Int) : dayM o n (folM o n r a) = r := by
  refine ring_ext (by rw [dayM_len, folM_len]) fun h hh => ?_
  rw [dayM_len, folM_len] at hh
  rw [F_day, F_fol hh]
  have e : F (folM o n r a) (h + 1) = folF o n (fun k => r.getD k 0) a (h + 1) := by
    by_cases h1 : h + 1 < r.length
    · exact F_fol h1
    · have q : h + 1 = 0 + (folM o n r a).length := by rw [folM_len]; omega
      have q2 : h + 1 = r.length := by omega
      rw [q, F_per, ← q, q2, fol_close U r rfl hw, F_fol U.m0]
      rfl
  rw [e, fol_step U.nn, F_at _ _ hh]
theorem fol_aff (o n : Int) (r : Nat → Int) (a : Int) : ∀ k, folF o n r a k = folF o n r 0 k + a * (-(o * n)) ^ k
  | 0 => by rw [Int.pow_zero]; show a = 0 + a * 1; omega
  | k + 1 => by
    show (r k - o * folF o n r a k) * n = (r k - o * folF o n r 0 k) * n + a * (-(o * n)) ^ (k + 1)
    rw [fol_aff o n r a k, Int.pow_succ]
    generalize folF o n r 0 k = f
    generalize (-(o * n)) ^ k = p
    have e : a * (p * -(o * n)) = -(o * (a * p) * n) := by
      rw [Int.mul_neg, Int.mul_neg]
      congr 1
      simp only [Int.mul_assoc, Int.mul_left_comm, Int.mul_comm]
    rw [e, Int.mul_add, Int.sub_mul, Int.sub_mul, Int.add_mul]
    omega
theorem wt_ker {o n : Int} {m : Nat} (nn : n * n = 1) {g : Nat} (hg : g < m) : wtM o n m g * (-(o * n)) ^ g = o ^ (m - 1) := by
  unfold wtM
  rw [Int.mul_assoc, ← Int.mul_pow]
  have e : (0 - n) * -(o * n) = o := by
    rw [Int.zero_sub, Int.neg_mul_neg, Int.mul_left_comm, nn, Int.mul_one]
  rw [e, ← Int.pow_add]
  congr 1
  omega
theorem sumR_const (n : Nat) (c : Int) : sumR n (fun _ => c) = n * c := by
  induction n with
  | zero => rw [sumR_zero]; simp
  | succ n ih =>
    rw [sumR_succ, ih]
    rw [Int.natCast_succ, Int.add_mul]
    omega
theorem w_fol {o n : Int} {r : List Int} (nn : n * n = 1) (a : Int) : wM o n (folM o n r a) 0 = wM o n (folM o n r 0) 0 + a * stepM o r.length := by
  unfold wM stepM
  rw [folM_len, folM_len, ← sumR_const, ← sumR_mul, ← sumR_add]
  refine sumR_congr fun k hk => ?_
  rw [Nat.zero_add, F_fol hk, F_fol hk, fol_aff, Int.mul_add, Int.mul_left_comm, wt_ker nn hk]
theorem fol_uniq {o n : Int} {r s : List Int} (nn : n * n = 1) (hl : s.length = r.length) (hd : dayM o n s = r) : s = folM o n r (s.getD 0 0) := by
  refine list_ext (by rw [folM_len, hl]) fun k hk => ?_
  unfold folM
  rw [tab_get _ _ _ (by omega)]
  induction k with
  | zero => rfl
  | succ k ih =>
    have ih := ih (by omega)
    show _ = (r.getD k 0 - o * folF o n (fun k => r.getD k 0) (s.getD 0 0) k) * n
    rw [← ih]
    have e : r.getD k 0 = o * s.getD k 0 + n * s.getD (k + 1) 0 := by
      rw [← hd]
      unfold dayM
      rw [tab_get _ _ _ (by omega), F_at _ _ hk]
    rw [e]
    have e2 : (o * s.getD k 0 + n * s.getD (k + 1) 0 - o * s.getD k 0) = n * s.getD (k + 1) 0 := by omega
    rw [e2, Int.mul_comm n, Int.mul_assoc, nn, Int.mul_one]
theorem step_ne {o n : Int} {m : Nat} (U : Nul o n m) : stepM o m ≠ 0 := by
  unfold stepM
  intro h
  rcases Int.mul_eq_zero.mp h with h | h
  · have := U.m0; omega
  · have := pow_sq U.oo (m - 1)
    rw [h] at this
    cases this
theorem step_dvd {o n : Int} {m : Nat} (U : Nul o n m) (x : Int) : stepM o m ∣ x ↔ (m : Int) ∣ x := by
  have h := pow_sq U.oo (m - 1)
  unfold stepM
  refine ⟨fun ⟨q, e⟩ => ⟨o ^ (m - 1) * q, by rw [e, Int.mul_assoc]⟩, fun ⟨q, e⟩ => ⟨o ^ (m - 1) * q, ?_⟩⟩
  rw [e, Int.mul_assoc, ← Int.mul_assoc (o ^ (m - 1)), h, Int.one_mul]
/-! the elder -/
theorem elder_none {o n : Int} {r : List Int} (h : ¬ divM o n r.length ∣ wM o n r 0) : elderM o n r = none := if_pos h
theorem elder_quo {o n : Int} {r : List Int} (h : divM o n r.length ∣ wM o n r 0) (hD : divM o n r.length ≠ 0) : elderM o n r = some (quoM o n r) := by
  unfold elderM
  rw [if_neg (fun q => q h), if_pos hD]
  rfl
theorem dvd0 {a : Int} (h : (0 : Int) ∣ a) : a = 0 := by
  obtain ⟨q, e⟩ := h
  omega
/-- divisor nought: the elder's form -/
theorem elder_nul {o n : Int} {r : List Int} (U : Nul o n r.length) (hD : divM o n r.length = 0) (hw : wM o n r 0 = 0) : ∃ a, elderM o n r = some (folM o n r a) ∧ (stepM o r.length ∣ wM o n (folM o n r 0) 0 → wM o n (folM o n r a) 0 = 0) ∧ (¬ stepM o r.length ∣ wM o n (folM o n r 0) 0 → a = 0) := by
  unfold elderM
  rw [if_neg (fun q => q (by rw [hw]; exact Int.dvd_zero _)), if_neg (fun q => q hD)]
  by_cases h : stepM o r.length ∣ wM o n (folM o n r 0) 0
  · rw [if_pos h]
    refine ⟨_, rfl, fun _ => ?_, fun q => absurd h q⟩
    rw [w_fol U.nn]
    obtain ⟨q, e⟩ := h
    rw [e, Int.mul_fdiv_cancel_left _ (step_ne U), Int.mul_comm, Int.zero_sub, Int.neg_mul]
    omega
  · rw [if_neg h]
    exact ⟨0, rfl, fun q => absurd q h, fun _ => rfl⟩
theorem elder_iff {o n : Int} {r : List Int} : elderM o n r ≠ none ↔ divM o n r.length ∣ wM o n r 0 := by
  unfold elderM
  by_cases h : divM o n r.length ∣ wM o n r 0
  · rw [if_neg (fun q => q h)]
    refine ⟨fun _ => h, fun _ => ?_⟩
    split
    · exact fun q => by cases q
    · split <;> exact fun q => by cases q
  · rw [if_pos h]
    exact ⟨fun q => absurd rfl q, fun q => absurd q h⟩
theorem elder_len {o n : Int} {r s : List Int} (h : elderM o n r = some s) : s.length = r.length := by
  unfold elderM at h
  split at h
  · cases h
  · split at h
    · cases h; exact tab_len _ _
    · split at h
      · cases h; exact folM_len ..
      · cases h; exact folM_len ..
theorem elder_day {o n : Int} (R : RuleC o n) {r s : List Int} (h0 : 0 < r.length) (h9 : r.length ≤ 9) (h : elderM o n r = some s) : dayM o n s = r := by
  have hd : divM o n r.length ∣ wM o n r 0 := elder_iff.mp (by rw [h]; exact fun q => by cases q)
  by_cases hD : divM o n r.length = 0
  · have U := nul_of R h0 h9 hD
    have hw : wM o n r 0 = 0 := by rw [hD] at hd; exact dvd0 hd
    obtain ⟨a, e, _⟩ := elder_nul U hD hw
    rw [e] at h
    cases h
    exact fol_day U hw a
  · rw [elder_quo hd hD] at h
    cases h
    exact quo_day R h0 h9 hD hd
/-- what was a day later has an elder -/
theorem elder_has {o n : Int} (r : List Int) : elderM o n (dayM o n r) ≠ none := by
  rw [elder_iff, dayM_len, wB]
  exact Int.dvd_mul_right _ _
/-- .. the very ring, if the divisor isn't nought, or if it has one itself -/
theorem elder_back {o n : Int} (R : RuleC o n) {r : List Int} (h0 : 0 < r.length) (h9 : r.length ≤ 9) (h : divM o n r.length = 0 → wM o n r 0 = 0) : elderM o n (dayM o n r) = some r := by
  by_cases hD : divM o n r.length = 0
  · have U := nul_of R h0 h9 hD
    have U' : Nul o n (dayM o n r).length := by rw [dayM_len]; exact U
    have hw : wM o n (dayM o n r) 0 = 0 := by rw [wB, hD, Int.zero_mul]
    obtain ⟨a, e, h1, _⟩ := elder_nul U' (by rw [dayM_len]; exact hD) hw
    have e2 := fol_uniq (o := o) (n := n) U.nn (dayM_len o n r).symm rfl
    have w1 := w_fol (o := o) (n := n) (r := dayM o n r) U.nn (r.getD 0 0)
    rw [← e2, h hD] at w1
    have hdv : stepM o (dayM o n r).length ∣ wM o n (folM o n (dayM o n r) 0) 0 := ⟨-(r.getD 0 0), by rw [Int.mul_neg, Int.mul_comm]; omega⟩
    have w2 := h1 hdv
    rw [w_fol U.nn] at w2
    have w3 : (a - r.getD 0 0) * stepM o (dayM o n r).length = 0 := by rw [Int.sub_mul]; omega
    rcases Int.mul_eq_zero.mp w3 with q | q
    · have : a = r.getD 0 0 := by omega
      rw [e, this, ← e2]
    · exact absurd q (step_ne U')
  · have hd : divM o n (dayM o n r).length ∣ wM o n (dayM o n r) 0 := by rw [dayM_len, wB]; exact Int.dvd_mul_right _ _
    rw [elder_quo hd (by rw [dayM_len]; exact hD), quo_of_day h0 hD]
theorem wt_bd {o n : Int} (R : RuleS o n) {m g : Nat} (hm : m ≤ 9) (hg : g < m) : -(2 ^ 64) < wtM o n m g ∧ wtM o n m g < 2 ^ 64 := by
  have h1 : (o ^ (m - 1 - g)).natAbs ≤ 9 ^ 9 := by
    rw [Int.natAbs_pow]
    exact Nat.le_trans (Nat.pow_le_pow_left (by have := R.o1; have := R.o2; omega) _) (Nat.pow_le_pow_right (by decide) (show m - 1 - g ≤ 9 by omega))
  have h2 : ((0 - n) ^ g).natAbs ≤ 9 ^ 9 := by
    rw [Int.natAbs_pow]
    exact Nat.le_trans (Nat.pow_le_pow_left (by have := R.n1; have := R.n2; omega) _) (Nat.pow_le_pow_right (by decide) (show g ≤ 9 by omega))
  have h3 : (wtM o n m g).natAbs ≤ 9 ^ 9 * 9 ^ 9 := by
    unfold wtM
    rw [Int.natAbs_mul]
    exact Nat.mul_le_mul h1 h2
  omega
theorem step_bd {o n : Int} {m : Nat} (U : Nul o n m) (hm : m ≤ 9) : (stepM o m).natAbs < 1073741824 := by
  unfold stepM
  rw [Int.natAbs_mul]
  have h1 : (o ^ (m - 1)).natAbs ≤ 1 := by
    have h2 := pow_sq U.oo (m - 1)
    have h3 := congrArg Int.natAbs h2
    rw [Int.natAbs_mul] at h3
    have : (o ^ (m - 1)).natAbs = 1 := Nat.eq_one_of_mul_eq_one_right h3
    omega
  have := Nat.mul_le_mul (show ((m : Int)).natAbs ≤ 9 by omega) h1
  omega
theorem fol_nul (o n : Int) (m : Nat) : ∀ k, folF o n (fun k => (List.replicate m (0 : Int)).getD k 0) 0 k = 0
  | 0 => rfl
  | k + 1 => by
    show ((List.replicate m (0 : Int)).getD k 0 - o * folF o n (fun k => (List.replicate m (0 : Int)).getD k 0) 0 k) * n = 0
    have e : (List.replicate m (0 : Int)).getD k 0 = 0 := getD_all (p := fun v => v = 0) (fun v hv => List.eq_of_mem_replicate hv) rfl k
    rw [fol_nul o n m k, e]
    simp
theorem w_zero (o n : Int) {r : List Int} (h : ∀ k, F r k = 0) : wM o n r 0 = 0 := by
  unfold wM
  refine Eq.trans (sumR_congr (g' := fun _ => 0) fun k _ => ?_) (sumR_const0 _)
  rw [h, Int.mul_zero]
theorem F_rep0 (m k : Nat) : F (List.replicate m (0 : Int)) k = 0 := getD_all (p := fun v => v = 0) (fun v hv => List.eq_of_mem_replicate hv) rfl _
theorem step_is {o n : Int} {m : Nat} (U : Nul o n m) : wM o n (folM o n (List.replicate m 0) 1) 0 = stepM o m := by
  rw [w_fol U.nn, List.length_replicate]
  have e : wM o n (folM o n (List.replicate m 0) 0) 0 = 0 := w_zero o n fun k => by
    refine getD_all (p := fun v => v = 0) (fun v hv => ?_) rfl _
    obtain ⟨j, _, rfl⟩ := List.mem_map.mp hv
    exact fol_nul o n m j
  rw [e]
  omega
end DL
/-! MW: words, in plain Lean (the mirrors) -/
namespace DL
def ovStep (by_ rest : List Int) : List Int := tab (rest.length - 1) fun at_ => if rest.length - by_.length ≤ at_ then rest.getD at_ 0 - rest.getD (rest.length - 1) 0 * by_.getD (at_ - (rest.length - by_.length)) 0 else rest.getD at_ 0
def ovL : Nat → List Int → List Int → List Int → List Int × List Int
  | 0, _, rest, found => (found.reverse, rest)
  | f + 1, by_, rest, found => if by_.length ≤ rest.length then ovL f by_ (ovStep by_ rest) (found ++ [rest.getD (rest.length - 1) 0]) else (found.reverse, rest)
def overM (word by_ : List Int) : List Int × List Int := ovL (word.length + 1) by_ word []
theorem ovStep_len (by_ rest : List Int) : (ovStep by_ rest).length = rest.length - 1 := tab_len _ _
def prodIn (first : Int) (left : Nat) (other f : List Int) : Nat → List Int
  | 0 => f
  | r + 1 => (prodIn first left other f r).set (left + r) ((prodIn first left other f r).getD (left + r) 0 + first * other.getD r 0)
def prodOut (one other : List Int) : Nat → List Int
  | 0 => List.replicate (one.length + other.length - 1) 0
  | l + 1 => prodIn (one.getD l 0) l other (prodOut one other l) other.length
def prodM (one other : List Int) : List Int := prodOut one other one.length
theorem prodIn_len (first : Int) (left : Nat) (other f : List Int) : ∀ r, (prodIn first left other f r).length = f.length
  | 0 => rfl
  | r + 1 => by unfold prodIn; rw [List.length_set]; exact prodIn_len first left other f r
theorem prodOut_len (one other : List Int) : ∀ l, (prodOut one other l).length = one.length + other.length - 1
  | 0 => by simp [prodOut]
  | l + 1 => by unfold prodOut; rw [prodIn_len]; exact prodOut_len one other l
theorem prodM_len (one other : List Int) : (prodM one other).length = one.length + other.length - 1 := prodOut_len _ _ _
theorem take_tab (n m : Nat) (g : Nat → Int) (h : m ≤ n) : (tab n g).take m = tab m g := by
  unfold tab
  rw [← List.map_take, List.take_range, Nat.min_eq_left h]
/-- the pieces of one to nine -/
def pieceT (m : Nat) : List Int := ([[], [-1, 1], [1, 1], [1, 1, 1], [1, 0, 1], [1, 1, 1, 1, 1], [1, -1, 1], [1, 1, 1, 1, 1, 1, 1], [1, 0, 0, 0, 1], [1, 0, 0, 1, 0, 0, 1]] : List (List Int)).getD m []
def pieceL (m : Nat) : Nat → List Int
  | 0 => [-1] ++ List.replicate (m - 1) 0 ++ [1]
  | l + 1 => if m % (l + 1) = 0 then (overM (pieceL m l) (pieceT (l + 1))).1 else pieceL m l
theorem piece_fin : ((List.range 10).all fun m => m == 0 || (decide (pieceL m (m - 1) = pieceT m) && (List.range 10).all fun l => decide (l < m → (pieceL m l).length ≤ 10))) = true := by decide +kernel
theorem pieceT_fin : ((List.range 10).all fun m => m == 0 || (decide (2 ≤ (pieceT m).length) && decide ((pieceT m).length ≤ 7) && (pieceT m).all fun v => decide (v.natAbs ≤ 1))) = true := by decide +kernel
structure PieceOk (m : Nat) : Prop where
  l2 : 2 ≤ (pieceT m).length
  l7 : (pieceT m).length ≤ 7
  bd : ∀ v ∈ pieceT m, v.natAbs ≤ 1
theorem pieceT_ok {m : Nat} (h0 : 0 < m) (h9 : m ≤ 9) : PieceOk m := by
  have h := List.all_eq_true.mp pieceT_fin m (List.mem_range.mpr (by omega))
  simp only [Bool.or_eq_true, Bool.and_eq_true, beq_iff_eq, decide_eq_true_eq, List.all_eq_true] at h
  rcases h with h | h
  · omega
  · exact ⟨h.1.1, h.1.2, h.2⟩
theorem pieceL_ok {m : Nat} (h0 : 0 < m) (h9 : m ≤ 9) : pieceL m (m - 1) = pieceT m ∧ ∀ l, l < m → (pieceL m l).length ≤ 10 := by
  have h := List.all_eq_true.mp piece_fin m (List.mem_range.mpr (by omega))
  simp only [Bool.or_eq_true, Bool.and_eq_true, beq_iff_eq, decide_eq_true_eq, List.all_eq_true] at h
  rcases h with h | h
  · omega
  · exact ⟨h.1, fun l hl => h.2 l (List.mem_range.mpr (by omega)) hl⟩
def normM (o n : Int) (m : Nat) : Int := (-1) ^ ((pieceT m).length - 1) * sumR (pieceT m).length fun at_ => (pieceT m).getD at_ 0 * (0 - o) ^ at_ * n ^ ((pieceT m).length - 1 - at_)
def stirL (o n : Int) (m : Nat) : Nat → List Int
  | 0 => [1]
  | l + 1 => if m % (l + 1) = 0 ∧ (normM o n (l + 1)).natAbs ≠ 1 then prodM (stirL o n m l) (pieceT (l + 1)) else stirL o n m l
def stirM (o n : Int) (m : Nat) : List Int := stirL o n m m
def quoW (o n : Int) (r : List Int) : Option (List Int) := if (overM r (stirM o n r.length)).2.any (fun v => decide (v ≠ 0)) then none else some (if (overM r (stirM o n r.length)).1 ≠ [] then (overM r (stirM o n r.length)).1 else [0])
end DL
/-! MW2: the stirred words, checked rule by rule -/
namespace DL
structure StirOk (o n : Int) (m : Nat) : Prop where
  l1 : 0 < (stirM o n m).length
  l2 : (stirM o n m).length ≤ 10
  bd : ∀ v ∈ stirM o n m, v.natAbs ≤ 100
theorem stirL_len (o n : Int) {m : Nat} : ∀ l, l ≤ 9 → 0 < (stirL o n m l).length ∧ (stirL o n m l).length ≤ 1 + 6 * l
  | 0, _ => by simp [stirL]
  | l + 1, h => by
    have ih := stirL_len o n (m := m) l (by omega)
    have hp := pieceT_ok (m := l + 1) (by omega) h
    have := hp.l2
    have := hp.l7
    unfold stirL
    split
    · rw [prodM_len]; omega
    · omega
end DL
namespace DL
/-- the elder's elder .., so many days ago -/
def eldN (o n : Int) (r : List Int) : Nat → Option (List Int)
  | 0 => some r
  | k + 1 => (eldN o n r k).bind (elderM o n)
theorem eldN_len {o n : Int} {r : List Int} : ∀ {k : Nat} {s : List Int}, eldN o n r k = some s → s.length = r.length
  | 0, s, h => by cases h; rfl
  | k + 1, s, h => by
    have h : (eldN o n r k).bind (elderM o n) = some s := h
    cases q : eldN o n r k with
    | none => rw [q] at h; cases h
    | some t =>
      rw [q] at h
      exact (elder_len (show elderM o n t = some s from h)).trans (eldN_len q)
theorem eldN_none {o n : Int} {r : List Int} {j : Nat} (h : eldN o n r j = none) : ∀ d, eldN o n r (j + d) = none
  | 0 => h
  | d + 1 => by show (eldN o n r (j + d)).bind _ = none; rw [eldN_none h d]; rfl
/-- the oldest that stands: k days ago -/
structure OldAt (o n : Int) (r : List Int) (k : Nat) (last : List Int) : Prop where
  at_ : eldN o n r k = some last
  no : elderM o n last = none
theorem OldAt.cont {o n : Int} {r last : List Int} {k j : Nat} {s : List Int} (O : OldAt o n r k last) (hj : eldN o n r j = some s) (hjk : j ≤ k) : (elderM o n s ≠ none → j < k) ∧ (elderM o n s = none → j = k ∧ s = last) := by
  refine ⟨fun h => ?_, fun h => ?_⟩
  · by_cases q : j = k
    · subst q
      rw [O.at_] at hj
      cases hj
      exact absurd O.no h
    · omega
  · by_cases q : j = k
    · subst q
      rw [O.at_] at hj
      cases hj
      exact ⟨rfl, rfl⟩
    · have e : eldN o n r (j + 1) = none := by show (eldN o n r j).bind _ = none; rw [hj]; exact h
      have := eldN_none e (k - (j + 1))
      rw [show j + 1 + (k - (j + 1)) = k by omega, O.at_] at this
      cases this
end DL
/-! MA: words that act on rings going round (for the endless theorem) -/
namespace DL
/-- going round by m -/
def Per (m : Nat) (f : Nat → Int) : Prop := ∀ h, f (h + m) = f h
theorem act_comm (m : Nat) (c d : List Int) (f : Nat → Int) (h : Nat) : act m c (act m d f) h = act m d (act m c f) h := by
  unfold act
  have e : ∀ (c d : List Int), (sumR m fun j => c.getD j 0 * sumR m fun i => d.getD i 0 * f (h + j + i)) = sumR m fun j => sumR m fun i => c.getD j 0 * (d.getD i 0 * f (h + j + i)) := fun c d => sumR_congr fun j _ => (sumR_mul m _ _).symm
  rw [e c d, e d c, sumR_comm]
  refine sumR_congr fun i _ => sumR_congr fun j _ => ?_
  rw [Int.mul_left_comm, Nat.add_right_comm h j i]
theorem act_add (m : Nat) (c : List Int) (f g : Nat → Int) (h : Nat) : act m c (fun x => f x + g x) h = act m c f h + act m c g h := by
  unfold act
  rw [← sumR_add]
  exact sumR_congr fun k _ => Int.mul_add _ _ _
theorem act_mul (m : Nat) (c : List Int) (a : Int) (f : Nat → Int) (h : Nat) : act m c (fun x => a * f x) h = a * act m c f h := by
  unfold act
  rw [← sumR_mul]
  exact sumR_congr fun k _ => Int.mul_left_comm _ _ _
theorem act_zero (m : Nat) (c : List Int) {f : Nat → Int} (hf : ∀ h, f h = 0) (h : Nat) : act m c f h = 0 := by
  unfold act
  refine Eq.trans (sumR_congr (g' := fun _ => 0) fun k _ => ?_) (sumR_const0 _)
  rw [hf, Int.mul_zero]
theorem act_congr (m : Nat) (c : List Int) {f g : Nat → Int} (hf : ∀ h, f h = g h) (h : Nat) : act m c f h = act m c g h := sumR_congr fun k _ => by rw [hf]
/-- two words in one -/
def cyc (m : Nat) (c d : List Int) : List Int := tab m fun s => sumR m fun j => c.getD j 0 * d.getD ((s + (m - j)) % m) 0
theorem act_cyc (m : Nat) (hm : 0 < m) (c d : List Int) (f : Nat → Int) (hp : Per m f) (h : Nat) : act m (cyc m c d) f h = act m c (act m d f) h := by
  have e1 : act m (cyc m c d) f h = sumR m fun s => sumR m fun j => c.getD j 0 * (d.getD ((s + (m - j)) % m) 0 * f (h + s)) := sumR_congr fun s hs => by
    rw [show (cyc m c d).getD s 0 = _ from tab_get _ _ _ hs, Int.mul_comm, ← sumR_mul]
    exact sumR_congr fun j _ => by rw [Int.mul_left_comm, Int.mul_comm (f (h + s))]
  rw [e1, sumR_comm]
  refine sumR_congr fun j hj => ?_
  rw [sumR_mul]
  congr 1
  have key := sumR_shift m (fun s => d.getD ((s + (m - j)) % m) 0 * f (h + s)) (fun s => by
    show d.getD ((s + m + (m - j)) % m) 0 * f (h + (s + m)) = _
    rw [Nat.add_right_comm, Nat.add_mod_right, ← Nat.add_assoc, hp]) j
  rw [← key]
  refine sumR_congr fun i hi => ?_
  show d.getD ((i + j + (m - j)) % m) 0 * f (h + (i + j)) = _
  rw [show i + j + (m - j) = i + m by omega, Nat.add_mod_right, Nat.mod_eq_of_lt hi, Nat.add_comm i j, ← Nat.add_assoc]
/-- the sums of the roots of a kind (Ramanujan), as a word of length m -/
def muT (d : Nat) : Int := ([0, 1, -1, -1, 0, -1, 1, -1, 0, 0] : List Int).getD d 0
def ramT (m d : Nat) : List Int := tab m fun k => sumR (d + 1) fun g => if g ≠ 0 ∧ d % g = 0 ∧ k % g = 0 then muT (d / g) * g else 0
def deltaT (m : Nat) (a : Int) : List Int := tab m fun k => if k = 0 then a else 0
theorem ram_fin : ((List.range 10).all fun m => m == 0 || ((List.range 10).all fun a => (List.range 10).all fun b => a == 0 || b == 0 || m % a != 0 || m % b != 0 || decide (cyc m (ramT m a) (ramT m b) = if a = b then (ramT m a).map (fun x => (m : Int) * x) else List.replicate m 0)) && decide ((tab m fun k => sumR 10 fun d => if d ≠ 0 ∧ m % d = 0 then (ramT m d).getD k 0 else 0) = deltaT m m)) = true := by decide +kernel
theorem act_shift (m : Nat) (c : List Int) (f : Nat → Int) (a h : Nat) : act m c (fun x => f (x + a)) h = act m c f (h + a) := sumR_congr fun k _ => by rw [Nat.add_right_comm]
theorem eldN_succ' (o n : Int) (r s : List Int) (h : elderM o n r = some s) : ∀ k, eldN o n r (k + 1) = eldN o n s k
  | 0 => h
  | k + 1 => by show (eldN o n r (k + 1)).bind _ = (eldN o n s k).bind _; rw [eldN_succ' o n r s h k]
/-- d kills r: the piece of d divides the ring's word -/
def Kill (d : Nat) (r : List Int) : Prop := ∀ h, act r.length (ramT r.length d) (F r) h = 0
theorem act_day (o n : Int) (r c : List Int) (h : Nat) : act r.length c (F (dayM o n r)) h = o * act r.length c (F r) h + n * act r.length c (F r) (h + 1) := by
  rw [act_congr r.length c (g := fun x => o * F r x + n * F r (x + 1)) (fun x => F_day o n r x), act_add, act_mul, act_mul, act_shift]
theorem kill_day {d : Nat} {o n : Int} {r : List Int} (k : Kill d r) : Kill d (dayM o n r) := fun h => by
  rw [dayM_len, act_day, k h, k (h + 1)]
  omega
theorem laterM_out (o n : Int) (r : List Int) : ∀ k, laterM o n (dayM o n r) k = dayM o n (laterM o n r k)
  | 0 => rfl
  | k + 1 => by show dayM o n (laterM o n (dayM o n r) k) = _; rw [laterM_out o n r k]; rfl
/-- the ring that stood so many days ago comes to this one -/
theorem eldN_later {o n : Int} (R : RuleC o n) {r : List Int} (h0 : 0 < r.length) (h9 : r.length ≤ 9) : ∀ (k : Nat) (s : List Int), eldN o n r k = some s → laterM o n s k = r
  | 0, s, h => by cases h; rfl
  | k + 1, s, h => by
    have h : (eldN o n r k).bind (elderM o n) = some s := h
    cases q : eldN o n r k with
    | none => rw [q] at h; cases h
    | some t =>
      rw [q] at h
      have h : elderM o n t = some s := h
      have hl := eldN_len q
      have hd := elder_day R (by omega) (by omega) h
      show dayM o n (laterM o n s k) = r
      rw [← laterM_out, hd]
      exact eldN_later R h0 h9 k t q
/-- days on, so many days ago: the ring itself, where the divisor is not nought -/
theorem eldN_back {o n : Int} (R : RuleC o n) : ∀ (k : Nat) {r : List Int}, 0 < r.length → r.length ≤ 9 → divM o n r.length ≠ 0 → eldN o n (laterM o n r k) k = some r
  | 0, r, _, _, _ => rfl
  | k + 1, r, h0, h9, hD => by
    have hl := laterM_len o n r k
    have e : elderM o n (dayM o n (laterM o n r k)) = some (laterM o n r k) := elder_back R (by omega) (by omega) fun q => absurd q (by rw [hl]; exact hD)
    show eldN o n (dayM o n (laterM o n r k)) (k + 1) = some r
    rw [eldN_succ' o n _ _ e]
    exact eldN_back R k h0 h9 hD
end DL
/-! MB: products of pieces by sets of divisors -/
namespace DL
def stirB (b : Nat → Bool) (m : Nat) : Nat → List Int
  | 0 => [1]
  | l + 1 => if m % (l + 1) = 0 ∧ b (l + 1) = true then prodM (stirB b m l) (pieceT (l + 1)) else stirB b m l
theorem stirL_B (o n : Int) (m : Nat) : ∀ l, stirL o n m l = stirB (fun j => decide ((normM o n j).natAbs ≠ 1)) m l
  | 0 => rfl
  | l + 1 => by
    unfold stirL stirB
    rw [stirL_B o n m l]
    by_cases h : m % (l + 1) = 0 ∧ (normM o n (l + 1)).natAbs ≠ 1
    · rw [if_pos h, if_pos ⟨h.1, decide_eq_true h.2⟩]
    · rw [if_neg h, if_neg (fun q => h ⟨q.1, of_decide_eq_true q.2⟩)]
theorem stirB_congr {b b' : Nat → Bool} {m : Nat} : ∀ l, (∀ j, 0 < j → j ≤ l → m % j = 0 → b j = b' j) → stirB b m l = stirB b' m l
  | 0, _ => rfl
  | l + 1, h => by
    unfold stirB
    rw [stirB_congr l fun j h1 h2 h3 => h j h1 (by omega) h3]
    by_cases q : m % (l + 1) = 0
    · rw [h (l + 1) (by omega) (Nat.le_refl _) q]
    · rw [if_neg (fun z => q z.1), if_neg (fun z => q z.1)]
/-- the divisors by place -/
def posT (m j : Nat) : Nat := ((List.range j).filter fun i => i != 0 && m % i == 0).length
def divT (m i : Nat) : Nat := ((List.range 10).filter fun j => j != 0 && m % j == 0).getD i 0
def bitsT (m mask j : Nat) : Bool := mask.testBit (posT m j)
theorem div_fin : ((List.range 10).all fun m => m == 0 || (List.range 10).all fun j => j == 0 || m % j != 0 || (decide (posT m j < 4) && divT m (posT m j) == j)) = true := by decide +kernel
theorem mask_fin : ∀ x y z w : Bool, ((List.range 16).any fun k => (k.testBit 0 == x && k.testBit 1 == y) && (k.testBit 2 == z && k.testBit 3 == w)) = true := by decide
theorem mask_of (b : Nat → Bool) {m : Nat} (h0 : 0 < m) (h9 : m ≤ 9) : ∃ mask, mask < 16 ∧ ∀ j, 0 < j → j ≤ m → m % j = 0 → bitsT m mask j = b j := by
  obtain ⟨k, hk, e⟩ := List.any_eq_true.mp (mask_fin (b (divT m 0)) (b (divT m 1)) (b (divT m 2)) (b (divT m 3)))
  simp only [Bool.and_eq_true, beq_iff_eq] at e
  refine ⟨k, List.mem_range.mp hk, fun j hj hjm hd => ?_⟩
  have q0 := List.all_eq_true.mp div_fin m (List.mem_range.mpr (by omega))
  rw [beq_eq_false_iff_ne.mpr (show m ≠ 0 by omega), Bool.false_or] at q0
  have h := List.all_eq_true.mp q0 j (List.mem_range.mpr (by omega))
  simp only [Bool.or_eq_true, Bool.and_eq_true, beq_iff_eq, bne_iff_ne, decide_eq_true_eq] at h
  rcases h with (h | h) | ⟨h1, h2⟩
  · omega
  · exact absurd hd h
  · unfold bitsT
    have : posT m j = 0 ∨ posT m j = 1 ∨ posT m j = 2 ∨ posT m j = 3 := by omega
    rcases this with q | q | q | q <;> rw [q] at h2 ⊢ <;> rw [← h2]
    · exact e.1.1
    · exact e.1.2
    · exact e.2.1
    · exact e.2.2
def foldT (m : Nat) (s : List Int) : List Int := tab m fun k => s.getD k 0 + s.getD (k + m) 0
/-- of the product S of a set of pieces and the product T of the others -/
def setOk (m mask : Nat) : Bool :=
  let S := stirB (bitsT m mask) m m
  let T := stirB (fun j => !bitsT m mask j) m m
  decide (S.length + T.length = m + 2) && decide (S.getD (S.length - 1) 0 = 1) && decide (T.getD (T.length - 1) 0 = 1) && S.all (fun v => decide (v.natAbs ≤ 100)) && T.all (fun v => decide (v.natAbs ≤ 100)) && decide (0 < S.length) && decide (0 < T.length) &&
    (List.range 10).all fun d => d == 0 || m % d != 0 || (List.range m).all fun h => decide (act m (ramT m d) (F (foldT m (if bitsT m mask d then S else T))) h = 0)
theorem set_fin : ((List.range 10).all fun m => m == 0 || (List.range 16).all fun mask => setOk m mask) = true := by decide +kernel
structure SetFacts (b : Nat → Bool) (m : Nat) : Prop where
  len : (stirB b m m).length + (stirB (fun j => !b j) m m).length = m + 2
  s1 : (stirB b m m).getD ((stirB b m m).length - 1) 0 = 1
  t1 : (stirB (fun j => !b j) m m).getD ((stirB (fun j => !b j) m m).length - 1) 0 = 1
  sb : ∀ v ∈ stirB b m m, v.natAbs ≤ 100
  tb : ∀ v ∈ stirB (fun j => !b j) m m, v.natAbs ≤ 100
  s0 : 0 < (stirB b m m).length
  t0 : 0 < (stirB (fun j => !b j) m m).length
  kill : ∀ d, 0 < d → d ≤ m → m % d = 0 → ∀ h, h < m → act m (ramT m d) (F (foldT m (if b d then stirB b m m else stirB (fun j => !b j) m m))) h = 0
theorem set_facts (b : Nat → Bool) {m : Nat} (h0 : 0 < m) (h9 : m ≤ 9) : SetFacts b m := by
  obtain ⟨mask, hk, hb⟩ := mask_of b h0 h9
  have e1 : stirB (bitsT m mask) m m = stirB b m m := stirB_congr m fun j h1 h2 h3 => hb j h1 h2 h3
  have e2 : stirB (fun j => !bitsT m mask j) m m = stirB (fun j => !b j) m m := stirB_congr m fun j h1 h2 h3 => by rw [hb j h1 h2 h3]
  have q0 := List.all_eq_true.mp set_fin m (List.mem_range.mpr (by omega))
  rw [beq_eq_false_iff_ne.mpr (show m ≠ 0 by omega), Bool.false_or] at q0
  have q := List.all_eq_true.mp q0 mask (List.mem_range.mpr hk)
  unfold setOk at q
  simp only [e1, e2, Bool.and_eq_true, decide_eq_true_eq, List.all_eq_true] at q
  obtain ⟨⟨⟨⟨⟨⟨⟨a1, a2⟩, a3⟩, a4⟩, a5⟩, a6⟩, a7⟩, a8⟩ := q
  refine ⟨a1, a2, a3, a4, a5, a6, a7, fun d hd hdm hmd h hh => ?_⟩
  have z := a8 d (List.mem_range.mpr (by omega))
  simp only [Bool.or_eq_true, beq_iff_eq, bne_iff_ne, List.all_eq_true, decide_eq_true_eq] at z
  rcases z with (z | z) | z
  · omega
  · exact absurd hmd z
  · have := z h (List.mem_range.mpr hh)
    rw [hb d hd hdm hmd] at this
    exact this
theorem stir_ok {o n : Int} (R : RuleS o n) {m : Nat} (hm : m ≤ 9) : StirOk o n m := by
  by_cases h : m = 0
  · subst h
    exact ⟨Nat.one_pos, by show ([1] : List Int).length ≤ 10; decide, fun v hv => by
      have hv : v ∈ ([1] : List Int) := hv
      rw [List.mem_singleton] at hv
      subst hv
      decide⟩
  · have S := set_facts (fun j => decide ((normM o n j).natAbs ≠ 1)) (by omega) hm
    have e : stirM o n m = stirB (fun j => decide ((normM o n j).natAbs ≠ 1)) m m := stirL_B o n m m
    refine ⟨by rw [e]; exact S.s0, ?_, by rw [e]; exact S.sb⟩
    rw [e]
    have := S.len
    have := S.t0
    omega
end DL
/-! MC: the rest of a division, seen by what the divisor kills -/
namespace DL
def actW (c : List Int) (f : Nat → Int) (h : Nat) : Int := sumR c.length fun j => c.getD j 0 * f (h + j)
theorem sumR_split (a b : Nat) (g : Nat → Int) : sumR (a + b) g = sumR a g + sumR b fun i => g (a + i) := by
  induction b with
  | zero => rw [sumR_zero, Nat.add_zero]; omega
  | succ b ih => rw [← Nat.add_assoc, sumR_succ, ih, sumR_succ]; omega
theorem actW_step (by_ rest : List Int) (f : Nat → Int) (h : Nat) (hb : 0 < by_.length) (hm : by_.getD (by_.length - 1) 0 = 1) (hl : by_.length ≤ rest.length) :
    actW (ovStep by_ rest) f h = actW rest f h - rest.getD (rest.length - 1) 0 * actW by_ f (h + (rest.length - by_.length)) := by
  obtain ⟨low, hlow⟩ : ∃ low, rest.length = low + by_.length := ⟨rest.length - by_.length, by omega⟩
  obtain ⟨B, hB⟩ : ∃ B, by_.length = B + 1 := ⟨by_.length - 1, by omega⟩
  have eL : rest.length - 1 = low + B := by omega
  have eo : ∀ k, k < low + B → (ovStep by_ rest).getD k 0 = if low ≤ k then rest.getD k 0 - rest.getD (low + B) 0 * by_.getD (k - low) 0 else rest.getD k 0 := fun k hk => by
    unfold ovStep
    rw [tab_get _ _ _ (by omega), eL, show rest.length - by_.length = low by omega]
  unfold actW
  rw [ovStep_len, eL, show rest.length - by_.length = low by omega, hlow, hB, sumR_split low B, sumR_split low (B + 1), sumR_succ, sumR_succ]
  have hm' : by_.getD B 0 = 1 := by rw [hB] at hm; exact hm
  have e1 : sumR low (fun j => (ovStep by_ rest).getD j 0 * f (h + j)) = sumR low fun j => rest.getD j 0 * f (h + j) := sumR_congr fun j hj => by rw [eo j (by omega), if_neg (by omega)]
  have e2 : sumR B (fun i => (ovStep by_ rest).getD (low + i) 0 * f (h + (low + i))) = sumR B (fun i => rest.getD (low + i) 0 * f (h + (low + i))) - rest.getD (low + B) 0 * sumR B (fun i => by_.getD i 0 * f (h + low + i)) := by
    rw [← sumR_mul]
    have e3 : sumR B (fun i => rest.getD (low + i) 0 * f (h + (low + i))) = sumR B (fun i => (ovStep by_ rest).getD (low + i) 0 * f (h + (low + i)) + rest.getD (low + B) 0 * (by_.getD i 0 * f (h + low + i))) := sumR_congr fun i hi => by
      rw [eo (low + i) (by omega), if_pos (by omega), show low + i - low = i by omega, Int.sub_mul, Int.mul_assoc, Nat.add_assoc]
      omega
    rw [e3, sumR_add]
    omega
  rw [e1, e2, hm', Int.one_mul, Int.mul_add, Nat.add_assoc]
  omega
/-- what the divisor kills sees no more than the rest -/
theorem actW_over {by_ : List Int} {f : Nat → Int} (hb : 0 < by_.length) (hm : by_.getD (by_.length - 1) 0 = 1) (hk : ∀ h, actW by_ f h = 0) : ∀ (fu : Nat) (rest found : List Int) (h : Nat), actW (ovL fu by_ rest found).2 f h = actW rest f h
  | 0, _, _, _ => rfl
  | fu + 1, rest, found, h => by
    unfold ovL
    by_cases hl : by_.length ≤ rest.length
    · rw [if_pos hl, actW_over hb hm hk fu, actW_step by_ rest f h hb hm hl, hk, Int.mul_zero, Int.sub_zero]
    · rw [if_neg hl]
end DL
/-! MC2: where the quotient stands, each stirred piece divides the ring -/
namespace DL
theorem act_flip {m : Nat} {E r : List Int} (hE : E.length = m) (hr : r.length = m) (h : Nat) (hh : h ≤ m) : act m E (F r) h = actW r (F E) (m - h) := by
  have key := sumR_shift m (fun i => F E (i + (m - h)) * F r i) (fun i => by
    show F E (i + m + (m - h)) * F r (i + m) = _
    rw [Nat.add_right_comm, ← hE, F_per, hE, ← hr, F_per]) h
  unfold act actW
  rw [hr]
  refine Eq.trans (sumR_congr fun j hj => ?_) (key.trans (sumR_congr fun i hi => ?_))
  · show E.getD j 0 * F r (h + j) = F E (j + h + (m - h)) * F r (j + h)
    rw [show j + h + (m - h) = j + m by omega, ← hE, F_per, F_at E j (by omega), Nat.add_comm j h]
  · show F E (i + (m - h)) * F r i = r.getD i 0 * F E (m - h + i)
    rw [F_at r i (by omega), Int.mul_comm, Nat.add_comm i]
theorem actW_per {m : Nat} {E : List Int} (hE : E.length = m) (c : List Int) (h : Nat) : actW c (F E) (h + m) = actW c (F E) h := sumR_congr fun j _ => by rw [Nat.add_right_comm, ← hE, F_per]
theorem sumR_zeros {a b : Nat} {g : Nat → Int} (hab : a ≤ b) (hz : ∀ k, a ≤ k → g k = 0) : sumR b g = sumR a g := by
  obtain ⟨d, rfl⟩ : ∃ d, b = a + d := ⟨b - a, by omega⟩
  rw [sumR_split]
  have e : sumR d (fun i => g (a + i)) = 0 := (sumR_congr (g' := fun _ => 0) fun k _ => hz _ (by omega)).trans (sumR_const0 _)
  rw [e, Int.add_zero]
theorem getD_out (c : List Int) (k : Nat) (h : c.length ≤ k) : c.getD k 0 = 0 := by
  rw [List.getD_eq_getElem?_getD, List.getElem?_eq_none_iff.mpr h]
  rfl
theorem actW_fold {m : Nat} {E : List Int} (hE : E.length = m) (c : List Int) (hc : c.length ≤ m + m) (h : Nat) : actW (foldT m c) (F E) h = actW c (F E) h := by
  unfold actW
  have e1 : sumR c.length (fun j => c.getD j 0 * F E (h + j)) = sumR (m + m) fun j => c.getD j 0 * F E (h + j) := (sumR_zeros hc fun k hk => by rw [getD_out _ _ hk, Int.zero_mul]).symm
  have e2 : (foldT m c).length = m := tab_len _ _
  rw [e1, e2, sumR_split, ← sumR_add]
  refine sumR_congr fun k hk => ?_
  have e3 : (foldT m c).getD k 0 = c.getD k 0 + c.getD (k + m) 0 := tab_get _ _ _ hk
  rw [e3, Int.add_mul, Nat.add_comm m k, ← Nat.add_assoc h k m, ← hE, F_per]
/-- told by the ring's word -/
theorem kill_iff {d : Nat} {r : List Int} (h0 : 0 < r.length) : Kill d r ↔ ∀ h, actW r (F (ramT r.length d)) h = 0 := by
  have hE : (ramT r.length d).length = r.length := tab_len _ _
  refine ⟨fun k h => ?_, fun k h => ?_⟩
  · have e : actW r (F (ramT r.length d)) h = actW r (F (ramT r.length d)) (h % r.length) := (per_mod (g := actW r (F (ramT r.length d))) (fun x => actW_per hE r x) h).symm
    have hlt := Nat.mod_lt h h0
    rw [e]
    have := act_flip hE rfl (r.length - h % r.length) (by omega)
    rw [k, show r.length - (r.length - h % r.length) = h % r.length by omega] at this
    exact this.symm
  · have hp : ∀ x, act r.length (ramT r.length d) (F r) (x + r.length) = act r.length (ramT r.length d) (F r) x := fun x => act_per _ _ _ (F_per r) x
    have e := per_mod hp h
    rw [← e]
    have hlt := Nat.mod_lt h h0
    rw [act_flip hE rfl _ (by omega), k]
/-- a set's product is killed -/
theorem set_kill {b : Nat → Bool} {m : Nat} (h0 : 0 < m) (h9 : m ≤ 9) {d : Nat} (hd : 0 < d) (hdm : d ≤ m) (hmd : m % d = 0) (hb : b d = true) (h : Nat) : actW (stirB b m m) (F (ramT m d)) h = 0 := by
  have S := set_facts b h0 h9
  have hE : (ramT m d).length = m := tab_len _ _
  have hf : (foldT m (stirB b m m)).length = m := tab_len _ _
  have hl : (stirB b m m).length ≤ m + m := by have := S.len; have := S.t0; omega
  rw [← actW_fold hE _ hl]
  have e : actW (foldT m (stirB b m m)) (F (ramT m d)) h = actW (foldT m (stirB b m m)) (F (ramT m d)) (h % m) := (per_mod (g := actW (foldT m (stirB b m m)) (F (ramT m d))) (fun x => actW_per hE _ x) h).symm
  have hlt := Nat.mod_lt h h0
  rw [e]
  by_cases q : h % m = 0
  · have k := S.kill d hd hdm hmd 0 h0
    rw [if_pos hb, act_flip hE hf 0 (by omega), Nat.sub_zero] at k
    rw [q, ← actW_per hE, Nat.zero_add]
    exact k
  · have k := S.kill d hd hdm hmd (m - h % m) (by omega)
    rw [if_pos hb, act_flip hE hf _ (by omega), show m - (m - h % m) = h % m by omega] at k
    exact k
/-- where the quotient stands, each stirred piece divides the ring -/
theorem quo_kill {o n : Int} {r : List Int} (h0 : 0 < r.length) (h9 : r.length ≤ 9) (hq : quoW o n r ≠ none) {d : Nat} (hd : 0 < d) (hdm : d ≤ r.length) (hmd : r.length % d = 0) (hs : (normM o n d).natAbs ≠ 1) : Kill d r := by
  rw [kill_iff h0]
  intro h
  have eS : stirM o n r.length = stirB (fun j => decide ((normM o n j).natAbs ≠ 1)) r.length r.length := stirL_B o n r.length r.length
  have S := set_facts (fun j => decide ((normM o n j).natAbs ≠ 1)) h0 h9
  have hk := fun h => set_kill (b := fun j => decide ((normM o n j).natAbs ≠ 1)) h0 h9 hd hdm hmd (decide_eq_true hs) h
  have key : actW (overM r (stirM o n r.length)).2 (F (ramT r.length d)) h = actW r (F (ramT r.length d)) h := by
    rw [eS]
    exact actW_over S.s0 S.s1 hk _ _ _ h
  have hz : ∀ v ∈ (overM r (stirM o n r.length)).2, v = 0 := fun v hv => by
    by_cases q : v = 0
    · exact q
    · exfalso
      apply hq
      unfold quoW
      rw [if_pos (List.any_eq_true.mpr ⟨v, hv, decide_eq_true q⟩)]
  rw [← key]
  unfold actW
  refine (sumR_congr (g' := fun _ => 0) fun k _ => ?_).trans (sumR_const0 _)
  rw [getD_all (p := fun v => v = 0) hz rfl k, Int.zero_mul]
end DL
/-! MF: words in the step to the next house, as what they do -/
namespace DL
inductive Wd : ((Nat → Int) → Nat → Int) → Prop
  | zero : Wd (fun _ _ => 0)
  | id : Wd (fun f => f)
  | add {T U : (Nat → Int) → Nat → Int} : Wd T → Wd U → Wd (fun f h => T f h + U f h)
  | mul (a : Int) {T : (Nat → Int) → Nat → Int} : Wd T → Wd (fun f h => a * T f h)
  | sh {T : (Nat → Int) → Nat → Int} : Wd T → Wd (fun f h => T f (h + 1))
theorem Wd.comp {T U : (Nat → Int) → Nat → Int} (hT : Wd T) (hU : Wd U) : Wd (fun f => T (U f)) := by
  induction hT with
  | zero => exact Wd.zero
  | id => exact hU
  | add _ _ a b => exact Wd.add a b
  | mul a _ b => exact Wd.mul a b
  | sh _ a => exact Wd.sh a
theorem Wd.lin {T : (Nat → Int) → Nat → Int} (hT : Wd T) (a b : Int) (f g : Nat → Int) : ∀ h, T (fun x => a * f x + b * g x) h = a * T f h + b * T g h := by
  induction hT with
  | zero => intro h; show (0 : Int) = a * 0 + b * 0; omega
  | id => intro h; rfl
  | add _ _ p q => intro h; show _ + _ = a * (_ + _) + b * (_ + _); rw [p, q, Int.mul_add, Int.mul_add]; omega
  | mul c _ p => intro h; show c * _ = a * (c * _) + b * (c * _); rw [p, Int.mul_add, Int.mul_left_comm, Int.mul_left_comm c b]
  | sh _ p => intro h; exact p (h + 1)
theorem Wd.shf {T : (Nat → Int) → Nat → Int} (hT : Wd T) (f : Nat → Int) : ∀ h, T (fun x => f (x + 1)) h = T f (h + 1) := by
  induction hT with
  | zero => intro h; rfl
  | id => intro h; rfl
  | add _ _ p q => intro h; show _ + _ = _ + _; rw [p, q]
  | mul c _ p => intro h; show c * _ = c * _; rw [p]
  | sh _ p => intro h; exact p (h + 1)
theorem Wd.congr {T : (Nat → Int) → Nat → Int} {f g : Nat → Int} (e : ∀ h, f h = g h) (h : Nat) : T f h = T g h := by rw [funext e]
theorem Wd.at0 {T : (Nat → Int) → Nat → Int} (hT : Wd T) {f : Nat → Int} (hf : ∀ h, f h = 0) : ∀ h, T f h = 0 := by
  induction hT with
  | zero => intro h; rfl
  | id => exact hf
  | add _ _ p q => intro h; show _ + _ = (0 : Int); rw [p, q]; rfl
  | mul c _ p => intro h; show c * _ = (0 : Int); rw [p, Int.mul_zero]
  | sh _ p => intro h; exact p (h + 1)
theorem Wd.dvd {T : (Nat → Int) → Nat → Int} (hT : Wd T) {f : Nat → Int} {q : Int} (hf : ∀ h, q ∣ f h) : ∀ h, q ∣ T f h := by
  induction hT with
  | zero => intro h; exact Int.dvd_zero _
  | id => exact hf
  | add _ _ a b => intro h; exact Int.dvd_add (a h) (b h)
  | mul c _ a => intro h; exact Int.dvd_mul_of_dvd_right (a h)
  | sh _ a => intro h; exact a (h + 1)
theorem Wd.per {T : (Nat → Int) → Nat → Int} (hT : Wd T) {f : Nat → Int} {m : Nat} (hf : Per m f) : Per m (T f) := by
  induction hT with
  | zero => intro h; rfl
  | id => exact hf
  | add _ _ a b => intro h; show _ + _ = _ + _; rw [a h, b h]
  | mul c _ a => intro h; show c * _ = c * _; rw [a h]
  | @sh T1 _ a => intro h; show T1 f (h + m + 1) = T1 f (h + 1); rw [Nat.add_right_comm]; exact a (h + 1)
theorem Wd.comm {T U : (Nat → Int) → Nat → Int} (hT : Wd T) (hU : Wd U) (f : Nat → Int) : ∀ h, T (U f) h = U (T f) h := by
  induction hT with
  | zero => intro h; exact (hU.at0 (fun _ => rfl) h).symm
  | id => intro h; rfl
  | @add T1 T2 _ _ a b =>
    intro h
    show _ + _ = _
    have e := hU.lin 1 1 (T1 f) (T2 f) h
    rw [a, b, show (U fun h => T1 f h + T2 f h) = U fun x => 1 * T1 f x + 1 * T2 f x by congr 1; funext x; omega, e]
    omega
  | @mul c T1 _ a =>
    intro h
    show c * _ = _
    have e := hU.lin c 0 (T1 f) (T1 f) h
    rw [a, show (U fun h => c * T1 f h) = U fun x => c * T1 f x + 0 * T1 f x by congr 1; funext x; omega, e]
    omega
  | @sh T1 _ a =>
    intro h
    show T1 (U f) (h + 1) = _
    rw [a]
    exact (hU.shf (T1 f) h).symm
theorem Wd.shk : ∀ k : Nat, Wd (fun f h => f (h + k))
  | 0 => Wd.id
  | k + 1 => by
    have := Wd.sh (Wd.shk k)
    have e : (fun (f : Nat → Int) h => f (h + 1 + k)) = fun f h => f (h + (k + 1)) := by funext f h; rw [Nat.add_assoc, Nat.add_comm 1 k]
    rw [← e]
    exact this
theorem Wd.sum {G : Nat → (Nat → Int) → Nat → Int} (hG : ∀ k, Wd (G k)) : ∀ n, Wd (fun f h => sumR n fun k => G k f h)
  | 0 => Wd.zero
  | n + 1 => by
    have e : (fun (f : Nat → Int) h => sumR (n + 1) fun k => G k f h) = fun f h => (sumR n fun k => G k f h) + G n f h := by funext f h; exact sumR_succ _ _
    rw [e]
    exact Wd.add (Wd.sum hG n) (hG n)
theorem Wd.act (m : Nat) (c : List Int) : Wd (act m c) := Wd.sum (G := fun j f h => c.getD j 0 * f (h + j)) (fun j => Wd.mul _ (Wd.shk j)) m
theorem Wd.actW (c : List Int) : Wd (actW c) := Wd.sum (G := fun j f h => c.getD j 0 * f (h + j)) (fun j => Wd.mul _ (Wd.shk j)) c.length
def itW (T : (Nat → Int) → Nat → Int) : Nat → (Nat → Int) → Nat → Int
  | 0 => fun f => f
  | k + 1 => fun f => T (itW T k f)
theorem Wd.it {T : (Nat → Int) → Nat → Int} (hT : Wd T) : ∀ k, Wd (itW T k)
  | 0 => Wd.id
  | k + 1 => show Wd (fun f => T (itW T k f)) from Wd.comp hT (Wd.it hT k)
/-! the roots' sums as functions -/
def cT (d : Nat) : List Int := ([[], [1], [1, -1], [2, -1, -1], [2, 0, -2, 0], [4, -1, -1, -1, -1], [2, 1, -1, -2, -1, 1], [6, -1, -1, -1, -1, -1, -1], [4, 0, 0, 0, -4, 0, 0, 0], [6, 0, 0, -3, 0, 0, -3, 0, 0]] : List (List Int)).getD d []
def C (d h : Nat) : Int := (cT d).getD (h % d) 0
theorem C_per (d : Nat) : Per d (C d) := fun h => by unfold C; rw [Nat.add_mod_right]
theorem C_mod (d h : Nat) : C d (h % d) = C d h := by unfold C; rw [Nat.mod_mod]
theorem C_add (d h k : Nat) : C d (h + d * k) = C d h := by unfold C; rw [Nat.add_mul_mod_self_left]
theorem cT_fin : ((List.range 10).all fun m => m == 0 || (List.range 10).all fun d => d == 0 || m % d != 0 || decide (ramT m d = tab m (C d))) = true := by decide +kernel
theorem sum_fin : ((List.range 10).all fun m => m == 0 || (List.range m).all fun h => decide (sumR 10 (fun d => if d ≠ 0 ∧ m % d = 0 then C d h else 0) = if h = 0 then (m : Int) else 0)) = true := by decide +kernel
theorem even_fin : ((List.range 10).all fun d => d == 0 || (List.range d).all fun a => (List.range d).all fun b => (a + b) % d != 0 || decide (C d a = C d b)) = true := by decide +kernel
theorem cpiece_fin : ((List.range 10).all fun d => d == 0 || (List.range d).all fun h => decide (sumR (pieceT d).length (fun i => (pieceT d).getD i 0 * C d (h + i)) = 0)) = true := by decide +kernel
theorem rng {p : Nat → Bool} (h : ((List.range 10).all fun m => m == 0 || p m) = true) {m : Nat} (h0 : 0 < m) (h9 : m ≤ 9) : p m = true := by
  have q := List.all_eq_true.mp h m (List.mem_range.mpr (by omega))
  rw [beq_eq_false_iff_ne.mpr (show m ≠ 0 by omega), Bool.false_or] at q
  exact q
theorem ram_C {m d : Nat} (h0 : 0 < m) (h9 : m ≤ 9) (hd : 0 < d) (hmd : m % d = 0) : ramT m d = tab m (C d) := by
  have h := List.all_eq_true.mp (rng cT_fin h0 h9) d (List.mem_range.mpr (by have := Nat.le_of_dvd h0 (Nat.dvd_of_mod_eq_zero hmd); omega))
  simp only [Bool.or_eq_true, beq_iff_eq, bne_iff_ne, decide_eq_true_eq] at h
  rcases h with (h | h) | h
  · omega
  · exact absurd hmd h
  · exact h
theorem C_perm {m d : Nat} (hmd : m % d = 0) : Per m (C d) := fun h => by
  obtain ⟨q, e⟩ := Nat.dvd_of_mod_eq_zero hmd
  rw [e, C_add]
theorem F_ram {m d : Nat} (h0 : 0 < m) (h9 : m ≤ 9) (hd : 0 < d) (hmd : m % d = 0) (h : Nat) : F (ramT m d) h = C d h := by
  rw [ram_C h0 h9 hd hmd]
  exact F_tab h0 (C_perm hmd) h
theorem C_even {d a b : Nat} (hd : 0 < d) (h9 : d ≤ 9) (h : (a + b) % d = 0) : C d a = C d b := by
  have q := rng even_fin hd h9
  have q2 := List.all_eq_true.mp (List.all_eq_true.mp q (a % d) (List.mem_range.mpr (Nat.mod_lt _ hd))) (b % d) (List.mem_range.mpr (Nat.mod_lt _ hd))
  simp only [Bool.or_eq_true, bne_iff_ne, decide_eq_true_eq] at q2
  rw [C_mod, C_mod] at q2
  rcases q2 with q2 | q2
  · exact absurd (by rw [← Nat.add_mod]; exact h) q2
  · exact q2
theorem C_piece {d : Nat} (hd : 0 < d) (h9 : d ≤ 9) (h : Nat) : sumR (pieceT d).length (fun i => (pieceT d).getD i 0 * C d (h + i)) = 0 := by
  have q := List.all_eq_true.mp (rng cpiece_fin hd h9) (h % d) (List.mem_range.mpr (Nat.mod_lt _ hd))
  have q := of_decide_eq_true q
  refine Eq.trans (sumR_congr fun i _ => ?_) q
  have e : C d (h + i) = C d (h % d + i) := by unfold C; rw [Nat.mod_add_mod]
  rw [e]
theorem C_sum {m : Nat} (h0 : 0 < m) (h9 : m ≤ 9) (h : Nat) : sumR 10 (fun d => if d ≠ 0 ∧ m % d = 0 then C d h else 0) = if h % m = 0 then (m : Int) else 0 := by
  have q := List.all_eq_true.mp (rng sum_fin h0 h9) (h % m) (List.mem_range.mpr (Nat.mod_lt _ h0))
  have q := of_decide_eq_true q
  rw [← q]
  refine sumR_congr fun d _ => ?_
  by_cases c : d ≠ 0 ∧ m % d = 0
  · rw [if_pos c, if_pos c]
    unfold C
    rw [Nat.mod_mod_of_dvd _ (Nat.dvd_of_mod_eq_zero c.2)]
  · rw [if_neg c, if_neg c]
theorem kill_C {d : Nat} {r : List Int} (h0 : 0 < r.length) (h9 : r.length ≤ 9) (hd : 0 < d) (hmd : r.length % d = 0) : Kill d r ↔ ∀ h, actW r (C d) h = 0 := by
  rw [kill_iff h0, show F (ramT r.length d) = C d from funext fun h => F_ram h0 h9 hd hmd h]
/-- a word of roots' sums, seen from the other side -/
theorem act_flipC {m d : Nat} (h0 : 0 < m) (h9 : m ≤ 9) (hd : 0 < d) (hmd : m % d = 0) {f : Nat → Int} (hf : Per m f) (h : Nat) : act m (ramT m d) f h = sumR m fun k => f k * C d (h + (m - 1) * k) := by
  have hdm : d ≤ m := Nat.le_of_dvd h0 (Nat.dvd_of_mod_eq_zero hmd)
  have key := sumR_shift m (fun k => f k * C d (k + (m - 1) * h)) (fun k => by
    show f (k + m) * C d (k + m + (m - 1) * h) = _
    rw [hf k, Nat.add_right_comm, C_perm hmd]) h
  unfold act
  rw [ram_C h0 h9 hd hmd]
  refine Eq.trans (sumR_congr fun j hj => ?_) (key.trans (sumR_congr fun k _ => ?_))
  · show (tab m (C d)).getD j 0 * f (h + j) = f (j + h) * C d (j + h + (m - 1) * h)
    obtain ⟨m', rfl⟩ : ∃ m', m = m' + 1 := ⟨m - 1, by omega⟩
    rw [tab_get _ _ _ hj, Int.mul_comm, Nat.add_comm h j, Nat.add_assoc j h, Nat.add_sub_cancel]
    congr 1
    obtain ⟨q, e⟩ := Nat.dvd_of_mod_eq_zero hmd
    rw [show h + m' * h = (m' + 1) * h by rw [Nat.add_mul]; omega, e, Nat.mul_assoc, C_add]
  · show f k * C d (k + (m - 1) * h) = f k * C d (h + (m - 1) * k)
    congr 1
    refine C_even hd (by omega) ?_
    obtain ⟨m', rfl⟩ : ∃ m', m = m' + 1 := ⟨m - 1, by omega⟩
    rw [Nat.add_sub_cancel, show k + m' * h + (h + m' * k) = (m' + 1) * (h + k) by rw [Nat.add_mul, Nat.mul_add]; omega]
    exact Nat.mod_eq_zero_of_dvd (Nat.dvd_trans (Nat.dvd_of_mod_eq_zero hmd) (Nat.dvd_mul_right _ _))
/-- what all pieces divide is nought -/
theorem all_kill {m : Nat} (h0 : 0 < m) (h9 : m ≤ 9) {f : Nat → Int} (hf : Per m f) (hk : ∀ d, 0 < d → d ≤ m → m % d = 0 → ∀ h, act m (ramT m d) f h = 0) (h : Nat) : f h = 0 := by
  have e1 : sumR m (fun k => f k * (sumR 10 fun d => if d ≠ 0 ∧ m % d = 0 then C d (h + (m - 1) * k) else 0)) = sumR 10 fun d => if d ≠ 0 ∧ m % d = 0 then act m (ramT m d) f h else 0 := by
    rw [show (fun k => f k * (sumR 10 fun d => if d ≠ 0 ∧ m % d = 0 then C d (h + (m - 1) * k) else 0)) = fun k => sumR 10 fun d => f k * if d ≠ 0 ∧ m % d = 0 then C d (h + (m - 1) * k) else 0 from funext fun k => (sumR_mul _ _ _).symm, sumR_comm]
    refine sumR_congr fun d _ => ?_
    by_cases c : d ≠ 0 ∧ m % d = 0
    · rw [if_pos c, act_flipC h0 h9 (by omega) c.2 hf]
      exact sumR_congr fun k _ => by rw [if_pos c]
    · rw [if_neg c]
      refine (sumR_congr (g' := fun _ => 0) fun k _ => ?_).trans (sumR_const0 _)
      rw [if_neg c, Int.mul_zero]
  have e2 : (sumR 10 fun d => if d ≠ 0 ∧ m % d = 0 then act m (ramT m d) f h else 0) = 0 := by
    refine (sumR_congr (g' := fun _ => 0) fun d _ => ?_).trans (sumR_const0 _)
    by_cases c : d ≠ 0 ∧ m % d = 0
    · rw [if_pos c]
      exact hk d (by omega) (Nat.le_of_dvd h0 (Nat.dvd_of_mod_eq_zero c.2)) c.2 h
    · rw [if_neg c]
  have e3 : sumR m (fun k => f k * (sumR 10 fun d => if d ≠ 0 ∧ m % d = 0 then C d (h + (m - 1) * k) else 0)) = sumR m fun k => if k = h % m then (m : Int) * f h else 0 := by
    refine sumR_congr fun k hk => ?_
    rw [C_sum h0 h9]
    obtain ⟨m', rfl⟩ : ∃ m', m = m' + 1 := ⟨m - 1, by omega⟩
    rw [Nat.add_sub_cancel]
    have e4 : (h + m' * k) % (m' + 1) = 0 ↔ k = h % (m' + 1) := by
      have a1 : h + m' * k + k = h + (m' + 1) * k := by rw [Nat.add_mul]; omega
      constructor
      · intro q
        have a2 : (h + m' * k + k) % (m' + 1) = k % (m' + 1) := by rw [Nat.add_mod, q, Nat.zero_add, Nat.mod_mod]
        rw [a1, Nat.add_mul_mod_self_left, Nat.mod_eq_of_lt hk] at a2
        exact a2.symm
      · intro q
        have a2 : (h + m' * k + k) % (m' + 1) = (0 + k) % (m' + 1) := by rw [a1, Nat.add_mul_mod_self_left, Nat.zero_add, Nat.mod_eq_of_lt hk]; exact q.symm
        have a3 := Nat.sub_mod_eq_zero_of_mod_eq (m := h + m' * k + k) (n := k) (k := m' + 1) (by rw [a2, Nat.zero_add])
        rw [Nat.add_sub_cancel] at a3
        exact a3
    by_cases q : k = h % (m' + 1)
    · rw [if_pos (e4.mpr q), if_pos q, Int.mul_comm, q, per_mod hf]
    · rw [if_neg (fun z => q (e4.mp z)), if_neg q, Int.mul_zero]
  have e5 : ∀ (n a : Nat) (v : Int), a < n → (sumR n fun k => if k = a then v else 0) = v := fun n a v => by
    induction n with
    | zero => intro q; omega
    | succ n ih =>
      intro q
      rw [sumR_succ]
      by_cases z : a < n
      · rw [ih z, if_neg (by omega)]; omega
      · have : a = n := by omega
        subst this
        rw [if_pos rfl, (sumR_congr (g' := fun _ => 0) fun k hk => if_neg (by omega)).trans (sumR_const0 _)]
        omega
  rw [e3, e5 m _ _ (Nat.mod_lt _ h0), e2] at e1
  rcases Int.mul_eq_zero.mp e1 with q | q
  · omega
  · exact q
end DL
/-! MG: an endless ring's elder is endless -/
namespace DL
def dayF (o n : Int) (f : Nat → Int) (h : Nat) : Int := o * f h + n * f (h + 1)
theorem Wd.day (o n : Int) : Wd (dayF o n) := Wd.add (Wd.mul o Wd.id) (Wd.mul n (Wd.sh Wd.id))
def opU (o n : Int) : Nat → (Nat → Int) → Nat → Int
  | 0 => fun _ _ => 0
  | i + 1 => fun f h => (0 - o) * opU o n i f h + n ^ i * f (h + i)
theorem Wd.U (o n : Int) : ∀ i, Wd (opU o n i)
  | 0 => Wd.zero
  | i + 1 => Wd.add (Wd.mul _ (Wd.U o n i)) (Wd.mul _ (Wd.shk i))
theorem day_U (o n : Int) (f : Nat → Int) (h : Nat) : ∀ i, dayF o n (opU o n i f) h = n ^ i * f (h + i) - (0 - o) ^ i * f h
  | 0 => by show o * 0 + n * 0 = n ^ 0 * f h - (0 - o) ^ 0 * f h; rw [Int.pow_zero, Int.pow_zero]; omega
  | i + 1 => by
    have ih := day_U o n f h i
    show o * ((0 - o) * opU o n i f h + n ^ i * f (h + i)) + n * ((0 - o) * opU o n i f (h + 1) + n ^ i * f (h + 1 + i)) = _
    have e1 : dayF o n (opU o n i f) h = o * opU o n i f h + n * opU o n i f (h + 1) := rfl
    rw [e1] at ih
    have e2 : o * ((0 - o) * opU o n i f h) + n * ((0 - o) * opU o n i f (h + 1)) = (0 - o) * (n ^ i * f (h + i) - (0 - o) ^ i * f h) := by
      rw [← ih, Int.mul_add, Int.mul_left_comm o, Int.mul_left_comm n]
    rw [Int.mul_add, Int.mul_add, Int.pow_succ, Int.pow_succ, show h + 1 + i = h + (i + 1) by omega]
    rw [Int.mul_sub] at e2
    have e3 : o * (n ^ i * f (h + i)) = -((0 - o) * (n ^ i * f (h + i))) := by rw [Int.zero_sub, Int.neg_mul, Int.neg_neg]
    have e4 : n * (n ^ i * f (h + (i + 1))) = n ^ i * n * f (h + (i + 1)) := by rw [Int.mul_comm (n ^ i) n, Int.mul_assoc]
    have e5 : (0 - o) * ((0 - o) ^ i * f h) = (0 - o) ^ i * (0 - o) * f h := by rw [Int.mul_comm ((0 - o) ^ i) (0 - o), Int.mul_assoc]
    rw [e4]
    rw [e5] at e2
    omega
/-- own to be put in for a piece -/
def keyM (o n : Int) (d : Nat) : Int := sumR (pieceT d).length fun i => (pieceT d).getD i 0 * (0 - o) ^ i * n ^ ((pieceT d).length - 1 - i)
theorem norm_key (o n : Int) (d : Nat) : (normM o n d).natAbs = (keyM o n d).natAbs := by
  unfold normM keyM
  rw [Int.natAbs_mul, Int.natAbs_pow]
  have : ((-1 : Int)).natAbs = 1 := rfl
  rw [this, Nat.one_pow, Nat.one_mul]
def opV (o n : Int) (d : Nat) (f : Nat → Int) (h : Nat) : Int := sumR (pieceT d).length fun i => (pieceT d).getD i 0 * n ^ ((pieceT d).length - 1 - i) * opU o n i f h
theorem Wd.V (o n : Int) (d : Nat) : Wd (opV o n d) := Wd.sum (G := fun i f h => (pieceT d).getD i 0 * n ^ ((pieceT d).length - 1 - i) * opU o n i f h) (fun i => Wd.mul _ (Wd.U o n i)) _
theorem day_V (o n : Int) {d : Nat} {g : Nat → Int} (hg : ∀ h, sumR (pieceT d).length (fun i => (pieceT d).getD i 0 * g (h + i)) = 0) (h : Nat) : dayF o n (opV o n d g) h = - (keyM o n d * g h) := by
  have e1 : dayF o n (opV o n d g) h = sumR (pieceT d).length fun i => (pieceT d).getD i 0 * n ^ ((pieceT d).length - 1 - i) * dayF o n (opU o n i g) h := by
    show o * opV o n d g h + n * opV o n d g (h + 1) = _
    unfold opV
    rw [← sumR_mul, ← sumR_mul, ← sumR_add]
    refine sumR_congr fun i _ => ?_
    show _ = _ * (o * opU o n i g h + n * opU o n i g (h + 1))
    rw [Int.mul_add, Int.mul_left_comm o, Int.mul_left_comm n]
  have e2 : keyM o n d * g h = sumR (pieceT d).length fun i => (pieceT d).getD i 0 * n ^ ((pieceT d).length - 1 - i) * ((0 - o) ^ i * g h) := by
    unfold keyM
    rw [Int.mul_comm, ← sumR_mul]
    refine sumR_congr fun i _ => ?_
    simp only [Int.mul_assoc, Int.mul_left_comm, Int.mul_comm]
  have e3 : (sumR (pieceT d).length fun i => (pieceT d).getD i 0 * n ^ ((pieceT d).length - 1 - i) * (n ^ i * g (h + i))) = n ^ ((pieceT d).length - 1) * sumR (pieceT d).length (fun i => (pieceT d).getD i 0 * g (h + i)) := by
    rw [← sumR_mul]
    refine sumR_congr fun i hi => ?_
    have e4 : n ^ ((pieceT d).length - 1) = n ^ ((pieceT d).length - 1 - i) * n ^ i := by rw [← Int.pow_add]; congr 1; omega
    rw [e4]
    simp only [Int.mul_assoc, Int.mul_left_comm, Int.mul_comm]
  have e5 : dayF o n (opV o n d g) h + keyM o n d * g h = n ^ ((pieceT d).length - 1) * sumR (pieceT d).length (fun i => (pieceT d).getD i 0 * g (h + i)) := by
    rw [e1, e2, ← e3, ← sumR_add]
    refine sumR_congr fun i _ => ?_
    rw [day_U, Int.mul_sub]
    omega
  rw [hg h, Int.mul_zero] at e5
  omega
/-- piece by piece, what makes the still ones go a day back -/
def still (o n : Int) (m d : Nat) : Prop := m % d = 0 ∧ (normM o n d).natAbs = 1
instance (o n : Int) (m d : Nat) : Decidable (still o n m d) := inferInstanceAs (Decidable (_ ∧ _))
def opB (o n : Int) (m : Nat) : Nat → (Nat → Int) → Nat → Int
  | 0 => fun _ _ => 0
  | l + 1 => fun f h => opB o n m l f h + (if still o n m (l + 1) then 0 - keyM o n (l + 1) else 0) * opV o n (l + 1) (fun x => f x + (-1) * dayF o n (opB o n m l f) x) h
theorem Wd.B (o n : Int) (m : Nat) : ∀ l, Wd (opB o n m l)
  | 0 => Wd.zero
  | l + 1 => Wd.add (Wd.B o n m l) (Wd.mul _ (Wd.comp (Wd.V o n (l + 1)) (Wd.add Wd.id (Wd.mul (-1) (Wd.comp (Wd.day o n) (Wd.B o n m l))))))
def opD (o n : Int) (m l : Nat) (f : Nat → Int) (x : Nat) : Int := f x + (-1) * dayF o n (opB o n m l f) x
theorem Wd.D (o n : Int) (m l : Nat) : Wd (opD o n m l) := Wd.add Wd.id (Wd.mul (-1) (Wd.comp (Wd.day o n) (Wd.B o n m l)))
theorem B_still {o n : Int} {m : Nat} {d : Nat} (hd : 0 < d) (h9 : d ≤ 9) (hs : still o n m d) : ∀ l, d ≤ l → ∀ h, opD o n m l (C d) h = 0
  | 0, hl, _ => by omega
  | l + 1, hl, h => by
    have e0 : opD o n m (l + 1) (C d) h = opD o n m l (C d) h - (if still o n m (l + 1) then 0 - keyM o n (l + 1) else 0) * dayF o n (opV o n (l + 1) (opD o n m l (C d))) h := by
      show C d h + (-1) * (o * (opB o n m l (C d) h + _ * opV o n (l + 1) (opD o n m l (C d)) h) + n * (opB o n m l (C d) (h + 1) + _ * opV o n (l + 1) (opD o n m l (C d)) (h + 1))) = C d h + (-1) * (o * opB o n m l (C d) h + n * opB o n m l (C d) (h + 1)) - _ * (o * opV o n (l + 1) (opD o n m l (C d)) h + n * opV o n (l + 1) (opD o n m l (C d)) (h + 1))
      generalize (if still o n m (l + 1) then 0 - keyM o n (l + 1) else 0) = K
      generalize opV o n (l + 1) (opD o n m l (C d)) h = v
      generalize opV o n (l + 1) (opD o n m l (C d)) (h + 1) = v'
      generalize opB o n m l (C d) h = b
      generalize opB o n m l (C d) (h + 1) = b'
      simp only [Int.mul_add]
      rw [Int.mul_left_comm o K, Int.mul_left_comm n K]
      omega
    by_cases q : d ≤ l
    · have z := B_still hd h9 hs l q
      rw [e0, z h]
      have : dayF o n (opV o n (l + 1) (opD o n m l (C d))) h = 0 := (Wd.comp (Wd.day o n) (Wd.V o n (l + 1))).at0 z h
      rw [this]
      omega
    · have e : d = l + 1 := by omega
      subst e
      have hg : ∀ h, sumR (pieceT (l + 1)).length (fun i => (pieceT (l + 1)).getD i 0 * opD o n m l (C (l + 1)) (h + i)) = 0 := fun h => by
        have c := (Wd.actW (pieceT (l + 1))).comm (Wd.D o n m l) (C (l + 1)) h
        refine Eq.trans c ?_
        exact (Wd.D o n m l).at0 (fun x => C_piece hd h9 x) h
      rw [e0, day_V o n hg, if_pos hs]
      have hk : (keyM o n (l + 1)).natAbs = 1 := by rw [← norm_key]; exact hs.2
      have hk2 := sq1 hk
      rw [Int.mul_neg, Int.zero_sub, Int.neg_mul, Int.neg_neg, ← Int.mul_assoc, hk2]
      omega
/-- all stirred pieces divide it -/
def Endl (o n : Int) (r : List Int) : Prop := ∀ d, 0 < d → d ≤ r.length → r.length % d = 0 → (normM o n d).natAbs ≠ 1 → Kill d r
theorem act_C {m d : Nat} (h0 : 0 < m) (h9 : m ≤ 9) (hd : 0 < d) (hmd : m % d = 0) {T : (Nat → Int) → Nat → Int} (hT : Wd T) (hz : ∀ h, T (C d) h = 0) {f : Nat → Int} (hf : Per m f) (h : Nat) : act m (ramT m d) (T f) h = 0 := by
  have c := (Wd.act m (ramT m d)).comm hT f h
  rw [c]
  have hQ : Wd (fun g x => sumR m fun k => f k * g (x + (m - 1) * k)) := Wd.sum (G := fun k g x => f k * g (x + (m - 1) * k)) (fun k => Wd.mul _ (Wd.shk _)) m
  rw [Wd.congr (T := T) (fun x => act_flipC h0 h9 hd hmd hf x) h]
  have c2 := hT.comm hQ (C d) h
  exact c2.trans (hQ.at0 hz h)
theorem nul_fin : (([1, -1] : List Int).all fun o => ([1, -1] : List Int).all fun n => (List.range 10).all fun m => m == 0 || decide (divM o n m ≠ 0) || (([1, 2] : List Nat).any fun d => decide (d ≤ m) && decide (m % d = 0) && decide ((normM o n d).natAbs ≠ 1) && (List.range m).all fun g => decide (wtM o n m g = o ^ (m - 1) * C d g))) = true := by decide +kernel
theorem endl_w {o n : Int} (R : RuleC o n) {e : List Int} (h0 : 0 < e.length) (h9 : e.length ≤ 9) (hD : divM o n e.length = 0) (hE : Endl o n e) : wM o n e 0 = 0 := by
  obtain ⟨h1, h2⟩ := (cop_at R h0 h9).2 hD
  have a1 : o ∈ ([1, -1] : List Int) := by have : o = 1 ∨ o = -1 := by omega
                                           rcases this with rfl | rfl <;> decide
  have a2 : n ∈ ([1, -1] : List Int) := by have : n = 1 ∨ n = -1 := by omega
                                           rcases this with rfl | rfl <;> decide
  have q := List.all_eq_true.mp (List.all_eq_true.mp (List.all_eq_true.mp nul_fin o a1) n a2) e.length (List.mem_range.mpr (by omega))
  simp only [Bool.or_eq_true, beq_iff_eq, decide_eq_true_eq, List.any_eq_true, Bool.and_eq_true, List.all_eq_true] at q
  rcases q with (q | q) | ⟨d, hd, ⟨⟨q1, q2⟩, q3⟩, q4⟩
  · omega
  · exact absurd hD q
  · have hd0 : 0 < d := by simp at hd; omega
    have k := (kill_C h0 h9 hd0 q2).mp (hE d hd0 q1 q2 q3) 0
    unfold wM
    have e1 : (sumR e.length fun g => wtM o n e.length g * F e (0 + g)) = o ^ (e.length - 1) * actW e (C d) 0 := by
      unfold actW
      rw [← sumR_mul]
      refine sumR_congr fun g hg => ?_
      rw [q4 g (List.mem_range.mpr hg), Nat.zero_add, F_at _ _ hg, Int.mul_assoc, Int.mul_comm (e.getD g 0)]
    rw [e1, k, Int.mul_zero]
theorem endl_elder {o n : Int} (R : RuleC o n) {r : List Int} (h0 : 0 < r.length) (h9 : r.length ≤ 9) (hE : Endl o n r) : ∃ e, elderM o n r = some e ∧ Endl o n e := by
  have hD := Wd.D o n r.length r.length
  have hB := Wd.B o n r.length r.length
  have hF : Per r.length (F r) := F_per r
  have z : ∀ h, opD o n r.length r.length (F r) h = 0 := all_kill h0 h9 (hD.per hF) fun d hd hdm hmd h => by
    by_cases q : (normM o n d).natAbs = 1
    · exact act_C h0 h9 hd hmd hD (B_still hd (by omega) ⟨hmd, q⟩ _ hdm) hF h
    · rw [(Wd.act r.length (ramT r.length d)).comm hD (F r) h]
      exact hD.at0 (hE d hd hdm hmd q) h
  have hl : (tab r.length (opB o n r.length r.length (F r))).length = r.length := tab_len _ _
  have hFe : ∀ h, F (tab r.length (opB o n r.length r.length (F r))) h = opB o n r.length r.length (F r) h := fun h => F_tab h0 (hB.per hF) h
  have hd : dayM o n (tab r.length (opB o n r.length r.length (F r))) = r := ring_ext (by rw [dayM_len, hl]) fun h _ => by
    rw [F_day, hFe, hFe]
    have z := z h
    have z : F r h + (-1) * (o * opB o n r.length r.length (F r) h + n * opB o n r.length r.length (F r) (h + 1)) = 0 := z
    omega
  have hEe : Endl o n (tab r.length (opB o n r.length r.length (F r))) := fun d hd0 hdm hmd hs h => by
    rw [hl] at hdm hmd
    rw [hl, show F (tab r.length (opB o n r.length r.length (F r))) = opB o n r.length r.length (F r) from funext hFe, (Wd.act r.length (ramT r.length d)).comm hB (F r) h]
    exact hB.at0 (hE d hd0 hdm hmd hs) h
  refine ⟨_, ?_, hEe⟩
  have := elder_back R (by rw [hl]; exact h0) (by rw [hl]; exact h9) fun q => endl_w R (by rw [hl]; exact h0) (by rw [hl]; exact h9) q hEe
  rw [hd] at this
  exact this
end DL
/-! MH: words on the roots' sums have no divisors of nought -/
namespace DL
/-- a step less e times -/
def opP (e : Int) (f : Nat → Int) (h : Nat) : Int := f (h + 1) + (-e) * f h
theorem Wd.P (e : Int) : Wd (opP e) := Wd.add (Wd.sh Wd.id) (Wd.mul (-e) Wd.id)
theorem opP_lin (e a b : Int) (f g : Nat → Int) (h : Nat) : opP e (fun x => a * f x + b * g x) h = a * opP e f h + b * opP e g h := (Wd.P e).lin a b f g h
theorem Wd.div (e : Int) {T : (Nat → Int) → Nat → Int} (hT : Wd T) : ∃ (a : Int) (U : (Nat → Int) → Nat → Int), Wd U ∧ ∀ f h, T f h = a * f h + opP e (U f) h := by
  induction hT with
  | zero => exact ⟨0, _, Wd.zero, fun f h => by show (0 : Int) = 0 * f h + (0 + (-e) * 0); omega⟩
  | id => exact ⟨1, _, Wd.zero, fun f h => by show f h = 1 * f h + (0 + (-e) * 0); omega⟩
  | add _ _ p q =>
    obtain ⟨a, U, hU, p⟩ := p
    obtain ⟨b, V, hV, q⟩ := q
    refine ⟨a + b, _, Wd.add hU hV, fun f h => ?_⟩
    show _ + _ = (a + b) * f h + ((U f (h + 1) + V f (h + 1)) + (-e) * (U f h + V f h))
    rw [p, q, Int.add_mul, Int.mul_add]
    show a * f h + (U f (h + 1) + (-e) * U f h) + (b * f h + (V f (h + 1) + (-e) * V f h)) = _
    omega
  | mul c _ p =>
    obtain ⟨a, U, hU, p⟩ := p
    refine ⟨c * a, _, Wd.mul c hU, fun f h => ?_⟩
    show c * _ = c * a * f h + (c * U f (h + 1) + (-e) * (c * U f h))
    rw [p, Int.mul_add, Int.mul_assoc, Int.mul_left_comm (-e), ← Int.mul_add c (U f (h + 1))]
    rfl
  | @sh T1 _ p =>
    obtain ⟨a, U, hU, p⟩ := p
    refine ⟨a * e, _, Wd.add (Wd.mul a Wd.id) (Wd.sh hU), fun f h => ?_⟩
    show T1 f (h + 1) = a * e * f h + ((a * f (h + 1) + U f (h + 1 + 1)) + (-e) * (a * f h + U f (h + 1)))
    rw [p]
    show a * f (h + 1) + (U f (h + 1 + 1) + (-e) * U f (h + 1)) = _
    have e6 : (-e) * (a * f h) = -(a * e * f h) := by rw [Int.neg_mul, Int.mul_left_comm, Int.mul_assoc]
    rw [Int.mul_add (-e), e6]
    omega
structure Loc (d : Nat) (p e : Int) : Prop where
  pr : ∀ a b : Int, p ∣ a * b → p ∣ a ∨ p ∣ b
  p2 : 2 ≤ p
  ga : ∃ G, Wd G ∧ ∀ h, p * C d h = opP e (G (C d)) h
  et : ∃ G q, Wd G ∧ ∀ h, itW (opP e) q (C d) h = p * G (C d) h
  la : ∃ (L : (Nat → Int) → Nat → Int) (q : Int), Wd L ∧ (∀ h, q ∣ opP e (L (C d)) h) ∧ ∀ a, q ∣ a * L (C d) 0 → p ∣ a
theorem big0 {p x : Int} (hp : 2 ≤ p) (h : ∀ k : Nat, p ^ k ∣ x) : x = 0 := by
  by_cases q : x = 0
  · exact q
  · exfalso
    have h1 := Int.natAbs_dvd_natAbs.mpr (h x.natAbs)
    have h2 := Nat.le_of_dvd (by omega) h1
    rw [Int.natAbs_pow] at h2
    have h3 : 2 ^ x.natAbs ≤ p.natAbs ^ x.natAbs := Nat.pow_le_pow_left (by omega) _
    have h4 := Nat.lt_two_pow_self (n := x.natAbs)
    omega
theorem itW_add (T : (Nat → Int) → Nat → Int) (f : Nat → Int) (a : Nat) : ∀ b, itW T (b + a) f = itW T b (itW T a f)
  | 0 => by rw [Nat.zero_add]; rfl
  | b + 1 => by rw [Nat.add_right_comm]; show T (itW T (b + a) f) = T (itW T b (itW T a f)); rw [itW_add T f a b]
theorem itW_out (T : (Nat → Int) → Nat → Int) (f : Nat → Int) (k : Nat) : itW T (k + 1) f = itW T k (T f) := itW_add T f 1 k
section
variable {d : Nat} {p e : Int}
theorem Loc.ev (L : Loc d p e) {a : Int} {U : (Nat → Int) → Nat → Int} (hU : Wd U) (hz : ∀ h, a * C d h + opP e (U (C d)) h = 0) : p ∣ a := by
  obtain ⟨Λ, q, hΛ, h1, h2⟩ := L.la
  refine h2 a ?_
  have z := hΛ.at0 hz 0
  have e1 : Λ (fun h => a * C d h + opP e (U (C d)) h) 0 = a * Λ (C d) 0 + Λ (opP e (U (C d))) 0 := by
    have := hΛ.lin a 1 (C d) (opP e (U (C d))) 0
    rw [show (fun h => a * C d h + opP e (U (C d)) h) = fun x => a * C d x + 1 * opP e (U (C d)) x by funext x; omega, this]
    omega
  rw [e1] at z
  have e2 : Λ (opP e (U (C d))) 0 = U (opP e (Λ (C d))) 0 := by
    rw [(Wd.comp hΛ (Wd.P e)).comm hU (C d) 0]
    exact Wd.congr (T := U) (fun h => hΛ.comm (Wd.P e) (C d) h) 0
  have e3 : q ∣ Λ (opP e (U (C d))) 0 := by rw [e2]; exact hU.dvd h1 0
  have e4 : a * Λ (C d) 0 = -Λ (opP e (U (C d))) 0 := by omega
  rw [e4]
  exact Int.dvd_neg.mpr e3
theorem Loc.inj (L : Loc d p e) {X : (Nat → Int) → Nat → Int} (hX : Wd X) (hz : ∀ h, opP e (X (C d)) h = 0) (h : Nat) : X (C d) h = 0 := by
  obtain ⟨G, hG, g⟩ := L.ga
  have e1 : p * X (C d) h = 0 := by
    have a1 := hX.lin p 0 (C d) (C d) h
    have a2 : X (fun x => p * C d x + 0 * C d x) h = X (opP e (G (C d))) h := Wd.congr (T := X) (fun x => by rw [← g x]; omega) h
    have a3 : X (opP e (G (C d))) h = G (opP e (X (C d))) h := by
      rw [hX.comm (Wd.comp (Wd.P e) hG) (C d) h, (Wd.P e).comm hG (X (C d)) h]
    have a4 := hG.at0 hz h
    omega
  rcases Int.mul_eq_zero.mp e1 with q | q
  · have := L.p2; omega
  · exact q
theorem Loc.injk (L : Loc d p e) {X : (Nat → Int) → Nat → Int} (hX : Wd X) : ∀ k, (∀ h, itW (opP e) k (X (C d)) h = 0) → ∀ h, X (C d) h = 0
  | 0, hz => hz
  | k + 1, hz => by
    have c : itW (opP e) (k + 1) (X (C d)) = opP e (itW (opP e) k (X (C d))) := rfl
    exact Loc.injk L hX k fun h => Loc.inj L (Wd.comp (Wd.it (Wd.P e) k) hX) (fun h => hz h) h
theorem Loc.split (L : Loc d p e) {T : (Nat → Int) → Nat → Int} (hT : Wd T) : (∀ h, T (C d) h = 0) ∨ ∃ (k : Nat) (a : Int) (U : (Nat → Int) → Nat → Int), Wd U ∧ ¬ p ∣ a ∧ ∀ h, T (C d) h = itW (opP e) k (fun x => a * C d x + opP e (U (C d)) x) h := by
  by_cases q : ∃ (k : Nat) (a : Int) (U : (Nat → Int) → Nat → Int), Wd U ∧ ¬ p ∣ a ∧ ∀ h, T (C d) h = itW (opP e) k (fun x => a * C d x + opP e (U (C d)) x) h
  · exact Or.inr q
  · left
    have all : ∀ k, ∃ V, Wd V ∧ ∀ h, T (C d) h = itW (opP e) k (V (C d)) h := fun k => by
      induction k with
      | zero => exact ⟨T, hT, fun h => rfl⟩
      | succ k ih =>
        obtain ⟨V, hV, hv⟩ := ih
        obtain ⟨a, U, hU, hu⟩ := Wd.div e hV
        have hv2 : V (C d) = fun x => a * C d x + opP e (U (C d)) x := funext fun x => hu (C d) x
        by_cases c : p ∣ a
        · obtain ⟨b, rfl⟩ := c
          obtain ⟨G, hG, g⟩ := L.ga
          refine ⟨_, Wd.add (Wd.mul b hG) hU, fun h => ?_⟩
          rw [hv h, itW_out]
          congr 1
          rw [hv2]
          funext x
          show p * b * C d x + opP e (U (C d)) x = (b * G (C d) (x + 1) + U (C d) (x + 1)) + (-e) * (b * G (C d) x + U (C d) x)
          have g := g x
          have g : p * C d x = G (C d) (x + 1) + (-e) * G (C d) x := g
          rw [Int.mul_comm p b, Int.mul_assoc, g, Int.mul_add, Int.mul_add, Int.mul_left_comm (-e) b]
          show _ + (U (C d) (x + 1) + (-e) * U (C d) x) = _
          omega
        · exact absurd ⟨k, a, U, hU, c, fun h => by rw [hv h, hv2]⟩ q
    obtain ⟨G, n, hG, g⟩ := L.et
    have pw : ∀ K h, itW (opP e) (n * K) (C d) h = p ^ K * itW G K (C d) h := fun K => by
      induction K with
      | zero => intro h; rw [Nat.mul_zero, Int.pow_zero, Int.one_mul]; rfl
      | succ K ih =>
        intro h
        rw [Nat.mul_succ, Nat.add_comm, itW_add]
        rw [show itW (opP e) (n * K) (C d) = fun x => p ^ K * itW G K (C d) x + 0 * C d x by funext x; rw [ih x]; omega]
        rw [((Wd.P e).it n).lin (p ^ K) 0 (itW G K (C d)) (C d) h]
        rw [((Wd.P e).it n).comm (hG.it K) (C d) h]
        rw [Wd.congr (T := itW G K) (g := fun x => p * G (C d) x + 0 * C d x) (fun x => by rw [g x]; omega) h, (hG.it K).lin, (hG.it K).comm hG (C d) h, Int.pow_succ, Int.mul_assoc]
        show _ = _ * (_ * G (itW G K (C d)) h)
        simp only [Int.zero_mul, Int.add_zero]
    intro h
    refine big0 L.p2 fun K => ?_
    obtain ⟨V, hV, hv⟩ := all (n * K)
    rw [hv h, ((Wd.P e).it (n * K)).comm hV (C d) h]
    exact hV.dvd (fun x => by rw [pw K x]; exact Int.dvd_mul_right _ _) h
theorem Loc.dom (L : Loc d p e) {T U : (Nat → Int) → Nat → Int} (hT : Wd T) (hU : Wd U) (hz : ∀ h, T (U (C d)) h = 0) : (∀ h, T (C d) h = 0) ∨ ∀ h, U (C d) h = 0 := by
  rcases L.split hT with q | ⟨k, a, T', hT', ha, ht⟩
  · exact Or.inl q
  rcases L.split hU with q | ⟨l, b, U', hU', hb, hu⟩
  · exact Or.inr q
  exfalso
  have wt : Wd (fun f x => a * f x + opP e (T' f) x) := Wd.add (Wd.mul a Wd.id) (Wd.comp (Wd.P e) hT')
  have wu : Wd (fun f x => b * f x + opP e (U' f) x) := Wd.add (Wd.mul b Wd.id) (Wd.comp (Wd.P e) hU')
  have e1 : ∀ h, itW (opP e) (l + k) ((fun f => (fun f x => b * f x + opP e (U' f) x) ((fun f x => a * f x + opP e (T' f) x) f)) (C d)) h = 0 := fun h => by
    have z := hz h
    rw [hT.comm hU (C d) h, show T (C d) = itW (opP e) k ((fun f x => a * f x + opP e (T' f) x) (C d)) from funext ht, hU.comm (Wd.comp ((Wd.P e).it k) wt) (C d) h] at z
    rw [show U (C d) = itW (opP e) l ((fun f x => b * f x + opP e (U' f) x) (C d)) from funext hu] at z
    rw [Nat.add_comm l k, itW_add]
    rw [← z]
    refine Wd.congr (T := itW (opP e) k) (fun x => ?_) h
    have c1 := ((Wd.P e).it l).comm wt ((fun f x => b * f x + opP e (U' f) x) (C d)) x
    have c2 := Wd.congr (T := itW (opP e) l) (fun y => wu.comm wt (C d) y) x
    exact c2.trans c1
  have e2 := L.injk (Wd.comp wu wt) (l + k) e1
  have e3 : ∀ h, b * a * C d h + opP e ((fun f x => b * T' f x + U' (fun y => a * f y + opP e (T' f) y) x) (C d)) h = 0 := fun h => by
    have z := e2 h
    have z : b * (a * C d h + opP e (T' (C d)) h) + opP e (U' (fun y => a * C d y + opP e (T' (C d)) y)) h = 0 := z
    show b * a * C d h + ((b * T' (C d) (h + 1) + U' (fun y => a * C d y + opP e (T' (C d)) y) (h + 1)) + (-e) * (b * T' (C d) h + U' (fun y => a * C d y + opP e (T' (C d)) y) h)) = 0
    rw [← z, Int.mul_add, Int.mul_add, Int.mul_assoc]
    show _ = b * (a * C d h) + b * (T' (C d) (h + 1) + (-e) * T' (C d) h) + (U' (fun y => a * C d y + opP e (T' (C d)) y) (h + 1) + (-e) * U' (fun y => a * C d y + opP e (T' (C d)) y) h)
    rw [Int.mul_add b (T' (C d) (h + 1)), Int.mul_left_comm (-e) b]
    omega
  have hw : Wd (fun f x => b * T' f x + U' (fun y => a * f y + opP e (T' f) y) x) := Wd.add (Wd.mul b hT') (Wd.comp hU' wt)
  rcases L.pr _ _ (L.ev hw e3) with q | q
  · exact hb q
  · exact ha q
end
end DL
/-! MI: a ring that is not endless has an oldest -/
namespace DL
/-! the places at which a piece is looked at -/
def loP (d : Nat) : Nat := ([0, 0, 0, 3, 2, 5, 3, 7, 2, 3] : List Nat).getD d 0
def loE (d : Nat) : Int := if d = 2 ∨ d = 6 then -1 else 1
def loW (d : Nat) : Int := ([1, 1, 1, 1, 2, 1, 1, 1, 4, 3] : List Int).getD d 0
def loG (d : Nat) : List Int := ([[], [], [], [-2, -1], [-1, -1], [-4, -3, -2, -1], [2, -1], [-6, -5, -4, -3, -2, -1], [-1, -1, -1, -1], [-2, -2, -2, -1, -1, -1]] : List (List Int)).getD d []
def loH (d : Nat) : List Int := ([[], [], [], [0, -1, 0], [0, -1, 0], [0, -1, 1, -1, 0], [0, 1, 0], [0, -1, 2, -3, 2, -1, 0], [0, -2, 3, -2, 0], [0, -2, 5, -7, 5, -2, 0]] : List (List Int)).getD d []
def loL (d : Nat) : List Int := List.replicate (loW d).toNat 1
theorem lo_fin : ((List.range 10).all fun d => decide (d < 3) || (decide (2 ≤ loP d) && (List.range (loP d)).all (fun x => x == 0 || Nat.gcd x (loP d) == 1) && (List.range d).all (fun h => decide ((loP d : Int) * C d h = opP (loE d) (actW (loG d) (C d)) h) && decide (itW (opP (loE d)) ((pieceT d).length - 1) (C d) h = (loP d : Int) * actW (loH d) (C d) h) && decide ((loP d : Int) * loW d ∣ opP (loE d) (actW (loL d) (C d)) h)) && decide (0 < loW d) && decide (loW d ∣ actW (loL d) (C d) 0) && decide (¬ (loP d : Int) ∣ actW (loL d) (C d) 0 / loW d))) = true := by decide +kernel
theorem pr_of {p : Nat} (hc : ∀ x, x < p → x ≠ 0 → Nat.gcd x p = 1) (h0 : 0 < p) (a b : Int) (h : (p : Int) ∣ a * b) : (p : Int) ∣ a ∨ (p : Int) ∣ b := by
  rw [Int.ofNat_dvd_left, Int.natAbs_mul] at h
  by_cases q : a.natAbs % p = 0
  · left
    rw [Int.ofNat_dvd_left]
    exact Nat.dvd_of_mod_eq_zero q
  · right
    rw [Int.ofNat_dvd_left]
    have e : Nat.gcd p a.natAbs = 1 := by rw [Nat.gcd_rec]; exact hc _ (Nat.mod_lt _ h0) q
    exact Nat.Coprime.dvd_of_dvd_mul_left e h
theorem per_all {d : Nat} (hd : 0 < d) {f g : Nat → Int} (hf : Per d f) (hg : Per d g) (e : ∀ h, h < d → f h = g h) (h : Nat) : f h = g h := by
  rw [← per_mod hf h, ← per_mod hg h]
  exact e _ (Nat.mod_lt _ hd)
theorem loc_of {d : Nat} (hd : 3 ≤ d) (h9 : d ≤ 9) : Loc d (loP d) (loE d) := by
  have q := List.all_eq_true.mp lo_fin d (List.mem_range.mpr (by omega))
  simp only [Bool.or_eq_true, Bool.and_eq_true, decide_eq_true_eq, List.all_eq_true, List.mem_range, beq_iff_eq] at q
  rcases q with q | ⟨⟨⟨⟨⟨q1, q2⟩, q3⟩, q4⟩, q5⟩, q6⟩
  · omega
  have hc : ∀ x, x < loP d → x ≠ 0 → Nat.gcd x (loP d) = 1 := fun x h1 h2 => by
    rcases q2 x h1 with z | z
    · exact absurd z h2
    · exact z
  have pC := C_per d
  refine ⟨pr_of hc (by omega), by omega, ⟨actW (loG d), Wd.actW _, per_all (by omega) (fun h => by show _ = _; rw [pC h]) (((Wd.P _).comp (Wd.actW _)).per pC) fun h hh => (q3 h hh).1.1⟩,
    ⟨actW (loH d), (pieceT d).length - 1, Wd.actW _, per_all (by omega) (((Wd.P _).it _).per pC) ((Wd.mul _ (Wd.actW _)).per pC) fun h hh => (q3 h hh).1.2⟩,
    ⟨actW (loL d), (loP d : Int) * loW d, Wd.actW _, fun h => ?_, fun a ha => ?_⟩⟩
  · have p1 := ((Wd.P (loE d)).comp (Wd.actW (loL d))).per pC
    rw [← per_mod p1 h]
    exact (q3 _ (Nat.mod_lt _ (by omega))).2
  · obtain ⟨v, ev⟩ := q5
    rw [ev, Int.mul_ediv_cancel_left _ (by omega)] at q6
    rw [ev, Int.mul_left_comm, Int.mul_comm (loP d : Int)] at ha
    have := Int.dvd_of_mul_dvd_mul_left (by omega) ha
    rcases pr_of hc (by omega) _ _ this with z | z
    · exact z
    · exact absurd z q6
theorem dom12 {d : Nat} {e : Int} (hz : ∀ h, opP e (C d) h = 0) (h1 : C d 0 = 1) {T U : (Nat → Int) → Nat → Int} (hT : Wd T) (hU : Wd U) (h0 : ∀ h, T (U (C d)) h = 0) : (∀ h, T (C d) h = 0) ∨ ∀ h, U (C d) h = 0 := by
  obtain ⟨a, T', hT', ht⟩ := hT.div e
  obtain ⟨b, U', hU', hu⟩ := hU.div e
  have ht : ∀ h, T (C d) h = a * C d h := fun h => by
    rw [ht, (Wd.P e).comm hT' (C d) h, hT'.at0 hz h]
    omega
  have hu : ∀ h, U (C d) h = b * C d h := fun h => by
    rw [hu, (Wd.P e).comm hU' (C d) h, hU'.at0 hz h]
    omega
  have z := h0 0
  rw [Wd.congr (T := T) (g := fun x => b * C d x + 0 * C d x) (fun x => by rw [hu x]; omega) 0, hT.lin, ht 0, h1] at z
  simp only [Int.mul_one, Int.zero_mul, Int.add_zero] at z
  rcases Int.mul_eq_zero.mp z with q | q
  · right; intro h; rw [hu, q]; omega
  · left; intro h; rw [ht, q]; omega
theorem one_fin : (∀ h, h < 1 → opP 1 (C 1) h = 0) ∧ (∀ h, h < 2 → opP (-1) (C 2) h = 0) := by
  constructor
  · intro h hh
    have : h = 0 := by omega
    subst this
    decide
  · intro h hh
    have : h = 0 ∨ h = 1 := by omega
    rcases this with rfl | rfl <;> decide
theorem dom {d : Nat} (hd : 0 < d) (h9 : d ≤ 9) {T U : (Nat → Int) → Nat → Int} (hT : Wd T) (hU : Wd U) (h0 : ∀ h, T (U (C d)) h = 0) : (∀ h, T (C d) h = 0) ∨ ∀ h, U (C d) h = 0 := by
  have f := one_fin
  by_cases q : 3 ≤ d
  · exact (loc_of q h9).dom hT hU h0
  · have : d = 1 ∨ d = 2 := by omega
    rcases this with rfl | rfl
    · exact dom12 (per_all (by omega) ((Wd.P 1).per (C_per 1)) (fun h => rfl) f.1) (by decide) hT hU h0
    · exact dom12 (per_all (by omega) ((Wd.P (-1)).per (C_per 2)) (fun h => rfl) f.2) (by decide) hT hU h0
/-! conjugates -/
def jT (d : Nat) : List Nat := ([[], [1], [1], [1, 2], [1, 3], [1, 2, 3, 4], [1, 5], [1, 2, 3, 4, 5, 6], [1, 3, 5, 7], [1, 2, 4, 5, 7, 8]] : List (List Nat)).getD d []
def opA (o n : Int) (d : Nat) : List Nat → (Nat → Int) → Nat → Int
  | [] => fun f => f
  | j :: J => fun f h => o * opA o n d J f h + n * opA o n d J f (h + j * (d - 1))
theorem Wd.A (o n : Int) (d : Nat) : ∀ J, Wd (opA o n d J)
  | [] => Wd.id
  | j :: J => Wd.add (Wd.mul o (Wd.A o n d J)) (Wd.mul n (Wd.comp (Wd.shk (j * (d - 1))) (Wd.A o n d J)))
def eS (d : Nat) : List Nat → Nat → (Nat → Int) → Nat → Int
  | [], 0 => fun f => f
  | [], _ + 1 => fun _ _ => 0
  | j :: J, 0 => fun f h => eS d J 0 f (h + j * (d - 1))
  | j :: J, k + 1 => fun f h => eS d J k f h + eS d J (k + 1) f (h + j * (d - 1))
theorem eS_top (d : Nat) (f : Nat → Int) : ∀ (J : List Nat) (k h : Nat), J.length < k → eS d J k f h = 0
  | [], 0, _, q => absurd q (by simp)
  | [], _ + 1, _, _ => rfl
  | j :: J, 0, _, q => absurd q (by simp)
  | j :: J, k + 1, h, q => by
    have q : J.length + 1 < k + 1 := q
    show eS d J k f h + eS d J (k + 1) f (h + j * (d - 1)) = 0
    rw [eS_top d f J k h (by omega), eS_top d f J (k + 1) _ (by omega)]
    rfl
theorem opA_eS (o n : Int) (d : Nat) (f : Nat → Int) : ∀ (J : List Nat) (h : Nat), opA o n d J f h = sumR (J.length + 1) fun k => o ^ k * n ^ (J.length - k) * eS d J k f h
  | [], h => by
    show f h = sumR 1 fun k => o ^ k * n ^ (0 - k) * eS d [] k f h
    rw [sumR_succ, sumR_zero, Nat.sub_zero, Int.pow_zero, Int.pow_zero]
    show f h = 0 + 1 * 1 * f h
    omega
  | j :: J, h => by
    show o * opA o n d J f h + n * opA o n d J f (h + j * (d - 1)) = sumR (J.length + 1 + 1) fun k => o ^ k * n ^ (J.length + 1 - k) * eS d (j :: J) k f h
    generalize hs : h + j * (d - 1) = s
    rw [opA_eS o n d f J h, opA_eS o n d f J s, sumR_succ' (J.length + 1), ← sumR_mul, ← sumR_mul]
    have e1 : (sumR (J.length + 1) fun k => o ^ (k + 1) * n ^ (J.length + 1 - (k + 1)) * eS d (j :: J) (k + 1) f h) = (sumR (J.length + 1) fun k => o * (o ^ k * n ^ (J.length - k) * eS d J k f h)) + sumR (J.length + 1) fun k => o ^ (k + 1) * n ^ (J.length - k) * eS d J (k + 1) f s := by
      rw [← sumR_add]
      refine sumR_congr fun k _ => ?_
      show o ^ (k + 1) * n ^ (J.length + 1 - (k + 1)) * (eS d J k f h + eS d J (k + 1) f (h + j * (d - 1))) = _
      rw [hs, Nat.add_sub_add_right, Int.mul_add, Int.pow_succ, Int.mul_comm (o ^ k) o]
      simp only [Int.mul_assoc]
    have e2 : (sumR (J.length + 1) fun k => n * (o ^ k * n ^ (J.length - k) * eS d J k f s)) = o ^ 0 * n ^ (J.length + 1 - 0) * eS d J 0 f s + sumR (J.length + 1) fun k => o ^ (k + 1) * n ^ (J.length - k) * eS d J (k + 1) f s := by
      rw [sumR_succ', sumR_succ _ (fun k => o ^ (k + 1) * n ^ (J.length - k) * eS d J (k + 1) f s), eS_top d f J (J.length + 1) s (by omega), Int.mul_zero, Int.add_zero]
      congr 1
      · rw [Nat.sub_zero, Nat.sub_zero, Int.pow_succ, Int.mul_comm (n ^ J.length) n]
        simp only [Int.mul_assoc, Int.mul_left_comm]
      · refine sumR_congr fun k hk => ?_
        have : n ^ (J.length - k) = n * n ^ (J.length - (k + 1)) := by
          rw [show J.length - k = (J.length - (k + 1)) + 1 by omega, Int.pow_succ, Int.mul_comm]
        rw [this]
        simp only [Int.mul_assoc, Int.mul_left_comm]
    have e3 : eS d (j :: J) 0 f h = eS d J 0 f s := by show eS d J 0 f (h + j * (d - 1)) = _; rw [hs]
    rw [e1, e2, e3]
    omega
theorem sym_fin : ((List.range 10).all fun d => d == 0 || (decide ((jT d).length + 1 = (pieceT d).length) && (List.range (pieceT d).length).all (fun k => (List.range d).all fun h => decide (eS d (jT d) k (C d) h = (-1) ^ ((pieceT d).length - 1 - k) * (pieceT d).getD k 0 * C d h)) && (jT d).all (fun j => (List.range d).all fun h => decide (C d (j * h) = C d h)) && decide (C d 0 ≠ 0))) = true := by decide +kernel
theorem eS_per (d : Nat) {f : Nat → Int} {m : Nat} (hf : Per m f) : ∀ (J : List Nat) (k : Nat), Per m (eS d J k f)
  | [], 0 => hf
  | [], _ + 1 => fun _ => rfl
  | j :: J, 0 => fun h => by
    show eS d J 0 f (h + m + j * (d - 1)) = eS d J 0 f (h + j * (d - 1))
    rw [Nat.add_right_comm, eS_per d hf J 0]
  | j :: J, k + 1 => fun h => by
    show eS d J k f (h + m) + eS d J (k + 1) f (h + m + j * (d - 1)) = eS d J k f h + eS d J (k + 1) f (h + j * (d - 1))
    rw [Nat.add_right_comm h m, eS_per d hf J (k + 1), eS_per d hf J k]
theorem conj_norm (o n : Int) {d : Nat} (hd : 0 < d) (h9 : d ≤ 9) (h : Nat) : opA o n d (jT d) (C d) h = normM o n d * C d h := by
  have q := rng sym_fin hd h9
  simp only [Bool.and_eq_true, decide_eq_true_eq, List.all_eq_true, List.mem_range] at q
  obtain ⟨⟨⟨q1, q2⟩, q3⟩, q4⟩ := q
  have hs : ∀ k, k < (pieceT d).length → ∀ h, eS d (jT d) k (C d) h = (-1) ^ ((pieceT d).length - 1 - k) * (pieceT d).getD k 0 * C d h := fun k hk => per_all hd (eS_per d (C_per d) _ _) (fun h => by show _ = _; rw [C_per d h]) (q2 k hk)
  rw [opA_eS, q1]
  unfold normM
  rw [Int.mul_assoc, Int.mul_comm _ (C d h), ← sumR_mul, ← sumR_mul]
  refine sumR_congr fun k hk => ?_
  rw [hs k hk, show (jT d).length = (pieceT d).length - 1 by omega]
  have e1 : (0 - o) ^ k = (-1) ^ k * o ^ k := by rw [← Int.mul_pow]; congr 1; omega
  have e2 : ((-1 : Int)) ^ ((pieceT d).length - 1) = (-1) ^ ((pieceT d).length - 1 - k) * (-1) ^ k := by rw [← Int.pow_add]; congr 1; omega
  have e3 : ((-1 : Int)) ^ k * (-1) ^ k = 1 := pow_sq (by decide) k
  rw [e1, e2]
  generalize ((-1 : Int)) ^ ((pieceT d).length - 1 - k) = A at *
  generalize ((-1 : Int)) ^ k = B at *
  generalize o ^ k = X
  generalize n ^ ((pieceT d).length - 1 - k) = Y
  generalize (pieceT d).getD k 0 = P
  generalize C d h = Q
  have e4 : A * B * (Q * (P * (B * X) * Y)) = B * B * (X * Y * (A * P * Q)) := by simp only [Int.mul_assoc, Int.mul_left_comm, Int.mul_comm]
  rw [e4, e3, Int.one_mul]
def Ro (j : Nat) (r : List Int) (f : Nat → Int) (h : Nat) : Int := sumR r.length fun k => r.getD k 0 * f (h + j * k)
theorem Wd.Ro (j : Nat) (r : List Int) : Wd (Ro j r) := Wd.sum (G := fun k f h => r.getD k 0 * f (h + j * k)) (fun k => Wd.mul _ (Wd.shk _)) _
def opN (r : List Int) : List Nat → (Nat → Int) → Nat → Int
  | [] => fun f => f
  | j :: J => fun f => Ro j r (opN r J f)
theorem Wd.N (r : List Int) : ∀ J, Wd (opN r J)
  | [] => Wd.id
  | j :: J => show Wd (fun f => DL.Ro j r (opN r J f)) from Wd.comp (Wd.Ro j r) (Wd.N r J)
theorem per_mul {d : Nat} {f : Nat → Int} (hf : Per d f) (a : Nat) : ∀ q, f (a + d * q) = f a
  | 0 => rfl
  | q + 1 => by rw [Nat.mul_succ, ← Nat.add_assoc, hf, per_mul hf a q]
theorem Ro_day (o n : Int) (j : Nat) {e : List Int} {d : Nat} (hd : 0 < d) (hmd : e.length % d = 0) {f : Nat → Int} (hf : Per d f) (h : Nat) : Ro j (dayM o n e) f h = o * Ro j e f h + n * Ro j e f (h + j * (d - 1)) := by
  have hm : ∀ a x, f (a + e.length * x) = f a := fun a x => by
    obtain ⟨q, eq⟩ := Nat.dvd_of_mod_eq_zero hmd
    rw [eq, Nat.mul_assoc, per_mul hf]
  have key := sumR_shift1 e.length (fun k => F e k * f (h + j * (d - 1) + j * k)) (fun k => by
    show F e (k + e.length) * f (h + j * (d - 1) + j * (k + e.length)) = _
    rw [F_per, Nat.mul_add, ← Nat.add_assoc, Nat.mul_comm j e.length, hm])
  have e2 : Ro j e f (h + j * (d - 1)) = sumR e.length fun k => F e k * f (h + j * (d - 1) + j * k) := sumR_congr fun k hk => by rw [F_at _ _ hk]
  rw [e2, ← key]
  unfold Ro
  rw [dayM_len, ← sumR_mul, ← sumR_mul, ← sumR_add]
  refine sumR_congr fun k hk => ?_
  have e1 : (dayM o n e).getD k 0 = o * e.getD k 0 + n * F e (k + 1) := tab_get _ _ _ hk
  have e3 : f (h + j * (d - 1) + j * (k + 1)) = f (h + j * k) := by
    obtain ⟨d', rfl⟩ : ∃ d', d = d' + 1 := ⟨d - 1, by omega⟩
    rw [Nat.add_sub_cancel, show h + j * d' + j * (k + 1) = h + j * k + (d' + 1) * j by rw [Nat.mul_add, Nat.add_mul, Nat.mul_comm j d']; omega, per_mul hf]
  show _ = o * (e.getD k 0 * f (h + j * k)) + n * (F e (k + 1) * f (h + j * (d - 1) + j * (k + 1)))
  rw [e1, e3, Int.add_mul, Int.mul_assoc, Int.mul_assoc]
theorem opN_day (o n : Int) {e : List Int} {d : Nat} (hd : 0 < d) (hmd : e.length % d = 0) {f : Nat → Int} (hf : Per d f) : ∀ (J : List Nat) (h : Nat), opN (dayM o n e) J f h = opA o n d J (opN e J f) h
  | [], _ => rfl
  | j :: J, h => by
    have ih : opN (dayM o n e) J f = opA o n d J (opN e J f) := funext fun x => opN_day o n hd hmd hf J x
    show Ro j (dayM o n e) (opN (dayM o n e) J f) h = o * opA o n d J (Ro j e (opN e J f)) h + n * opA o n d J (Ro j e (opN e J f)) (h + j * (d - 1))
    rw [ih, Ro_day o n j hd hmd ((Wd.A o n d J).per ((Wd.N e J).per hf)), (Wd.Ro j e).comm (Wd.A o n d J), (Wd.Ro j e).comm (Wd.A o n d J)]
theorem opN_later (o n : Int) {s : List Int} {d : Nat} (hd : 0 < d) (h9 : d ≤ 9) (hmd : s.length % d = 0) : ∀ (k h : Nat), opN (laterM o n s k) (jT d) (C d) h = normM o n d ^ k * opN s (jT d) (C d) h
  | 0, h => by rw [Int.pow_zero, Int.one_mul]; rfl
  | k + 1, h => by
    have hl := laterM_len o n s k
    show opN (dayM o n (laterM o n s k)) (jT d) (C d) h = _
    rw [opN_day o n hd (by rw [hl]; exact hmd) (C_per d), (Wd.A o n d _).comm (Wd.N _ _), Wd.congr (T := opN (laterM o n s k) (jT d)) (g := fun x => normM o n d * C d x + 0 * C d x) (fun x => by rw [conj_norm o n hd h9 x]; omega) h, (Wd.N _ _).lin, opN_later o n hd h9 hmd k h, Int.pow_succ]
    simp only [Int.zero_mul, Int.mul_zero, Int.add_zero, Int.mul_assoc, Int.mul_left_comm, Int.mul_comm]
theorem opN_dom {d : Nat} (hd : 0 < d) (h9 : d ≤ 9) (r : List Int) : ∀ J, (∀ h, opN r J (C d) h = 0) → ∃ j ∈ J, ∀ h, Ro j r (C d) h = 0
  | [], hz => by
    have q := rng sym_fin hd h9
    simp only [Bool.and_eq_true, decide_eq_true_eq] at q
    exact absurd (hz 0) q.2
  | j :: J, hz => by
    rcases dom hd h9 (Wd.Ro j r) (Wd.N r J) hz with q | q
    · exact ⟨j, List.mem_cons_self, q⟩
    · obtain ⟨i, hi, z⟩ := opN_dom hd h9 r J q
      exact ⟨i, List.mem_cons_of_mem _ hi, z⟩
theorem Ro_kill {d : Nat} (hd : 0 < d) (h9 : d ≤ 9) {r : List Int} (h0 : 0 < r.length) (hl : r.length ≤ 9) (hmd : r.length % d = 0) {j : Nat} (hj : j ∈ jT d) (hz : ∀ h, Ro j r (C d) h = 0) : Kill d r := by
  rw [kill_C h0 hl hd hmd]
  intro h
  have q := rng sym_fin hd h9
  simp only [Bool.and_eq_true, decide_eq_true_eq, List.all_eq_true, List.mem_range] at q
  obtain ⟨⟨_, q3⟩, _⟩ := q
  have e : ∀ x, C d (j * x) = C d x := per_all hd (fun x => by show C d (j * (x + d)) = C d (j * x); rw [Nat.mul_add, Nat.mul_comm j d, C_add]) (C_per d) (q3 j hj)
  rw [← hz (j * h)]
  unfold actW Ro
  refine sumR_congr fun k _ => ?_
  rw [← Nat.mul_add, e]
theorem unend_endl {o n : Int} (R : RuleC o n) {r : List Int} (h0 : 0 < r.length) (hl : r.length ≤ 9) (hu : ∀ k, eldN o n r k ≠ none) : Endl o n r := fun d hd hdm hmd hs => by
  have dv : ∀ (k h : Nat), normM o n d ^ k ∣ opN r (jT d) (C d) h := fun k h => by
    cases q : eldN o n r k with
    | none => exact absurd q (hu k)
    | some s =>
      have e := eldN_later R h0 hl k s q
      have ls := eldN_len q
      have := opN_later o n hd (by omega) (s := s) (by rw [ls]; exact hmd) k h
      rw [e] at this
      rw [this]
      exact Int.dvd_mul_right _ _
  have hz : ∀ h, opN r (jT d) (C d) h = 0 := fun h => by
    by_cases q : normM o n d = 0
    · have := dv 1 h
      rw [q] at this
      exact dvd0 this
    · refine big0 (p := ((normM o n d).natAbs : Int)) (by omega) fun k => ?_
      have := Int.natAbs_dvd_natAbs.mpr (dv k h)
      rw [Int.natAbs_pow] at this
      refine Int.natAbs_dvd_natAbs.mp ?_
      rw [Int.natAbs_pow]
      exact this
  obtain ⟨j, hj, z⟩ := opN_dom hd (by omega) r _ hz
  exact Ro_kill hd (by omega) h0 hl hmd hj z
theorem old_of {o n : Int} {r : List Int} : ∀ k, eldN o n r k = none → ∃ j last, OldAt o n r j last
  | 0, h => by cases h
  | k + 1, h => by
    have h : (eldN o n r k).bind (elderM o n) = none := h
    cases q : eldN o n r k with
    | none => exact old_of k q
    | some s => rw [q] at h; exact ⟨k, s, q, h⟩
end DL
/-! MJ: the endless theorem -/
namespace DL
theorem Wd.sumf {X : (Nat → Int) → Nat → Int} (hX : Wd X) (g : Nat → Nat → Int) (h : Nat) : ∀ n, X (fun x => sumR n fun d => g d x) h = sumR n fun d => X (g d) h
  | 0 => hX.at0 (fun _ => rfl) h
  | n + 1 => by
    rw [sumR_succ, ← Wd.sumf hX g h n, Wd.congr (T := X) (g := fun x => 1 * (sumR n fun d => g d x) + 1 * g n x) (fun x => by rw [sumR_succ]; omega) h, hX.lin]
    omega
theorem sum_one {n a : Nat} {g : Nat → Int} (ha : a < n) (hz : ∀ k, k < n → k ≠ a → g k = 0) : sumR n g = g a := by
  induction n with
  | zero => omega
  | succ n ih =>
    rw [sumR_succ]
    by_cases q : a < n
    · rw [ih q fun k hk => hz k (by omega), hz n (by omega) (by omega)]
      omega
    · have : a = n := by omega
      subst this
      rw [(sumR_congr (g' := fun _ => 0) fun k hk => hz k (by omega) (by omega)).trans (sumR_const0 _)]
      omega
theorem ovL_len {by_ : List Int} (hb : 0 < by_.length) : ∀ (fu : Nat) (rest found : List Int), rest.length < fu → (ovL fu by_ rest found).2.length < by_.length
  | 0, _, _, h => by omega
  | fu + 1, rest, found, h => by
    unfold ovL
    by_cases q : by_.length ≤ rest.length
    · rw [if_pos q]
      exact ovL_len hb fu _ _ (by rw [ovStep_len]; omega)
    · rw [if_neg q]
      show rest.length < by_.length
      omega
theorem endl_quo {o n : Int} {r : List Int} (h0 : 0 < r.length) (h9 : r.length ≤ 9) (hE : Endl o n r) : quoW o n r ≠ none := by
  generalize hm : r.length = m at h0 h9
  have eS : stirM o n m = stirB (fun j => decide ((normM o n j).natAbs ≠ 1)) m m := stirL_B o n m m
  have SF := set_facts (fun j => decide ((normM o n j).natAbs ≠ 1)) h0 h9
  generalize hS : stirB (fun j => decide ((normM o n j).natAbs ≠ 1)) m m = S at *
  generalize hT : stirB (fun j => !decide ((normM o n j).natAbs ≠ 1)) m m = T at *
  have l1 : S.length + T.length = m + 2 := by have := SF.len; rw [hS, hT] at this; exact this
  have s1 : S.getD (S.length - 1) 0 = 1 := by have := SF.s1; rw [hS] at this; exact this
  have t1 : T.getD (T.length - 1) 0 = 1 := by have := SF.t1; rw [hT] at this; exact this
  have s0 : 0 < S.length := by have := SF.s0; rw [hS] at this; exact this
  have t0 : 0 < T.length := by have := SF.t0; rw [hT] at this; exact this
  have eR : ∀ d, 0 < d → m % d = 0 → F (ramT m d) = C d := fun d hd hmd => funext fun h => F_ram h0 h9 hd hmd h
  have kS : ∀ d, 0 < d → d ≤ m → m % d = 0 → (normM o n d).natAbs ≠ 1 → ∀ h, actW S (C d) h = 0 := fun d hd hdm hmd hn h => by
    rw [← hS, ← eR d hd hmd]
    exact set_kill h0 h9 hd hdm hmd (decide_eq_true hn) h
  have kT : ∀ d, 0 < d → d ≤ m → m % d = 0 → ¬ (normM o n d).natAbs ≠ 1 → ∀ h, actW T (C d) h = 0 := fun d hd hdm hmd hn h => by
    rw [← hT, ← eR d hd hmd]
    refine set_kill (b := fun j => !decide ((normM o n j).natAbs ≠ 1)) h0 h9 hd hdm hmd ?_ h
    show (!decide ((normM o n d).natAbs ≠ 1)) = true
    rw [decide_eq_false hn]
    rfl
  generalize hc : (overM r S).2 = c
  have lc : c.length < S.length := by rw [← hc]; exact ovL_len s0 _ _ _ (by omega)
  have z1 : ∀ d, 0 < d → d ≤ m → m % d = 0 → ∀ h, actW T (actW c (C d)) h = 0 := fun d hd hdm hmd h => by
    by_cases q : (normM o n d).natAbs ≠ 1
    · refine (Wd.actW T).at0 (fun x => ?_) h
      rw [← hc]
      refine (actW_over s0 s1 (kS d hd hdm hmd q) _ _ _ x).trans ?_
      have k := hE d hd (by omega) (by rw [hm]; exact hmd) q
      exact (kill_C (by omega) (by omega) hd (by rw [hm]; exact hmd)).mp k x
    · rw [(Wd.actW T).comm (Wd.actW c)]
      exact (Wd.actW c).at0 (kT d hd hdm hmd q) h
  have z2 : ∀ h, actW T (actW c (fun x => if x % m = 0 then (m : Int) else 0)) h = 0 := fun h => by
    have hw : Wd (fun f => actW T (actW c f)) := Wd.comp (Wd.actW T) (Wd.actW c)
    have e := hw.sumf (fun d x => if d ≠ 0 ∧ m % d = 0 then C d x else 0) h 10
    have e2 : (fun x => sumR 10 fun d => (fun d x => if d ≠ 0 ∧ m % d = 0 then C d x else 0) d x) = fun x => if x % m = 0 then (m : Int) else 0 := funext fun x => C_sum h0 h9 x
    rw [e2] at e
    refine e.trans ((sumR_congr (g' := fun _ => 0) fun d _ => ?_).trans (sumR_const0 _))
    by_cases q : d ≠ 0 ∧ m % d = 0
    · have e3 : (fun x => if d ≠ 0 ∧ m % d = 0 then C d x else 0) = C d := funext fun x => if_pos q
      show actW T (actW c (fun x => if d ≠ 0 ∧ m % d = 0 then C d x else 0)) h = 0
      rw [e3]
      exact z1 d (by omega) (Nat.le_of_dvd h0 (Nat.dvd_of_mod_eq_zero q.2)) q.2 h
    · exact hw.at0 (fun x => if_neg q) h
  have z3 : ∀ q k, c.length - q ≤ k → c.getD k 0 = 0 := fun q => by
    induction q with
    | zero => intro k hk; exact getD_out c k (by omega)
    | succ q ih =>
      intro k hk
      by_cases w : c.length - q ≤ k
      · exact ih k w
      · obtain ⟨t, ht⟩ : ∃ t, T.length = t + 1 := ⟨T.length - 1, by omega⟩
        have kc : k < c.length := by omega
        have z := z2 (m - (k + t))
        have inn : ∀ i, i ≤ t → actW c (fun x => if x % m = 0 then (m : Int) else 0) (m - (k + t) + i) = if i = t then c.getD k 0 * m else 0 := fun i hi => by
          show (sumR c.length fun j => c.getD j 0 * if (m - (k + t) + i + j) % m = 0 then (m : Int) else 0) = _
          rw [sum_one kc fun j hj hjk => ?_]
          · by_cases w2 : i = t
            · rw [if_pos w2, if_pos (by rw [w2, show m - (k + t) + t + k = m by omega, Nat.mod_self])]
            · rw [if_neg w2, if_neg (by rw [Nat.mod_eq_of_lt (by omega)]; omega), Int.mul_zero]
          · by_cases w2 : j < k
            · rw [if_neg (by rw [Nat.mod_eq_of_lt (by omega)]; omega), Int.mul_zero]
            · rw [ih j (by omega), Int.zero_mul]
        have z : (sumR T.length fun i => T.getD i 0 * actW c (fun x => if x % m = 0 then (m : Int) else 0) (m - (k + t) + i)) = 0 := z
        rw [ht, sum_one (a := t) (by omega) fun i hi hit => by rw [inn i (by omega), if_neg hit, Int.mul_zero], inn t (Nat.le_refl t), if_pos rfl] at z
        rw [ht, Nat.add_sub_cancel] at t1
        rw [t1, Int.one_mul] at z
        rcases Int.mul_eq_zero.mp z with w3 | w3
        · exact w3
        · omega
  intro hq
  unfold quoW at hq
  rw [hm, eS, hc] at hq
  have : ¬ (c.any (fun v => decide (v ≠ 0)) = true) := fun w => by
    obtain ⟨v, hv, w⟩ := List.any_eq_true.mp w
    obtain ⟨k, hk, e⟩ := List.mem_iff_getElem.mp hv
    have := z3 c.length k (by omega)
    rw [List.getD_eq_getElem?_getD, List.getElem?_eq_getElem hk] at this
    exact of_decide_eq_true w (by rw [← e]; exact this)
  rw [if_neg this] at hq
  cases hq
/-- THE ENDLESS THEOREM -/
theorem quo_endl {o n : Int} {r : List Int} (h0 : 0 < r.length) (h9 : r.length ≤ 9) : quoW o n r ≠ none ↔ Endl o n r :=
  ⟨fun h d hd hdm hmd hs => quo_kill h0 h9 h hd hdm hmd hs, endl_quo h0 h9⟩
theorem quo_elder {o n : Int} (R : RuleC o n) {r : List Int} (h0 : 0 < r.length) (h9 : r.length ≤ 9) (h : quoW o n r ≠ none) : ∃ e, elderM o n r = some e ∧ quoW o n e ≠ none := by
  obtain ⟨e, h1, h2⟩ := endl_elder R h0 h9 ((quo_endl h0 h9).mp h)
  have hl := elder_len h1
  exact ⟨e, h1, (quo_endl (by omega) (by omega)).mpr h2⟩
theorem quo_all {o n : Int} (R : RuleC o n) {r : List Int} (h0 : 0 < r.length) (h9 : r.length ≤ 9) (h : quoW o n r ≠ none) : ∀ k, ∃ e, eldN o n r k = some e ∧ quoW o n e ≠ none
  | 0 => ⟨r, rfl, h⟩
  | k + 1 => by
    obtain ⟨e, h1, h2⟩ := quo_all R h0 h9 h k
    have hl := eldN_len h1
    obtain ⟨e', h3, h4⟩ := quo_elder R (by omega) (by omega) h2
    refine ⟨e', ?_, h4⟩
    show (eldN o n r k).bind (elderM o n) = some e'
    rw [h1]
    exact h3
theorem quo_old {o n : Int} (R : RuleC o n) {r : List Int} (h0 : 0 < r.length) (h9 : r.length ≤ 9) (h : quoW o n r = none) : ∃ k last, OldAt o n r k last := by
  by_cases q : ∃ k, eldN o n r k = none
  · obtain ⟨k, hk⟩ := q
    exact old_of k hk
  · exact absurd h ((quo_endl h0 h9).mpr (unend_endl R h0 h9 fun k hk => q ⟨k, hk⟩))
theorem old_quo {o n : Int} (R : RuleC o n) {r last : List Int} {k : Nat} (h0 : 0 < r.length) (h9 : r.length ≤ 9) (O : OldAt o n r k last) : quoW o n r = none := by
  cases q : quoW o n r with
  | none => rfl
  | some w =>
    obtain ⟨e, h1, _⟩ := quo_all R h0 h9 (by rw [q]; exact fun z => by cases z) (k + 1)
    have h1 : (eldN o n r k).bind (elderM o n) = some e := h1
    rw [O.at_] at h1
    exact absurd (show elderM o n last = some e from h1) (by rw [O.no]; exact fun z => by cases z)
end DL
/-! MK13: words by words; quotients -/
namespace DL
/-! pieces by the divisors -/
theorem whole_fin : ((List.range 10).all fun m => m == 0 || decide (stirB (fun _ => true) m m = [-1] ++ List.replicate (m - 1) 0 ++ [1])) = true := by decide +kernel
def normsL (o n : Int) (m : Nat) : Nat → Int
  | 0 => 1
  | l + 1 => if m % (l + 1) = 0 then normsL o n m l * normM o n (l + 1) else normsL o n m l
def normTab (o n : Int) : List Int := (List.range 10).map fun d => normM o n d
def normsT (T : List Int) (m : Nat) : Int := (List.range 9).foldl (fun a l => if m % (l + 1) = 0 ∧ l + 1 ≤ m then a * T.getD (l + 1) 0 else a) 1
theorem norms_fin : ((List.range 19).all fun i => (List.range 19).all fun j => (fun a b => (List.range 10).all fun m => m == 0 || decide (normsL a b m m = divM a b m)) ((i : Int) - 9) ((j : Int) - 9)) = true := by decide +kernel
theorem norms_div {o n : Int} (R : RuleS o n) {m : Nat} (h0 : 0 < m) (h9 : m ≤ 9) : normsL o n m m = divM o n m := by
  have h := nine2 (p := fun a b => (List.range 10).all fun m => m == 0 || decide (normsL a b m m = divM a b m)) norms_fin o n R.o1 R.o2 R.n1 R.n2
  exact of_decide_eq_true (rng h h0 h9)
theorem norms_bd_fin : ((List.range 19).all fun i => (List.range 19).all fun j => (fun a b => (List.range 10).all fun m => m == 0 || (decide ((normM a b m).natAbs < 2 ^ 40))) ((i : Int) - 9) ((j : Int) - 9)) = true := by decide +kernel
theorem norm_bd {o n : Int} (R : RuleS o n) {m : Nat} (h0 : 0 < m) (h9 : m ≤ 9) : (normM o n m).natAbs < 2 ^ 40 := by
  have h := nine2 (p := fun a b => (List.range 10).all fun m => m == 0 || (decide ((normM a b m).natAbs < 2 ^ 40))) norms_bd_fin o n R.o1 R.o2 R.n1 R.n2
  exact of_decide_eq_true (rng h h0 h9)
/-! words act: one by one -/
theorem actW_dot (c : List Int) (f : Nat → Int) (h : Nat) : actW c f h = dot c.length c fun j => f (h + j) := rfl
theorem dot_prodIn (first : Int) (left : Nat) (other f : List Int) (g : Nat → Int) (n : Nat) (hl : f.length = n) : ∀ r, left + r ≤ n → dot n (prodIn first left other f r) g = dot n f g + first * sumR r fun k => other.getD k 0 * g (left + k)
  | 0, _ => by rw [sumR_zero, Int.mul_zero, Int.add_zero]; rfl
  | r + 1, h => by
    have hl2 : (prodIn first left other f r).length = n := by rw [prodIn_len]; exact hl
    show dot n ((prodIn first left other f r).set (left + r) _) g = _
    rw [dot_set n _ _ _ g (by omega) hl2, dot_prodIn first left other f g n hl r (by omega), sumR_succ, Int.mul_add]
    generalize (prodIn first left other f r).getD (left + r) 0 = u
    have e : (u + first * other.getD r 0 - u) * g (left + r) = first * (other.getD r 0 * g (left + r)) := by
      rw [show u + first * other.getD r 0 - u = first * other.getD r 0 by omega, Int.mul_assoc]
    rw [e]
    omega
theorem dot_zero (n m : Nat) (g : Nat → Int) : dot n (List.replicate m 0) g = 0 := by
  unfold dot
  refine (sumR_congr (g' := fun _ => 0) fun k _ => ?_).trans (sumR_const0 _)
  rw [show (List.replicate m (0 : Int)).getD k 0 = 0 from getD_all (p := fun v => v = 0) (fun v hv => List.eq_of_mem_replicate hv) rfl k, Int.zero_mul]
theorem dot_prodOut (one other : List Int) (g : Nat → Int) (n : Nat) (hn : n = one.length + other.length - 1) (h2 : 0 < other.length) : ∀ l, l ≤ one.length → dot n (prodOut one other l) g = sumR l fun a => one.getD a 0 * sumR other.length fun k => other.getD k 0 * g (a + k)
  | 0, _ => dot_zero _ _ _
  | l + 1, h => by
    show dot n (prodIn (one.getD l 0) l other (prodOut one other l) other.length) g = _
    rw [dot_prodIn _ _ _ _ _ n (by rw [prodOut_len, hn]) _ (by omega), dot_prodOut one other g n hn h2 l (by omega), sumR_succ]
theorem actW_prod (a b : List Int) (hb : 0 < b.length) (f : Nat → Int) (h : Nat) : actW (prodM a b) f h = actW a (actW b f) h := by
  rw [actW_dot, prodM_len]
  refine (dot_prodOut a b _ _ rfl hb a.length (Nat.le_refl _)).trans ?_
  show _ = sumR a.length fun j => a.getD j 0 * sumR b.length fun k => b.getD k 0 * f (h + j + k)
  refine sumR_congr fun j _ => ?_
  congr 1
  exact sumR_congr fun k _ => by rw [Nat.add_assoc]
/-- the function that is one at a place -/
def oneAt (p : Nat) (x : Nat) : Int := if x = p then 1 else 0
theorem actW_one (c : List Int) (p h : Nat) (hh : h ≤ p) : actW c (oneAt p) h = c.getD (p - h) 0 := by
  unfold actW
  by_cases q : p - h < c.length
  · rw [sum_one q fun k _ hk => by unfold oneAt; rw [if_neg (by omega), Int.mul_zero]]
    unfold oneAt
    rw [if_pos (by omega), Int.mul_one]
  · rw [getD_out _ _ (by omega)]
    refine (sumR_congr (g' := fun _ => 0) fun k hk => ?_).trans (sumR_const0 _)
    unfold oneAt
    rw [if_neg (by omega), Int.mul_zero]
theorem actW_one0 (c : List Int) (p h : Nat) (hh : p < h) : actW c (oneAt p) h = 0 := by
  unfold actW
  refine (sumR_congr (g' := fun _ => 0) fun k hk => ?_).trans (sumR_const0 _)
  unfold oneAt
  rw [if_neg (by omega), Int.mul_zero]
theorem word_ext {c d : List Int} (h : ∀ f : Nat → Int, actW c f 0 = actW d f 0) (k : Nat) : c.getD k 0 = d.getD k 0 := by
  have := h (oneAt k)
  rw [actW_one _ _ _ (Nat.zero_le _), actW_one _ _ _ (Nat.zero_le _), Nat.sub_zero] at this
  exact this
/-! division -/
theorem ovL_acc (by_ : List Int) : ∀ (fu : Nat) (rest found : List Int), (ovL fu by_ rest found).1 = (ovL fu by_ rest []).1 ++ found.reverse ∧ (ovL fu by_ rest found).2 = (ovL fu by_ rest []).2
  | 0, _, _ => ⟨rfl, rfl⟩
  | fu + 1, rest, found => by
    unfold ovL
    by_cases q : by_.length ≤ rest.length
    · rw [if_pos q, if_pos q]
      obtain ⟨a1, a2⟩ := ovL_acc by_ fu (ovStep by_ rest) (found ++ [rest.getD (rest.length - 1) 0])
      obtain ⟨b1, b2⟩ := ovL_acc by_ fu (ovStep by_ rest) ([] ++ [rest.getD (rest.length - 1) 0])
      refine ⟨?_, by rw [a2, b2]⟩
      rw [a1, b1, List.reverse_append, List.append_assoc]
      rfl
    · rw [if_neg q, if_neg q]
      exact ⟨rfl, rfl⟩
theorem actW_snoc (c : List Int) (t : Int) (f : Nat → Int) (h : Nat) : actW (c ++ [t]) f h = actW c f h + t * f (h + c.length) := by
  unfold actW
  rw [List.length_append, List.length_singleton, sumR_succ]
  congr 1
  · exact sumR_congr fun k hk => by rw [List.getD_eq_getElem?_getD, List.getD_eq_getElem?_getD, List.getElem?_append_left hk]
  · rw [List.getD_eq_getElem?_getD, List.getElem?_append_right (Nat.le_refl _), Nat.sub_self]
    rfl
theorem ovL_div {by_ : List Int} (hb : 0 < by_.length) (hm : by_.getD (by_.length - 1) 0 = 1) : ∀ (fu : Nat) (rest : List Int), rest.length < fu → (ovL fu by_ rest []).1.length = rest.length + 1 - by_.length ∧ ∀ f h, actW rest f h = actW (ovL fu by_ rest []).1 (actW by_ f) h + actW (ovL fu by_ rest []).2 f h
  | 0, _, h => by omega
  | fu + 1, rest, h => by
    unfold ovL
    by_cases q : by_.length ≤ rest.length
    · rw [if_pos q]
      obtain ⟨a1, a2⟩ := ovL_acc by_ fu (ovStep by_ rest) ([] ++ [rest.getD (rest.length - 1) 0])
      have hl := ovStep_len by_ rest
      obtain ⟨i1, i2⟩ := ovL_div hb hm fu (ovStep by_ rest) (by omega)
      refine ⟨by rw [a1, List.length_append, i1]; show _ + 1 = _; omega, fun f h => ?_⟩
      rw [a1, a2]
      show _ = actW (_ ++ [rest.getD (rest.length - 1) 0]) _ h + _
      rw [actW_snoc, i1]
      have s := actW_step by_ rest f h hb hm q
      have i2 := i2 f h
      rw [show (ovStep by_ rest).length + 1 - by_.length = rest.length - by_.length by omega]
      omega
    · rw [if_neg q]
      refine ⟨by show 0 = _; omega, fun f h => ?_⟩
      show actW rest f h = 0 + actW rest f h
      omega
theorem over_div {r by_ : List Int} (hb : 0 < by_.length) (hm : by_.getD (by_.length - 1) 0 = 1) : (overM r by_).1.length = r.length + 1 - by_.length ∧ (∀ f h, actW r f h = actW (overM r by_).1 (actW by_ f) h + actW (overM r by_).2 f h) ∧ (overM r by_).2.length < by_.length := by
  obtain ⟨a, b⟩ := ovL_div hb hm (r.length + 1) r (by omega)
  exact ⟨a, b, ovL_len hb _ _ _ (by omega)⟩
/-- quotients of one length are the same -/
theorem div_uniq {by_ q q' t t' : List Int} (hb : 0 < by_.length) (hm : by_.getD (by_.length - 1) 0 = 1) (hl : q.length = q'.length) (ht : t.length < by_.length) (ht' : t'.length < by_.length) (h : ∀ f, actW q (actW by_ f) 0 + actW t f 0 = actW q' (actW by_ f) 0 + actW t' f 0) : q = q' := by
  refine list_ext hl fun k _ => ?_
  have key : ∀ d k, q.length - d ≤ k → q.getD k 0 = q'.getD k 0 := fun d => by
    induction d with
    | zero => intro k hk; rw [getD_out _ _ (by omega), getD_out _ _ (by omega)]
    | succ d ih =>
      intro k hk
      by_cases w : q.length - d ≤ k
      · exact ih k w
      · have hk2 : k < q.length := by omega
        have z := h (oneAt (k + (by_.length - 1)))
        rw [actW_one t _ _ (Nat.zero_le _), actW_one t' _ _ (Nat.zero_le _), Nat.sub_zero, getD_out t _ (by omega), getD_out t' _ (by omega), Int.add_zero, Int.add_zero] at z
        have e : ∀ c : List Int, actW c (actW by_ (oneAt (k + (by_.length - 1)))) 0 = sumR c.length fun i => c.getD i 0 * actW by_ (oneAt (k + (by_.length - 1))) (0 + i) := fun _ => rfl
        rw [e, e, ← hl] at z
        have z2 : sumR q.length (fun i => (q.getD i 0 - q'.getD i 0) * actW by_ (oneAt (k + (by_.length - 1))) (0 + i)) = 0 := by
          have : sumR q.length (fun i => (q.getD i 0 - q'.getD i 0) * actW by_ (oneAt (k + (by_.length - 1))) (0 + i)) = sumR q.length (fun i => q.getD i 0 * actW by_ (oneAt (k + (by_.length - 1))) (0 + i)) - sumR q.length (fun i => q'.getD i 0 * actW by_ (oneAt (k + (by_.length - 1))) (0 + i)) := by
            have a := sumR_add q.length (fun i => q.getD i 0 * actW by_ (oneAt (k + (by_.length - 1))) (0 + i)) (fun i => (-1) * (q'.getD i 0 * actW by_ (oneAt (k + (by_.length - 1))) (0 + i)))
            rw [sumR_mul] at a
            have b : sumR q.length (fun i => (q.getD i 0 - q'.getD i 0) * actW by_ (oneAt (k + (by_.length - 1))) (0 + i)) = sumR q.length fun i => q.getD i 0 * actW by_ (oneAt (k + (by_.length - 1))) (0 + i) + (-1) * (q'.getD i 0 * actW by_ (oneAt (k + (by_.length - 1))) (0 + i)) := sumR_congr fun i _ => by rw [Int.sub_mul]; omega
            rw [b, a]
            omega
          rw [this, z]
          omega
        rw [sum_one hk2 fun i hi hik => ?_] at z2
        · rw [actW_one by_ _ _ (by omega), show k + (by_.length - 1) - (0 + k) = by_.length - 1 by omega, hm, Int.mul_one] at z2
          omega
        · by_cases w2 : k < i
          · rw [ih i (by omega), Int.sub_self, Int.zero_mul]
          · rw [actW_one by_ _ _ (by omega), getD_out by_ _ (by omega), Int.mul_zero]
  exact key q.length k (by omega)
theorem all0 {c : List Int} (h : ¬ c.any (fun v => decide (v ≠ 0)) = true) (k : Nat) : c.getD k 0 = 0 := getD_all (p := fun v => v = 0) (fun v hv => by
  by_cases q : v = 0
  · exact q
  · exact absurd (List.any_eq_true.mpr ⟨v, hv, decide_eq_true q⟩) h) rfl k
theorem actW_zero {c : List Int} (h : ∀ k, c.getD k 0 = 0) (f : Nat → Int) (x : Nat) : actW c f x = 0 := by
  unfold actW
  refine (sumR_congr (g' := fun _ => 0) fun k _ => ?_).trans (sumR_const0 _)
  rw [h k, Int.zero_mul]
structure StirF (o n : Int) (m : Nat) : Prop where
  s0 : 0 < (stirM o n m).length
  s1 : (stirM o n m).getD ((stirM o n m).length - 1) 0 = 1
  le : (stirM o n m).length ≤ m + 1
  bd : ∀ v ∈ stirM o n m, v.natAbs ≤ 100
theorem stir_F (o n : Int) {m : Nat} (h0 : 0 < m) (h9 : m ≤ 9) : StirF o n m := by
  have S := set_facts (fun j => decide ((normM o n j).natAbs ≠ 1)) h0 h9
  have e : stirM o n m = stirB (fun j => decide ((normM o n j).natAbs ≠ 1)) m m := stirL_B o n m m
  have := S.len
  have := S.t0
  exact ⟨by rw [e]; exact S.s0, by rw [e]; exact S.s1, by rw [e]; omega, by rw [e]; exact S.sb⟩
/-- the told quotient times the stirred word is the ring -/
theorem quo_times {o n : Int} {r q : List Int} (h0 : 0 < r.length) (h9 : r.length ≤ 9) (hq : quoW o n r = some q) : (q.length : Int) = max 1 ((r.length : Int) + 1 - (stirM o n r.length).length) ∧ ∀ k, (prodM q (stirM o n r.length)).getD k 0 = r.getD k 0 := by
  have S := stir_F o n h0 h9
  obtain ⟨d1, d2, d3⟩ := over_div (r := r) S.s0 S.s1
  unfold quoW at hq
  by_cases w : (overM r (stirM o n r.length)).2.any (fun v => decide (v ≠ 0)) = true
  · rw [if_pos w] at hq; cases hq
  · rw [if_neg w] at hq
    have hz := all0 w
    have d2' : ∀ f h, actW r f h = actW (overM r (stirM o n r.length)).1 (actW (stirM o n r.length) f) h := fun f h => by rw [d2, actW_zero hz]; omega
    have hle := S.le
    by_cases w2 : (overM r (stirM o n r.length)).1 ≠ []
    · rw [if_pos w2] at hq
      cases hq
      have hp : 0 < (overM r (stirM o n r.length)).1.length := List.length_pos_iff.mpr w2
      refine ⟨by omega, word_ext fun f => ?_⟩
      rw [actW_prod _ _ S.s0, d2']
    · rw [if_neg w2] at hq
      cases hq
      have e : (overM r (stirM o n r.length)).1 = [] := Classical.not_not.mp w2
      have hl : (overM r (stirM o n r.length)).1.length = 0 := by rw [e]; rfl
      refine ⟨by show (1 : Int) = _; omega, word_ext fun f => ?_⟩
      rw [actW_prod _ _ S.s0, d2', e]
      rw [actW_zero (c := [0]) (fun k => by cases k <;> rfl), actW_zero (c := []) (fun k => rfl)]
theorem quo_of_made {o n : Int} {r w : List Int} (h0 : 0 < r.length) (h9 : r.length ≤ 9) (hw : w.length = r.length + 1 - (stirM o n r.length).length) (hle : (stirM o n r.length).length ≤ r.length) (hr : ∀ k, (prodM w (stirM o n r.length)).getD k 0 = r.getD k 0) : quoW o n r = some w := by
  have S := stir_F o n h0 h9
  obtain ⟨d1, d2, d3⟩ := over_div (r := r) S.s0 S.s1
  have hrl : (prodM w (stirM o n r.length)).length = r.length := by rw [prodM_len]; have := S.s0; omega
  have er : prodM w (stirM o n r.length) = r := list_ext hrl fun k _ => hr k
  have e1 : ∀ f h, actW r f h = actW w (actW (stirM o n r.length) f) h := fun f h => by
    have := actW_prod w (stirM o n r.length) S.s0 f h
    rw [er] at this
    exact this
  have eq : (overM r (stirM o n r.length)).1 = w := div_uniq (t' := []) S.s0 S.s1 (by rw [d1, hw]) d3 (by show 0 < _; exact S.s0) fun f => by
    rw [← d2, e1]
    show _ = _ + 0
    omega
  have e2 : ∀ k, (overM r (stirM o n r.length)).2.getD k 0 = 0 := fun k => by
    have := word_ext (c := (overM r (stirM o n r.length)).2) (d := []) (fun f => by
      have a := d2 f 0
      rw [eq, ← e1] at a
      show _ = (0 : Int)
      omega) k
    exact this
  have hne : w ≠ [] := fun q => by
    have : w.length = 0 := by rw [q]; rfl
    omega
  unfold quoW
  rw [if_neg (fun q => ?_), eq, if_pos hne]
  obtain ⟨v, hv, q⟩ := List.any_eq_true.mp q
  obtain ⟨k, hk, e⟩ := List.mem_iff_getElem.mp hv
  have := e2 k
  rw [List.getD_eq_getElem?_getD, List.getElem?_eq_getElem hk] at this
  exact of_decide_eq_true q (by rw [← e]; exact this)
theorem endl_zero (o n : Int) {m : Nat} (h0 : 0 < m) : Endl o n (List.replicate m 0) := fun d hd hdm hmd hs h => act_zero _ _ (fun x => F_rep0 m x) h
theorem quo_zero (o n : Int) {m : Nat} (h0 : 0 < m) (h9 : m ≤ 9) : quoW o n (List.replicate m 0) ≠ none := endl_quo (by rw [List.length_replicate]; exact h0) (by rw [List.length_replicate]; exact h9) (endl_zero o n h0)
theorem quo_zero0 (o n : Int) {m : Nat} (h0 : 0 < m) (h9 : m ≤ 9) (hl : m < (stirM o n m).length) : quoW o n (List.replicate m 0) = some [0] := by
  cases e : quoW o n (List.replicate m 0) with
  | none => exact absurd e (quo_zero o n h0 h9)
  | some q =>
    have hr : (List.replicate m (0 : Int)).length = m := List.length_replicate
    unfold quoW at e
    rw [hr] at e
    by_cases w : (overM (List.replicate m 0) (stirM o n m)).2.any (fun v => decide (v ≠ 0)) = true
    · rw [if_pos w] at e; cases e
    · rw [if_neg w] at e
      have S := stir_F o n h0 h9
      obtain ⟨d1, _, _⟩ := over_div (r := List.replicate m (0 : Int)) S.s0 S.s1
      have : (overM (List.replicate m 0) (stirM o n m)).1 = [] := List.eq_nil_of_length_eq_zero (by rw [d1, hr]; omega)
      rw [this] at e
      exact e.symm
theorem quo_day' {o n : Int} {r : List Int} (h0 : 0 < r.length) (h9 : r.length ≤ 9) (h : quoW o n r ≠ none) : quoW o n (dayM o n r) ≠ none := by
  have hl := dayM_len o n r
  refine endl_quo (by omega) (by omega) fun d hd hdm hmd hs => ?_
  rw [hl] at hdm hmd
  exact kill_day (quo_kill h0 h9 h hd hdm hmd hs)
/-- the rest tells whether there is a quotient -/
theorem quo_none {o n : Int} {r : List Int} : quoW o n r = none ↔ (overM r (stirM o n r.length)).2.any (fun v => decide (v ≠ 0)) = true := by
  unfold quoW
  by_cases w : (overM r (stirM o n r.length)).2.any (fun v => decide (v ≠ 0)) = true
  · rw [if_pos w]; exact ⟨fun _ => w, fun _ => rfl⟩
  · rw [if_neg w]; exact ⟨fun q => (by cases q), fun q => absurd q w⟩
/-! the law's rest -/
def restIn (by_ rest : List Int) (j : Nat) : List Int := tab (rest.length - 1) fun k => if rest.length - by_.length ≤ k ∧ k < rest.length - by_.length + j then rest.getD k 0 - rest.getD (rest.length - 1) 0 * by_.getD (k - (rest.length - by_.length)) 0 else rest.getD k 0
theorem restIn_len (by_ rest : List Int) (j : Nat) : (restIn by_ rest j).length = rest.length - 1 := tab_len _ _
theorem restIn_0 (by_ rest : List Int) : restIn by_ rest 0 = rest.dropLast := list_ext (by rw [restIn_len, List.length_dropLast]) fun k hk => by
  rw [restIn_len] at hk
  unfold restIn
  rw [tab_get _ _ _ hk, if_neg (by omega), List.getD_eq_getElem?_getD, List.getD_eq_getElem?_getD, List.getElem?_dropLast, if_pos hk]
theorem restIn_succ (by_ rest : List Int) (j : Nat) (hj : rest.length - by_.length + j < rest.length - 1) : restIn by_ rest (j + 1) = (restIn by_ rest j).set (rest.length - by_.length + j) ((restIn by_ rest j).getD (rest.length - by_.length + j) 0 - rest.getD (rest.length - 1) 0 * by_.getD j 0) := list_ext (by rw [List.length_set, restIn_len, restIn_len]) fun k hk => by
  rw [restIn_len] at hk
  rw [getD_set _ _ _ _ (by rw [restIn_len]; exact hj)]
  have e : ∀ i, i < rest.length - 1 → ∀ j, (restIn by_ rest j).getD i 0 = if rest.length - by_.length ≤ i ∧ i < rest.length - by_.length + j then rest.getD i 0 - rest.getD (rest.length - 1) 0 * by_.getD (i - (rest.length - by_.length)) 0 else rest.getD i 0 := fun i hi j => tab_get _ _ _ hi
  rw [e k hk, e k hk, e _ hj]
  by_cases q : rest.length - by_.length + j = k
  · rw [if_pos q, if_pos (by omega), if_neg (by omega), ← q, show rest.length - by_.length + j - (rest.length - by_.length) = j by omega]
  · rw [if_neg q]
    by_cases w : rest.length - by_.length ≤ k ∧ k < rest.length - by_.length + j
    · rw [if_pos w, if_pos (by omega)]
    · rw [if_neg w, if_neg (by omega)]
theorem restIn_end (by_ rest : List Int) (hb : 0 < by_.length) (hl : by_.length ≤ rest.length) : restIn by_ rest (by_.length - 1) = ovStep by_ rest := list_ext (by rw [restIn_len, ovStep_len]) fun k hk => by
  rw [restIn_len] at hk
  unfold restIn ovStep
  rw [tab_get _ _ _ hk, tab_get _ _ _ hk]
  by_cases q : rest.length - by_.length ≤ k
  · rw [if_pos q, if_pos (by omega)]
  · rw [if_neg q, if_neg (by omega)]
theorem over_step {by_ rest : List Int} (hb : 0 < by_.length) (hl : by_.length ≤ rest.length) : (overM rest by_).2 = (overM (ovStep by_ rest) by_).2 := by
  have e : overM rest by_ = if by_.length ≤ rest.length then ovL rest.length by_ (ovStep by_ rest) ([] ++ [rest.getD (rest.length - 1) 0]) else (([] : List Int).reverse, rest) := rfl
  rw [e, if_pos hl, (ovL_acc by_ _ _ _).2]
  unfold overM
  rw [ovStep_len, show rest.length - 1 + 1 = rest.length by omega]
theorem over_end {by_ rest : List Int} (hl : rest.length < by_.length) : (overM rest by_).2 = rest := by
  have e : overM rest by_ = if by_.length ≤ rest.length then ovL rest.length by_ (ovStep by_ rest) ([] ++ [rest.getD (rest.length - 1) 0]) else (([] : List Int).reverse, rest) := rfl
  rw [e, if_neg (by omega)]
/-! folds over the divisors -/
def wholeF (ls : List Int) : List Int := ls.foldl (fun w l => prodM w (pieceT l.toNat)) [1]
def normsF (o n : Int) (ls : List Int) : Int := ls.foldl (fun a l => a * normM o n l.toNat) 1
def dueF (o n : Int) (ls : List Int) : List Int := ls.foldl (fun w l => if (normM o n l.toNat).natAbs ≠ 1 then prodM w (pieceT l.toNat) else w) [1]
theorem take_snoc {ls : List Int} {k : Nat} (hk : k < ls.length) : ls.take (k + 1) = ls.take k ++ [ls.getD k 0] := by
  rw [List.take_add_one, List.getD_eq_getElem?_getD, List.getElem?_eq_getElem hk]
  rfl
theorem wholeF_snoc (ls : List Int) (l : Int) : wholeF (ls ++ [l]) = prodM (wholeF ls) (pieceT l.toNat) := by unfold wholeF; rw [List.foldl_append]; rfl
theorem normsF_snoc (o n : Int) (ls : List Int) (l : Int) : normsF o n (ls ++ [l]) = normsF o n ls * normM o n l.toNat := by unfold normsF; rw [List.foldl_append]; rfl
theorem dueF_snoc (o n : Int) (ls : List Int) (l : Int) : dueF o n (ls ++ [l]) = if (normM o n l.toNat).natAbs ≠ 1 then prodM (dueF o n ls) (pieceT l.toNat) else dueF o n ls := by unfold dueF; rw [List.foldl_append]; rfl
/-- the divisors up to k -/
def dvsL (m : Nat) : Nat → List Int
  | 0 => []
  | k + 1 => if m % (k + 1) = 0 then dvsL m k ++ [((k + 1 : Nat) : Int)] else dvsL m k
theorem whole_dvs (m : Nat) : ∀ k, wholeF (dvsL m k) = stirB (fun _ => true) m k
  | 0 => rfl
  | k + 1 => by
    unfold dvsL stirB
    by_cases q : m % (k + 1) = 0
    · rw [if_pos q, if_pos ⟨q, rfl⟩, wholeF_snoc, whole_dvs m k, Int.toNat_natCast]
    · rw [if_neg q, if_neg (fun z => q z.1), whole_dvs m k]
theorem norms_dvs (o n : Int) (m : Nat) : ∀ k, normsF o n (dvsL m k) = normsL o n m k
  | 0 => rfl
  | k + 1 => by
    unfold dvsL normsL
    by_cases q : m % (k + 1) = 0
    · rw [if_pos q, if_pos q, normsF_snoc, norms_dvs o n m k, Int.toNat_natCast]
    · rw [if_neg q, if_neg q, norms_dvs o n m k]
theorem due_dvs (o n : Int) (m : Nat) : ∀ k, dueF o n (dvsL m k) = stirL o n m k
  | 0 => rfl
  | k + 1 => by
    unfold dvsL stirL
    by_cases q : m % (k + 1) = 0
    · rw [if_pos q, dueF_snoc, due_dvs o n m k, Int.toNat_natCast]
      by_cases w : (normM o n (k + 1)).natAbs ≠ 1
      · rw [if_pos w, if_pos ⟨q, w⟩]
      · rw [if_neg w, if_neg (fun z => w z.2)]
    · rw [if_neg q, if_neg (fun z => q z.1), due_dvs o n m k]
theorem dvs_mem (m : Nat) : ∀ k, ∀ l ∈ dvsL m k, ∃ d : Nat, l = (d : Int) ∧ 0 < d ∧ d ≤ k ∧ m % d = 0
  | 0, l, h => by cases h
  | k + 1, l, h => by
    unfold dvsL at h
    by_cases q : m % (k + 1) = 0
    · rw [if_pos q] at h
      rcases List.mem_append.mp h with h | h
      · obtain ⟨d, a, b, c, e⟩ := dvs_mem m k l h
        exact ⟨d, a, b, by omega, e⟩
      · rw [List.mem_singleton] at h
        exact ⟨k + 1, h, by omega, by omega, q⟩
    · rw [if_neg q] at h
      obtain ⟨d, a, b, c, e⟩ := dvs_mem m k l h
      exact ⟨d, a, b, by omega, e⟩
theorem dvs_len (m : Nat) : ∀ k, (dvsL m k).length ≤ k
  | 0 => Nat.le_refl _
  | k + 1 => by
    have := dvs_len m k
    unfold dvsL
    split
    · rw [List.length_append, List.length_singleton]; omega
    · omega
theorem fold_len {ls : List Int} (h : ∀ l ∈ ls, 0 < l.toNat ∧ l.toNat ≤ 9) : ∀ k, k ≤ ls.length → (0 < (wholeF (ls.take k)).length ∧ (wholeF (ls.take k)).length ≤ 1 + 6 * k) ∧ ∀ o n, 0 < (dueF o n (ls.take k)).length ∧ (dueF o n (ls.take k)).length ≤ 1 + 6 * k
  | 0, _ => ⟨⟨Nat.one_pos, Nat.le_refl 1⟩, fun _ _ => ⟨Nat.one_pos, Nat.le_refl 1⟩⟩
  | k + 1, hk => by
    obtain ⟨⟨a1, a2⟩, b⟩ := fold_len h k (by omega)
    have hm : ls.getD k 0 ∈ ls := by
      rw [List.getD_eq_getElem?_getD, List.getElem?_eq_getElem (show k < ls.length by omega)]
      exact List.getElem_mem _
    obtain ⟨l1, l2⟩ := h _ hm
    have hp := pieceT_ok l1 l2
    have := hp.l2
    have := hp.l7
    rw [take_snoc (by omega)]
    refine ⟨?_, fun o n => ?_⟩
    · rw [wholeF_snoc, prodM_len]
      omega
    · obtain ⟨b1, b2⟩ := b o n
      rw [dueF_snoc]
      split
      · rw [prodM_len]; omega
      · omega
end DL
namespace DL
open PySem PySem.Spec PyProof.Rows L2
def topS (i : Nat) : Stmt := PySem.Challenge.pw_ringage_k13_whole_endless_rings_by_words.main.body.getD i (.Pass ⟨0, 0, 0, 0⟩)
section
variable {P : Program} {w : World} {K : PySem.W.Frag} {mg : Str → Option Value} {base : Heap}
abbrev rl (o n : Int) : D := .tuple [.int o, .int n]
theorem isM_if (a b : Int) : (if decide (b = 0) = true then PyData.bool (decide (a = 0)) else PyData.bool (decide (a.fmod b = 0))) = PyData.bool (isM a b) := by
  unfold isM
  by_cases h : b = 0
  · subst h
    rw [if_pos (decide_eq_true rfl)]
    congr 1
    exact decide_eq_decide.mpr ⟨fun h => by rw [h]; exact Int.dvd_refl 0, dvd0⟩
  · rw [if_neg (by rw [decide_eq_false h]; decide)]
    congr 1
    exact decide_eq_decide.mpr ⟨Int.dvd_of_fmod_eq_zero, Int.fmod_eq_zero_of_dvd⟩
theorem atI_last (j : Nat) (g : Nat → Int) : atI (lI (tab (j + 1) g)) (-1) = some (.int (g j)) := by
  unfold atI
  have hl : (lI (tab (j + 1) g)).length = j + 1 := by rw [lI_len, tab_len]
  have h1 : ixN (lI (tab (j + 1) g)).length (-1) = some j := by
    rw [hl]
    unfold ixN
    simp
    omega
  rw [h1]
  show (lI (tab (j + 1) g))[j]? = _
  rw [List.getElem?_map, tab_get? _ _ _ (by omega)]
  rfl
abbrev sPower : Stmt := topS 1
abbrev nmPower : List Str := ["number", "many", "found", "turn"]
theorem scPower : FnScope nmPower ["number", "many"] (defScope sPower) := ⟨rfl, rfl, rfl, by decide +kernel, rfl, by decide +kernel, by decide +kernel⟩
def RPower : RT := fun as π r π' => ∃ (a k : Int), as = [.int a, .int k] ∧ (-(2 ^ 64) < a ∧ a < 2 ^ 64) ∧ (0 ≤ k ∧ k < 2 ^ 62) ∧ π = [] ∧ π' = [] ∧ r = .d (.int (a ^ k.toNat))
theorem ok_power (B : Bt mg) (F : FunAt K mg "power" sPower ["number", "many"]) : OkD P w K mg base "power" 1 ["number", "many"] RPower := by
  refine mk_def F scPower (fun as π r π' h => ?_) (fun f cdv A outer s H E N as π r π' hr hpa hR => ?_)
  · obtain ⟨a, k, rfl, _, _, rfl, rfl, rfl⟩ := h
    exact ⟨rfl, rfl⟩
  · obtain ⟨a, k, rfl, ha, hk, rfl, rfl, rfl⟩ := hR
    refine ds_seq (d1_set (i := 2) scPower.nd rfl (.inl rfl) de_int rfl) ?_
    refine ds_for (fun j z => ∃ sl, z = ⟨[.d (.int a), .d (.int k), .d (.int (a ^ j)), sl], []⟩) PassesOwn.never rfl (di_range1 (by rfl) B.range (de_var (pv 1)) (by omega) (by omega)) it_rng0 (pg_name (i := 3) scPower.nd rfl (.inl rfl)) (gd_name 3) (fun _ _ => trivial) ⟨_, by rw [Int.pow_zero]; rfl⟩ ?_ ?_
    · rintro j _ hj ⟨sl, rfl⟩
      refine ds_seq (d1_set (i := 2) scPower.nd rfl (.inl rfl) (de_mul (de_var (pv 2)) (de_var (pv 0)) (.inr ha)) rfl) ?_
      exact ds_nil ⟨_, by rw [Int.pow_succ]; rfl⟩
    · rintro _ ⟨sl, rfl⟩
      exact ds_last (d1_ret (de_var (pv 2)) rr0)
abbrev sDivisor : Stmt := topS 10
abbrev nmDivisor : List Str := ["rule", "many"]
theorem scDivisor : FnScope nmDivisor ["rule", "many"] (defScope sDivisor) := ⟨rfl, rfl, rfl, by decide +kernel, rfl, by decide +kernel, by decide +kernel⟩
def RDivisor : RT := fun as π r π' => ∃ (o n : Int) (m : Nat), as = [rl o n, .int m] ∧ RuleS o n ∧ m ≤ 1000 ∧ π = [] ∧ π' = [] ∧ r = .d (.int (divM o n m))
theorem ok_divisor (B : Bt mg) (Gpower : OkD P w K mg base "power" 1 ["number", "many"] RPower) (F : FunAt K mg "divisor" sDivisor ["rule", "many"]) : OkD P w K mg base "divisor" 2 ["rule", "many"] RDivisor := by
  refine mk_def F scDivisor (fun as π r π' h => ?_) (fun f cdv A outer s H E N as π r π' hr hpa hR => ?_)
  · obtain ⟨o, n, m, rfl, _, _, rfl, rfl, rfl⟩ := h
    exact ⟨rfl, rfl⟩
  · obtain ⟨o, n, m, rfl, R, hm, rfl, rfl, rfl⟩ := hR
    have := R.o1; have := R.o2; have := R.n1; have := R.n2
    exact ds_last (d1_ret (de_sub (de_clD Gpower hr (by rfl) (da_cons (de_ixT (de_var (pv 0)) de_int rfl) (da_cons (de_var (pv 1)) da_nil)) ⟨o, m, rfl, by omega, by omega, rfl, rfl, rfl⟩) (de_clD Gpower hr (by rfl) (da_cons (de_sub de_int (de_ixT (de_var (pv 0)) de_int rfl)) (da_cons (de_var (pv 1)) da_nil)) ⟨0 - n, m, rfl, by omega, by omega, rfl, rfl, rfl⟩)) rr0)
abbrev sWeights : Stmt := topS 11
abbrev nmWeights : List Str := ["rule", "many", "gone"]
theorem scWeights : FnScope nmWeights ["rule", "many"] (defScope sWeights) := ⟨rfl, rfl, rfl, by decide +kernel, rfl, by decide +kernel, by decide +kernel⟩
def RWeights : RT := fun as π r π' => ∃ (o n : Int) (m : Nat), as = [rl o n, .int m] ∧ RuleS o n ∧ m ≤ 9 ∧ π = [] ∧ π' = [] ∧ r = .new (lI (tab m (wtM o n m)))
theorem ok_weights (B : Bt mg) (Gpower : OkD P w K mg base "power" 1 ["number", "many"] RPower) (F : FunAt K mg "weights" sWeights ["rule", "many"]) : OkD P w K mg base "weights" 2 ["rule", "many"] RWeights := by
  refine mk_def F scWeights (fun as π r π' h => ?_) (fun f cdv A outer s H E N as π r π' hr hpa hR => ?_)
  · obtain ⟨o, n, m, rfl, _, _, rfl, rfl, rfl⟩ := h
    exact ⟨rfl, rfl⟩
  · obtain ⟨o, n, m, rfl, R, hm, rfl, rfl, rfl⟩ := hR
    have := R.o1; have := R.o2; have := R.n1; have := R.n2
    have e : ∀ k : Nat, k < m → ((m : Int) - 1 - (k : Int)).toNat = m - 1 - k := fun k hk => by omega
    refine ds_last (d1_ret (de_lcI (y := wtM o n m) (own := [("gone", 2)]) rfl scWeights.nd (di_range1 (by rfl) B.range (de_var (pv 1)) (by omega) (by omega)) it_rng0 (blkOk_by (N := nmWeights) (sc := defScope sWeights) (by decide +kernel)) (fun _ _ _ _ _ => pg_name (i := 2) scWeights.nd rfl (.inl rfl)) (gd_name 2) (by decide) (fun _ _ => trivial) (small1000 (by omega)) (fun k hk _ _ _ _ _ => de_cast (de_mul (de_clD Gpower hr (by rfl) (da_cons (de_ixT (de_var (pv 0)) de_int rfl) (da_cons (de_sub (de_sub (de_var (pv 1)) de_int) (de_var (pv 2))) da_nil)) ⟨o, (m : Int) - 1 - k, rfl, by omega, by omega, rfl, rfl, rfl⟩) (de_clD Gpower hr (by rfl) (da_cons (de_sub de_int (de_ixT (de_var (pv 0)) de_int rfl)) (da_cons (de_var (pv 2)) da_nil)) ⟨0 - n, k, rfl, by omega, by omega, rfl, rfl, rfl⟩) (.inl (by
        have := pow_bd (a := o) (by omega) (k := ((m : Int) - 1 - (k : Int)).toNat) (by omega)
        omega))) (congrArg PyData.int (by rw [e k (by omega)]; rfl))) (fun k hk => rfl)) (rrN rfl))
abbrev sWeighed : Stmt := topS 12
abbrev nmWeighed : List Str := ["rule", "ring", "house", "many", "gone", "weight"]
theorem scWeighed : FnScope nmWeighed ["rule", "ring", "house"] (defScope sWeighed) := ⟨rfl, rfl, rfl, by decide +kernel, rfl, by decide +kernel, by decide +kernel⟩
def RWeighed : RT := fun as π r π' => ∃ (o n : Int) (ring : List Int) (h : Int), as = [rl o n, tI ring, .int h] ∧ RuleS o n ∧ (0 < ring.length ∧ ring.length ≤ 9) ∧ 0 ≤ h ∧ π = [] ∧ π' = [] ∧ r = .d (.int (wM o n ring h.toNat))
theorem ok_weighed (B : Bt mg) (Gweights : OkD P w K mg base "weights" 2 ["rule", "many"] RWeights) (F : FunAt K mg "weighed" sWeighed ["rule", "ring", "house"]) : OkD P w K mg base "weighed" 3 ["rule", "ring", "house"] RWeighed := by
  refine mk_def F scWeighed (fun as π r π' h => ?_) (fun f cdv A outer s H E N as π r π' hr hpa hR => ?_)
  · obtain ⟨o, n, ring, h, rfl, _, _, _, rfl, rfl, rfl⟩ := h
    exact ⟨rfl, rfl⟩
  · obtain ⟨o, n, ring, h, rfl, R, ⟨h0, h9⟩, hh, rfl, rfl, rfl⟩ := hR
    have := R.o1; have := R.o2; have := R.n1; have := R.n2
    have el : ((lI ring).length : Int) = ring.length := by simp
    have hp0 : N.pa.length ≤ 0 := Nat.le_of_eq hpa
    have tl : (tab ring.length (wtM o n ring.length)).length = ring.length := tab_len _ _
    have it : Items (enumD (lI (tab ring.length (wtM o n ring.length)))) ring.length (fun k => .tuple [.int (k : Nat), .int ((tab ring.length (wtM o n ring.length)).getD k 0)]) := by
      have := it_enumI (r := tab ring.length (wtM o n ring.length))
      rw [tl] at this
      exact this
    refine ds_seq (d1_set (i := 3) scWeighed.nd rfl (.inr rfl) (de_cast (de_lenT (by rfl) B.len (de_var (pv 1))) (congrArg PyData.int el)) rfl) ?_
    refine ds_last (d1_ret (de_sumP (ns := (List.range ring.length).map fun g => wtM o n ring.length g * DL.F ring (h.toNat + g)) rfl (by rfl) B.sum (de_lcI (y := fun g => wtM o n ring.length g * DL.F ring (h.toNat + g)) (n := ring.length) (own := [("gone", 4), ("weight", 5)]) rfl scWeighed.nd (di_enumL (xs := lI (tab ring.length (wtM o n ring.length))) (by rfl) B.enumerate (de_frz (de_clN Gweights hr (by rfl) (da_cons (de_var (pv 0)) (da_cons (de_var (pv 3)) da_nil)) ⟨o, n, ring.length, rfl, R, h9, rfl, rfl, rfl⟩) rfl hp0)) it (blkOk_by (N := nmWeighed) (sc := defScope sWeighed) (by decide +kernel)) (fun _ _ _ _ _ => pg_tup (n := 2) rfl (pgs_cons (pg_name (i := 4) scWeighed.nd rfl (.inl rfl)) (pgs_cons (pg_name (i := 5) scWeighed.nd rfl (.inl rfl)) pgs_nil))) (gd_tup (is := [4, 5]) (gsd_cons (gsd_cons gsd_nil))) (by decide) (fun _ _ => ⟨_, rfl, rfl⟩) (small1000 (by omega)) (fun k hk _ _ _ _ _ => de_cast (de_mul (de_var (pv 5)) (de_ixTI (de_var (pv 1)) (de_modP (de_add (de_var (pv 2)) (de_var (pv 4))) (de_var (pv 3)) (by omega)) (Int.emod_nonneg _ (by omega)) (Int.emod_lt_of_pos _ (by omega))) (.inl (by rw [tab_get _ _ _ hk]; exact wt_bd R h9 hk))) (congrArg PyData.int (by
        rw [tab_get _ _ _ hk]
        have e : ((h + (k : Int)) % (ring.length : Int)) = (((h.toNat + k) % ring.length : Nat) : Int) := by rw [Int.natCast_emod, Int.natCast_add, Int.toNat_of_nonneg hh]
        rw [e]
        rfl))) (fun k hk => rfl)) rfl) rr0)
abbrev sIsMultiple : Stmt := topS 13
abbrev nmIsMultiple : List Str := ["number", "by"]
theorem scIsMultiple : FnScope nmIsMultiple ["number", "by"] (defScope sIsMultiple) := ⟨rfl, rfl, rfl, by decide +kernel, rfl, by decide +kernel, by decide +kernel⟩
def RIsMultiple : RT := fun as π r π' => ∃ (a b : Int), as = [.int a, .int b] ∧ π = [] ∧ π' = [] ∧ r = .d (.bool (isM a b))
theorem ok_is_multiple (F : FunAt K mg "is_multiple" sIsMultiple ["number", "by"]) : OkD P w K mg base "is_multiple" 1 ["number", "by"] RIsMultiple := by
  refine mk_def F scIsMultiple (fun as π r π' h => ?_) (fun f cdv A outer s H E N as π r π' hr hpa hR => ?_)
  · obtain ⟨a, b, rfl, rfl, rfl, rfl⟩ := h
    exact ⟨rfl, rfl⟩
  · obtain ⟨a, b, rfl, rfl, rfl, rfl⟩ := hR
    refine ds_last (d1_ret (de_if (dt_eqI (de_var (pv 1)) de_int) (fun hb => (de_eqI (de_var (pv 0)) de_int)) fun hb => (de_eqI (de_modN (de_var (pv 0)) (de_var (pv 1)) (of_decide_eq_false hb)) de_int)) (rr0e ?_))
    exact isM_if a b
abbrev sFollow : Stmt := topS 14
abbrev nmFollow : List Str := ["rule", "ring", "first", "found", "house"]
theorem scFollow : FnScope nmFollow ["rule", "ring", "first"] (defScope sFollow) := ⟨rfl, rfl, rfl, by decide +kernel, rfl, by decide +kernel, by decide +kernel⟩
def RFollow : RT := fun as π r π' => ∃ (o n : Int) (ring : List Int) (a : Int), as = [rl o n, tI ring, .int a] ∧ RuleS o n ∧ (0 < ring.length ∧ ring.length ≤ 1000) ∧ π = [] ∧ π' = [] ∧ r = .d (tI (folM o n ring a))
theorem ok_follow (B : Bt mg) (F : FunAt K mg "follow" sFollow ["rule", "ring", "first"]) : OkD P w K mg base "follow" 1 ["rule", "ring", "first"] RFollow := by
  refine mk_def F scFollow (fun as π r π' h => ?_) (fun f cdv A outer s H E N as π r π' hr hpa hR => ?_)
  · obtain ⟨o, n, ring, a, rfl, _, _, rfl, rfl, rfl⟩ := h
    exact ⟨rfl, rfl⟩
  · obtain ⟨o, n, ring, a, rfl, R, ⟨h0, h9⟩, rfl, rfl, rfl⟩ := hR
    have := R.o1; have := R.o2; have := R.n1; have := R.n2
    have el : ((lI ring).length : Int) = ring.length := by simp
    refine ds_seq (d1_set (i := 3) scFollow.nd rfl (.inl rfl) (de_lst (da_cons (de_var (pv 2)) da_nil)) rfl) ?_
    refine ds_for (fun j z => ∃ sl, z = ⟨[.d (rl o n), .d (tI ring), .d (.int a), .ptr 0, sl], [some (lI (tab (j + 1) (folF o n (fun k => ring.getD k 0) a)))]⟩) PassesOwn.never rfl (di_range1 (by rfl) B.range (de_sub (de_cast (de_lenT (by rfl) B.len (de_var (pv 1))) (congrArg PyData.int el)) de_int) (by omega) (by omega)) it_rng0 (pg_name (i := 4) scFollow.nd rfl (.inl rfl)) (gd_name 4) (fun _ _ => trivial) ⟨_, rfl⟩ ?_ ?_
    · rintro j _ hj ⟨sl, rfl⟩
      refine ds_seq (d1_expr (de_appI (v := folF o n (fun k => ring.getD k 0) a (j + 1)) (ns := tab (j + 1) (folF o n (fun k => ring.getD k 0) a)) (de_ptr (pv 3)) (de_cast (de_mul (de_sub (de_ixTI (de_var (pv 1)) (de_var (pv 4)) (by omega) (by omega)) (de_mul (de_ixT (de_var (pv 0)) de_int rfl) (de_ixP (de_ptr (pv 3)) (de_neg de_int) rfl (atI_last j _)) (.inl ⟨by omega, by omega⟩))) (de_ixT (de_var (pv 0)) de_int rfl) (.inr ⟨by omega, by omega⟩)) ?_) rfl rfl (small1000 (by rw [tab_len]; omega))) rfl) ?_
      · rfl
      · exact ds_nil ⟨_, by rw [tab_succ (j + 1)]; rfl⟩
    · rintro _ ⟨sl, rfl⟩
      have e : ((ring.length : Int) - 1).toNat + 1 = ring.length := by omega
      refine ds_last (d1_ret (de_tupP (by rfl) B.tuple (de_ptr (pv 3)) rfl) (rr0e ?_))
      rw [e]
      rfl
abbrev sElder : Stmt := topS 15
abbrev nmElder : List Str := ["rule", "ring", "many", "whole", "found", "over", "step", "house"]
theorem scElder : FnScope nmElder ["rule", "ring"] (defScope sElder) := ⟨rfl, rfl, rfl, by decide +kernel, rfl, by decide +kernel, by decide +kernel⟩
def elD : Option (List Int) → D
  | none => .none
  | some r => tI r
def RElder : RT := fun as π r π' => ∃ (o n : Int) (ring : List Int), as = [rl o n, tI ring] ∧ RuleC o n ∧ (0 < ring.length ∧ ring.length ≤ 9) ∧ π = [] ∧ π' = [] ∧ r = .d (elD (elderM o n ring))
theorem ok_elder (B : Bt mg) (Gpower : OkD P w K mg base "power" 1 ["number", "many"] RPower) (Gdivisor : OkD P w K mg base "divisor" 2 ["rule", "many"] RDivisor) (Gweighed : OkD P w K mg base "weighed" 3 ["rule", "ring", "house"] RWeighed) (Gis_multiple : OkD P w K mg base "is_multiple" 1 ["number", "by"] RIsMultiple) (Gfollow : OkD P w K mg base "follow" 1 ["rule", "ring", "first"] RFollow) (F : FunAt K mg "elder" sElder ["rule", "ring"]) : OkD P w K mg base "elder" 4 ["rule", "ring"] RElder := by
  refine mk_def F scElder (fun as π r π' h => ?_) (fun f cdv A outer s H E N as π r π' hr hpa hR => ?_)
  · obtain ⟨o, n, ring, rfl, _, _, rfl, rfl, rfl⟩ := h
    exact ⟨rfl, rfl⟩
  · obtain ⟨o, n, ring, rfl, R, ⟨h0, h9⟩, rfl, rfl, rfl⟩ := hR
    have := R.o1; have := R.o2; have := R.n1; have := R.n2
    have el : ((lI ring).length : Int) = ring.length := by simp
    refine ds_seq (d1_set (i := 2) scElder.nd rfl (.inl rfl) (de_cast (de_lenT (by rfl) B.len (de_var (pv 1))) (congrArg PyData.int el)) rfl) ?_
    refine ds_seq (d1_set (i := 3) scElder.nd rfl (.inr rfl) (de_clD Gdivisor hr (by rfl) (da_cons (de_var (pv 0)) (da_cons (de_var (pv 2)) da_nil)) ⟨o, n, ring.length, rfl, R.toRuleS, by omega, rfl, rfl, rfl⟩) rfl) ?_
    refine ds_ifR (dt_not (dt_val (de_clD Gis_multiple hr (by rfl) (da_cons (de_clD Gweighed hr (by rfl) (da_cons (de_var (pv 0)) (da_cons (de_var (pv 1)) (da_cons de_int da_nil))) ⟨o, n, ring, 0, rfl, R.toRuleS, ⟨h0, h9⟩, by omega, rfl, rfl, rfl⟩) (da_cons (de_var (pv 3)) da_nil)) ⟨_, _, rfl, rfl, rfl, rfl⟩))) (fun hb => ?_) (fun hb => ?_)
    · refine ds_last (d1_ret de_non (rr0e ?_))
      have hn : ¬ divM o n ring.length ∣ wM o n ring 0 := fun q => by
        rw [show isM (wM o n ring (0 : Int).toNat) (divM o n ring.length) = true from decide_eq_true q] at hb
        cases hb
      rw [elder_none hn]
      rfl
    have hdv : divM o n ring.length ∣ wM o n ring 0 := by
      refine of_decide_eq_true (?_ : isM (wM o n ring 0) (divM o n ring.length) = true)
      cases h : isM (wM o n ring 0) (divM o n ring.length)
      · rw [show isM (wM o n ring (0 : Int).toNat) (divM o n ring.length) = false from h] at hb
        cases hb
      · rfl
    refine ds_ifR (dt_neI (de_var (pv 3)) de_int) (fun hb => ?_) (fun hb => ?_)
    · have hD : divM o n ring.length ≠ 0 := fun q => by
        rw [decide_eq_true q] at hb
        cases hb
      rw [elder_quo hdv hD]
      exact ds_last (d1_ret (de_tupP (xs := lI (quoM o n ring)) (by rfl) B.tuple (de_lcI (y := fun h => (wM o n ring h).fdiv (divM o n ring.length)) (own := [("house", 7)]) rfl scElder.nd (di_range1 (by rfl) B.range (de_var (pv 2)) (by omega) (by omega)) it_rng0 (blkOk_by (N := nmElder) (sc := defScope sElder) (by decide +kernel)) (fun _ _ _ _ _ => pg_name (i := 7) scElder.nd rfl (.inl rfl)) (gd_name 7) (by decide) (fun _ _ => trivial) (small1000 (by omega)) (fun k hk _ _ _ _ _ => (de_divN (de_clD Gweighed hr (by rfl) (da_cons (de_var (pv 0)) (da_cons (de_var (pv 1)) (da_cons (de_var (pv 7)) da_nil))) ⟨o, n, ring, k, rfl, R.toRuleS, ⟨h0, h9⟩, by omega, rfl, rfl, rfl⟩) (de_var (pv 3)) ⟨hD, divM_bd R.toRuleS h9⟩)) (fun k hk => rfl)) rfl) rr0)
    have hD : divM o n ring.length = 0 := by
      by_cases q : divM o n ring.length = 0
      · exact q
      · rw [decide_eq_false q] at hb
        cases hb
    have U := nul_of R h0 h9 hD
    have hw : wM o n ring 0 = 0 := by rw [hD] at hdv; exact dvd0 hdv
    have fl := folM_len o n ring 0
    have hst : (stepM o ring.length).natAbs < 1073741824 := by
      unfold stepM
      rw [Int.natAbs_mul]
      have h1 : (o ^ (ring.length - 1)).natAbs ≤ 1 := by
        have h2 := pow_sq U.oo (ring.length - 1)
        have h3 := congrArg Int.natAbs h2
        rw [Int.natAbs_mul] at h3
        have : (o ^ (ring.length - 1)).natAbs = 1 := Nat.eq_one_of_mul_eq_one_right h3
        omega
      have := Nat.mul_le_mul (show ((ring.length : Int)).natAbs ≤ 9 by omega) h1
      omega
    refine ds_seq (d1_set (i := 4) scElder.nd rfl (.inl rfl) (de_clD Gfollow hr (by rfl) (da_cons (de_var (pv 0)) (da_cons (de_var (pv 1)) (da_cons de_int da_nil))) ⟨o, n, ring, 0, rfl, R.toRuleS, ⟨h0, by omega⟩, rfl, rfl, rfl⟩) rfl) ?_
    have e1 : (((ring.length : Int) - 1).toNat) = ring.length - 1 := by omega
    refine ds_seq (d1_par (i := 5) (j := 6) rfl scElder.nd rfl rfl (by decide) rfl rfl (da_cons (de_clD Gweighed hr (by rfl) (da_cons (de_var (pv 0)) (da_cons (de_var (pv 4)) (da_cons de_int da_nil))) ⟨o, n, folM o n ring 0, 0, rfl, R.toRuleS, ⟨by omega, by omega⟩, by omega, rfl, rfl, rfl⟩) (da_cons (de_cast (y := .int (stepM o ring.length)) (de_mul (de_var (pv 2)) (de_clD Gpower hr (by rfl) (da_cons (de_ixT (de_var (pv 0)) de_int rfl) (da_cons (de_sub (de_var (pv 2)) de_int) da_nil)) ⟨o, (ring.length : Int) - 1, rfl, by omega, by omega, rfl, rfl, rfl⟩) (.inl (by omega))) (by rw [e1]; rfl)) da_nil)) (by rfl) rfl) ?_
    refine ds_last (d1_ret (de_if (dt_eqI (de_modN (de_var (pv 5)) (de_var (pv 6)) (step_ne U)) de_int) (fun hb => (de_clD Gfollow hr (by rfl) (da_cons (de_var (pv 0)) (da_cons (de_var (pv 1)) (da_cons (de_sub de_int (de_divN (de_var (pv 5)) (de_var (pv 6)) ⟨step_ne U, hst⟩)) da_nil))) ⟨o, n, ring, _, rfl, R.toRuleS, ⟨h0, by omega⟩, rfl, rfl, rfl⟩)) fun hb => (de_var (pv 4))) (rr0e ?_))
    have eE : elderM o n ring = if stepM o ring.length ∣ wM o n (folM o n ring 0) 0 then some (folM o n ring (0 - (wM o n (folM o n ring 0) 0).fdiv (stepM o ring.length))) else some (folM o n ring 0) := by
      unfold elderM
      rw [if_neg (fun q => q hdv), if_neg (fun q => q hD)]
    rw [eE]
    by_cases h : stepM o ring.length ∣ wM o n (folM o n ring 0) 0
    · rw [if_pos h]
      exact if_pos (decide_eq_true (Int.fmod_eq_zero_of_dvd h))
    · rw [if_neg h]
      exact if_neg (fun q => h (Int.dvd_of_fmod_eq_zero (of_decide_eq_true q)))
abbrev sOver : Stmt := topS 3
abbrev nmOver : List Str := ["word", "by", "rest", "found", "top", "low", "at", "one"]
theorem scOver : FnScope nmOver ["word", "by"] (defScope sOver) := ⟨rfl, rfl, rfl, by decide +kernel, rfl, by decide +kernel, by decide +kernel⟩
def ROver : RT := fun as π r π' => ∃ (word by_ : List Int), as = [tI word, tI by_] ∧ (0 < by_.length ∧ word.length ≤ 900 ∧ by_.length ≤ 900) ∧ (∀ k, -(2 ^ 64) < by_.getD k 0 ∧ by_.getD k 0 < 2 ^ 64) ∧ π = [] ∧ π' = [] ∧ r = .d (.tuple [tI (overM word by_).1, tI (overM word by_).2])
theorem ok_over (B : Bt mg) (F : FunAt K mg "over" sOver ["word", "by"]) : OkD P w K mg base "over" 1 ["word", "by"] ROver := by
  refine mk_def F scOver (fun as π r π' h => ?_) (fun f cdv A outer s H E N as π r π' hr hpa hR => ?_)
  · obtain ⟨word, by_, rfl, _, _, rfl, rfl, rfl⟩ := h
    exact ⟨rfl, rfl⟩
  · obtain ⟨word, by_, rfl, ⟨hb, hw, hb9⟩, hbd, rfl, rfl, rfl⟩ := hR
    have elb : ((lI by_).length : Int) = by_.length := by simp
    have hp0 : N.pa.length ≤ 0 := Nat.le_of_eq hpa
    have hp2 : N.pa.length ≤ 2 := Nat.le_trans hp0 (by decide)
    have hp3 : N.pa.length ≤ 3 := Nat.le_trans hp0 (by decide)
    have hz : (2000 : Nat) ≤ sizeLine := by decide
    refine ds_seq (d1_parDP (i := 2) (j := 3) rfl scOver.nd rfl rfl (by decide) rfl rfl (pa_dp (de_frz (de_listT (by rfl) B.list (de_var (pv 0))) rfl hp0) (de_lst da_nil)) (by rfl) rfl) ?_
    refine ds_at (z1 := ⟨[.d (tI word), .d (tI by_), .d (.list (lI word)), .ptr 1, .no, .no, .no, .no], [none, some (lI [])]⟩) rfl ?_
    refine ds_while (fun m z => ∃ (rest found : List Int) (fu : Nat) (s4 s5 : Sl), m = rest.length ∧ (rest.length < fu ∧ rest.length ≤ 900 ∧ found.length + rest.length ≤ 900) ∧ ovL fu by_ rest found = overM word by_ ∧ z = ⟨[.d (tI word), .d (tI by_), .d (.list (lI rest)), .ptr 1, s4, s5, .no, .no], [none, some (lI found)]⟩) word.length (fun m _ => decide ((by_.length : Int) ≤ (m : Int))) PassesOwn.never ⟨word, [], word.length + 1, _, _, rfl, ⟨by omega, hw, by simp; omega⟩, rfl, rfl⟩ ?_ ?_ ?_
    · rintro m _ ⟨rest, found, fu, s4, s5, rfl, ⟨h1, h2, h3⟩, hu, rfl⟩
      exact dt_ge (de_cast (de_lenL (by rfl) B.len (de_var (pv 2))) (congrArg PyData.int (by simp))) (de_cast (de_lenT (by rfl) B.len (de_var (pv 1))) (congrArg PyData.int elb))
    · rintro m _ ⟨rest, found, fu, s4, s5, rfl, ⟨h1, h2, h3⟩, hu, rfl⟩ hb1
      have hle : by_.length ≤ rest.length := by have := of_decide_eq_true hb1; omega
      have h0 : 0 < rest.length := by omega
      refine ds_seq (d1_set (i := 4) scOver.nd rfl (.inr rfl) (de_ixL (de_var (pv 2)) (de_neg de_int) (atI_neg1 h0)) rfl) ?_
      refine ds_seq (d1_expr (de_appI (ns := found) (de_ptr (pv 3)) (de_var (pv 4)) rfl rfl (by omega)) rfl) ?_
      refine ds_seq (d1_set (i := 5) scOver.nd rfl (.inr rfl) (de_sub (de_cast (y := .int rest.length) (de_lenL (by rfl) B.len (de_var (pv 2))) (congrArg PyData.int (by simp))) (de_cast (de_lenT (by rfl) B.len (de_var (pv 1))) (congrArg PyData.int elb))) rfl) ?_
      refine ds_at (z1 := ⟨[.d (tI word), .d (tI by_), .d (.list (lI rest)), .ptr 1, .d (.int (rest.getD (rest.length - 1) 0)), .d (.int ((rest.length : Int) - by_.length)), .no, .no], [none, some (lI (found ++ [rest.getD (rest.length - 1) 0]))]⟩) rfl ?_
      have hst : ∀ k : Nat, (if decide (((rest.length : Int) - by_.length) ≤ (k : Int)) = true then rest.getD k 0 - rest.getD (rest.length - 1) 0 * at_ by_ ((k : Int) - ((rest.length : Int) - by_.length)) else rest.getD k 0) = if rest.length - by_.length ≤ k then rest.getD k 0 - rest.getD (rest.length - 1) 0 * by_.getD (k - (rest.length - by_.length)) 0 else rest.getD k 0 := fun k => by
        by_cases q : rest.length - by_.length ≤ k
        · rw [if_pos q, if_pos (decide_eq_true (by omega))]
          congr 2
          unfold at_
          congr 1
          omega
        · rw [if_neg q, if_neg (by rw [decide_eq_false (by omega)]; decide)]
      have hcut : cutG (lI ((List.range rest.length).map fun (k : Nat) => if decide (((rest.length : Int) - by_.length) ≤ (k : Int)) = true then rest.getD k 0 - rest.getD (rest.length - 1) 0 * at_ by_ ((k : Int) - ((rest.length : Int) - by_.length)) else rest.getD k 0)) none (some (-1)) = lI (ovStep by_ rest) := by
        rw [cutG_map, cutG_init]
        congr 1
        show (tab rest.length _).take _ = tab _ _
        rw [List.length_map, List.length_range, take_tab _ _ _ (by omega)]
        exact tab_congr fun k _ => hst k
      refine ds_seq (d1_set (i := 2) scOver.nd rfl (.inl rfl) (de_frz (xs := lI (ovStep by_ rest)) (de_slP (de_lcI (y := fun (k : Nat) => if decide (((rest.length : Int) - by_.length) ≤ (k : Int)) = true then rest.getD k 0 - rest.getD (rest.length - 1) 0 * at_ by_ ((k : Int) - ((rest.length : Int) - by_.length)) else rest.getD k 0) (own := [("at", 6), ("one", 7)]) rfl scOver.nd (di_enumL (by rfl) B.enumerate (de_var (pv 2))) it_enumI (blkOk_by (N := nmOver) (sc := defScope sOver) (by decide +kernel)) (fun _ _ _ _ _ => pg_tup (n := 2) rfl (pgs_cons (pg_name (i := 6) scOver.nd rfl (.inl rfl)) (pgs_cons (pg_name (i := 7) scOver.nd rfl (.inl rfl)) pgs_nil))) (gd_tup (is := [6, 7]) (gsd_cons (gsd_cons gsd_nil))) (by decide) (fun _ _ => ⟨_, rfl, rfl⟩) (small1000 (by omega)) (fun k hk _ _ _ _ _ => (de_ifI (dt_ge (de_var (pv 6)) (de_var (pv 5))) (fun hb => (de_sub (de_var (pv 7)) (de_mul (de_var (pv 4)) (de_ixTI (de_var (pv 1)) (de_sub (de_var (pv 6)) (de_var (pv 5))) (by have := of_decide_eq_true hb; omega) (by omega)) (.inr (hbd _))))) fun hb => (de_var (pv 7)))) (fun k hk => rfl)) do_none (do_some (de_neg de_int)) rfl) (by rw [hcut]; rfl) hp3) rfl) ?_
      refine ds_wk (s' := [.d (tI word), .d (tI by_), .d (.list (lI (ovStep by_ rest))), .ptr 1, .no, .no, .no, .no]) (o' := [none, some (lI (found ++ [rest.getD (rest.length - 1) 0]))]) (.keep (.keep (.keep (.keep (.drop (.drop (.drop (.drop .nil)))))))) rfl hp2 rfl ?_
      obtain ⟨g, rfl⟩ : ∃ g, fu = g + 1 := ⟨fu - 1, by omega⟩
      have hsl := ovStep_len by_ rest
      refine ds_nil ⟨rest.length - 1, by omega, ovStep by_ rest, found ++ [rest.getD (rest.length - 1) 0], g, _, _, hsl.symm, ⟨by omega, by omega, by rw [List.length_append]; simp; omega⟩, ?_, rfl⟩
      rw [← hu]
      show _ = if by_.length ≤ rest.length then _ else _
      rw [if_pos hle]
    · rintro m _ ⟨rest, found, fu, s4, s5, rfl, ⟨h1, h2, h3⟩, hu, rfl⟩ hb1
      have hle : ¬ by_.length ≤ rest.length := by have := of_decide_eq_false hb1; omega
      obtain ⟨g, rfl⟩ : ∃ g, fu = g + 1 := ⟨fu - 1, by omega⟩
      have hu : (if by_.length ≤ rest.length then _ else (found.reverse, rest)) = overM word by_ := hu
      rw [if_neg hle] at hu
      rw [← hu]
      refine ds_last (d1_ret (de_tup (da_cons (de_tupP (xs := lI found.reverse) (by rfl) B.tuple (de_revP (de_ptr (pv 3)) rfl) (congrArg (fun l => some (some l)) (List.map_reverse (f := PyData.int) (l := found)).symm)) (da_cons (de_tupL (by rfl) B.tuple (de_var (pv 2))) da_nil))) rr0)
abbrev sProduct : Stmt := topS 4
abbrev nmProduct : List Str := ["one", "other", "found", "left", "first", "right", "second"]
theorem scProduct : FnScope nmProduct ["one", "other"] (defScope sProduct) := ⟨rfl, rfl, rfl, by decide +kernel, rfl, by decide +kernel, by decide +kernel⟩
def RProduct : RT := fun as π r π' => ∃ (one other : List Int), as = [tI one, tI other] ∧ (0 < one.length ∧ 0 < other.length ∧ one.length ≤ 400 ∧ other.length ≤ 400) ∧ (∀ k, -(2 ^ 64) < other.getD k 0 ∧ other.getD k 0 < 2 ^ 64) ∧ π = [] ∧ π' = [] ∧ r = .d (tI (prodM one other))
theorem ok_product (B : Bt mg) (F : FunAt K mg "product" sProduct ["one", "other"]) : OkD P w K mg base "product" 1 ["one", "other"] RProduct := by
  refine mk_def F scProduct (fun as π r π' h => ?_) (fun f cdv A outer s H E N as π r π' hr hpa hR => ?_)
  · obtain ⟨one, other, rfl, _, _, rfl, rfl, rfl⟩ := h
    exact ⟨rfl, rfl⟩
  · obtain ⟨one, other, rfl, ⟨h1, h2, h3, h4⟩, hbd, rfl, rfl, rfl⟩ := hR
    have el1 : ((lI one).length : Int) = one.length := by simp
    have el2 : ((lI other).length : Int) = other.length := by simp
    have hz : (2000 : Nat) ≤ sizeLine := by decide
    have e0 : ((one.length : Int) + other.length - 1).toNat = one.length + other.length - 1 := by omega
    refine ds_seq (d1_set (i := 2) scProduct.nd rfl (.inl rfl) (de_repPI (v := 0) (de_lst (da_cons de_int da_nil)) (de_sub (de_add (de_cast (de_lenT (by rfl) B.len (de_var (pv 0))) (congrArg PyData.int el1)) (de_cast (de_lenT (by rfl) B.len (de_var (pv 1))) (congrArg PyData.int el2))) de_int) rfl (by omega) (by omega) (by omega)) rfl) ?_
    refine ds_for (fun k z => ∃ s3 s4 s5 s6, z = ⟨[.d (tI one), .d (tI other), .ptr 1, s3, s4, s5, s6], [some [.int 0], some (lI (prodOut one other k))]⟩) PassesOwn.never rfl (di_enumT (by rfl) B.enumerate (de_var (pv 0))) it_enumI (pg_tup (n := 2) rfl (pgs_cons (pg_name (i := 3) scProduct.nd rfl (.inl rfl)) (pgs_cons (pg_name (i := 4) scProduct.nd rfl (.inl rfl)) pgs_nil))) (gd_tup (is := [3, 4]) (gsd_cons (gsd_cons gsd_nil))) (fun _ _ => ⟨_, rfl, rfl⟩) ⟨_, _, _, _, by rw [e0]; rfl⟩ ?_ ?_
    · rintro k _ hk ⟨s3, s4, s5, s6, rfl⟩
      refine ds_for (fun j z => ∃ s5 s6, z = ⟨[.d (tI one), .d (tI other), .ptr 1, .d (.int k), .d (.int (one.getD k 0)), s5, s6], [some [.int 0], some (lI (prodIn (one.getD k 0) k other (prodOut one other k) j))]⟩) PassesOwn.never rfl (di_enumT (by rfl) B.enumerate (de_var (pv 1))) it_enumI (pg_tup (n := 2) rfl (pgs_cons (pg_name (i := 5) scProduct.nd rfl (.inl rfl)) (pgs_cons (pg_name (i := 6) scProduct.nd rfl (.inl rfl)) pgs_nil))) (gd_tup (is := [5, 6]) (gsd_cons (gsd_cons gsd_nil))) (fun _ _ => ⟨_, rfl, rfl⟩) ⟨_, _, rfl⟩ ?_ ?_
      · rintro j _ hj ⟨s5, s6, rfl⟩
        have hl : (prodIn (one.getD k 0) k other (prodOut one other k) j).length = one.length + other.length - 1 := by rw [prodIn_len, prodOut_len]
        have ei : ((k : Int) + (j : Int)).toNat = k + j := by omega
        refine ds_seq (d1_augLI (ns := prodIn (one.getD k 0) k other (prodOut one other k) j) (ms := prodIn (one.getD k 0) k other (prodOut one other k) j) (de_ptr (pv 2)) (de_add (de_var (pv 3)) (de_var (pv 5))) (de_mul (de_var (pv 4)) (de_var (pv 6)) (.inr (hbd j))) rfl (by omega) (by rw [hl]; omega) rfl (by rw [hl]; omega) rfl) ?_
        refine ds_nil ⟨.d (.int j), .d (.int (other.getD j 0)), ?_⟩
        have e : prodIn (one.getD k 0) k other (prodOut one other k) (j + 1) = (prodIn (one.getD k 0) k other (prodOut one other k) j).set ((k : Int) + (j : Int)).toNat (at_ (prodIn (one.getD k 0) k other (prodOut one other k) j) ((k : Int) + (j : Int)) + one.getD k 0 * other.getD j 0) := by
          unfold at_
          rw [ei]
          rfl
        rw [e]
        rfl
      · rintro _ ⟨s5, s6, rfl⟩
        exact ds_nil ⟨_, _, _, _, rfl⟩
    · rintro _ ⟨s3, s4, s5, s6, rfl⟩
      exact ds_last (d1_ret (de_tupP (by rfl) B.tuple (de_ptr (pv 2)) rfl) rr0)
abbrev sPiece : Stmt := topS 5
abbrev nmPiece : List Str := ["many", "found", "lesser"]
theorem scPiece : FnScope nmPiece ["many"] (defScope sPiece) := ⟨rfl, rfl, rfl, by decide +kernel, rfl, by decide +kernel, by decide +kernel⟩
def RPiece (m : Nat) : RT := fun as π r π' => ∃ (j : Nat), as = [.int j] ∧ (0 < j ∧ j ≤ m ∧ j ≤ 9) ∧ π = [] ∧ π' = [] ∧ r = .d (tI (pieceT j))
theorem pieceT_bd {m : Nat} (h0 : 0 < m) (h9 : m ≤ 9) (k : Nat) : -(2 ^ 64) < (pieceT m).getD k 0 ∧ (pieceT m).getD k 0 < 2 ^ 64 := by
  have := getD_all (f := pieceT m) (p := fun v => v.natAbs ≤ 1) (pieceT_ok h0 h9).bd (by decide) k
  omega
theorem ok_pieceN (B : Bt mg) (Gover : OkD P w K mg base "over" 1 ["word", "by"] ROver) (F : FunAt K mg "piece" sPiece ["many"]) : ∀ m : Nat, OkD P w K mg base "piece" (m + 2) ["many"] (RPiece m)
  | 0 => by
    refine mk_def F scPiece (fun as π r π' h => ?_) (fun f cdv A outer s H E N as π r π' hr hpa hR => ?_)
    · obtain ⟨j, rfl, _, rfl, rfl, rfl⟩ := h
      exact ⟨rfl, rfl⟩
    · obtain ⟨j, rfl, h, rfl, rfl, rfl⟩ := hR
      omega
  | m + 1 => by
    have Gpiece := ok_pieceN B Gover F m
    refine mk_def F scPiece (fun as π r π' h => ?_) (fun f cdv A outer s H E N as π r π' hr hpa hR => ?_)
    · obtain ⟨j, rfl, _, rfl, rfl, rfl⟩ := h
      exact ⟨rfl, rfl⟩
    · obtain ⟨j, rfl, ⟨h0, hm, h9⟩, rfl, rfl, rfl⟩ := hR
      have hp0 : N.pa.length ≤ 0 := Nat.le_of_eq hpa
      have hz : (2000 : Nat) ≤ sizeLine := by decide
      obtain ⟨pe, pl⟩ := pieceL_ok h0 h9
      have e0 : ((j : Int) - 1).toNat = j - 1 := by omega
      refine ds_seq (d1_set (i := 1) scPiece.nd rfl (.inl rfl) (de_tupP (xs := lI (pieceL j 0)) (by rfl) B.tuple (de_catPI (ns := [-1] ++ List.replicate (j - 1) 0) (ms := [1]) (de_catPI (ns := [-1]) (ms := List.replicate (j - 1) 0) (de_lst (da_cons (de_neg de_int) da_nil)) (de_repPI (v := 0) (de_lst (da_cons de_int da_nil)) (de_sub (de_var (pv 0)) de_int) rfl (by omega) (by omega) (by omega)) rfl (by rw [e0]; rfl) (by simp; omega)) (de_lst (da_cons de_int da_nil)) rfl rfl (by simp; omega)) rfl) rfl) ?_
      refine ds_wk (s' := [.d (.int j), .d (tI (pieceL j 0)), .no]) (o' := []) (.keep (.keep (.keep .nil))) rfl hp0 rfl ?_
      refine ds_for (fun k z => ∃ sl, z = ⟨[.d (.int j), .d (tI (pieceL j k)), sl], []⟩) (n := j - 1) (item := fun k => .int (1 + (k : Nat))) PassesOwn.never rfl (di_range2 (by rfl) B.range de_int (de_var (pv 0)) ⟨by decide, by decide, by omega, by omega⟩) (by rw [e0]; exact it_rng) (pg_name (i := 2) scPiece.nd rfl (.inl rfl)) (gd_name 2) (fun _ _ => trivial) ⟨_, rfl⟩ ?_ ?_
      · rintro k _ hk ⟨sl, rfl⟩
        have hp := pieceT_ok (m := k + 1) (by omega) (by omega)
        have hlk := pl k (by omega)
        have ek : (1 : Int) + (k : Nat) = ((k + 1 : Nat) : Int) := by omega
        rw [ek]
        refine ds_cons (mid := fun z' => ∃ sl, z' = ⟨[.d (.int j), .d (tI (pieceL j (k + 1))), sl], []⟩) (d1_if (dt_eqI (de_modP (de_var (pv 0)) (de_var (pv 2)) (by omega)) de_int) (fun hb => ?_) (fun hb => ?_)) (fun z' hz => ds_nil hz)
        · have hb : (j : Int) % ((k + 1 : Nat) : Int) = 0 := of_decide_eq_true hb
          have hb : j % (k + 1) = 0 := by omega
          refine ds_seq (d1_set (i := 1) scPiece.nd rfl (.inl rfl) (de_ixT (d := tI (overM (pieceL j k) (pieceT (k + 1))).1) (de_clD Gover (hr.mono (by omega : 1 ≤ m + 2)) (by rfl) (da_cons (de_var (pv 1)) (da_cons (de_clD Gpiece hr (by rfl) (da_cons (de_var (pv 2)) da_nil) ⟨k + 1, rfl, ⟨by omega, by omega, by omega⟩, rfl, rfl, rfl⟩ (Nat.le_refl _)) da_nil)) ⟨pieceL j k, pieceT (k + 1), rfl, ⟨by have := hp.l2; omega, by omega, by have := hp.l7; omega⟩, pieceT_bd (by omega) (by omega), rfl, rfl, rfl⟩) de_int rfl) rfl) ?_
          have e : pieceL j (k + 1) = (overM (pieceL j k) (pieceT (k + 1))).1 := if_pos hb
          exact ds_nil ⟨_, by rw [e]; rfl⟩
        · have hb : ¬ (j : Int) % ((k + 1 : Nat) : Int) = 0 := of_decide_eq_false hb
          have hb : ¬ j % (k + 1) = 0 := by omega
          have e : pieceL j (k + 1) = pieceL j k := if_neg hb
          exact ds_nil ⟨_, by rw [e]; rfl⟩
      · rintro _ ⟨sl, rfl⟩
        exact ds_last (d1_ret (de_var (pv 1)) (rr0e (by rw [pe])))
theorem ok_piece (B : Bt mg) (Gover : OkD P w K mg base "over" 1 ["word", "by"] ROver) (F : FunAt K mg "piece" sPiece ["many"]) : OkD P w K mg base "piece" 11 ["many"] (RPiece 9) := by exact ok_pieceN B Gover F 9
abbrev sNorm : Stmt := topS 6
abbrev nmNorm : List Str := ["rule", "many", "own", "other", "word", "far", "found", "at", "one"]
theorem scNorm : FnScope nmNorm ["rule", "many"] (defScope sNorm) := ⟨rfl, rfl, rfl, by decide +kernel, rfl, by decide +kernel, by decide +kernel⟩
def RNorm : RT := fun as π r π' => ∃ (o n : Int) (m : Nat), as = [rl o n, .int m] ∧ RuleS o n ∧ (0 < m ∧ m ≤ 9) ∧ π = [] ∧ π' = [] ∧ r = .d (.int (normM o n m))
theorem ok_norm (B : Bt mg) (Gpower : OkD P w K mg base "power" 1 ["number", "many"] RPower) (Gpiece : OkD P w K mg base "piece" 11 ["many"] (RPiece 9)) (F : FunAt K mg "norm" sNorm ["rule", "many"]) : OkD P w K mg base "norm" 12 ["rule", "many"] RNorm := by
  refine mk_def F scNorm (fun as π r π' h => ?_) (fun f cdv A outer s H E N as π r π' hr hpa hR => ?_)
  · obtain ⟨o, n, m, rfl, _, _, rfl, rfl, rfl⟩ := h
    exact ⟨rfl, rfl⟩
  · obtain ⟨o, n, m, rfl, R, ⟨h0, h9⟩, rfl, rfl, rfl⟩ := hR
    have := R.o1; have := R.o2; have := R.n1; have := R.n2
    have hp := pieceT_ok h0 h9
    have := hp.l2; have := hp.l7
    have hbd := pieceT_bd h0 h9
    have el : ((lI (pieceT m)).length : Int) = (pieceT m).length := by simp
    refine ds_seq (d1_asg (de_var (pv 0)) (pg_tup (n := 2) rfl (pgs_cons (pg_name (i := 2) scNorm.nd rfl (.inr rfl)) (pgs_cons (pg_name (i := 3) scNorm.nd rfl (.inr rfl)) pgs_nil))) (gd_tup (is := [2, 3]) (gsd_cons (gsd_cons gsd_nil))) ⟨_, rfl, rfl⟩ rfl) ?_
    refine ds_seq (d1_set (i := 4) scNorm.nd rfl (.inl rfl) (de_clD Gpiece hr (by rfl) (da_cons (de_var (pv 1)) da_nil) ⟨m, rfl, ⟨h0, h9, h9⟩, rfl, rfl, rfl⟩) rfl) ?_
    refine ds_seq (d1_set (i := 5) scNorm.nd rfl (.inr rfl) (de_sub (de_cast (de_lenT (by rfl) B.len (de_var (pv 4))) (congrArg PyData.int el)) de_int) rfl) ?_
    refine ds_at (z1 := ⟨[.d (rl o n), .d (.int m), .d (.int o), .d (.int n), .d (tI (pieceT m)), .d (.int (((pieceT m).length : Int) - 1)), .no, .no, .no], []⟩) rfl ?_
    have ef : (((pieceT m).length : Int) - 1).toNat = (pieceT m).length - 1 := by omega
    refine ds_seq (d1_set (i := 6) scNorm.nd rfl (.inl rfl) (de_sumP (ns := (List.range (pieceT m).length).map fun g => (pieceT m).getD g 0 * (0 - o) ^ g * n ^ ((pieceT m).length - 1 - g)) rfl (by rfl) B.sum (de_lcI (y := fun g => (pieceT m).getD g 0 * (0 - o) ^ g * n ^ ((pieceT m).length - 1 - g)) (own := [("at", 7), ("one", 8)]) rfl scNorm.nd (di_enumT (by rfl) B.enumerate (de_var (pv 4))) it_enumI (blkOk_by (N := nmNorm) (sc := defScope sNorm) (by decide +kernel)) (fun _ _ _ _ _ => pg_tup (n := 2) rfl (pgs_cons (pg_name (i := 7) scNorm.nd rfl (.inl rfl)) (pgs_cons (pg_name (i := 8) scNorm.nd rfl (.inl rfl)) pgs_nil))) (gd_tup (is := [7, 8]) (gsd_cons (gsd_cons gsd_nil))) (by decide) (fun _ _ => ⟨_, rfl, rfl⟩) (small1000 (by omega)) (fun k hk _ _ _ _ _ => de_cast (de_mul (de_mul (de_var (pv 8)) (de_clD Gpower hr (by rfl) (da_cons (de_sub de_int (de_var (pv 2))) (da_cons (de_var (pv 7)) da_nil)) ⟨0 - o, k, rfl, by omega, by omega, rfl, rfl, rfl⟩) (.inl (hbd k))) (de_clD Gpower hr (by rfl) (da_cons (de_var (pv 3)) (da_cons (de_sub (de_var (pv 5)) (de_var (pv 7))) da_nil)) ⟨n, ((pieceT m).length : Int) - 1 - k, rfl, by omega, by omega, rfl, rfl, rfl⟩) (.inr (by
        have := pow_bd (a := n) (by omega) (k := (((pieceT m).length : Int) - 1 - (k : Int)).toNat) (by omega)
        omega))) (congrArg PyData.int (by rw [show (((pieceT m).length : Int) - 1 - (k : Int)).toNat = (pieceT m).length - 1 - k by omega]; rfl))) (fun k hk => rfl)) rfl) rfl) ?_
    refine ds_last (d1_ret (de_mul (de_clD Gpower hr (by rfl) (da_cons (de_neg de_int) (da_cons (de_var (pv 5)) da_nil)) ⟨-1, ((pieceT m).length : Int) - 1, rfl, by omega, by omega, rfl, rfl, rfl⟩) (de_var (pv 6)) (.inl (by
        have := pow_bd (a := -1) (by decide) (k := (((pieceT m).length : Int) - 1).toNat) (by omega)
        omega))) (rr0e ?_))
    rw [ef]
    rfl
abbrev sStirred : Stmt := topS 7
abbrev nmStirred : List Str := ["rule", "many", "found", "lesser"]
theorem scStirred : FnScope nmStirred ["rule", "many"] (defScope sStirred) := ⟨rfl, rfl, rfl, by decide +kernel, rfl, by decide +kernel, by decide +kernel⟩
def RStirred : RT := fun as π r π' => ∃ (o n : Int) (m : Nat), as = [rl o n, .int m] ∧ RuleS o n ∧ (0 < m ∧ m ≤ 9) ∧ π = [] ∧ π' = [] ∧ r = .d (tI (stirM o n m))
theorem ok_stirred (B : Bt mg) (Gproduct : OkD P w K mg base "product" 1 ["one", "other"] RProduct) (Gpiece : OkD P w K mg base "piece" 11 ["many"] (RPiece 9)) (Gnorm : OkD P w K mg base "norm" 12 ["rule", "many"] RNorm) (F : FunAt K mg "stirred" sStirred ["rule", "many"]) : OkD P w K mg base "stirred" 13 ["rule", "many"] RStirred := by
  refine mk_def F scStirred (fun as π r π' h => ?_) (fun f cdv A outer s H E N as π r π' hr hpa hR => ?_)
  · obtain ⟨o, n, m, rfl, _, _, rfl, rfl, rfl⟩ := h
    exact ⟨rfl, rfl⟩
  · obtain ⟨o, n, m, rfl, R, ⟨h0, h9⟩, rfl, rfl, rfl⟩ := hR
    refine ds_seq (d1_set (i := 2) scStirred.nd rfl (.inl rfl) (de_tup (da_cons de_int da_nil)) rfl) ?_
    have e0 : ((m : Int) + 1 - 1).toNat = m := by omega
    refine ds_for (fun k z => ∃ sl, z = ⟨[.d (rl o n), .d (.int m), .d (tI (stirL o n m k)), sl], []⟩) (n := m) (item := fun k => .int (1 + (k : Nat))) PassesOwn.never rfl (di_range2 (by rfl) B.range de_int (de_add (de_var (pv 1)) de_int) ⟨by decide, by decide, by omega, by omega⟩) (by rw [e0]; exact it_rng) (pg_name (i := 3) scStirred.nd rfl (.inl rfl)) (gd_name 3) (fun _ _ => trivial) ⟨_, rfl⟩ ?_ ?_
    · rintro k _ hk ⟨sl, rfl⟩
      have hp := pieceT_ok (m := k + 1) (by omega) (by omega)
      have := hp.l2; have := hp.l7
      have hs := stirL_len o n (m := m) k (by omega)
      have ek : (1 : Int) + (k : Nat) = ((k + 1 : Nat) : Int) := by omega
      rw [ek]
      refine ds_cons (mid := fun z' => ∃ sl, z' = ⟨[.d (rl o n), .d (.int m), .d (tI (stirL o n m (k + 1))), sl], []⟩) (d1_if (dt_w (dw_and (dt_eqI (de_modP (de_var (pv 1)) (de_var (pv 3)) (by omega)) de_int) fun hb => (dw_and1 (dt_neI (de_abs (by rfl) B.abs (de_clD Gnorm hr (by rfl) (da_cons (de_var (pv 0)) (da_cons (de_var (pv 3)) da_nil)) ⟨o, n, k + 1, rfl, R, ⟨by omega, by omega⟩, rfl, rfl, rfl⟩)) de_int)))) (fun hb => ?_) (fun hb => ?_)) (fun z' hz => ds_nil hz)
      · have hc : m % (k + 1) = 0 ∧ (normM o n (k + 1)).natAbs ≠ 1 := by
          rw [Bool.and_eq_true, Bool.not_eq_true', decide_eq_true_eq, decide_eq_false_iff_not] at hb
          exact ⟨by have := hb.1; omega, by have := hb.2; omega⟩
        refine ds_seq (d1_set (i := 2) scStirred.nd rfl (.inl rfl) (de_clD Gproduct hr (by rfl) (da_cons (de_var (pv 2)) (da_cons (de_clD Gpiece hr (by rfl) (da_cons (de_var (pv 3)) da_nil) ⟨k + 1, rfl, ⟨by omega, by omega, by omega⟩, rfl, rfl, rfl⟩) da_nil)) ⟨stirL o n m k, pieceT (k + 1), rfl, ⟨by omega, by omega, by omega, by omega⟩, pieceT_bd (by omega) (by omega), rfl, rfl, rfl⟩) rfl) ?_
        have e : stirL o n m (k + 1) = prodM (stirL o n m k) (pieceT (k + 1)) := if_pos hc
        exact ds_nil ⟨_, by rw [e]; rfl⟩
      · have hc : ¬ (m % (k + 1) = 0 ∧ (normM o n (k + 1)).natAbs ≠ 1) := fun q => by
          have h1 : decide ((m : Int) % ((k + 1 : Nat) : Int) = 0) = true := decide_eq_true (by have := q.1; omega)
          have h2 : decide (((normM o n (k + 1)).natAbs : Int) = 1) = false := decide_eq_false (by have := q.2; omega)
          rw [h1, h2] at hb
          cases hb
        have e : stirL o n m (k + 1) = stirL o n m k := if_neg hc
        exact ds_nil ⟨_, by rw [e]; rfl⟩
    · rintro _ ⟨sl, rfl⟩
      exact ds_last (d1_ret (de_var (pv 2)) rr0)
abbrev sQuotient : Stmt := topS 8
abbrev nmQuotient : List Str := ["rule", "ring", "found", "rest", "one"]
theorem scQuotient : FnScope nmQuotient ["rule", "ring"] (defScope sQuotient) := ⟨rfl, rfl, rfl, by decide +kernel, rfl, by decide +kernel, by decide +kernel⟩
theorem ov_len (by_ : List Int) : ∀ (f : Nat) (rest found : List Int), (ovL f by_ rest found).2.length ≤ rest.length
  | 0, rest, found => Nat.le_refl _
  | f + 1, rest, found => by
    unfold ovL
    split
    · have := ov_len by_ f (ovStep by_ rest) (found ++ [rest.getD (rest.length - 1) 0])
      rw [ovStep_len] at this
      omega
    · exact Nat.le_refl _
def RQuotient : RT := fun as π r π' => ∃ (o n : Int) (ring : List Int), as = [rl o n, tI ring] ∧ RuleS o n ∧ (0 < ring.length ∧ ring.length ≤ 9) ∧ π = [] ∧ π' = [] ∧ r = .d (elD (quoW o n ring))
theorem ok_quotient (B : Bt mg) (Gover : OkD P w K mg base "over" 1 ["word", "by"] ROver) (Gstirred : OkD P w K mg base "stirred" 13 ["rule", "many"] RStirred) (F : FunAt K mg "quotient" sQuotient ["rule", "ring"]) : OkD P w K mg base "quotient" 14 ["rule", "ring"] RQuotient := by
  refine mk_def F scQuotient (fun as π r π' h => ?_) (fun f cdv A outer s H E N as π r π' hr hpa hR => ?_)
  · obtain ⟨o, n, ring, rfl, _, _, rfl, rfl, rfl⟩ := h
    exact ⟨rfl, rfl⟩
  · obtain ⟨o, n, ring, rfl, R, ⟨h0, h9⟩, rfl, rfl, rfl⟩ := hR
    have el : ((lI ring).length : Int) = ring.length := by simp
    have hp0 : N.pa.length ≤ 0 := Nat.le_of_eq hpa
    have S := stir_ok R h9
    have := S.l1; have := S.l2
    have hbd : ∀ k, -(2 ^ 64) < (stirM o n ring.length).getD k 0 ∧ (stirM o n ring.length).getD k 0 < 2 ^ 64 := fun k => by
      have := getD_all (f := stirM o n ring.length) (p := fun v => v.natAbs ≤ 100) S.bd (by decide) k
      omega
    refine ds_seq (d1_asg (de_clD Gover hr (by rfl) (da_cons (de_var (pv 1)) (da_cons (de_clD Gstirred hr (by rfl) (da_cons (de_var (pv 0)) (da_cons (de_cast (de_lenT (by rfl) B.len (de_var (pv 1))) (congrArg PyData.int el)) da_nil)) ⟨o, n, ring.length, rfl, R, ⟨h0, h9⟩, rfl, rfl, rfl⟩) da_nil)) ⟨ring, stirM o n ring.length, rfl, ⟨by omega, by omega, by omega⟩, hbd, rfl, rfl, rfl⟩) (pg_tup (n := 2) rfl (pgs_cons (pg_name (i := 2) scQuotient.nd rfl (.inl rfl)) (pgs_cons (pg_name (i := 3) scQuotient.nd rfl (.inl rfl)) pgs_nil))) (gd_tup (is := [2, 3]) (gsd_cons (gsd_cons gsd_nil))) ⟨_, rfl, rfl⟩ rfl) ?_
    refine ds_at (z1 := ⟨[.d (rl o n), .d (tI ring), .d (tI (overM ring (stirM o n ring.length)).1), .d (tI (overM ring (stirM o n ring.length)).2), .no], []⟩) rfl ?_
    have hrl : (overM ring (stirM o n ring.length)).2.length ≤ ring.length := ov_len _ _ _ _
    have eq : quoW o n ring = if (overM ring (stirM o n ring.length)).2.any (fun v => decide (v ≠ 0)) then none else some (if (overM ring (stirM o n ring.length)).1 ≠ [] then (overM ring (stirM o n ring.length)).1 else [0]) := rfl
    rw [eq]
    generalize overM ring (stirM o n ring.length) = q at hrl
    obtain ⟨found, rest⟩ := q
    replace hrl : rest.length ≤ ring.length := hrl
    have eA : ((List.range rest.length).map fun k => !decide (rest.getD k 0 = 0)).any id = rest.any (fun v => decide (v ≠ 0)) := by
      have e : (List.range rest.length).map (fun k => !decide (rest.getD k 0 = 0)) = rest.map fun v => !decide (v = 0) := by
        apply List.ext_getElem (by simp)
        intro i h1 h2
        simp at h1
        simp [h1]
      rw [e, List.any_map]
      congr 1
      funext v
      simp
    refine ds_ifR (dt_cast (dt_wk (s' := [.d (rl o n), .d (tI ring), .d (tI found), .d (tI rest), .no]) (o' := []) (dt_val (de_anyP (ns := (List.range rest.length).map fun k => !decide (rest.getD k 0 = 0)) rfl (by rfl) B.any (de_lcB (y := fun k => !decide (rest.getD k 0 = 0)) (own := [("one", 4)]) rfl scQuotient.nd (di_tup (de_var (pv 3))) it_ints (blkOk_by (N := nmQuotient) (sc := defScope sQuotient) (by decide +kernel)) (fun _ _ _ _ _ => pg_name (i := 4) scQuotient.nd rfl (.inl rfl)) (gd_name 4) (by decide) (fun _ _ => trivial) (small1000 (by omega)) (fun k hk _ _ _ _ _ => (de_neI (de_var (pv 4)) de_int)) (fun k hk => rfl)) rfl)) (.keep (.keep (.keep (.keep (.keep .nil))))) rfl (Nat.le_refl _) rfl hp0) eA) (fun hb => ?_) (fun hb => ?_)
    · refine ds_last (d1_ret de_non (rr0e ?_))
      show PyData.none = elD (if rest.any (fun v => decide (v ≠ 0)) = true then none else _)
      rw [if_pos hb]
      rfl
    · refine ds_last (d1_ret (de_if (dt_ne hr.units (de_var (pv 2)) (de_tup da_nil) (depth_tI _ _)) (fun hb => (de_var (pv 2))) fun hb => (de_tup (da_cons de_int da_nil))) (rr0e ?_))
      show (if (!PyData.eqv (tI found) (tI [])) = true then tI found else tI [0]) = elD (if rest.any (fun v => decide (v ≠ 0)) = true then none else some (if found ≠ [] then found else [0]))
      have e1 : (if rest.any (fun v => decide (v ≠ 0)) = true then none else some (if found ≠ [] then found else [0])) = some (if found ≠ [] then found else [0]) := if_neg (by rw [hb]; decide)
      rw [e1]
      by_cases c : found = []
      · have e2 : (if found ≠ [] then found else [0]) = [0] := if_neg (fun q => q c)
        rw [e2]
        refine if_neg ?_
        rw [eqv_tI, decide_eq_true c]
        decide
      · have e2 : (if found ≠ [] then found else [0]) = found := if_pos c
        rw [e2]
        refine if_pos ?_
        rw [eqv_tI, decide_eq_false c]
        rfl
abbrev sOldest : Stmt := topS 17
abbrev nmOldest : List Str := ["rule", "ring", "days", "found"]
theorem scOldest : FnScope nmOldest ["rule", "ring"] (defScope sOldest) := ⟨rfl, rfl, rfl, by decide +kernel, rfl, by decide +kernel, by decide +kernel⟩
def ROldest : RT := fun as π r π' => ∃ (o n : Int) (ring last : List Int) (k : Nat), as = [rl o n, tI ring] ∧ RuleC o n ∧ (0 < ring.length ∧ ring.length ≤ 9) ∧ OldAt o n ring k last ∧ π = [] ∧ π' = [] ∧ r = .d (.tuple [.int k, tI last])
theorem ok_oldest (Gelder : OkD P w K mg base "elder" 4 ["rule", "ring"] RElder) (F : FunAt K mg "oldest" sOldest ["rule", "ring"]) : OkD P w K mg base "oldest" 5 ["rule", "ring"] ROldest := by
  refine mk_def F scOldest (fun as π r π' h => ?_) (fun f cdv A outer s H E N as π r π' hr hpa hR => ?_)
  · obtain ⟨o, n, ring, last, k, rfl, _, _, _, rfl, rfl, rfl⟩ := h
    exact ⟨rfl, rfl⟩
  · obtain ⟨o, n, ring, last, k, rfl, R, ⟨h0, h9⟩, O, rfl, rfl, rfl⟩ := hR
    refine ds_seq (d1_par (i := 2) (j := 3) rfl scOldest.nd rfl rfl (by decide) rfl rfl (da_cons de_int (da_cons (de_clD Gelder hr (by rfl) (da_cons (de_var (pv 0)) (da_cons (de_var (pv 1)) da_nil)) ⟨o, n, ring, rfl, R, ⟨h0, h9⟩, rfl, rfl, rfl⟩) da_nil)) (by rfl) rfl) ?_
    refine ds_while (fun m z => ∃ (j : Nat) (rj : List Int), m = k - j ∧ j ≤ k ∧ eldN o n ring j = some rj ∧ z = ⟨[.d (rl o n), .d (tI rj), .d (.int j), .d (elD (elderM o n rj))], []⟩) k (fun _ (z : Z) => match z.s[3]? with | some (Sl.d x) => !isN x | _ => false) PassesOwn.never ⟨0, ring, rfl, by omega, rfl, rfl⟩ ?_ ?_ ?_
    · rintro m _ ⟨j, rj, rfl, hj, he, rfl⟩
      exact dt_notN (de_var (pv 3)) de_non
    · rintro m _ ⟨j, rj, rfl, hj, he, rfl⟩ hb
      have hb : (!isN (elD (elderM o n rj))) = true := hb
      have hl := eldN_len he
      cases q : elderM o n rj with
      | none => rw [q] at hb; cases hb
      | some s =>
        have hjk := (O.cont he hj).1 (by rw [q]; exact fun z => by cases z)
        have hls := elder_len q
        refine ds_seq (d1_par3 (i := 2) (j := 1) (l := 3) rfl scOldest.nd rfl rfl rfl (by decide) (by decide) (by decide) rfl rfl rfl (da_cons (de_add (de_var (pv 2)) de_int) (da_cons (de_var (pv 3)) (da_cons (de_clD Gelder hr (by rfl) (da_cons (de_var (pv 0)) (da_cons (de_var (pv 3)) da_nil)) ⟨o, n, s, rfl, R, by omega, rfl, rfl, rfl⟩) da_nil))) (by rfl) rfl) ?_
        refine ds_nil ⟨k - (j + 1), by omega, j + 1, s, rfl, by omega, ?_, rfl⟩
        show (eldN o n ring j).bind _ = some s
        rw [he]
        exact q
    · rintro m _ ⟨j, rj, rfl, hj, he, rfl⟩ hb
      have hb : (!isN (elD (elderM o n rj))) = false := hb
      have hno : elderM o n rj = none := by
        cases q : elderM o n rj with
        | none => rfl
        | some s => rw [q] at hb; cases hb
      obtain ⟨e1, e2⟩ := (O.cont he hj).2 hno
      rw [← e1, ← e2]
      exact ds_last (d1_ret (de_tup (da_cons (de_var (pv 2)) (da_cons (de_var (pv 1)) da_nil))) rr0)
abbrev sAge : Stmt := topS 18
abbrev nmAge : List Str := ["rule", "ring"]
theorem scAge : FnScope nmAge ["rule", "ring"] (defScope sAge) := ⟨rfl, rfl, rfl, by decide +kernel, rfl, by decide +kernel, by decide +kernel⟩
/-- the age: none where the quotient stands, else the days of the oldest -/
def AgeIs (o n : Int) (ring : List Int) (a : Option Nat) : Prop := (a = none ∧ quoW o n ring ≠ none) ∨ (quoW o n ring = none ∧ ∃ k last, a = some k ∧ OldAt o n ring k last)
def agD : Option Nat → D
  | none => .none
  | some k => .int k
def RAge : RT := fun as π r π' => ∃ (o n : Int) (ring : List Int) (a : Option Nat), as = [rl o n, tI ring] ∧ RuleC o n ∧ (0 < ring.length ∧ ring.length ≤ 9) ∧ AgeIs o n ring a ∧ π = [] ∧ π' = [] ∧ r = .d (agD a)
theorem ok_age (Gquotient : OkD P w K mg base "quotient" 14 ["rule", "ring"] RQuotient) (Goldest : OkD P w K mg base "oldest" 5 ["rule", "ring"] ROldest) (F : FunAt K mg "age" sAge ["rule", "ring"]) : OkD P w K mg base "age" 15 ["rule", "ring"] RAge := by
  refine mk_def F scAge (fun as π r π' h => ?_) (fun f cdv A outer s H E N as π r π' hr hpa hR => ?_)
  · obtain ⟨o, n, ring, a, rfl, _, _, _, rfl, rfl, rfl⟩ := h
    exact ⟨rfl, rfl⟩
  · obtain ⟨o, n, ring, a, rfl, R, ⟨h0, h9⟩, hA, rfl, rfl, rfl⟩ := hR
    rcases hA with ⟨rfl, hq⟩ | ⟨hq, k, last, rfl, O⟩
    · obtain ⟨q, e⟩ : ∃ q, quoW o n ring = some q := by
        cases h : quoW o n ring with
        | none => exact absurd h hq
        | some q => exact ⟨q, rfl⟩
      refine ds_last (d1_ret (de_if (x := .none) (y := .none) (dt_notN (de_clD Gquotient hr (by rfl) (da_cons (de_var (pv 0)) (da_cons (de_var (pv 1)) da_nil)) ⟨o, n, ring, rfl, R.toRuleS, ⟨h0, h9⟩, rfl, rfl, rfl⟩) de_non) (fun hb => de_non) fun hb => ?_) (rr0e ?_))
      · rw [e] at hb
        cases hb
      · rw [e]
        rfl
    · refine ds_last (d1_ret (de_if (x := .none) (y := .int k) (dt_notN (de_clD Gquotient hr (by rfl) (da_cons (de_var (pv 0)) (da_cons (de_var (pv 1)) da_nil)) ⟨o, n, ring, rfl, R.toRuleS, ⟨h0, h9⟩, rfl, rfl, rfl⟩) de_non) (fun hb => de_non) fun hb => (de_ixT (d := .int k) (de_clD Goldest hr (by rfl) (da_cons (de_var (pv 0)) (da_cons (de_var (pv 1)) da_nil)) ⟨o, n, ring, last, k, rfl, R, ⟨h0, h9⟩, O, rfl, rfl, rfl⟩) de_int rfl)) (rr0e ?_))
      rw [hq]
      rfl
abbrev sStood : Stmt := topS 19
abbrev nmStood : List Str := ["rule", "ring", "days", "day"]
theorem scStood : FnScope nmStood ["rule", "ring", "days"] (defScope sStood) := ⟨rfl, rfl, rfl, by decide +kernel, rfl, by decide +kernel, by decide +kernel⟩
def RStood : RT := fun as π r π' => ∃ (o n : Int) (ring : List Int) (days : Int), as = [rl o n, tI ring, .int days] ∧ RuleC o n ∧ (0 < ring.length ∧ ring.length ≤ 9) ∧ (0 ≤ days ∧ days < 2 ^ 62) ∧ π = [] ∧ π' = [] ∧ r = .d (elD (eldN o n ring days.toNat))
theorem ok_stood (B : Bt mg) (Gelder : OkD P w K mg base "elder" 4 ["rule", "ring"] RElder) (F : FunAt K mg "stood" sStood ["rule", "ring", "days"]) : OkD P w K mg base "stood" 5 ["rule", "ring", "days"] RStood := by
  refine mk_def F scStood (fun as π r π' h => ?_) (fun f cdv A outer s H E N as π r π' hr hpa hR => ?_)
  · obtain ⟨o, n, ring, days, rfl, _, _, _, rfl, rfl, rfl⟩ := h
    exact ⟨rfl, rfl⟩
  · obtain ⟨o, n, ring, days, rfl, R, ⟨h0, h9⟩, hd, rfl, rfl, rfl⟩ := hR
    refine ds_for (fun k z => ∃ sl, z = ⟨[.d (rl o n), .d (elD (eldN o n ring k)), .d (.int days), sl], []⟩) PassesOwn.never rfl (di_range1 (by rfl) B.range (de_var (pv 2)) (by omega) (by omega)) it_rng0 (pg_name (i := 3) scStood.nd rfl (.inl rfl)) (gd_name 3) (fun _ _ => trivial) ⟨_, rfl⟩ ?_ ?_
    · rintro k _ hk ⟨sl, rfl⟩
      refine ds_cons (mid := fun z' => ∃ sl, z' = ⟨[.d (rl o n), .d (elD (eldN o n ring (k + 1))), .d (.int days), sl], []⟩) (d1_if (dt_notN (de_var (pv 1)) de_non) (fun hb => ?_) (fun hb => ?_)) (fun z' hz => ds_nil hz)
      · cases q : eldN o n ring k with
        | none => rw [q] at hb; cases hb
        | some t =>
          have hl := eldN_len q
          have e : eldN o n ring (k + 1) = elderM o n t := by
            show (eldN o n ring k).bind _ = _
            rw [q]
            rfl
          rw [e]
          refine ds_seq (d1_set (i := 1) scStood.nd rfl (.inl rfl) (de_clD Gelder hr (by rfl) (da_cons (de_var (pv 0)) (da_cons (de_var (pv 1)) da_nil)) ⟨o, n, t, rfl, R, by omega, rfl, rfl, rfl⟩) rfl) ?_
          exact ds_nil ⟨_, rfl⟩
      · have q : eldN o n ring k = none := by
          cases q : eldN o n ring k with
          | none => rfl
          | some t => rw [q] at hb; cases hb
        have e : eldN o n ring (k + 1) = none := by
          show (eldN o n ring k).bind _ = _
          rw [q]
          rfl
        rw [e, q]
        exact ds_nil ⟨_, rfl⟩
    · rintro _ ⟨sl, rfl⟩
      exact ds_last (d1_ret (de_var (pv 1)) rr0)
abbrev sLawPower : Stmt := topS 21
abbrev nmLawPower : List Str := ["number", "many", "found", "turn"]
theorem scLawPower : FnScope nmLawPower ["number", "many"] (defScope sLawPower) := ⟨rfl, rfl, rfl, by decide +kernel, rfl, by decide +kernel, by decide +kernel⟩
def RLawPower : RT := fun as π r π' => ∃ (a k : Int), as = [.int a, .int k] ∧ (-(2 ^ 64) < a ∧ a < 2 ^ 64) ∧ (0 ≤ k ∧ k < 2 ^ 62) ∧ π = [] ∧ π' = [] ∧ r = .d (.int (a ^ k.toNat))
theorem ok_law_power (B : Bt mg) (F : FunAt K mg "_law_power" sLawPower ["number", "many"]) : OkD P w K mg base "_law_power" 1 ["number", "many"] RLawPower := by
  refine mk_def F scLawPower (fun as π r π' h => ?_) (fun f cdv A outer s H E N as π r π' hr hpa hR => ?_)
  · obtain ⟨a, k, rfl, _, _, rfl, rfl, rfl⟩ := h
    exact ⟨rfl, rfl⟩
  · obtain ⟨a, k, rfl, ha, hk, rfl, rfl, rfl⟩ := hR
    refine ds_seq (d1_set (i := 2) scLawPower.nd rfl (.inl rfl) de_int rfl) ?_
    refine ds_for (fun j z => ∃ sl, z = ⟨[.d (.int a), .d (.int k), .d (.int (a ^ j)), sl], []⟩) PassesOwn.never rfl (di_range1 (by rfl) B.range (de_var (pv 1)) (by omega) (by omega)) it_rng0 (pg_name (i := 3) scLawPower.nd rfl (.inl rfl)) (gd_name 3) (fun _ _ => trivial) ⟨_, by rw [Int.pow_zero]; rfl⟩ ?_ ?_
    · rintro j _ hj ⟨sl, rfl⟩
      refine ds_seq (d1_set (i := 2) scLawPower.nd rfl (.inl rfl) (de_mul (de_var (pv 2)) (de_var (pv 0)) (.inr ha)) rfl) ?_
      exact ds_nil ⟨_, by rw [Int.pow_succ]; rfl⟩
    · rintro _ ⟨sl, rfl⟩
      exact ds_last (d1_ret (de_var (pv 2)) rr0)
abbrev sLawDay : Stmt := topS 22
abbrev nmLawDay : List Str := ["rule_d", "ring_d", "found", "house"]
theorem scLawDay : FnScope nmLawDay ["rule_d", "ring_d"] (defScope sLawDay) := ⟨rfl, rfl, rfl, by decide +kernel, rfl, by decide +kernel, by decide +kernel⟩
def RLawDay : RT := fun as π r π' => ∃ (o n : Int) (ring : List Int), as = [rl o n, tI ring] ∧ RuleS o n ∧ ring.length ≤ 1000 ∧ π = [] ∧ π' = [] ∧ r = .d (tI (dayM o n ring))
theorem ok_law_day (B : Bt mg) (F : FunAt K mg "_law_day" sLawDay ["rule_d", "ring_d"]) : OkD P w K mg base "_law_day" 1 ["rule_d", "ring_d"] RLawDay := by
  refine mk_def F scLawDay (fun as π r π' h => ?_) (fun f cdv A outer s H E N as π r π' hr hpa hR => ?_)
  · obtain ⟨o, n, ring, rfl, _, _, rfl, rfl, rfl⟩ := h
    exact ⟨rfl, rfl⟩
  · obtain ⟨o, n, ring, rfl, R, hl, rfl, rfl, rfl⟩ := hR
    have := R.o1; have := R.o2; have := R.n1; have := R.n2
    have el : ((lI ring).length : Int) = ring.length := by simp
    refine ds_seq (d1_set (i := 2) scLawDay.nd rfl (.inl rfl) (de_lst da_nil) rfl) ?_
    refine ds_for (fun k z => ∃ sl, z = ⟨[.d (rl o n), .d (tI ring), .ptr 0, sl], [some (lI (tab k fun k => o * ring.getD k 0 + n * DL.F ring (k + 1)))]⟩) PassesOwn.never rfl (di_range1 (by rfl) B.range (de_cast (de_lenT (by rfl) B.len (de_var (pv 1))) (congrArg PyData.int el)) (by omega) (by omega)) it_rng0 (pg_name (i := 3) scLawDay.nd rfl (.inl rfl)) (gd_name 3) (fun _ _ => trivial) ⟨_, rfl⟩ ?_ ?_
    · rintro k _ hk ⟨sl, rfl⟩
      have hk : k < ring.length := by omega
      refine ds_seq (d1_expr (de_appI (v := o * ring.getD k 0 + n * DL.F ring (k + 1)) (ns := tab k fun k => o * ring.getD k 0 + n * DL.F ring (k + 1)) (de_ptr (pv 2)) (de_cast (de_add (de_mul (de_ixT (de_var (pv 0)) de_int rfl) (de_ixTI (de_var (pv 1)) (de_var (pv 3)) (by omega) (by omega)) (.inl ⟨by omega, by omega⟩)) (de_mul (de_ixT (de_var (pv 0)) de_int rfl) (de_ixTI (de_var (pv 1)) (de_ifI (dt_lt (de_add (de_var (pv 3)) de_int) (de_cast (de_lenT (by rfl) B.len (de_var (pv 1))) (congrArg PyData.int el))) (fun hb => (de_add (de_var (pv 3)) de_int)) fun hb => de_int) (by split <;> omega) (by split <;> (try omega); rename_i h; exact of_decide_eq_true h)) (.inl ⟨by omega, by omega⟩))) ?_) rfl rfl (small1000 (by rw [tab_len]; omega))) rfl) ?_
      · have e1 : at_ ring (k : Int) = ring.getD k 0 := by unfold at_; rw [Int.toNat_natCast]
        have e2 : at_ ring (if decide ((k : Int) + 1 < ring.length) = true then (k : Int) + 1 else 0) = DL.F ring (k + 1) := by
          unfold at_ DL.F
          by_cases h : k + 1 < ring.length
          · rw [if_pos (decide_eq_true (by omega)), Nat.mod_eq_of_lt h]
            congr 1
          · have e : k + 1 = ring.length := by omega
            rw [if_neg (by rw [decide_eq_false (by omega)]; decide), e, Nat.mod_self]
            rfl
        rw [e1, e2]
      · exact ds_nil ⟨.d (.int k), by rw [tab_succ]; rfl⟩
    · rintro _ ⟨sl, rfl⟩
      exact ds_last (d1_ret (de_tupP (by rfl) B.tuple (de_ptr (pv 2)) rfl) rr0)
abbrev sLawDraw : Stmt := topS 24
abbrev nmLawDraw : List Str := ["draws", "many", "found", "wide"]
theorem scLawDraw : FnScope nmLawDraw ["draws", "many"] (defScope sLawDraw) := ⟨rfl, rfl, rfl, by decide +kernel, rfl, by decide +kernel, by decide +kernel⟩
abbrev dI (s : Int × Int) : List D := lI [s.1, s.2]
def RLawDraw : RT := fun as π r π' => ∃ (s : Int × Int) (many : Int), as = [.int many] ∧ 0 < many ∧ many ≤ 10 ^ 40 ∧ π = [dI s] ∧ π' = [dI (drawS s many)] ∧ r = .d (.int (drawV s many))
theorem cdivW {i j : Int} (h : 0 < j) (h' : j ≤ 10 ^ 40) : CDivW i j := wide_div (b := 200) h (by omega) (by decide) (by decide)
theorem ok_law_draw (B : Bt mg) (F : FunAt K mg "_law_draw" sLawDraw ["draws", "many"]) : OkD P w K mg base "_law_draw" 1 ["draws", "many"] RLawDraw := by
  refine mk_def F scLawDraw (fun as π r π' h => ?_) (fun f cdv A outer s H E N as π r π' hr hpa hR => ?_)
  · obtain ⟨s, many, rfl, _, _, rfl, rfl, rfl⟩ := h
    exact ⟨rfl, rfl⟩
  · obtain ⟨s, many, rfl, h0, h1, rfl, rfl, rfl⟩ := hR
    refine ds_ifR (dt_gt (i := s.1) (de_ixPI (ns := [s.1, s.2]) (de_ptr (pv 0)) de_int rfl (by decide) (by show (0 : Int) < 2; decide)) de_int) (fun hb => ?_) (fun hb => ?_)
    · have hs : 0 < s.1 := of_decide_eq_true hb
      refine ds_seq (d1_set (i := 2) scLawDraw.nd rfl (.inl rfl) (de_modP (de_ixPI (ns := [s.1, s.2]) (de_ptr (pv 0)) de_int rfl (by decide) (by show (0 : Int) < 2; decide)) (de_var (pv 1)) h0) rfl) ?_
      refine ds_seq (d1_setI (ns := [s.1, s.2]) (de_divW (de_ixPI (ns := [s.1, s.2]) (de_ptr (pv 0)) de_int rfl (by decide) (by show (0 : Int) < 2; decide)) (de_var (pv 1)) (cdivW h0 h1)) (de_ptr (pv 0)) de_int rfl (by decide) (by show (0 : Int) < 2; decide) rfl) ?_
      have e : drawM s many = (s.1 % many, s.1 / many, s.2) := by unfold drawM; rw [if_pos hs]
      have e1 : drawV s many = s.1 % many := by unfold drawV; rw [e]
      have e2 : drawS s many = (s.1 / many, s.2) := by unfold drawS; rw [e]
      rw [e1, e2]
      exact ds_last (d1_ret (de_var (pv 2)) (rr1 rfl))
    · have hs : ¬ 0 < s.1 := of_decide_eq_false hb
      have e : drawM s many = ((drawL many 8 0 1 s.2).1 % many, s.1, (drawL many 8 0 1 s.2).2) := by unfold drawM; rw [if_neg hs]
      have e1 : drawV s many = (drawL many 8 0 1 s.2).1 % many := by unfold drawV; rw [e]
      have e2 : drawS s many = (s.1, (drawL many 8 0 1 s.2).2) := by unfold drawS; rw [e]
      rw [e1, e2]
      refine ds_seq (d1_set (i := 2) scLawDraw.nd rfl (.inl rfl) de_int rfl) ?_
      refine ds_seq (d1_set (i := 3) scLawDraw.nd rfl (.inl rfl) de_int rfl) ?_
      refine ds_while (fun m z => ∃ f w b, z = ⟨[.ptr 0, .d (.int many), .d (.int f), .d (.int w)], [some (lI [s.1, b])]⟩ ∧ drawL many m f w b = drawL many 8 0 1 s.2 ∧ many ≤ w * 268435456 ^ m) 8 (fun m z => match z.s with | [_, _, _, .d (.int w)] => decide (w < many) | _ => false) PassesOwn.never ⟨0, 1, s.2, rfl, rfl, by omega⟩ ?_ ?_ ?_
      · rintro m _ ⟨f, w, b, rfl, _, _⟩
        exact dt_lt (de_var (pv 3)) (de_var (pv 1))
      · rintro m _ ⟨f, w, b, rfl, hd, hm⟩ ht
        have hw : w < many := of_decide_eq_true ht
        cases m with
        | zero => omega
        | succ m =>
          have hb0 := Int.emod_nonneg (b * 69621) (show (2147483647 : Int) ≠ 0 by decide)
          have hb1 := Int.emod_lt_of_pos (b * 69621) (show (0 : Int) < 2147483647 by decide)
          have hbd : -(2 ^ 64) < b * 69621 % 2147483647 ∧ b * 69621 % 2147483647 < 2 ^ 64 := ⟨by omega, by omega⟩
          refine ds_seq (d1_setI (ns := [s.1, b]) (de_modP (de_mul (de_ixPI (ns := [s.1, b]) (de_ptr (pv 0)) de_int rfl (by decide) (by show (1 : Int) < 2; decide)) de_int (.inr ⟨by decide, by decide⟩)) de_int (by decide)) (de_ptr (pv 0)) de_int rfl (by decide) (by show (1 : Int) < 2; decide) rfl) ?_
          refine ds_at (z1 := ⟨[.ptr 0, .d (.int many), .d (.int f), .d (.int w)], [some (lI [s.1, b * 69621 % 2147483647])]⟩) rfl ?_
          refine ds_seq (d1_set (i := 2) scLawDraw.nd rfl (.inl rfl) (de_add (de_mul (de_var (pv 2)) de_int (.inr ⟨by decide, by decide⟩)) (de_divP (de_modP (de_mul (de_ixPI (ns := [s.1, b * 69621 % 2147483647]) (de_ptr (pv 0)) de_int rfl (by decide) (by show (1 : Int) < 2; decide)) (de_add (de_divP (de_ixPI (ns := [s.1, b * 69621 % 2147483647]) (de_ptr (pv 0)) de_int rfl (by decide) (by show (1 : Int) < 2; decide)) de_int ⟨by decide, by decide⟩) de_int) (.inl hbd)) de_int (by decide)) de_int ⟨by decide, by decide⟩)) rfl) ?_
          refine ds_seq (d1_set (i := 3) scLawDraw.nd rfl (.inl rfl) (de_mul (de_var (pv 3)) de_int (.inr ⟨by decide, by decide⟩)) rfl) ?_
          refine ds_nil ⟨m, Nat.lt_succ_self m, _, _, _, rfl, ?_, ?_⟩
          · rw [← hd]
            show _ = if w < many then _ else _
            rw [if_pos hw]
            rfl
          · rw [Int.pow_succ, Int.mul_comm (268435456 ^ m), ← Int.mul_assoc] at hm
            exact hm
      · rintro m _ ⟨f, w, b, rfl, hd, hm⟩ ht
        have hw : ¬ w < many := of_decide_eq_false ht
        have e3 : drawL many m f w b = (f, b) := by
          cases m with
          | zero => rfl
          | succ m =>
            show (if w < many then _ else _) = _
            rw [if_neg hw]
        rw [← hd, e3]
        exact ds_last (d1_ret (de_modP (de_var (pv 2)) (de_var (pv 1)) h0) (rr1 rfl))
abbrev sLawDraws : Stmt := topS 23
abbrev nmLawDraws : List Str := ["script", "k", "cell"]
theorem scLawDraws : FnScope nmLawDraws ["script", "k"] (defScope sLawDraws) := ⟨rfl, rfl, rfl, by decide +kernel, rfl, by decide +kernel, by decide +kernel⟩
def RLawDraws : RT := fun as π r π' => ∃ (ns : List Int) (k : Int), as = [.list (lI ns), .int k] ∧ 0 ≤ k ∧ π = [] ∧ π' = [] ∧ r = .new (dI (drawsM ns k))
theorem ok_law_draws (B : Bt mg) (F : FunAt K mg "_law_draws" sLawDraws ["script", "k"]) : OkD P w K mg base "_law_draws" 1 ["script", "k"] RLawDraws := by
  refine mk_def F scLawDraws (fun as π r π' h => ?_) (fun f cdv A outer s H E N as π r π' hr hpa hR => ?_)
  · obtain ⟨ns, k, rfl, _, rfl, rfl, rfl⟩ := h
    exact ⟨rfl, rfl⟩
  · obtain ⟨ns, k, rfl, h0, rfl, rfl, rfl⟩ := hR
    have el : ((lI ns).length : Int) = ns.length := by simp
    refine ds_seq (d1_set (i := 2) scLawDraws.nd rfl (.inl rfl) (de_mul de_int (de_var (pv 1)) (.inl ⟨by decide, by decide⟩)) rfl) ?_
    refine ds_cons (mid := fun z' => ∃ c, z' = ⟨[.d (.list (lI ns)), .d (.int k), .d (.int c)], []⟩ ∧ c = if k < ns.length then (ns.getD k.toNat 0) % (10 ^ 60 * 10 ^ 60 * 10 ^ 60 * 10 ^ 60 * 10 ^ 60) else if 0 < ns.length then ns.getD (k % ns.length).toNat 0 % 10 ^ 15 + 15485863 * k else 15485863 * k) (d1_if (dt_lt (de_var (pv 1)) (de_cast (de_lenL (by rfl) B.len (de_var (pv 0))) (congrArg PyData.int el))) (fun hb => ?_) (fun hb => ?_)) ?_
    · have hk : k < ns.length := of_decide_eq_true hb
      refine ds_seq (d1_set (i := 2) scLawDraws.nd rfl (.inl rfl) (de_modP (de_ixLI (de_var (pv 0)) (de_var (pv 1)) h0 hk) (de_mulW (de_mulW (de_mulW (de_mulW (de_pow de_int de_int ⟨by decide, by decide, by decide⟩) (de_pow de_int de_int ⟨by decide, by decide, by decide⟩) (wide_mul (a := 200) (b := 200) (by decide +kernel) (by decide +kernel) (by decide) (by decide) (by decide))) (de_pow de_int de_int ⟨by decide, by decide, by decide⟩) (wide_mul (a := 400) (b := 200) (by decide +kernel) (by decide +kernel) (by decide) (by decide) (by decide))) (de_pow de_int de_int ⟨by decide, by decide, by decide⟩) (wide_mul (a := 600) (b := 200) (by decide +kernel) (by decide +kernel) (by decide) (by decide) (by decide))) (de_pow de_int de_int ⟨by decide, by decide, by decide⟩) (wide_mul (a := 800) (b := 200) (by decide +kernel) (by decide +kernel) (by decide) (by decide) (by decide))) (by decide +kernel)) rfl) ?_
      exact ds_nil ⟨_, rfl, by rw [if_pos hk]; rfl⟩
    · have hk : ¬ k < ns.length := of_decide_eq_false hb
      refine ds_last (d1_if (dt_gt (de_cast (de_lenL (by rfl) B.len (de_var (pv 0))) (congrArg PyData.int el)) de_int) (fun hb => ?_) (fun hb => ?_))
      · have hn : (0 : Int) < ns.length := of_decide_eq_true hb
        refine ds_seq (d1_set (i := 2) scLawDraws.nd rfl (.inl rfl) (de_add (de_modP (de_ixLI (de_var (pv 0)) (de_modP (de_var (pv 1)) (de_cast (de_lenL (by rfl) B.len (de_var (pv 0))) (congrArg PyData.int el)) hn) (Int.emod_nonneg _ (by omega)) (Int.emod_lt_of_pos _ hn)) (de_pow de_int de_int ⟨by decide, by decide, by decide⟩) (by decide +kernel)) (de_mul de_int (de_var (pv 1)) (.inl ⟨by decide, by decide⟩))) rfl) ?_
        exact ds_nil ⟨_, rfl, by rw [if_neg hk, if_pos (by omega)]; rfl⟩
      · have hn : ¬ (0 : Int) < ns.length := of_decide_eq_false hb
        exact ds_nil ⟨_, rfl, by rw [if_neg hk, if_neg (by omega)]⟩
    · rintro _ ⟨c, rfl, hc⟩
      have e : drawsM ns k = (c * (if 10 ^ 18 ≤ c then 1 else 0), 1 + (c * 69621 + 86028121 * (k + 1)) % 2147483646) := by
        unfold drawsM
        rw [← hc]
      have hi : (if decide ((10 : Int) ^ (18 : Int).toNat ≤ c) = true then (1 : Int) else 0) = if 10 ^ 18 ≤ c then 1 else 0 := by
        show (if decide ((10 : Int) ^ 18 ≤ c) = true then (1 : Int) else 0) = _
        by_cases h : (10 : Int) ^ 18 ≤ c
        · rw [if_pos h, if_pos (decide_eq_true h)]
        · rw [if_neg h, if_neg (by rw [decide_eq_false h]; decide)]
      refine ds_last (d1_ret (de_lst (da_cons (de_mul (de_var (pv 2)) (de_cast (de_intB (by rfl) B.int (de_ge (de_var (pv 2)) (de_pow de_int de_int ⟨by decide, by decide, by decide⟩))) (congrArg PyData.int hi)) (.inr (by split <;> exact ⟨by decide, by decide⟩))) (da_cons (de_add de_int (de_modP (de_add (de_mul (de_var (pv 2)) de_int (.inr ⟨by decide, by decide⟩)) (de_mul de_int (de_add (de_var (pv 1)) de_int) (.inl ⟨by decide, by decide⟩))) de_int (by decide))) da_nil))) ?_)
      rw [e]
      exact rrN rfl
abbrev sLawCommon : Stmt := topS 25
abbrev nmLawCommon : List Str := ["one", "other"]
theorem scLawCommon : FnScope nmLawCommon ["one", "other"] (defScope sLawCommon) := ⟨rfl, rfl, rfl, by decide +kernel, rfl, by decide +kernel, by decide +kernel⟩
def RLawCommon : RT := fun as π r π' => ∃ (a b : Int), as = [.int a, .int b] ∧ cmOk 20 a b = true ∧ π = [] ∧ π' = [] ∧ r = .d (.int (commonM a b))
theorem ok_law_common (B : Bt mg) (F : FunAt K mg "_law_common" sLawCommon ["one", "other"]) : OkD P w K mg base "_law_common" 1 ["one", "other"] RLawCommon := by
  refine mk_def F scLawCommon (fun as π r π' h => ?_) (fun f cdv A outer s H E N as π r π' hr hpa hR => ?_)
  · obtain ⟨a, b, rfl, _, rfl, rfl, rfl⟩ := h
    exact ⟨rfl, rfl⟩
  · obtain ⟨a, b, rfl, h0, rfl, rfl, rfl⟩ := hR
    refine ds_while (fun m z => ∃ c d, z = ⟨[.d (.int c), .d (.int d)], []⟩ ∧ cmOk m c d = true ∧ cm m c d = cm 20 a b) 20 (fun m z => match z.s with | [_, .d (.int d)] => !decide (d = 0) | _ => false) PassesOwn.never ⟨a, b, rfl, h0, rfl⟩ ?_ ?_ ?_
    · rintro m _ ⟨c, d, rfl, _, _⟩
      exact dt_neI (de_var (pv 1)) de_int
    · rintro m _ ⟨c, d, rfl, h1, h2⟩ ht
      have hd : d ≠ 0 := by
        have ht : (!decide (d = 0)) = true := ht
        simpa using ht
      cases m with
      | zero => exact absurd (of_decide_eq_true h1) hd
      | succ m =>
        refine ds_seq (d1_par (i := 0) (j := 1) rfl scLawCommon.nd rfl rfl (by decide) rfl rfl (da_cons (de_var (pv 1)) (da_cons (de_modN (de_var (pv 0)) (de_var (pv 1)) hd) da_nil)) (by rfl) rfl) ?_
        refine ds_nil ⟨m, Nat.lt_succ_self m, _, _, rfl, ?_, ?_⟩
        · have h1 : (if d = 0 then true else cmOk m d (c.fmod d)) = true := h1
          rw [if_neg hd] at h1
          exact h1
        · have h2 : (if d = 0 then c else cm m d (c.fmod d)) = cm 20 a b := h2
          rw [if_neg hd] at h2
          exact h2
    · rintro m _ ⟨c, d, rfl, h1, h2⟩ ht
      have hd : d = 0 := by
        have ht : (!decide (d = 0)) = false := ht
        simpa using ht
      have e : cm m c d = c := by
        cases m with
        | zero => rfl
        | succ m =>
          show (if d = 0 then c else _) = c
          rw [if_pos hd]
      refine ds_last (d1_ret (de_abs (by rfl) B.abs (de_var (pv 0))) ?_)
      unfold commonM
      rw [← h2, e]
      exact rr0
abbrev sLawOf : Stmt := topS 26
abbrev nmLawOf : List Str := ["draws", "some"]
theorem scLawOf : FnScope nmLawOf ["draws", "some"] (defScope sLawOf) := ⟨rfl, rfl, rfl, by decide +kernel, rfl, by decide +kernel, by decide +kernel⟩
def RLawOf : RT := fun as π r π' => ∃ (s : Int × Int) (xs : List D), as = [.list xs] ∧ 0 < xs.length ∧ xs.length ≤ 1000 ∧ π = [dI s] ∧ π' = [dI (drawS s xs.length)] ∧ r = .d (xs.getD (drawV s xs.length).toNat .none)
theorem atI_getD {xs : List D} {i : Int} (h0 : 0 ≤ i) (h1 : i < xs.length) : atI xs i = some (xs.getD i.toNat .none) := by
  have e : ((i.toNat : Nat) : Int) = i := by omega
  have hl : i.toNat < xs.length := by omega
  have := atI_nat (show xs[i.toNat]? = some (xs.getD i.toNat .none) by rw [List.getD_eq_getElem?_getD, List.getElem?_eq_getElem hl]; rfl)
  rw [e] at this
  exact this
theorem ok_law_of (B : Bt mg) (G_law_draw : OkD P w K mg base "_law_draw" 1 ["draws", "many"] RLawDraw) (F : FunAt K mg "_law_of" sLawOf ["draws", "some"]) : OkD P w K mg base "_law_of" 2 ["draws", "some"] RLawOf := by
  refine mk_def F scLawOf (fun as π r π' h => ?_) (fun f cdv A outer s H E N as π r π' hr hpa hR => ?_)
  · obtain ⟨s, xs, rfl, _, _, rfl, rfl, rfl⟩ := h
    exact ⟨rfl, rfl⟩
  · obtain ⟨s, xs, rfl, h0, h1, rfl, rfl, rfl⟩ := hR
    have hd := drawV_low s xs.length (by omega)
    exact ds_last (d1_ret (de_ixL (de_var (pv 1)) (de_cl1 G_law_draw hr (by rfl) (dap_cons (de_ptr (pv 0)) (da_cons (de_lenL (by rfl) B.len (de_var (pv 1))) da_nil)) rfl ⟨s, xs.length, rfl, by omega, by omega, rfl, rfl, rfl⟩) (atI_getD hd.1 hd.2)) (rr1 rfl))
abbrev sLawRule : Stmt := topS 27
abbrev nmLawRule : List Str := ["draws", "own", "other"]
theorem scLawRule : FnScope nmLawRule ["draws"] (defScope sLawRule) := ⟨rfl, rfl, rfl, by decide +kernel, rfl, by decide +kernel, by decide +kernel⟩
def RLawRule : RT := fun as π r π' => ∃ (s : Int × Int), as = [] ∧ π = [dI s] ∧ π' = [dI (ruleS' s)] ∧ r = .d (rl (ruleM s).1 (ruleM s).2)
theorem ok_law_rule (B : Bt mg) (G_law_draw : OkD P w K mg base "_law_draw" 1 ["draws", "many"] RLawDraw) (G_law_common : OkD P w K mg base "_law_common" 1 ["one", "other"] RLawCommon) (G_law_of : OkD P w K mg base "_law_of" 2 ["draws", "some"] RLawOf) (F : FunAt K mg "_law_rule" sLawRule ["draws"]) : OkD P w K mg base "_law_rule" 3 ["draws"] RLawRule := by
  refine mk_def F scLawRule (fun as π r π' h => ?_) (fun f cdv A outer s H E N as π r π' hr hpa hR => ?_)
  · obtain ⟨s, rfl, rfl, rfl, rfl⟩ := h
    exact ⟨rfl, rfl⟩
  · obtain ⟨s, rfl, rfl, rfl, rfl⟩ := hR
    have h1 := drawV_low s 19 (by decide)
    have h2 := drawV_low (drawS s 19) 19 (by decide)
    have ho1 : -9 ≤ ruleO s := by unfold ruleO; omega
    have ho2 : ruleO s ≤ 9 := by unfold ruleO; omega
    refine ds_seq (d1_par (i := 1) (j := 2) rfl scLawRule.nd rfl rfl (by decide) rfl rfl (da_cons (de_sub (de_cl1 G_law_draw hr (by rfl) (dap_cons (de_ptr (pv 0)) (da_cons de_int da_nil)) rfl ⟨s, 19, rfl, by decide, by decide, rfl, rfl, rfl⟩) de_int) (da_cons (de_sub (de_cl1 G_law_draw hr (by rfl) (dap_cons (de_ptr (pv 0)) (da_cons de_int da_nil)) rfl ⟨drawS s 19, 19, rfl, by decide, by decide, rfl, rfl, rfl⟩) de_int) da_nil)) (by rfl) rfl) ?_
    refine ds_while (fun m z => ∃ n, z = ⟨[.ptr 0, .d (.int (ruleO s)), .d (.int n)], [some (dI (drawS (drawS s 19) 19))]⟩ ∧ ruleOk (ruleO s) m n = true ∧ ruleL (ruleO s) m n = ruleN s ∧ -9 ≤ n ∧ n ≤ 9) 18 (fun m z => match z.s with | [_, _, .d (.int n)] => !decide (commonM (ruleO s) n = 1) | _ => false) PassesOwn.never ⟨_, rfl, ruleOk_nine _ _ ho1 ho2 (by omega) (by omega), rfl, by omega, by omega⟩ ?_ ?_ ?_
    · rintro m _ ⟨n, rfl, _, _, h3, h4⟩
      exact dt_neI (de_clD G_law_common hr (by rfl) (da_cons (de_var (pv 1)) (da_cons (de_var (pv 2)) da_nil)) ⟨_, _, rfl, cmOk_nine _ _ ho1 ho2 h3 h4, rfl, rfl, rfl⟩) de_int
    · rintro m _ ⟨n, rfl, h5, h6, h3, h4⟩ ht
      have hd : ¬ commonM (ruleO s) n = 1 := by
        have ht : (!decide (commonM (ruleO s) n = 1)) = true := ht
        simpa using ht
      cases m with
      | zero => exact absurd (of_decide_eq_true h5) hd
      | succ m =>
        refine ds_seq (d1_set (i := 2) scLawRule.nd rfl (.inl rfl) (de_if (dt_lt (de_var (pv 2)) de_int) (fun hb => (de_add (de_var (pv 2)) de_int)) fun hb => (de_neg de_int)) rfl) ?_
        have e : (if decide (n < 9) = true then PyData.int (n + 1) else PyData.int (-9)) = .int (nextN n) := by
          unfold nextN
          by_cases h : n < 9
          · rw [if_pos h, if_pos (decide_eq_true h)]
          · rw [if_neg h, if_neg (by rw [decide_eq_false h]; decide)]
        refine ds_at (z1 := ⟨[.ptr 0, .d (.int (ruleO s)), .d (.int (nextN n))], [some (dI (drawS (drawS s 19) 19))]⟩) (by rw [← e]; rfl) ?_
        refine ds_nil ⟨m, Nat.lt_succ_self m, _, rfl, ?_, ?_, by unfold nextN; split <;> omega, by unfold nextN; split <;> omega⟩
        · have h5 : (if commonM (ruleO s) n = 1 then true else ruleOk (ruleO s) m (nextN n)) = true := h5
          rw [if_neg hd] at h5
          exact h5
        · have h6 : (if commonM (ruleO s) n = 1 then n else ruleL (ruleO s) m (nextN n)) = ruleN s := h6
          rw [if_neg hd] at h6
          exact h6
    · rintro m _ ⟨n, rfl, h5, h6, h3, h4⟩ ht
      have hd : commonM (ruleO s) n = 1 := by
        have ht : (!decide (commonM (ruleO s) n = 1)) = false := ht
        simpa using ht
      have e : ruleL (ruleO s) m n = n := by
        cases m with
        | zero => rfl
        | succ m =>
          show (if commonM (ruleO s) n = 1 then n else _) = n
          rw [if_pos hd]
      rw [e] at h6
      subst h6
      refine ds_last (d1_ret (de_cl1 (v := rl (ruleM s).1 (ruleM s).2) G_law_of hr (by rfl) (dap_cons (de_ptr (pv 0)) (da_cons (de_frz (de_lst (da_cons (de_tup (da_cons (de_var (pv 1)) (da_cons (de_var (pv 2)) da_nil))) (da_cons (de_tup (da_cons de_int (da_cons de_int da_nil))) (da_cons (de_tup (da_cons de_int (da_cons (de_neg de_int) da_nil))) (da_cons (de_tup (da_cons (de_neg de_int) (da_cons de_int da_nil))) (da_cons (de_tup (da_cons de_int (da_cons de_int da_nil))) (da_cons (de_tup (da_cons de_int (da_cons de_int da_nil))) (da_cons (de_tup (da_cons de_int (da_cons (de_neg de_int) da_nil))) (da_cons (de_tup (da_cons de_int (da_cons de_int da_nil))) (da_cons (de_tup (da_cons de_int (da_cons (de_neg de_int) da_nil))) (da_cons (de_tup (da_cons de_int (da_cons de_int da_nil))) da_nil))))))))))) rfl (Nat.le_of_eq hpa)) da_nil)) rfl ⟨drawS (drawS s 19) 19, (ruleList (ruleO s) (ruleN s)).map fun p => rl p.1 p.2, rfl, (by show 0 < 10; decide), (by show 10 ≤ 1000; decide), rfl, rfl, ?_⟩) (rr1 rfl))
      show Rr.d (rl (ruleM s).1 (ruleM s).2) = .d (((ruleList (ruleO s) (ruleN s)).map fun p => rl p.1 p.2).getD (drawV (drawS (drawS s 19) 19) 10).toNat .none)
      have h7 := drawV_low (drawS (drawS s 19) 19) 10 (by decide)
      have h8 : (drawV (drawS (drawS s 19) 19) 10).toNat < (ruleList (ruleO s) (ruleN s)).length := by show _ < 10; omega
      unfold ruleM
      rw [List.getD_eq_getElem?_getD, List.getD_eq_getElem?_getD, List.getElem?_map, List.getElem?_eq_getElem h8]
      rfl
abbrev sLawRing : Stmt := topS 28
abbrev nmLawRing : List Str := ["draws", "many", "far", "house"]
theorem scLawRing : FnScope nmLawRing ["draws", "many"] (defScope sLawRing) := ⟨rfl, rfl, rfl, by decide +kernel, rfl, by decide +kernel, by decide +kernel⟩
def RLawRing : RT := fun as π r π' => ∃ (s : Int × Int) (many : Nat), as = [.int many] ∧ many ≤ 1000 ∧ π = [dI s] ∧ π' = [dI (ringS s many)] ∧ r = .d (tI (ringM s many))
theorem ok_law_ring (B : Bt mg) (G_law_draw : OkD P w K mg base "_law_draw" 1 ["draws", "many"] RLawDraw) (F : FunAt K mg "_law_ring" sLawRing ["draws", "many"]) : OkD P w K mg base "_law_ring" 2 ["draws", "many"] RLawRing := by
  refine mk_def F scLawRing (fun as π r π' h => ?_) (fun f cdv A outer s H E N as π r π' hr hpa hR => ?_)
  · obtain ⟨s, many, rfl, _, rfl, rfl, rfl⟩ := h
    exact ⟨rfl, rfl⟩
  · obtain ⟨s, many, rfl, hm, rfl, rfl, rfl⟩ := hR
    have h1 := drawV_low s 4 (by decide)
    have hf := farM_bd s
    have hp1 : N.pa.length ≤ 1 := Nat.le_of_eq hpa
    refine ds_seq (d1_set (i := 2) scLawRing.nd rfl (.inr rfl) (de_ixPI (ns := [2, 7, 50, 10 ^ 30]) (de_lst (da_cons de_int (da_cons de_int (da_cons de_int (da_cons (de_pow de_int de_int ⟨by decide, by decide, by decide⟩) da_nil))))) (de_cl1 G_law_draw hr (by rfl) (dap_cons (de_ptr (pv 0)) (da_cons de_int da_nil)) rfl ⟨s, 4, rfl, by decide, by decide, rfl, rfl, rfl⟩) rfl h1.1 h1.2) rfl) ?_
    refine ds_wk (s' := [.ptr 0, .d (.int many), .d (.int (farM s)), .no]) (o' := [some (dI (drawS s 4))]) (.keep (.keep (.keep (.keep .nil)))) rfl hp1 rfl ?_
    exact ds_last (d1_ret (de_tupP (xs := lI (ringM s many)) (by rfl) B.tuple (de_lcSI (own := [("house", 3)]) (O := fun k => [some (dI (drawN (drawS s 4) (2 * farM s + 1) k))]) rfl scLawRing.nd (di_range1 (by rfl) B.range (de_var (pv 1)) (by omega) (by omega)) it_rng (blkOk_by (N := nmLawRing) (sc := defScope sLawRing) (by decide +kernel)) (fun _ _ _ _ _ => pg_name (i := 3) scLawRing.nd rfl (.inl rfl)) (gd_name 3) (by decide) (fun _ _ => trivial) (small1000 (by omega)) rfl (fun _ => rfl)
      (fun k hk _ _ _ _ _ => de_sub (de_cl1 G_law_draw hr (by rfl) (dap_cons (de_ptr (pv 0)) (da_cons (de_add (de_mul de_int (de_var (pv 2)) (.inl ⟨by decide, by decide⟩)) de_int) da_nil)) rfl ⟨drawN (drawS s 4) (2 * farM s + 1) k, 2 * farM s + 1, rfl, by omega, by omega, rfl, rfl, rfl⟩) (de_var (pv 2))) (fun k hk => rfl)) rfl) (rr1 rfl))
abbrev sLawCase : Stmt := topS 29
abbrev nmLawCase : List Str := ["draws", "rule_d", "many", "ring_d", "days", "day", "number"]
theorem scLawCase : FnScope nmLawCase ["draws"] (defScope sLawCase) := ⟨rfl, rfl, rfl, by decide +kernel, rfl, by decide +kernel, by decide +kernel⟩
def RLawCase : RT := fun as π r π' => ∃ (s : Int × Int), as = [] ∧ π = [dI s] ∧ π' = [dI (caseM s).s] ∧ r = .d (.tuple [rl (caseM s).o (caseM s).n, tI (caseM s).ring, .int (caseM s).days])
theorem ok_law_case (B : Bt mg) (G_law_draw : OkD P w K mg base "_law_draw" 1 ["draws", "many"] RLawDraw) (G_law_rule : OkD P w K mg base "_law_rule" 3 ["draws"] RLawRule) (G_law_ring : OkD P w K mg base "_law_ring" 2 ["draws", "many"] RLawRing) (G_law_day : OkD P w K mg base "_law_day" 1 ["rule_d", "ring_d"] RLawDay) (F : FunAt K mg "_law_case" sLawCase ["draws"]) : OkD P w K mg base "_law_case" 4 ["draws"] RLawCase := by
  refine mk_def F scLawCase (fun as π r π' h => ?_) (fun f cdv A outer s H E N as π r π' hr hpa hR => ?_)
  · obtain ⟨s, rfl, rfl, rfl, rfl⟩ := h
    exact ⟨rfl, rfl⟩
  · obtain ⟨s, rfl, rfl, rfl, rfl⟩ := hR
    have h1 := drawV_low (ruleS' s) 9 (by decide)
    have hm := caseMany_bd s
    have em : 1 + drawV (ruleS' s) 9 = (caseMany s : Int) := by unfold caseMany; omega
    have hp1 : N.pa.length ≤ 1 := Nat.le_of_eq hpa
    have h2 := drawV_low (drawS (caseS1 s) 12) 5 (by decide)
    have h3 := drawV_low (caseS1 s) 12 (by decide)
    have hd := caseDays_bd s
    refine ds_seq (d1_par (i := 1) (j := 2) rfl scLawCase.nd rfl rfl (by decide) rfl rfl (da_cons (de_cl1 G_law_rule hr (by rfl) (dap_cons (de_ptr (pv 0)) da_nil) rfl ⟨s, rfl, rfl, rfl, rfl⟩) (da_cons (de_cast (de_add de_int (de_cl1 G_law_draw hr (by rfl) (dap_cons (de_ptr (pv 0)) (da_cons de_int da_nil)) rfl ⟨ruleS' s, 9, rfl, by decide, by decide, rfl, rfl, rfl⟩)) (congrArg PyData.int em)) da_nil)) (by rfl) rfl) ?_
    have ed : at_ [0, 0, 1, 2, drawV (caseS1 s) 12] (drawV (drawS (caseS1 s) 12) 5) = (caseDays s : Int) := by
      have : 0 ≤ at_ [0, 0, 1, 2, drawV (caseS1 s) 12] (drawV (drawS (caseS1 s) 12) 5) := getD_all (p := fun v => 0 ≤ v) (fun v hv => by
        simp only [List.mem_cons, List.not_mem_nil, or_false] at hv
        rcases hv with rfl | rfl | rfl | rfl | rfl <;> omega) (by decide) _
      unfold caseDays
      unfold at_ at this ⊢
      omega
    refine ds_seq (d1_asg (de_tup (da_cons (de_cl1 G_law_ring hr (by rfl) (dap_cons (de_ptr (pv 0)) (da_cons (de_var (pv 2)) da_nil)) rfl ⟨drawS (ruleS' s) 9, caseMany s, rfl, by omega, rfl, rfl, rfl⟩) (da_cons (de_cast (de_ixPI (ns := [0, 0, 1, 2, drawV (caseS1 s) 12]) (de_lst (da_cons de_int (da_cons de_int (da_cons de_int (da_cons de_int (da_cons (de_cl1 G_law_draw hr (by rfl) (dap_cons (de_ptr (pv 0)) (da_cons de_int da_nil)) rfl ⟨caseS1 s, 12, rfl, by decide, by decide, rfl, rfl, rfl⟩) da_nil)))))) (de_cl1 G_law_draw hr (by rfl) (dap_cons (de_ptr (pv 0)) (da_cons de_int da_nil)) rfl ⟨drawS (caseS1 s) 12, 5, rfl, by decide, by decide, rfl, rfl, rfl⟩) rfl h2.1 h2.2) (congrArg PyData.int ed)) da_nil))) (pg_tup (n := 2) rfl (pgs_cons (pg_name (i := 3) scLawCase.nd rfl (.inr rfl)) (pgs_cons (pg_name (i := 4) scLawCase.nd rfl (.inl rfl)) pgs_nil))) (gd_tup (is := [3, 4]) (gsd_cons (gsd_cons gsd_nil))) ⟨_, rfl, rfl⟩ rfl) ?_
    refine ds_wk (s' := [.ptr 0, .d (rl (caseM s).o (caseM s).n), .d (.int (caseMany s)), .d (tI (ringM (drawS (ruleS' s) 9) (caseMany s))), .d (.int (caseDays s)), .no, .no]) (o' := [some (dI (caseS2 s))]) (.keep (.keep (.keep (.keep (.keep (.keep (.keep .nil))))))) rfl hp1 rfl ?_
    refine ds_cons (mid := fun z' => z' = ⟨[.ptr 0, .d (rl (caseM s).o (caseM s).n), .d (.int (caseMany s)), .d (tI (caseRing0 s)), .d (.int (caseDays s)), .no, .no], [some (dI (caseM s).s)]⟩) (d1_if (dt_eqI (de_cl1 G_law_draw hr (by rfl) (dap_cons (de_ptr (pv 0)) (da_cons de_int da_nil)) rfl ⟨caseS2 s, 4, rfl, by decide, by decide, rfl, rfl, rfl⟩) de_int) (fun hb => ?_) (fun hb => ?_)) ?_
    · have hb : drawV (caseS2 s) 4 = 0 := of_decide_eq_true hb
      refine ds_seq (d1_set (i := 3) scLawCase.nd rfl (.inr rfl) (de_tupP (xs := lI (caseRing0 s)) (by rfl) B.tuple (de_lcI (own := [("number", 6)]) rfl scLawCase.nd (di_tup (de_var (pv 3))) it_ints (blkOk_by (N := nmLawCase) (sc := defScope sLawCase) (by decide +kernel)) (fun _ _ _ _ _ => pg_name (i := 6) scLawCase.nd rfl (.inl rfl)) (gd_name 6) (by decide) (fun _ _ => trivial) (small1000 (by rw [ringM_len]; omega)) (fun k hk _ _ _ _ _ => de_sub (de_var (pv 6)) (de_ixTI (de_var (pv 3)) de_int (by decide) (by rw [ringM_len]; omega))) (fun k hk => rfl)) ?_) rfl) ?_
      · have e : caseRing0 s = (List.range (ringM (drawS (ruleS' s) 9) (caseMany s)).length).map fun k => (ringM (drawS (ruleS' s) 9) (caseMany s)).getD k 0 - at_ (ringM (drawS (ruleS' s) 9) (caseMany s)) 0 := by
          unfold caseRing0
          rw [if_pos hb, map_getD]
          rfl
        rw [e]
        rfl
      · exact ds_wk (s' := [.ptr 0, .d (rl (caseM s).o (caseM s).n), .d (.int (caseMany s)), .d (tI (caseRing0 s)), .d (.int (caseDays s)), .no, .no]) (o' := [some (dI (caseM s).s)]) (.keep (.keep (.keep (.keep (.keep (.keep (.keep .nil))))))) rfl hp1 rfl (ds_nil rfl)
    · have hb : ¬ drawV (caseS2 s) 4 = 0 := of_decide_eq_false hb
      refine ds_nil ?_
      have e : caseRing0 s = ringM (drawS (ruleS' s) 9) (caseMany s) := by unfold caseRing0; rw [if_neg hb]
      rw [e]
      rfl
    · rintro _ rfl
      refine ds_for (fun k z => ∃ sl, z = ⟨[.ptr 0, .d (rl (caseM s).o (caseM s).n), .d (.int (caseMany s)), .d (tI (laterM (caseM s).o (caseM s).n (caseRing0 s) k)), .d (.int (caseDays s)), sl, .no], [some (dI (caseM s).s)]⟩) PassesOwn.never rfl (di_range1 (by rfl) B.range (de_var (pv 4)) (by omega) (by omega)) it_rng0 (pg_name (i := 5) scLawCase.nd rfl (.inl rfl)) (gd_name 5) (fun _ _ => trivial) ⟨_, rfl⟩ ?_ ?_
      · rintro k _ hk ⟨sl, rfl⟩
        refine ds_seq (d1_set (i := 3) scLawCase.nd rfl (.inr rfl) (de_clD G_law_day hr (by rfl) (da_cons (de_var (pv 1)) (da_cons (de_var (pv 3)) da_nil)) ⟨_, _, _, rfl, (case_rule s).toRuleS, by rw [laterM_len, caseRing0_len]; omega, rfl, rfl, rfl⟩) rfl) ?_
        exact ds_nil ⟨_, rfl⟩
      · rintro _ ⟨sl, rfl⟩
        have e : ((caseDays s : Int)).toNat = caseDays s := rfl
        exact ds_last (d1_ret (de_tup (da_cons (de_var (pv 1)) (da_cons (de_var (pv 3)) (da_cons (de_var (pv 4)) da_nil)))) (rr1 rfl))
abbrev sLawPieces : Stmt := topS 30
abbrev nmLawPieces : List Str := ["found"]
theorem scLawPieces : FnScope nmLawPieces [] (defScope sLawPieces) := ⟨rfl, rfl, rfl, by decide +kernel, rfl, by decide +kernel, by decide +kernel⟩
def pcsD : List D := (List.range 9).map fun l => tI (pieceT (l + 1))
def RLawPieces : RT := fun as π r π' => as = [] ∧ π = [] ∧ π' = [] ∧ r = .new pcsD
theorem ok_law_pieces (B : Bt mg) (F : FunAt K mg "_law_pieces" sLawPieces []) : OkD P w K mg base "_law_pieces" 1 [] RLawPieces := by
  refine mk_def F scLawPieces (fun as π r π' h => ?_) (fun f cdv A outer s H E N as π r π' hr hpa hR => ?_)
  · obtain ⟨rfl, rfl, rfl, rfl⟩ := h
    exact ⟨rfl, rfl⟩
  · obtain ⟨rfl, rfl, rfl, rfl⟩ := hR
    refine ds_seq (d1_set (i := 0) scLawPieces.nd rfl (.inl rfl) (de_lst (da_cons (de_tup (da_cons (de_neg de_int) (da_cons de_int da_nil))) (da_cons (de_tup (da_cons de_int (da_cons de_int da_nil))) (da_cons (de_tup (da_cons de_int (da_cons de_int (da_cons de_int da_nil)))) (da_cons (de_tup (da_cons de_int (da_cons de_int (da_cons de_int da_nil)))) (da_cons (de_tup (da_cons de_int (da_cons de_int (da_cons de_int (da_cons de_int (da_cons de_int da_nil)))))) (da_cons (de_tup (da_cons de_int (da_cons (de_neg de_int) (da_cons de_int da_nil)))) (da_cons (de_repTI (v := 1) (m := 7) (de_tup (da_cons de_int da_nil)) de_int (by decide) (by decide)) (da_cons (de_tup (da_cons de_int (da_cons de_int (da_cons de_int (da_cons de_int (da_cons de_int da_nil)))))) da_nil))))))))) rfl) ?_
    exact ds_last (d1_ret (de_catP (de_ptr (pv 0)) (de_lst (da_cons (de_tup (da_cons de_int (da_cons de_int (da_cons de_int (da_cons de_int (da_cons de_int (da_cons de_int (da_cons de_int da_nil)))))))) da_nil)) rfl rfl (by decide)) (rrN rfl))
abbrev sLawProduct : Stmt := topS 31
abbrev nmLawProduct : List Str := ["one", "other", "found", "left", "right", "spot"]
theorem scLawProduct : FnScope nmLawProduct ["one", "other"] (defScope sLawProduct) := ⟨rfl, rfl, rfl, by decide +kernel, rfl, by decide +kernel, by decide +kernel⟩
def RLawProduct : RT := fun as π r π' => ∃ (one other : List Int), as = [tI one, tI other] ∧ (0 < one.length ∧ 0 < other.length ∧ one.length ≤ 400 ∧ other.length ≤ 400) ∧ (∀ k, -(2 ^ 64) < other.getD k 0 ∧ other.getD k 0 < 2 ^ 64) ∧ π = [] ∧ π' = [] ∧ r = .d (tI (prodM one other))
theorem ok_law_product (B : Bt mg) (F : FunAt K mg "_law_product" sLawProduct ["one", "other"]) : OkD P w K mg base "_law_product" 1 ["one", "other"] RLawProduct := by
  refine mk_def F scLawProduct (fun as π r π' h => ?_) (fun f cdv A outer s H E N as π r π' hr hpa hR => ?_)
  · obtain ⟨one, other, rfl, _, _, rfl, rfl, rfl⟩ := h
    exact ⟨rfl, rfl⟩
  · obtain ⟨one, other, rfl, ⟨h1, h2, h3, h4⟩, hbd, rfl, rfl, rfl⟩ := hR
    have el1 : ((lI one).length : Int) = one.length := by simp
    have el2 : ((lI other).length : Int) = other.length := by simp
    have hz : (2000 : Nat) ≤ sizeLine := by decide
    have e0 : ((one.length : Int) + other.length - 1).toNat = one.length + other.length - 1 := by omega
    refine ds_seq (d1_set (i := 2) scLawProduct.nd rfl (.inl rfl) (de_repPI (v := 0) (de_lst (da_cons de_int da_nil)) (de_sub (de_add (de_cast (de_lenT (by rfl) B.len (de_var (pv 0))) (congrArg PyData.int el1)) (de_cast (de_lenT (by rfl) B.len (de_var (pv 1))) (congrArg PyData.int el2))) de_int) rfl (by omega) (by omega) (by omega)) rfl) ?_
    refine ds_for (fun k z => ∃ s3 s4 s5, z = ⟨[.d (tI one), .d (tI other), .ptr 1, s3, s4, s5], [some [.int 0], some (lI (prodOut one other k))]⟩) PassesOwn.never rfl (di_range1 (by rfl) B.range (de_cast (de_lenT (by rfl) B.len (de_var (pv 0))) (congrArg PyData.int el1)) (by omega) (by omega)) it_rng0 (pg_name (i := 3) scLawProduct.nd rfl (.inl rfl)) (gd_name 3) (fun _ _ => trivial) ⟨_, _, _, by rw [e0]; rfl⟩ ?_ ?_
    · rintro k _ hk ⟨s3, s4, s5, rfl⟩
      refine ds_for (fun j z => ∃ s4 s5, z = ⟨[.d (tI one), .d (tI other), .ptr 1, .d (.int k), s4, s5], [some [.int 0], some (lI (prodIn (one.getD k 0) k other (prodOut one other k) j))]⟩) PassesOwn.never rfl (di_range1 (by rfl) B.range (de_cast (de_lenT (by rfl) B.len (de_var (pv 1))) (congrArg PyData.int el2)) (by omega) (by omega)) it_rng0 (pg_name (i := 4) scLawProduct.nd rfl (.inl rfl)) (gd_name 4) (fun _ _ => trivial) ⟨_, _, rfl⟩ ?_ ?_
      · rintro j _ hj ⟨s4, s5, rfl⟩
        have hl : (prodIn (one.getD k 0) k other (prodOut one other k) j).length = one.length + other.length - 1 := by rw [prodIn_len, prodOut_len]
        have ei : ((k : Int) + (j : Int)).toNat = k + j := by omega
        refine ds_seq (d1_set (i := 5) scLawProduct.nd rfl (.inl rfl) (de_add (de_var (pv 3)) (de_var (pv 4))) rfl) ?_
        refine ds_seq (d1_setI (ns := prodIn (one.getD k 0) k other (prodOut one other k) j) (de_add (de_ixPI (ns := prodIn (one.getD k 0) k other (prodOut one other k) j) (de_ptr (pv 2)) (de_var (pv 5)) rfl (by omega) (by rw [hl]; omega)) (de_mul (de_ixTI (de_var (pv 0)) (de_var (pv 3)) (by omega) (by omega)) (de_ixTI (de_var (pv 1)) (de_var (pv 4)) (by omega) (by omega)) (.inr (by exact hbd j)))) (de_ptr (pv 2)) (de_var (pv 5)) rfl (by omega) (by rw [hl]; omega) rfl) ?_
        refine ds_nil ⟨.d (.int j), .d (.int ((k : Int) + (j : Int))), ?_⟩
        have e : prodIn (one.getD k 0) k other (prodOut one other k) (j + 1) = (prodIn (one.getD k 0) k other (prodOut one other k) j).set ((k : Int) + (j : Int)).toNat (at_ (prodIn (one.getD k 0) k other (prodOut one other k) j) ((k : Int) + (j : Int)) + one.getD k 0 * other.getD j 0) := by
          unfold at_
          rw [ei]
          rfl
        rw [e]
        rfl
      · rintro _ ⟨s4, s5, rfl⟩
        exact ds_nil ⟨_, _, _, rfl⟩
    · rintro _ ⟨s3, s4, s5, rfl⟩
      exact ds_last (d1_ret (de_tupP (by rfl) B.tuple (de_ptr (pv 2)) rfl) rr0)
abbrev sLawNorm : Stmt := topS 33
abbrev nmLawNorm : List Str := ["rule_d", "word", "own", "other", "found", "many", "at"]
theorem scLawNorm : FnScope nmLawNorm ["rule_d", "word"] (defScope sLawNorm) := ⟨rfl, rfl, rfl, by decide +kernel, rfl, by decide +kernel, by decide +kernel⟩
def RLawNorm : RT := fun as π r π' => ∃ (o n : Int) (m : Nat), as = [rl o n, tI (pieceT m)] ∧ RuleS o n ∧ (0 < m ∧ m ≤ 9) ∧ π = [] ∧ π' = [] ∧ r = .d (.int (normM o n m))
theorem m1pow : ∀ k : Nat, (-1 : Int) ^ k = if (k : Int) % 2 = 0 then 1 else -1
  | 0 => by decide
  | k + 1 => by
    rw [Int.pow_succ, m1pow k]
    by_cases q : (k : Int) % 2 = 0
    · rw [if_pos q, if_neg (by omega)]; rfl
    · rw [if_neg q, if_pos (by omega)]; rfl
theorem ok_law_norm (B : Bt mg) (G_law_power : OkD P w K mg base "_law_power" 1 ["number", "many"] RLawPower) (F : FunAt K mg "_law_norm" sLawNorm ["rule_d", "word"]) : OkD P w K mg base "_law_norm" 2 ["rule_d", "word"] RLawNorm := by
  refine mk_def F scLawNorm (fun as π r π' h => ?_) (fun f cdv A outer s H E N as π r π' hr hpa hR => ?_)
  · obtain ⟨o, n, m, rfl, _, _, rfl, rfl, rfl⟩ := h
    exact ⟨rfl, rfl⟩
  · obtain ⟨o, n, m, rfl, R, ⟨h0, h9⟩, rfl, rfl, rfl⟩ := hR
    have := R.o1; have := R.o2; have := R.n1; have := R.n2
    have hp := pieceT_ok h0 h9
    have := hp.l2; have := hp.l7
    have hbd := pieceT_bd h0 h9
    have el : ((lI (pieceT m)).length : Int) = (pieceT m).length := by simp
    refine ds_seq (d1_asg (de_var (pv 0)) (pg_tup (n := 2) rfl (pgs_cons (pg_name (i := 2) scLawNorm.nd rfl (.inl rfl)) (pgs_cons (pg_name (i := 3) scLawNorm.nd rfl (.inl rfl)) pgs_nil))) (gd_tup (is := [2, 3]) (gsd_cons (gsd_cons gsd_nil))) ⟨_, rfl, rfl⟩ rfl) ?_
    refine ds_seq (d1_par (i := 4) (j := 5) rfl scLawNorm.nd rfl rfl (by decide) rfl rfl (da_cons de_int (da_cons (de_sub (de_cast (de_lenT (by rfl) B.len (de_var (pv 1))) (congrArg PyData.int el)) de_int) da_nil)) (by rfl) rfl) ?_
    obtain ⟨L, hL⟩ : ∃ L, (pieceT m).length = L + 1 := ⟨(pieceT m).length - 1, by omega⟩
    have eL : ((pieceT m).length : Int) - 1 = (L : Int) := by omega
    refine ds_at (z1 := ⟨[.d (rl o n), .d (tI (pieceT m)), .d (.int o), .d (.int n), .d (.int 0), .d (.int (((pieceT m).length : Int) - 1)), .no], []⟩) rfl ?_
    rw [eL]
    refine ds_for (fun k z => ∃ sl, z = ⟨[.d (rl o n), .d (tI (pieceT m)), .d (.int o), .d (.int n), .d (.int (sumR k fun g => (pieceT m).getD g 0 * (0 - o) ^ g * n ^ (L - g))), .d (.int L), sl], []⟩) PassesOwn.never rfl (di_range1 (by rfl) B.range (de_add (de_var (pv 5)) de_int) (by omega) (by omega)) it_rng0 (pg_name (i := 6) scLawNorm.nd rfl (.inl rfl)) (gd_name 6) (fun _ _ => trivial) ⟨_, rfl⟩ ?_ ?_
    · rintro k _ hk ⟨sl, rfl⟩
      refine ds_seq (d1_set (i := 4) scLawNorm.nd rfl (.inl rfl) (de_cast (y := .int (sumR (k + 1) fun g => (pieceT m).getD g 0 * (0 - o) ^ g * n ^ (L - g))) (de_add (de_var (pv 4)) (de_mul (de_mul (de_ixTI (de_var (pv 1)) (de_var (pv 6)) (by omega) (by omega)) (de_clD G_law_power hr (by rfl) (da_cons (de_sub de_int (de_var (pv 2))) (da_cons (de_var (pv 6)) da_nil)) ⟨0 - o, k, rfl, by omega, by omega, rfl, rfl, rfl⟩) (.inl (by exact hbd k))) (de_clD G_law_power hr (by rfl) (da_cons (de_var (pv 3)) (da_cons (de_sub (de_var (pv 5)) (de_var (pv 6))) da_nil)) ⟨n, (L : Int) - k, rfl, by omega, by omega, rfl, rfl, rfl⟩) (.inr (by
        have := pow_bd (a := n) (by omega) (k := ((L : Int) - (k : Int)).toNat) (by omega)
        omega)))) (congrArg PyData.int (by
          rw [sumR_succ, show ((L : Int) - (k : Int)).toNat = L - k by omega]
          rfl))) rfl) ?_
      exact ds_nil ⟨_, rfl⟩
    · rintro _ ⟨sl, rfl⟩
      have e2 : ((L : Int) + 1).toNat = L + 1 := by omega
      refine ds_last (d1_ret (de_if (x := .int (sumR (L + 1) fun g => (pieceT m).getD g 0 * (0 - o) ^ g * n ^ (L - g))) (y := .int (0 - sumR (L + 1) fun g => (pieceT m).getD g 0 * (0 - o) ^ g * n ^ (L - g))) (dt_eqI (de_modP (de_var (pv 5)) de_int (by decide)) de_int) (fun hb => (de_cast (de_var (pv 4)) (by rw [e2]))) fun hb => (de_cast (de_sub de_int (de_var (pv 4))) (by rw [e2]))) (rr0e ?_))
      unfold normM
      rw [hL, Nat.add_sub_cancel, m1pow]
      by_cases q : (L : Int) % 2 = 0
      · rw [if_pos q, if_pos (decide_eq_true q), Int.one_mul]
      · rw [if_neg q, if_neg (by rw [decide_eq_false q]; decide)]
        refine congrArg PyData.int ?_
        omega
abbrev sLawRest : Stmt := topS 32
abbrev nmLawRest : List Str := ["word", "by", "rest", "top", "at", "spot"]
theorem scLawRest : FnScope nmLawRest ["word", "by"] (defScope sLawRest) := ⟨rfl, rfl, rfl, by decide +kernel, rfl, by decide +kernel, by decide +kernel⟩
def RLawRest : RT := fun as π r π' => ∃ (word by_ : List Int), as = [tI word, tI by_] ∧ (0 < by_.length ∧ by_.length ≤ 400 ∧ word.length ≤ 400) ∧ (∀ k, -(2 ^ 64) < by_.getD k 0 ∧ by_.getD k 0 < 2 ^ 64) ∧ π = [] ∧ π' = [] ∧ r = .new (lI (overM word by_).2)
theorem lI_last {rest : List Int} (h : 0 < rest.length) : (lI rest)[(lI rest).length - 1]? = some (.int (rest.getD (rest.length - 1) 0)) := by
  rw [lI_len, List.getElem?_map, List.getElem?_eq_getElem (by omega), List.getD_eq_getElem?_getD, List.getElem?_eq_getElem (by omega)]
  rfl
theorem lI_drop (rest : List Int) : (lI rest).dropLast = lI rest.dropLast := (List.map_dropLast (f := PyData.int) (l := rest)).symm
theorem ok_law_rest (B : Bt mg) (F : FunAt K mg "_law_rest" sLawRest ["word", "by"]) : OkD P w K mg base "_law_rest" 1 ["word", "by"] RLawRest := by
  refine mk_def F scLawRest (fun as π r π' h => ?_) (fun f cdv A outer s H E N as π r π' hr hpa hR => ?_)
  · obtain ⟨word, by_, rfl, _, _, rfl, rfl, rfl⟩ := h
    exact ⟨rfl, rfl⟩
  · obtain ⟨word, by_, rfl, ⟨h1, h2, h3⟩, hbd, rfl, rfl, rfl⟩ := hR
    have el2 : ((lI by_).length : Int) = by_.length := by simp
    refine ds_seq (d1_set (i := 2) scLawRest.nd rfl (.inl rfl) (de_listT (by rfl) B.list (de_var (pv 0))) rfl) ?_
    refine ds_while (fun m z => ∃ (rest : List Int) (s3 s4 s5 : Sl), m = rest.length ∧ z = ⟨[.d (tI word), .d (tI by_), .ptr 0, s3, s4, s5], [some (lI rest)]⟩ ∧ (overM rest by_).2 = (overM word by_).2) word.length (fun _ (z : Z) => match z.o with | [some xs] => decide ((by_.length : Int) ≤ (xs.length : Int)) | _ => false) PassesOwn.never ⟨word, _, _, _, rfl, rfl, rfl⟩ ?_ ?_ ?_
    · rintro m _ ⟨rest, s3, s4, s5, rfl, rfl, he⟩
      exact dt_ge (de_lenP (by rfl) B.len (de_ptr (pv 2))) (de_cast (de_lenT (by rfl) B.len (de_var (pv 1))) (congrArg PyData.int el2))
    · rintro m _ ⟨rest, s3, s4, s5, rfl, rfl, he⟩ hb
      have hb : (by_.length : Int) ≤ ((lI rest).length : Int) := of_decide_eq_true hb
      rw [lI_len] at hb
      have hle : by_.length ≤ rest.length := by omega
      have h0 : 0 < rest.length := by omega
      refine ds_seq (d1_set (i := 3) scLawRest.nd rfl (.inl rfl) (de_pop (de_ptr (pv 2)) rfl (lI_last h0)) rfl) ?_
      refine ds_at (z1 := ⟨[.d (tI word), .d (tI by_), .ptr 0, .d (.int (rest.getD (rest.length - 1) 0)), s4, s5], [some (lI (restIn by_ rest 0))]⟩) (by rw [restIn_0, ← lI_drop]; rfl) ?_
      refine ds_for (fun j z => ∃ s4 s5, z = ⟨[.d (tI word), .d (tI by_), .ptr 0, .d (.int (rest.getD (rest.length - 1) 0)), s4, s5], [some (lI (restIn by_ rest j))]⟩) PassesOwn.never rfl (di_range1 (by rfl) B.range (de_sub (de_cast (de_lenT (by rfl) B.len (de_var (pv 1))) (congrArg PyData.int el2)) de_int) (by omega) (by omega)) it_rng0 (pg_name (i := 4) scLawRest.nd rfl (.inl rfl)) (gd_name 4) (fun _ _ => trivial) ⟨_, _, rfl⟩ ?_ ?_
      · rintro j _ hj ⟨s4, s5, rfl⟩
        have hl := restIn_len by_ rest j
        have hjl : rest.length - by_.length + j < rest.length - 1 := by omega
        have esp : ((lI (restIn by_ rest j)).length : Int) - by_.length + 1 + (j : Int) = ((rest.length - by_.length + j : Nat) : Int) := by rw [lI_len, hl]; omega
        refine ds_seq (d1_set (i := 5) scLawRest.nd rfl (.inl rfl) (de_cast (de_add (de_add (de_sub (de_lenP (by rfl) B.len (de_ptr (pv 2))) (de_cast (de_lenT (by rfl) B.len (de_var (pv 1))) (congrArg PyData.int el2))) de_int) (de_var (pv 4))) (congrArg PyData.int esp)) rfl) ?_
        refine ds_seq (d1_setI (ns := restIn by_ rest j) (de_sub (de_ixPI (ns := restIn by_ rest j) (de_ptr (pv 2)) (de_var (pv 5)) rfl (by omega) (by rw [hl]; omega)) (de_mul (de_var (pv 3)) (de_ixTI (de_var (pv 1)) (de_var (pv 4)) (by omega) (by omega)) (.inr (by exact hbd j)))) (de_ptr (pv 2)) (de_var (pv 5)) rfl (by omega) (by rw [hl]; omega) rfl) ?_
        refine ds_nil ⟨.d (.int j), .d (.int ((rest.length - by_.length + j : Nat) : Int)), ?_⟩
        rw [restIn_succ by_ rest j hjl]
        rfl
      · rintro _ ⟨s4, s5, rfl⟩
        have e : ((by_.length : Int) - 1).toNat = by_.length - 1 := by omega
        refine ds_nil ⟨rest.length - 1, by omega, ovStep by_ rest, _, _, _, (ovStep_len _ _).symm, by rw [e, restIn_end by_ rest h1 hle], ?_⟩
        rw [← over_step h1 hle]
        exact he
    · rintro m _ ⟨rest, s3, s4, s5, rfl, rfl, he⟩ hb
      have hb : ¬ (by_.length : Int) ≤ ((lI rest).length : Int) := of_decide_eq_false hb
      rw [lI_len] at hb
      rw [over_end (by omega)] at he
      rw [← he]
      exact ds_last (d1_ret (de_ptr (pv 2)) (rrN rfl))
abbrev sLawPiecesSo : Stmt := topS 34
abbrev nmLawPiecesSo : List Str := ["rule_d", "many", "pieces", "whole", "norms", "due", "lesser", "one"]
theorem scLawPiecesSo : FnScope nmLawPiecesSo ["rule_d", "many"] (defScope sLawPiecesSo) := ⟨rfl, rfl, rfl, by decide +kernel, rfl, by decide +kernel, by decide +kernel⟩
theorem filt_dvs (m : Nat) : ∀ k, filtL (fun k => decide ((m : Int) % (1 + ((k : Nat) : Int)) = 0)) (fun k => 1 + ((k : Nat) : Int)) k = dvsL m k
  | 0 => rfl
  | k + 1 => by
    rw [filtL_succ, filt_dvs m k]
    show _ = if m % (k + 1) = 0 then dvsL m k ++ [((k + 1 : Nat) : Int)] else dvsL m k
    have e : (1 + ((k : Nat) : Int)) = ((k + 1 : Nat) : Int) := by omega
    by_cases q : m % (k + 1) = 0
    · rw [if_pos q, if_pos (decide_eq_true (by rw [e, ← Int.natCast_emod, q]; rfl)), e]
    · rw [if_neg q, if_neg (by rw [decide_eq_false (by rw [e, ← Int.natCast_emod]; omega)]; decide)]
theorem pcs_at {d : Nat} (h0 : 0 < d) (h9 : d ≤ 9) : atI pcsD ((d : Int) - 1) = some (tI (pieceT d)) := by
  have : d = 1 ∨ d = 2 ∨ d = 3 ∨ d = 4 ∨ d = 5 ∨ d = 6 ∨ d = 7 ∨ d = 8 ∨ d = 9 := by omega
  rcases this with rfl | rfl | rfl | rfl | rfl | rfl | rfl | rfl | rfl <;> rfl
theorem norm_in {x : Int} : (!decide (x ∈ ([1, -1] : List Int))) = decide (x.natAbs ≠ 1) := by
  by_cases q : x.natAbs = 1
  · have : x = 1 ∨ x = -1 := by omega
    rcases this with rfl | rfl <;> rfl
  · have h1 : ¬ x ∈ ([1, -1] : List Int) := fun w => by
      simp only [List.mem_cons, List.not_mem_nil, or_false] at w
      rcases w with rfl | rfl <;> exact q rfl
    rw [decide_eq_false h1, decide_eq_true q]
    rfl
theorem tI_three (m : Nat) : PyData.tuple ((lI [-1] ++ lI (List.replicate (m - 1) 0)) ++ lI [1]) = tI ([-1] ++ List.replicate (m - 1) 0 ++ [1]) := by
  show _ = PyData.tuple (List.map _ _)
  rw [List.map_append, List.map_append]
def RLawPiecesSo : RT := fun as π r π' => ∃ (o n : Int) (m : Nat), as = [rl o n, .int m] ∧ RuleS o n ∧ (0 < m ∧ m ≤ 9) ∧ π = [] ∧ π' = [] ∧ r = .d (.bool true)
theorem ok_law_pieces_so (B : Bt mg) (G_law_pieces : OkD P w K mg base "_law_pieces" 1 [] RLawPieces) (Gpiece : OkD P w K mg base "piece" 11 ["many"] (RPiece 9)) (Gnorm : OkD P w K mg base "norm" 12 ["rule", "many"] RNorm) (G_law_norm : OkD P w K mg base "_law_norm" 2 ["rule_d", "word"] RLawNorm) (G_law_product : OkD P w K mg base "_law_product" 1 ["one", "other"] RLawProduct) (Gdivisor : OkD P w K mg base "divisor" 2 ["rule", "many"] RDivisor) (Gstirred : OkD P w K mg base "stirred" 13 ["rule", "many"] RStirred) (F : FunAt K mg "_law_pieces_so" sLawPiecesSo ["rule_d", "many"]) : OkD P w K mg base "_law_pieces_so" 14 ["rule_d", "many"] RLawPiecesSo := by
  refine mk_def F scLawPiecesSo (fun as π r π' h => ?_) (fun f cdv A outer s H E N as π r π' hr hpa hR => ?_)
  · obtain ⟨o, n, m, rfl, _, _, rfl, rfl, rfl⟩ := h
    exact ⟨rfl, rfl⟩
  · obtain ⟨o, n, m, rfl, R, ⟨h0, h9⟩, rfl, rfl, rfl⟩ := hR
    have hp0 : N.pa.length ≤ 0 := Nat.le_of_eq hpa
    refine ds_seq (d1_asg (de_tup (da_cons (de_frz (de_cl0N G_law_pieces hr (by rfl) ⟨rfl, rfl, rfl, rfl⟩) rfl hp0) (da_cons (de_tup (da_cons de_int da_nil)) (da_cons de_int (da_cons (de_tup (da_cons de_int da_nil)) da_nil))))) (pg_tup (n := 4) rfl (pgs_cons (pg_name (i := 2) scLawPiecesSo.nd rfl (.inl rfl)) (pgs_cons (pg_name (i := 3) scLawPiecesSo.nd rfl (.inl rfl)) (pgs_cons (pg_name (i := 4) scLawPiecesSo.nd rfl (.inl rfl)) (pgs_cons (pg_name (i := 5) scLawPiecesSo.nd rfl (.inl rfl)) pgs_nil))))) (gd_tup (is := [2, 3, 4, 5]) (gsd_cons (gsd_cons (gsd_cons (gsd_cons gsd_nil))))) ⟨_, rfl, rfl⟩ rfl) ?_
    refine ds_wk (s' := [.d (rl o n), .d (.int m), .d (.list pcsD), .d (tI [1]), .d (.int 1), .d (tI [1]), .no, .no]) (o' := []) (.keep (.keep (.keep (.keep (.keep (.keep (.keep (.keep .nil)))))))) rfl hp0 rfl ?_
    have it : Items (rngD 1 (((m : Int) + 1) - 1).toNat) m (fun k => .int (1 + ((k : Nat) : Int))) := by
      have e : (((m : Int) + 1) - 1).toNat = m := by omega
      rw [e]
      exact it_rng
    have hL := filt_dvs m m
    generalize hls : filtL (fun k => decide ((m : Int) % (1 + ((k : Nat) : Int)) = 0)) (fun k => 1 + ((k : Nat) : Int)) m = ls at hL
    have hmem : ∀ l ∈ ls, ∃ d : Nat, l = (d : Int) ∧ 0 < d ∧ d ≤ m ∧ m % d = 0 := by rw [hL]; exact dvs_mem m m
    have hln : ls.length ≤ m := by rw [hL]; exact dvs_len m m
    have hfl := fold_len (ls := ls) (fun l hl => by
      obtain ⟨d, e, a, b, _⟩ := hmem l hl
      omega)
    refine ds_for (fun k z => ∃ sl, z = ⟨[.d (rl o n), .d (.int m), .d (.list pcsD), .d (tI (wholeF (ls.take k))), .d (.int (normsF o n (ls.take k))), .d (tI (dueF o n (ls.take k))), sl, .no], [none]⟩) PassesOwn.never rfl (di_list (xs := lI ls) (de_frz (xs := lI ls) (de_lcF (y := fun k => 1 + ((k : Nat) : Int)) (b := fun k => decide ((m : Int) % (1 + ((k : Nat) : Int)) = 0)) (n := m) (own := [("one", 7)]) rfl scLawPiecesSo.nd (di_range2 (by rfl) B.range de_int (de_add (de_var (pv 1)) de_int) ⟨by omega, by omega, by omega, by omega⟩) it (blkOk_by (N := nmLawPiecesSo) (sc := defScope sLawPiecesSo) (by decide +kernel)) (fun _ _ _ _ _ => pg_name (i := 7) scLawPiecesSo.nd rfl (.inl rfl)) (gd_name 7) (by decide) (fun _ _ => trivial) (small1000 (by omega)) (fun k hk _ _ _ _ _ => dt_eqI (de_modP (de_var (pv 1)) (de_var (pv 7)) (by omega)) de_int) (fun k hk _ _ _ _ _ => de_var (pv 7))) (by rw [hls]; rfl) hp0)) it_ints (pg_name (i := 6) scLawPiecesSo.nd rfl (.inl rfl)) (gd_name 6) (fun _ _ => trivial) ⟨_, rfl⟩ ?_ ?_
    · rintro k _ hk ⟨sl, rfl⟩
      have hm : ls.getD k 0 ∈ ls := by
        rw [List.getD_eq_getElem?_getD, List.getElem?_eq_getElem hk]
        exact List.getElem_mem _
      obtain ⟨d, ed, d0, dm, _⟩ := hmem _ hm
      have d9 : d ≤ 9 := by omega
      obtain ⟨⟨w1, w2⟩, hdu⟩ := hfl k (by omega)
      obtain ⟨u1, u2⟩ := hdu o n
      have hp := pieceT_ok d0 d9
      have := hp.l2
      have := hp.l7
      have hbd := pieceT_bd d0 d9
      have hnb := norm_bd R d0 d9
      have et : (ls.getD k 0).toNat = d := by rw [ed]; rfl
      have hts := take_snoc hk
      refine ds_at (z1 := ⟨[.d (rl o n), .d (.int m), .d (.list pcsD), .d (tI (wholeF (ls.take k))), .d (.int (normsF o n (ls.take k))), .d (tI (dueF o n (ls.take k))), .d (.int d), .no], [none]⟩) (by rw [← ed]; rfl) ?_
      refine ds_ifR (dt_cast (dt_w (dw_or (dt_ne hr.units (de_clD Gpiece hr (by rfl) (da_cons (de_var (pv 6)) da_nil) ⟨d, rfl, ⟨d0, d9, d9⟩, rfl, rfl, rfl⟩) (de_ixL (de_var (pv 2)) (de_sub (de_var (pv 6)) de_int) (pcs_at d0 d9)) (depth_tI _ _)) fun hb => (dw_or1 (dt_neI (de_clD Gnorm hr (by rfl) (da_cons (de_var (pv 0)) (da_cons (de_var (pv 6)) da_nil)) ⟨o, n, d, rfl, R, ⟨d0, d9⟩, rfl, rfl, rfl⟩) (de_clD G_law_norm hr (by rfl) (da_cons (de_var (pv 0)) (da_cons (de_ixL (de_var (pv 2)) (de_sub (de_var (pv 6)) de_int) (pcs_at d0 d9)) da_nil)) ⟨o, n, d, rfl, R, ⟨d0, d9⟩, rfl, rfl, rfl⟩))))) (or2f (neq1 rfl) (nei rfl))) (fun hb => by cases hb) (fun hb => ?_)
      refine ds_seq (d1_par (i := 3) (j := 4) rfl scLawPiecesSo.nd rfl rfl (by decide) rfl rfl (da_cons (de_clD G_law_product hr (by rfl) (da_cons (de_var (pv 3)) (da_cons (de_clD Gpiece hr (by rfl) (da_cons (de_var (pv 6)) da_nil) ⟨d, rfl, ⟨d0, d9, d9⟩, rfl, rfl, rfl⟩) da_nil)) ⟨_, pieceT d, rfl, ⟨w1, by omega, by omega, by omega⟩, hbd, rfl, rfl, rfl⟩) (da_cons (de_mul (de_var (pv 4)) (de_clD Gnorm hr (by rfl) (da_cons (de_var (pv 0)) (da_cons (de_var (pv 6)) da_nil)) ⟨o, n, d, rfl, R, ⟨d0, d9⟩, rfl, rfl, rfl⟩) (.inr (by omega))) da_nil)) (by rfl) rfl) ?_
      have e1 : wholeF (ls.take (k + 1)) = prodM (wholeF (ls.take k)) (pieceT d) := by rw [hts, wholeF_snoc, et]
      have e2 : normsF o n (ls.take (k + 1)) = normsF o n (ls.take k) * normM o n d := by rw [hts, normsF_snoc, et]
      have e3 : dueF o n (ls.take (k + 1)) = if (normM o n d).natAbs ≠ 1 then prodM (dueF o n (ls.take k)) (pieceT d) else dueF o n (ls.take k) := by rw [hts, dueF_snoc, et]
      refine ds_at (z1 := ⟨[.d (rl o n), .d (.int m), .d (.list pcsD), .d (tI (wholeF (ls.take (k + 1)))), .d (.int (normsF o n (ls.take (k + 1)))), .d (tI (dueF o n (ls.take k))), .d (.int d), .no], [none]⟩) (by rw [e1, e2]; rfl) ?_
      refine ds_seq (d1_set (i := 5) scLawPiecesSo.nd rfl (.inl rfl) (de_cast (y := tI (dueF o n (ls.take (k + 1)))) (de_if (x := tI (prodM (dueF o n (ls.take k)) (pieceT d))) (y := tI (dueF o n (ls.take k))) (dt_cast (dt_notin (ns := [1, -1]) (de_clD Gnorm hr (by rfl) (da_cons (de_var (pv 0)) (da_cons (de_var (pv 6)) da_nil)) ⟨o, n, d, rfl, R, ⟨d0, d9⟩, rfl, rfl, rfl⟩) (de_tup (da_cons de_int (da_cons (de_neg de_int) da_nil)))) norm_in) (fun hb => (de_clD G_law_product hr (by rfl) (da_cons (de_var (pv 5)) (da_cons (de_clD Gpiece hr (by rfl) (da_cons (de_var (pv 6)) da_nil) ⟨d, rfl, ⟨d0, d9, d9⟩, rfl, rfl, rfl⟩) da_nil)) ⟨_, pieceT d, rfl, ⟨u1, by omega, by omega, by omega⟩, hbd, rfl, rfl, rfl⟩)) fun hb => (de_var (pv 5))) (by
        rw [e3]
        by_cases q : (normM o n d).natAbs ≠ 1
        · rw [if_pos q, if_pos (decide_eq_true q)]
        · rw [if_neg q, if_neg (by rw [decide_eq_false q]; decide)])) rfl) ?_
      exact ds_nil ⟨_, rfl⟩
    · rintro _ ⟨sl, rfl⟩
      rw [show ls.take ls.length = ls from List.take_length, hL, whole_dvs, norms_dvs, due_dvs, norms_div R h0 h9, of_decide_eq_true (rng whole_fin h0 h9)]
      have em : (m : Int) - 1 = ((m - 1 : Nat) : Int) := by omega
      have hz : (2000 : Nat) ≤ sizeLine := by decide
      refine ds_last (d1_ret (de_cast (y := .bool true) (de_and (op2 := .none) (de_eq hr.units (de_var (pv 3)) (de_cast (de_catT (de_catT (de_tup (da_cons (de_neg de_int) da_nil)) (de_repT0 (v := 0) (m := m - 1) (de_tup (da_cons de_int da_nil)) (de_cast (de_sub (de_var (pv 1)) de_int) (congrArg PyData.int em)) (by omega)) (by rw [lI_len, List.length_replicate]; simp; omega)) (de_tup (da_cons de_int da_nil)) (by rw [List.length_append, lI_len, List.length_replicate]; simp; omega)) (tI_three m)) (depth_tI _ _)) fun hb => (de_and (op2 := .none) (de_eqI (de_var (pv 4)) (de_clD Gdivisor hr (by rfl) (da_cons (de_var (pv 0)) (da_cons (de_var (pv 1)) da_nil)) ⟨o, n, m, rfl, R, by omega, rfl, rfl, rfl⟩)) fun hb => (de_one (de_eq hr.units (de_clD Gstirred hr (by rfl) (da_cons (de_var (pv 0)) (da_cons (de_var (pv 1)) da_nil)) ⟨o, n, m, rfl, R, ⟨h0, h9⟩, rfl, rfl, rfl⟩) (de_var (pv 5)) (depth_tI _ _))))) ?_) (rr0e rfl))
      rw [eqv_tI, eqv_tI, decide_eq_true rfl, decide_eq_true rfl, show decide (stirM o n m = stirL o n m m) = true from decide_eq_true rfl]
      rfl
abbrev sLawEndlessSo : Stmt := topS 35
abbrev nmLawEndlessSo : List Str := ["rule_d", "ring_d", "told", "many", "by", "whole", "elder40", "day", "one"]
theorem scLawEndlessSo : FnScope nmLawEndlessSo ["rule_d", "ring_d", "told"] (defScope sLawEndlessSo) := ⟨rfl, rfl, rfl, by decide +kernel, rfl, by decide +kernel, by decide +kernel⟩
theorem filt_none {b : Nat → Bool} {y : Nat → Int} : ∀ k, (∀ j, j < k → b j = false) → filtL b y k = []
  | 0, _ => rfl
  | k + 1, h => by rw [filtL_succ, h k (Nat.lt_succ_self k), if_neg (by decide), filt_none k fun j hj => h j (by omega)]
theorem stir_bd {o n : Int} {m : Nat} (S : StirF o n m) (k : Nat) : -(2 ^ 64) < (stirM o n m).getD k 0 ∧ (stirM o n m).getD k 0 < 2 ^ 64 := by
  have := getD_all (p := fun v => v.natAbs ≤ 100) S.bd (by decide) k
  omega
theorem getD_take (r : List Int) (m k : Nat) (h : k < m) : (r.take m).getD k 0 = r.getD k 0 := by
  rw [List.getD_eq_getElem?_getD, List.getD_eq_getElem?_getD, List.getElem?_take_of_lt h]
theorem getD_drop (r : List Int) (m k : Nat) : (r.drop m).getD k 0 = r.getD (m + k) 0 := by
  rw [List.getD_eq_getElem?_getD, List.getD_eq_getElem?_getD, List.getElem?_drop]
theorem lI_drop2 (r : List Int) (k : Nat) : (lI r).drop k = lI (r.drop k) := (List.map_drop).symm
theorem lI_take2 (r : List Int) (k : Nat) : (lI r).take k = lI (r.take k) := (List.map_take).symm
theorem cut_hi (r : List Int) (m : Nat) (h : m ≤ r.length) : PyData.tuple (cutG (lI r) none (some (m : Int))) = tI (r.take m) := by
  rw [cutG_take (by omega) (by rw [lI_len]; omega), Int.toNat_natCast, lI_take2]
theorem cut_lo (r : List Int) (m : Nat) (h : m ≤ r.length) : PyData.tuple (cutG (lI r) (some (m : Int)) none) = tI (r.drop m) := by
  rw [cutG_drop (by omega) (by rw [lI_len]; omega), Int.toNat_natCast, lI_drop2]
def RLawEndlessSo : RT := fun as π r π' => ∃ (o n : Int) (ring told : List Int), as = [rl o n, tI ring, tI told] ∧ RuleC o n ∧ (0 < ring.length ∧ ring.length ≤ 9) ∧ quoW o n ring = some told ∧ π = [] ∧ π' = [] ∧ r = .d (.bool true)
theorem ok_law_endless_so (B : Bt mg) (Gage : OkD P w K mg base "age" 15 ["rule", "ring"] RAge) (Gstood : OkD P w K mg base "stood" 5 ["rule", "ring", "days"] RStood) (Gquotient : OkD P w K mg base "quotient" 14 ["rule", "ring"] RQuotient) (Gstirred : OkD P w K mg base "stirred" 13 ["rule", "many"] RStirred) (G_law_product : OkD P w K mg base "_law_product" 1 ["one", "other"] RLawProduct) (G_law_day : OkD P w K mg base "_law_day" 1 ["rule_d", "ring_d"] RLawDay) (F : FunAt K mg "_law_endless_so" sLawEndlessSo ["rule_d", "ring_d", "told"]) : OkD P w K mg base "_law_endless_so" 16 ["rule_d", "ring_d", "told"] RLawEndlessSo := by
  refine mk_def F scLawEndlessSo (fun as π r π' h => ?_) (fun f cdv A outer s H E N as π r π' hr hpa hR => ?_)
  · obtain ⟨o, n, ring, told, rfl, _, _, _, rfl, rfl, rfl⟩ := h
    exact ⟨rfl, rfl⟩
  · obtain ⟨o, n, ring, told, rfl, R, ⟨h0, h9⟩, hq, rfl, rfl, rfl⟩ := hR
    have hp0 : N.pa.length ≤ 0 := Nat.le_of_eq hpa
    have hp1 : N.pa.length ≤ 1 := Nat.le_trans hp0 (by decide)
    have el : ((lI ring).length : Int) = ring.length := by simp
    have el2 : ((lI told).length : Int) = told.length := by simp
    have hqn : quoW o n ring ≠ none := by rw [hq]; exact fun z => by cases z
    obtain ⟨ht1, ht2⟩ := quo_times h0 h9 hq
    have S := stir_F o n h0 h9
    have hbd := stir_bd S
    obtain ⟨e40, he40, hq40⟩ := quo_all R h0 h9 hqn 40
    have hl40 := eldN_len he40
    have hlat := eldN_later R h0 h9 40 e40 he40
    have hqd := quo_day' h0 h9 hqn
    have hld := dayM_len o n ring
    refine ds_seq (d1_par (i := 3) (j := 4) rfl scLawEndlessSo.nd rfl rfl (by decide) rfl rfl (da_cons (de_cast (de_lenT (by rfl) B.len (de_var (pv 1))) (congrArg PyData.int el)) (da_cons (de_clD Gstirred hr (by rfl) (da_cons (de_var (pv 0)) (da_cons (de_cast (de_lenT (by rfl) B.len (de_var (pv 1))) (congrArg PyData.int el)) da_nil)) ⟨o, n, ring.length, rfl, R.toRuleS, ⟨h0, h9⟩, rfl, rfl, rfl⟩) da_nil)) (by rfl) rfl) ?_
    generalize hS : stirM o n ring.length = st at *
    have s0 := S.s0
    have sle := S.le
    rw [hS] at s0 sle
    have el3 : ((lI st).length : Int) = st.length := by simp
    refine ds_at (z1 := ⟨[.d (rl o n), .d (tI ring), .d (tI told), .d (.int ring.length), .d (tI st), .no, .no, .no, .no], []⟩) rfl ?_
    refine ds_ifR (dt_cast (dt_w (dw_or (dt_notN (de_clD Gage hr (by rfl) (da_cons (de_var (pv 0)) (da_cons (de_var (pv 1)) da_nil)) ⟨o, n, ring, none, rfl, R, ⟨h0, h9⟩, .inl ⟨rfl, hqn⟩, rfl, rfl, rfl⟩) de_non) fun hb => (dw_or1 (dt_neI (de_cast (de_lenT (by rfl) B.len (de_var (pv 2))) (congrArg PyData.int el2)) (de_max2 rfl (by rfl) B.max de_int (de_sub (de_add (de_var (pv 3)) de_int) (de_cast (de_lenT (by rfl) B.len (de_var (pv 4))) (congrArg PyData.int el3)))))))) (or2f rfl (nei ht1))) (fun hb => by cases hb) (fun hb => ?_)
    have hwl := prodM_len told st
    refine ds_seq (d1_set (i := 5) scLawEndlessSo.nd rfl (.inl rfl) (de_clD G_law_product hr (by rfl) (da_cons (de_var (pv 2)) (da_cons (de_var (pv 4)) da_nil)) ⟨told, st, rfl, ⟨by omega, s0, by omega, by omega⟩, hbd, rfl, rfl, rfl⟩) rfl) ?_
    refine ds_at (z1 := ⟨[.d (rl o n), .d (tI ring), .d (tI told), .d (.int ring.length), .d (tI st), .d (tI (prodM told st)), .no, .no, .no], []⟩) rfl ?_
    generalize prodM told st = wh at hwl ht2
    have hwm : ring.length ≤ wh.length := by omega
    have e1 : wh.take ring.length = ring := list_ext (by rw [List.length_take]; omega) fun k hk => by
      rw [List.length_take] at hk
      rw [getD_take _ _ _ (by omega), ht2]
    have e2 : ∀ k, (wh.drop ring.length).getD k 0 = 0 := fun k => by rw [getD_drop, ht2, getD_out _ _ (by omega)]
    refine ds_ifR (dt_cast (dt_w (dw_orG (dt_cast (dt_ne hr.units (de_cast (de_slT (de_var (pv 5)) do_none (do_some (de_var (pv 3)))) (cut_hi wh ring.length hwm)) (de_var (pv 1)) (depth_tI _ _)) (neq1 e1)) (fun _ => (dw_or1 (dt_ne hr.units (de_frz (de_lcF (y := fun _ => 1) (b := fun k => !decide ((wh.drop ring.length).getD k 0 = 0)) (own := [("one", 8)]) rfl scLawEndlessSo.nd (di_tup (xs := lI (wh.drop ring.length)) (de_cast (de_slT (de_var (pv 5)) (do_some (de_var (pv 3))) do_none) (cut_lo wh ring.length hwm))) it_ints (blkOk_by (N := nmLawEndlessSo) (sc := defScope sLawEndlessSo) (by decide +kernel)) (fun _ _ _ _ _ => pg_name (i := 8) scLawEndlessSo.nd rfl (.inl rfl)) (gd_name 8) (by decide) (fun _ _ => trivial) (small1000 (by rw [List.length_drop]; omega)) (fun k hk _ _ _ _ _ => dt_neI (de_var (pv 8)) de_int) (fun k hk _ _ _ _ _ => de_int)) rfl hp0) (de_frz (de_lst da_nil) rfl hp1) (depth_lI _ _)))) (fun q => by cases q))) (or2f rfl (show (!PyData.eqv (.list (lI _)) (.list (lI []))) = false by rw [filt_none _ (fun j hj => by rw [e2]; rfl)]; rfl))) (fun hb => by cases hb) (fun hb => ?_)
    refine ds_wk (s' := [.d (rl o n), .d (tI ring), .no, .no, .no, .no, .no, .no, .no]) (o' := []) (.keep (.keep (.drop (.drop (.drop (.drop (.drop (.drop (.drop .nil))))))))) rfl hp0 rfl ?_
    refine ds_seq (d1_set (i := 6) scLawEndlessSo.nd rfl (.inl rfl) (de_cast (y := tI e40) (de_clD Gstood hr (by rfl) (da_cons (de_var (pv 0)) (da_cons (de_var (pv 1)) (da_cons de_int da_nil))) ⟨o, n, ring, 40, rfl, R, ⟨h0, h9⟩, by decide, rfl, rfl, rfl⟩) (by rw [show (40 : Int).toNat = 40 from rfl, he40]; rfl)) rfl) ?_
    have nn : ∀ r : List Int, quoW o n r ≠ none → isN (elD (quoW o n r)) = false := fun r h => by
      cases q : quoW o n r with
      | none => exact absurd q h
      | some x => rfl
    refine ds_ifR (dt_cast (dt_w (dw_or (dt_isN (de_var (pv 6)) de_non) fun hb => (dw_or (dt_isN (de_clD Gquotient hr (by rfl) (da_cons (de_var (pv 0)) (da_cons (de_var (pv 6)) da_nil)) ⟨o, n, e40, rfl, R.toRuleS, by omega, rfl, rfl, rfl⟩) de_non) fun hb => (dw_or1 (dt_isN (de_clD Gquotient hr (by rfl) (da_cons (de_var (pv 0)) (da_cons (de_clD G_law_day hr (by rfl) (da_cons (de_var (pv 0)) (da_cons (de_var (pv 1)) da_nil)) ⟨o, n, ring, rfl, R.toRuleS, by omega, rfl, rfl, rfl⟩) da_nil)) ⟨o, n, dayM o n ring, rfl, R.toRuleS, by omega, rfl, rfl, rfl⟩) de_non))))) (or2f rfl (or2f (nn _ hq40) (nn _ hqd)))) (fun hb => by cases hb) (fun hb => ?_)
    refine ds_for (fun k z => ∃ sl, z = ⟨[.d (rl o n), .d (tI ring), .no, .no, .no, .no, .d (tI (laterM o n e40 k)), sl, .no], []⟩) PassesOwn.never rfl (di_range1 (by rfl) B.range de_int (by decide) (by decide)) it_rng0 (pg_name (i := 7) scLawEndlessSo.nd rfl (.inl rfl)) (gd_name 7) (fun _ _ => trivial) ⟨_, rfl⟩ ?_ ?_
    · rintro k _ hk ⟨sl, rfl⟩
      refine ds_seq (d1_set (i := 6) scLawEndlessSo.nd rfl (.inl rfl) (de_clD G_law_day hr (by rfl) (da_cons (de_var (pv 0)) (da_cons (de_var (pv 6)) da_nil)) ⟨o, n, laterM o n e40 k, rfl, R.toRuleS, by rw [laterM_len]; omega, rfl, rfl, rfl⟩) rfl) ?_
      exact ds_nil ⟨_, rfl⟩
    · rintro _ ⟨sl, rfl⟩
      refine ds_last (d1_ret (de_cast (y := .bool true) (de_eq hr.units (de_var (pv 6)) (de_var (pv 1)) (depth_tI _ _)) ?_) (rr0e rfl))
      rw [show (40 : Int).toNat = 40 from rfl, hlat, eqv_tI, decide_eq_true rfl]
abbrev sLaw : Stmt := topS 36
abbrev nmLaw : List Str := ["script", "k", "draws", "rule_d", "ring_d", "days", "many", "by", "word", "made", "at", "other", "some", "told", "left", "one"]
theorem scLaw : FnScope nmLaw ["script"] (defScope sLaw) := ⟨rfl, rfl, rfl, by decide +kernel, rfl, by decide +kernel, by decide +kernel⟩
theorem depth_elD (x : Option (List Int)) (y : D) : min (PyData.depth (elD x)) y.depth ≤ 64 := by
  cases x with
  | none => simp [elD, PyData.depth]
  | some r => exact depth_tI r y
theorem isN_elQ (x : Option (List Int)) : isN (elD x) = decide (x = none) := by
  cases x with
  | none => rfl
  | some t => exact (decide_eq_false (fun q => by cases q)).symm
theorem filt_nil {b : Nat → Bool} {y : Nat → Int} : ∀ k, filtL b y k = [] → ∀ j, j < k → b j = false
  | 0, _, j, hj => absurd hj (Nat.not_lt_zero j)
  | k + 1, h, j, hj => by
    rw [filtL_succ] at h
    by_cases q : b k = true
    · rw [if_pos q] at h
      have := congrArg List.length h
      simp at this
    · rw [if_neg q] at h
      by_cases w : j < k
      · exact filt_nil k h j w
      · have : j = k := by omega
        subst this
        simpa using q
/-- what is left of a word, its noughts left out -/
def leftL (c : List Int) : List Int := filtL (fun k => !decide (c.getD k 0 = 0)) (fun k => c.getD k 0) c.length
theorem left_iff (c : List Int) : c.any (fun v => decide (v ≠ 0)) = true ↔ ¬ leftL c = [] := by
  constructor
  · intro h q
    obtain ⟨v, hv, w⟩ := List.any_eq_true.mp h
    obtain ⟨k, hk, e⟩ := List.mem_iff_getElem.mp hv
    have := filt_nil _ q k hk
    have e2 : c.getD k 0 = v := by rw [List.getD_eq_getElem?_getD, List.getElem?_eq_getElem hk]; exact e
    rw [e2] at this
    have w := of_decide_eq_true w
    rw [decide_eq_false w] at this
    cases this
  · intro h
    by_cases q : c.any (fun v => decide (v ≠ 0)) = true
    · exact q
    · exfalso
      apply h
      exact filt_none _ fun j _ => by rw [all0 q j]; rfl
theorem cut_cat (P Z : List Int) (m : Nat) (h : P.length = m) : PyData.tuple (cutG (lI P ++ lI Z) none (some (m : Int))) = tI P := by
  rw [cutG_take (by omega) (by rw [List.length_append, lI_len]; omega), Int.toNat_natCast]
  have e : (lI P).length = m := by rw [lI_len, h]
  rw [← e, List.take_left]
theorem cat_three (a b : List Int) (x : Int) : PyData.tuple ((lI a ++ [.int x]) ++ lI b) = tI (a ++ [x] ++ b) := by
  show _ = PyData.tuple (List.map _ _)
  rw [List.map_append, List.map_append]
  rfl
theorem le_t {a b : Nat} (h : a ≤ b) : decide ((a : Int) ≤ (b : Int)) = true := decide_eq_true (by omega)
theorem le_f {a b : Nat} (h : ¬ a ≤ b) : decide ((a : Int) ≤ (b : Int)) = false := decide_eq_false (by omega)
theorem ok_law {f : Addr} {fd : FuncData} (B : Bt mg) (G_law_draws : OkD P w K mg base "_law_draws" 1 ["script", "k"] RLawDraws) (G_law_draw : OkD P w K mg base "_law_draw" 1 ["draws", "many"] RLawDraw) (G_law_ring : OkD P w K mg base "_law_ring" 2 ["draws", "many"] RLawRing) (G_law_case : OkD P w K mg base "_law_case" 4 ["draws"] RLawCase) (G_law_pieces_so : OkD P w K mg base "_law_pieces_so" 14 ["rule_d", "many"] RLawPiecesSo) (Gstirred : OkD P w K mg base "stirred" 13 ["rule", "many"] RStirred) (G_law_product : OkD P w K mg base "_law_product" 1 ["one", "other"] RLawProduct) (Gquotient : OkD P w K mg base "quotient" 14 ["rule", "ring"] RQuotient) (G_law_rest : OkD P w K mg base "_law_rest" 1 ["word", "by"] RLawRest) (Gage : OkD P w K mg base "age" 15 ["rule", "ring"] RAge) (G_law_endless_so : OkD P w K mg base "_law_endless_so" 16 ["rule_d", "ring_d", "told"] RLawEndlessSo)
    (Kquotient : OkK P w K mg base "quotient" 14 ["rule", "ring"] ["ring", "rule"] (fun {α} l => l.reverse) RQuotient)
    (F : Fun K "law" "law" sLaw f fd) : FnOk P w K mg base CX0 17 f fd ["script"] (spG K RLaw) := by
  refine mk_fn F scLaw (fun as π r π' h => ?_) (fun cdv A outer s H E N as π r π' hr hpa hR => ?_)
  · obtain ⟨ns, rfl, _, rfl, rfl, rfl⟩ := h
    exact ⟨rfl, rfl⟩
  · obtain ⟨ns, rfl, hns, rfl, rfl, rfl⟩ := hR
    have hp0 : N.pa.length ≤ 0 := Nat.le_of_eq hpa
    have hpk : ∀ k, N.pa.length ≤ k := fun k => Nat.le_trans hp0 (Nat.zero_le _)
    refine ds_for (fun k z => ∃ s1 s2 s3 s4 s5 s6 s7 s8 s9 s10 s11 s12 s13 s14 s15, z = ⟨[.d (.list (lI ns)), s1, s2, s3, s4, s5, s6, s7, s8, s9, s10, s11, s12, s13, s14, s15], []⟩) PassesOwn.never rfl (di_range1 (by rfl) B.range (de_max2 rfl (by rfl) B.max de_int (de_min2 rfl (by rfl) B.min de_int (de_lenL (by rfl) B.len (de_var (pv 0))))) (by omega) (by omega)) it_rng0 (pg_name (i := 1) scLaw.nd rfl (.inl rfl)) (gd_name 1) (fun _ _ => trivial) ⟨_, _, _, _, _, _, _, _, _, _, _, _, _, _, _, rfl⟩ ?_ ?_
    · rintro k _ hk ⟨s1, s2, s3, s4, s5, s6, s7, s8, s9, s10, s11, s12, s13, s14, s15, rfl⟩
      refine ds_seq (d1_set (i := 2) scLaw.nd rfl (.inl rfl) (de_clN G_law_draws hr (by rfl) (da_cons (de_var (pv 0)) (da_cons (de_var (pv 1)) da_nil)) ⟨ns, (k : Int), rfl, by omega, rfl, rfl, rfl⟩) rfl) ?_
      refine ds_at (z1 := ⟨[.d (.list (lI ns)), .d (.int k), .ptr 0, s3, s4, s5, s6, s7, s8, s9, s10, s11, s12, s13, s14, s15], [some (dI (drawsM ns k))]⟩) rfl ?_
      generalize drawsM ns k = d0
      refine ds_seq (d1_asg (de_cl1 G_law_case hr (by rfl) (dap_cons (de_ptr (pv 2)) da_nil) rfl ⟨d0, rfl, rfl, rfl, rfl⟩) (pg_tup (n := 3) rfl (pgs_cons (pg_name (i := 3) scLaw.nd rfl (.inl rfl)) (pgs_cons (pg_name (i := 4) scLaw.nd rfl (.inl rfl)) (pgs_cons (pg_name (i := 5) scLaw.nd rfl (.inl rfl)) pgs_nil)))) (gd_tup (is := [3, 4, 5]) (gsd_cons (gsd_cons (gsd_cons gsd_nil)))) ⟨_, rfl, rfl⟩ rfl) ?_
      refine ds_at (z1 := ⟨[.d (.list (lI ns)), .d (.int k), .ptr 0, .d (rl (caseM d0).o (caseM d0).n), .d (tI (caseM d0).ring), .d (.int (caseM d0).days), s6, s7, s8, s9, s10, s11, s12, s13, s14, s15], [some (dI (caseM d0).s)]⟩) rfl ?_
      have R := case_rule d0
      have hlen : 0 < (caseM d0).ring.length ∧ (caseM d0).ring.length ≤ 9 := by
        have := case_len d0
        have := caseMany_bd d0
        omega
      generalize caseM d0 = c at R hlen
      obtain ⟨o, n, ring, days, e1⟩ := c
      replace hlen : 0 < ring.length ∧ ring.length ≤ 9 := hlen
      replace R : RuleC o n := R
      obtain ⟨h0, h9⟩ := hlen
      have el : ((lI ring).length : Int) = ring.length := by simp
      refine ds_seq (d1_set (i := 6) scLaw.nd rfl (.inl rfl) (de_cast (de_lenT (by rfl) B.len (de_var (pv 4))) (congrArg PyData.int el)) rfl) ?_
      refine ds_at (z1 := ⟨[.d (.list (lI ns)), .d (.int k), .ptr 0, .d (rl o n), .d (tI ring), .d (.int days), .d (.int ring.length), s7, s8, s9, s10, s11, s12, s13, s14, s15], [some (dI e1)]⟩) rfl ?_
      generalize hm : ring.length = m at h0 h9
      refine ds_ifR (dt_not (dt_val (de_clD G_law_pieces_so hr (by rfl) (da_cons (de_var (pv 3)) (da_cons (de_var (pv 6)) da_nil)) ⟨o, n, m, rfl, R.toRuleS, ⟨h0, h9⟩, rfl, rfl, rfl⟩))) (fun hb => by cases hb) (fun hb => ?_)
      refine ds_seq (d1_set (i := 7) scLaw.nd rfl (.inl rfl) (de_clD Gstirred hr (by rfl) (da_cons (de_var (pv 3)) (da_cons (de_var (pv 6)) da_nil)) ⟨o, n, m, rfl, R.toRuleS, ⟨h0, h9⟩, rfl, rfl, rfl⟩) rfl) ?_
      refine ds_at (z1 := ⟨[.d (.list (lI ns)), .d (.int k), .ptr 0, .d (rl o n), .d (tI ring), .d (.int days), .d (.int m), .d (tI (stirM o n m)), s8, s9, s10, s11, s12, s13, s14, s15], [some (dI e1)]⟩) rfl ?_
      have S := stir_F o n h0 h9
      have hbd := stir_bd S
      have s0 := S.s0
      have s1 := S.s1
      have sle := S.le
      have qmade : ∀ (made word : List Int), made.length = m → word.length = m + 1 - (stirM o n m).length → (stirM o n m).length ≤ m → made = prodM word (stirM o n m) → quoW o n made = some word := fun made word hl hw hs hme => quo_of_made (by omega) (by omega) (by rw [hl]; exact hw) (by rw [hl]; exact hs) fun j => by rw [hl, hme]
      have qzero : ¬ (stirM o n m).length ≤ m → quoW o n (List.replicate m 0) = some [0] := fun hs => quo_zero0 o n h0 h9 (by omega)
      have qz : quoW o n (List.replicate m 0) ≠ none := quo_zero o n h0 h9
      have stE : ∀ r : List Int, r.length = m → stirM o n r.length = stirM o n m := fun r hl => by rw [hl]
      generalize stirM o n m = st at *
      have el3 : ((lI st).length : Int) = st.length := by simp
      refine ds_cons (mid := fun z' => ∃ (word : List Int) (s' : Int × Int), z' = ⟨[.d (.list (lI ns)), .d (.int k), .ptr 0, .d (rl o n), .d (tI ring), .d (.int days), .d (.int m), .d (tI st), .d (tI word), s9, s10, s11, s12, s13, s14, s15], [some (dI s')]⟩ ∧ (st.length ≤ m → word.length = m + 1 - st.length)) ?_ ?_
      · by_cases hs : st.length ≤ m
        · have eL : (m : Int) + 1 - st.length = ((m + 1 - st.length : Nat) : Int) := by omega
          exact d1_set (i := 8) scLaw.nd rfl (.inl rfl) (de_cast (y := tI (ringM e1 (m + 1 - st.length))) (de_if (x := tI (ringM e1 (m + 1 - st.length))) (y := tI [0]) (dt_cast (dt_le (de_cast (de_lenT (by rfl) B.len (de_var (pv 7))) (congrArg PyData.int el3)) (de_var (pv 6))) (le_t hs)) (fun hb => (de_cl1 G_law_ring hr (by rfl) (dap_cons (de_ptr (pv 2)) (da_cons (de_cast (de_sub (de_add (de_var (pv 6)) de_int) (de_cast (de_lenT (by rfl) B.len (de_var (pv 7))) (congrArg PyData.int el3))) (congrArg PyData.int eL)) da_nil)) rfl ⟨e1, m + 1 - st.length, rfl, by omega, rfl, rfl, rfl⟩)) fun hb => by cases hb) rfl) ⟨_, _, rfl, fun _ => ringM_len _ _⟩
        · exact d1_set (i := 8) scLaw.nd rfl (.inl rfl) (de_cast (y := tI [0]) (de_if (x := tI [0]) (y := tI [0]) (dt_cast (dt_le (de_cast (de_lenT (by rfl) B.len (de_var (pv 7))) (congrArg PyData.int el3)) (de_var (pv 6))) (le_f hs)) (fun hb => by cases hb) fun hb => (de_tup (da_cons de_int da_nil))) rfl) ⟨_, _, rfl, fun q => absurd q hs⟩
      rintro _ ⟨word, e2, rfl, hword⟩
      have hz : (2000 : Nat) ≤ sizeLine := by decide
      have hpl := prodM_len word st
      refine ds_seq (d1_set (i := 9) scLaw.nd rfl (.inl rfl) (de_if (x := tI (prodM word st)) (y := tI (List.replicate m 0)) (dt_le (de_cast (de_lenT (by rfl) B.len (de_var (pv 7))) (congrArg PyData.int el3)) (de_var (pv 6))) (fun hb => by
        have hs : st.length ≤ m := by have := of_decide_eq_true hb; omega
        have := hword hs
        exact (de_cast (de_slT (de_catT (de_clD G_law_product hr (by rfl) (da_cons (de_var (pv 8)) (da_cons (de_var (pv 7)) da_nil)) ⟨word, st, rfl, ⟨by omega, s0, by omega, by omega⟩, hbd, rfl, rfl, rfl⟩) (de_repT0 (v := 0) (m := m) (de_tup (da_cons de_int da_nil)) (de_var (pv 6)) (by omega)) (by rw [lI_len, lI_len, List.length_replicate]; omega)) do_none (do_some (de_var (pv 6)))) (cut_cat _ _ m (by omega)))) fun hb => (de_repT0 (v := 0) (m := m) (de_tup (da_cons de_int da_nil)) (de_var (pv 6)) (by omega))) rfl) ?_
      obtain ⟨made, emade, hml, hqm⟩ : ∃ made : List Int, (if decide ((st.length : Int) ≤ (m : Int)) = true then tI (prodM word st) else tI (List.replicate m 0)) = tI made ∧ made.length = m ∧ quoW o n made = some (if st.length ≤ m then word else [0]) := by
        by_cases hs : st.length ≤ m
        · have := hword hs
          exact ⟨prodM word st, if_pos (le_t hs), by omega, by rw [if_pos hs]; exact qmade _ word (by omega) this hs rfl⟩
        · exact ⟨List.replicate m 0, if_neg (by rw [le_f hs]; decide), List.length_replicate, by rw [if_neg hs]; exact qzero hs⟩
      refine ds_at (z1 := ⟨[.d (.list (lI ns)), .d (.int k), .ptr 0, .d (rl o n), .d (tI ring), .d (.int days), .d (.int m), .d (tI st), .d (tI word), .d (tI made), s10, s11, s12, s13, s14, s15], [some (dI e2)]⟩) (by rw [← emade]; rfl) ?_
      have hva := drawV_low e2 m (by omega)
      refine ds_seq (d1_set (i := 10) scLaw.nd rfl (.inl rfl) (de_cl1 G_law_draw hr (by rfl) (dap_cons (de_ptr (pv 2)) (da_cons (de_var (pv 6)) da_nil)) rfl ⟨e2, m, rfl, by omega, by omega, rfl, rfl, rfl⟩) rfl) ?_
      refine ds_at (z1 := ⟨[.d (.list (lI ns)), .d (.int k), .ptr 0, .d (rl o n), .d (tI ring), .d (.int days), .d (.int m), .d (tI st), .d (tI word), .d (tI made), .d (.int (drawV e2 m)), s11, s12, s13, s14, s15], [some (dI (drawS e2 m))]⟩) rfl ?_
      generalize drawV e2 m = va at hva
      generalize drawS e2 m = e3
      obtain ⟨at_n, rfl⟩ : ∃ a : Nat, va = (a : Int) := ⟨va.toNat, by omega⟩
      have e_at : (at_n : Int) + 1 = ((at_n + 1 : Nat) : Int) := by omega
      refine ds_seq (d1_set (i := 11) scLaw.nd rfl (.inl rfl) (de_cast (de_catT (de_catT (de_cast (de_slT (de_var (pv 9)) do_none (do_some (de_var (pv 10)))) (cut_hi made at_n (by omega))) (de_tup (da_cons (de_add (de_add (de_ixTI (de_var (pv 9)) (de_var (pv 10)) (by omega) (by omega)) de_int) (de_cl1 G_law_draw hr (by rfl) (dap_cons (de_ptr (pv 2)) (da_cons de_int da_nil)) rfl ⟨e3, 9, rfl, by decide, by decide, rfl, rfl, rfl⟩)) da_nil)) (by rw [lI_len, List.length_take]; simp; omega)) (de_cast (de_slT (de_var (pv 9)) (do_some (de_cast (de_add (de_var (pv 10)) de_int) (congrArg PyData.int e_at))) do_none) (cut_lo made (at_n + 1) (by omega))) (by rw [List.length_append, lI_len, lI_len, List.length_take, List.length_drop]; simp; omega)) (cat_three _ _ _)) rfl) ?_
      refine ds_at (z1 := ⟨[.d (.list (lI ns)), .d (.int k), .ptr 0, .d (rl o n), .d (tI ring), .d (.int days), .d (.int m), .d (tI st), .d (tI word), .d (tI made), .d (.int at_n), .d (tI (made.take at_n ++ [at_ made at_n + 1 + drawV e3 9] ++ made.drop (at_n + 1))), s12, s13, s14, s15], [some (dI (drawS e3 9))]⟩) rfl ?_
      have hol : (made.take at_n ++ [at_ made at_n + 1 + drawV e3 9] ++ made.drop (at_n + 1)).length = m := by
        rw [List.length_append, List.length_append, List.length_take, List.length_drop, List.length_singleton]
        omega
      generalize made.take at_n ++ [at_ made at_n + 1 + drawV e3 9] ++ made.drop (at_n + 1) = other at hol
      generalize drawS e3 9 = e4
      have hrs : ∀ k, k < 3 → (([ring, made, other] : List (List Int)).getD k []).length = m := fun k hk => by
        have : k = 0 ∨ k = 1 ∨ k = 2 := by omega
        rcases this with rfl | rfl | rfl
        · exact hm
        · exact hml
        · exact hol
      have it : Items [tI ring, tI made, tI other] 3 (fun k => tI (([ring, made, other] : List (List Int)).getD k [])) := ⟨rfl, fun k d h => by
        have : k = 0 ∨ k = 1 ∨ k = 2 := by
          have := (List.getElem?_eq_some_iff.mp h).1
          have h3 : ([tI ring, tI made, tI other] : List D).length = 3 := rfl
          omega
        rcases this with rfl | rfl | rfl
        · cases h; rfl
        · cases h; rfl
        · cases h; rfl⟩
      refine ds_for (fun k' z => ∃ s12 s13 s14 s15, z = ⟨[.d (.list (lI ns)), .d (.int k), .ptr 0, .d (rl o n), .d (tI ring), .d (.int days), .d (.int m), .d (tI st), .d (tI word), .d (tI made), .d (.int at_n), .d (tI other), s12, s13, s14, s15], [some (dI e4), none]⟩) PassesOwn.never rfl (di_list (de_frz (de_lst (da_cons (de_var (pv 4)) (da_cons (de_var (pv 9)) (da_cons (de_var (pv 11)) da_nil)))) rfl (hpk 1))) it (pg_name (i := 12) scLaw.nd rfl (.inl rfl)) (gd_name 12) (fun _ _ => trivial) ⟨_, _, _, _, rfl⟩ ?_ ?_
      · rintro k' _ hk' ⟨s12, s13, s14, s15, rfl⟩
        have hrl := hrs k' hk'
        refine ds_at (z1 := ⟨[.d (.list (lI ns)), .d (.int k), .ptr 0, .d (rl o n), .d (tI ring), .d (.int days), .d (.int m), .d (tI st), .d (tI word), .d (tI made), .d (.int at_n), .d (tI other), .d (tI (([ring, made, other] : List (List Int)).getD k' [])), s13, s14, s15], [some (dI e4), none]⟩) rfl ?_
        generalize ([ring, made, other] : List (List Int)).getD k' [] = some_ at hrl
        have hR9 : 0 < some_.length ∧ some_.length ≤ 9 := by omega
        refine ds_seq (d1_set (i := 13) scLaw.nd rfl (.inl rfl) (de_clD Gquotient hr (by rfl) (da_cons (de_var (pv 3)) (da_cons (de_var (pv 12)) da_nil)) ⟨o, n, some_, rfl, R.toRuleS, hR9, rfl, rfl, rfl⟩) rfl) ?_
        have hrest : (overM some_ st).2.length ≤ 1000 := by
          have := (over_div (r := some_) (by_ := st) s0 s1).2.2
          omega
        refine ds_seq (d1_setLcF (i := 14) (y := fun k => ((overM some_ st).2).getD k 0) (b := fun k => !decide (((overM some_ st).2).getD k 0 = 0)) (own := [("one", 15)]) rfl scLaw.nd rfl rfl (sw_true rfl rfl rfl (by decide +kernel)) (di_list (xs := lI (overM some_ st).2) (de_frz (de_clN G_law_rest hr (by rfl) (da_cons (de_var (pv 12)) (da_cons (de_var (pv 7)) da_nil)) ⟨some_, st, rfl, ⟨s0, by omega, by omega⟩, hbd, rfl, rfl, rfl⟩) rfl (hpk _))) it_ints (blkOk_by (N := nmLaw) (sc := defScope sLaw) (by decide +kernel)) (fun _ _ _ _ _ => pg_name (i := 15) scLaw.nd rfl (.inl rfl)) (gd_name 15) (by decide) (fun _ _ => trivial) (small1000 hrest) (fun k hk _ _ _ _ _ => dt_neI (de_var (pv 15)) de_int) (fun k hk _ _ _ _ _ => de_var (pv 15)) rfl) ?_
        have hq : quoW o n some_ = none ↔ ¬ leftL (overM some_ st).2 = [] := by
          rw [quo_none, stE some_ hrl, left_iff]
        refine ds_ifR (dt_cast (dt_ne hr.units (de_isN (de_var (pv 13)) de_non) (de_ne hr.units (de_frz (xs := lI (leftL (overM some_ st).2)) (de_ptr (pv 14)) rfl (hpk _)) (de_frz (de_lst da_nil) rfl (hpk _)) (depth_lI _ _)) (by simp [PyData.depth])) (show (!PyData.eqv (.bool (isN (elD (quoW o n some_)))) (.bool (!PyData.eqv (.list (lI (leftL (overM some_ st).2))) (.list (lI []))))) = false from ?_)) (fun hb => by cases hb) (fun hb => ?_)
        · rw [isN_elQ, eqv_lI]
          by_cases q : quoW o n some_ = none
          · rw [decide_eq_true q, decide_eq_false (hq.mp q)]; rfl
          · rw [decide_eq_false q, decide_eq_true (Classical.not_not.mp fun w => q (hq.mpr w))]; rfl
        refine ds_wk (s' := [.d (.list (lI ns)), .d (.int k), .ptr 0, .d (rl o n), .d (tI ring), .d (.int days), .d (.int m), .d (tI st), .d (tI word), .d (tI made), .d (.int at_n), .d (tI other), .d (tI some_), .d (elD (quoW o n some_)), .no, .no]) (o' := [some (dI e4), none]) (.keep (.keep (.keep (.keep (.keep (.keep (.keep (.keep (.keep (.keep (.keep (.keep (.keep (.keep (.drop (.drop .nil)))))))))))))))) rfl (hpk _) rfl ?_
        cases hqr : quoW o n some_ with
        | none =>
          obtain ⟨a, last, O⟩ := quo_old R hR9.1 hR9.2 hqr
          refine ds_ifR (dt_w (dw_or (dt_w (dw_and (dt_isN (de_var (pv 13)) de_non) fun hb => (dw_and1 (dt_isN (de_clD Gage hr (by rfl) (da_cons (de_var (pv 3)) (da_cons (de_var (pv 12)) da_nil)) ⟨o, n, some_, some a, rfl, R, hR9, .inr ⟨hqr, a, last, rfl, O⟩, rfl, rfl, rfl⟩) de_non)))) fun hb => (dw_or1 (dt_w (dw_and (t' := true) (dt_notN (de_var (pv 13)) de_non) fun hb => by cases hb))))) (fun hb => by cases hb) (fun hb => ?_)
          exact ds_nil ⟨_, _, _, _, rfl⟩
        | some q =>
          refine ds_ifR (dt_w (dw_or (dt_w (dw_and (t' := true) (dt_isN (de_var (pv 13)) de_non) fun hb => by cases hb)) fun hb => (dw_or1 (dt_w (dw_and (dt_notN (de_var (pv 13)) de_non) fun hb => (dw_and1 (dt_not (dt_val (de_clD G_law_endless_so hr (by rfl) (da_cons (de_var (pv 3)) (da_cons (de_var (pv 12)) (da_cons (de_var (pv 13)) da_nil))) ⟨o, n, some_, q, rfl, R, hR9, hqr, rfl, rfl, rfl⟩))))))))) (fun hb => by cases hb) (fun hb => ?_)
          exact ds_nil ⟨_, _, _, _, rfl⟩
      · rintro _ ⟨s12, s13, s14, s15, rfl⟩
        refine ds_cons (mid := fun z' => ∃ s1 s2 s3 s4 s5 s6 s7 s8 s9 s10 s11 s12 s13 s14 s15, z' = ⟨[.d (.list (lI ns)), s1, s2, s3, s4, s5, s6, s7, s8, s9, s10, s11, s12, s13, s14, s15], [some (dI e4), none]⟩) (d1_if (dt_cast (dt_w (dw_or (dt_ne hr.units (de_clD Gquotient hr (by rfl) (da_cons (de_var (pv 3)) (da_cons (de_var (pv 9)) da_nil)) ⟨o, n, made, rfl, R.toRuleS, by omega, rfl, rfl, rfl⟩) (de_if (x := tI word) (y := tI [0]) (dt_le (de_cast (de_lenT (by rfl) B.len (de_var (pv 7))) (congrArg PyData.int el3)) (de_var (pv 6))) (fun hb => (de_var (pv 8))) fun hb => (de_tup (da_cons de_int da_nil))) (depth_elD _ _)) fun hb => (dw_or1 (dt_isN (de_clK Kquotient hr (by rfl) (dk_cons (de_repT0 (v := 0) (m := m) (de_tup (da_cons de_int da_nil)) (de_var (pv 6)) (by omega)) (dk_cons (de_var (pv 3)) dk_nil)) rfl ⟨o, n, List.replicate m 0, rfl, R.toRuleS, by rw [List.length_replicate]; exact ⟨h0, h9⟩, rfl, rfl, rfl⟩ vals_rev dps_rev) de_non)))) (or2f ?_ ?_)) (fun hb => by cases hb) (fun hb => ds_nil ⟨_, _, _, _, _, _, _, _, _, _, _, _, _, _, _, rfl⟩)) ?_
        · rw [hqm]
          by_cases hs : st.length ≤ m
          · rw [if_pos hs, if_pos (le_t hs)]; exact neq1 rfl
          · rw [if_neg hs, if_neg (by rw [le_f hs]; decide)]; exact neq1 rfl
        · rw [isN_elQ, decide_eq_false qz]
        rintro _ ⟨s1, s2, s3, s4, s5, s6, s7, s8, s9, s10, s11, s12, s13, s14, s15, rfl⟩
        refine ds_wk (s' := [.d (.list (lI ns)), .no, .no, .no, .no, .no, .no, .no, .no, .no, .no, .no, .no, .no, .no, .no]) (o' := []) (.keep (.drop (.drop (.drop (.drop (.drop (.drop (.drop (.drop (.drop (.drop (.drop (.drop (.drop (.drop (.drop .nil)))))))))))))))) rfl hp0 rfl ?_
        exact ds_nil ⟨_, _, _, _, _, _, _, _, _, _, _, _, _, _, _, rfl⟩
    · rintro _ ⟨s1, s2, s3, s4, s5, s6, s7, s8, s9, s10, s11, s12, s13, s14, s15, rfl⟩
      exact ds_last (d1_ret de_bl rr0)
end
theorem all_mk {l : PySem.W.OpenLaw} {w : World} {K : PySem.W.Frag} {h : Heap} {mg : Str → Option Value} {fa : Addr} (X : K.In h) (G : h.Ns mainGlobals mg) (hfa : mg "law" = some (.ref fa))
    (Tpower : Raw K "power" (topS 1))
    (Tdivisor : Raw K "divisor" (topS 10))
    (Tweights : Raw K "weights" (topS 11))
    (Tweighed : Raw K "weighed" (topS 12))
    (Tis_multiple : Raw K "is_multiple" (topS 13))
    (Tfollow : Raw K "follow" (topS 14))
    (Telder : Raw K "elder" (topS 15))
    (Tover : Raw K "over" (topS 3))
    (Tproduct : Raw K "product" (topS 4))
    (Tpiece : Raw K "piece" (topS 5))
    (Tnorm : Raw K "norm" (topS 6))
    (Tstirred : Raw K "stirred" (topS 7))
    (Tquotient : Raw K "quotient" (topS 8))
    (Toldest : Raw K "oldest" (topS 17))
    (Tage : Raw K "age" (topS 18))
    (Tstood : Raw K "stood" (topS 19))
    (T_law_power : Raw K "_law_power" (topS 21))
    (T_law_day : Raw K "_law_day" (topS 22))
    (T_law_draw : Raw K "_law_draw" (topS 24))
    (T_law_draws : Raw K "_law_draws" (topS 23))
    (T_law_common : Raw K "_law_common" (topS 25))
    (T_law_of : Raw K "_law_of" (topS 26))
    (T_law_rule : Raw K "_law_rule" (topS 27))
    (T_law_ring : Raw K "_law_ring" (topS 28))
    (T_law_case : Raw K "_law_case" (topS 29))
    (T_law_pieces : Raw K "_law_pieces" (topS 30))
    (T_law_product : Raw K "_law_product" (topS 31))
    (T_law_norm : Raw K "_law_norm" (topS 33))
    (T_law_rest : Raw K "_law_rest" (topS 32))
    (T_law_pieces_so : Raw K "_law_pieces_so" (topS 34))
    (T_law_endless_so : Raw K "_law_endless_so" (topS 35))
    (Tlaw : Raw K "law" (topS 36))
    (zlen : PySem.W.nsIn K mainGlobals "len" = some none)
    (zrange : PySem.W.nsIn K mainGlobals "range" = some none)
    (zenumerate : PySem.W.nsIn K mainGlobals "enumerate" = some none)
    (zzip : PySem.W.nsIn K mainGlobals "zip" = some none)
    (ztuple : PySem.W.nsIn K mainGlobals "tuple" = some none)
    (zlist : PySem.W.nsIn K mainGlobals "list" = some none)
    (zsum : PySem.W.nsIn K mainGlobals "sum" = some none)
    (zabs : PySem.W.nsIn K mainGlobals "abs" = some none)
    (zmax : PySem.W.nsIn K mainGlobals "max" = some none)
    (zmin : PySem.W.nsIn K mainGlobals "min" = some none)
    (zint : PySem.W.nsIn K mainGlobals "int" = some none)
    (zall : PySem.W.nsIn K mainGlobals "all" = some none)
    (zany : PySem.W.nsIn K mainGlobals "any" = some none)
    (zisinstance : PySem.W.nsIn K mainGlobals "isinstance" = some none)
    (zbool : PySem.W.nsIn K mainGlobals "bool" = some none)
    (zstr : PySem.W.nsIn K mainGlobals "str" = some none)
    (zsorted : PySem.W.nsIn K mainGlobals "sorted" = some none)
    (zdict : PySem.W.nsIn K mainGlobals "dict" = some none)
    : ∃ fd : FuncData, (∀ (s : Shared) (v : Value), BindsTo s fd ⟨[v], []⟩ [("script", v)]) ∧ ∀ base : Heap, K.In base → base.Ns mainGlobals mg → FnOk l.prog w K mg base CX0 17 fa fd ["script"] (spG K RLaw) := by
  have B : Bt mg := ⟨PySem.W.mg_none_of X G zlen, PySem.W.mg_none_of X G zrange, PySem.W.mg_none_of X G zenumerate, PySem.W.mg_none_of X G zzip, PySem.W.mg_none_of X G ztuple, PySem.W.mg_none_of X G zlist, PySem.W.mg_none_of X G zsum, PySem.W.mg_none_of X G zabs, PySem.W.mg_none_of X G zmax, PySem.W.mg_none_of X G zmin, PySem.W.mg_none_of X G zint, PySem.W.mg_none_of X G zall, PySem.W.mg_none_of X G zany, PySem.W.mg_none_of X G zisinstance, PySem.W.mg_none_of X G zbool, PySem.W.mg_none_of X G zstr, PySem.W.mg_none_of X G zsorted, PySem.W.mg_none_of X G zdict⟩
  have Fpower := Tpower.at_ (ps := ["number", "many"]) X G (fun _ _ _ _ _ _ us hl => match us, hl with | [_, _], _ => rfl)
  have Fdivisor := Tdivisor.at_ (ps := ["rule", "many"]) X G (fun _ _ _ _ _ _ us hl => match us, hl with | [_, _], _ => rfl)
  have Fweights := Tweights.at_ (ps := ["rule", "many"]) X G (fun _ _ _ _ _ _ us hl => match us, hl with | [_, _], _ => rfl)
  have Fweighed := Tweighed.at_ (ps := ["rule", "ring", "house"]) X G (fun _ _ _ _ _ _ us hl => match us, hl with | [_, _, _], _ => rfl)
  have Fis_multiple := Tis_multiple.at_ (ps := ["number", "by"]) X G (fun _ _ _ _ _ _ us hl => match us, hl with | [_, _], _ => rfl)
  have Ffollow := Tfollow.at_ (ps := ["rule", "ring", "first"]) X G (fun _ _ _ _ _ _ us hl => match us, hl with | [_, _, _], _ => rfl)
  have Felder := Telder.at_ (ps := ["rule", "ring"]) X G (fun _ _ _ _ _ _ us hl => match us, hl with | [_, _], _ => rfl)
  have Fover := Tover.at_ (ps := ["word", "by"]) X G (fun _ _ _ _ _ _ us hl => match us, hl with | [_, _], _ => rfl)
  have Fproduct := Tproduct.at_ (ps := ["one", "other"]) X G (fun _ _ _ _ _ _ us hl => match us, hl with | [_, _], _ => rfl)
  have Fpiece := Tpiece.at_ (ps := ["many"]) X G (fun _ _ _ _ _ _ us hl => match us, hl with | [_], _ => rfl)
  have Fnorm := Tnorm.at_ (ps := ["rule", "many"]) X G (fun _ _ _ _ _ _ us hl => match us, hl with | [_, _], _ => rfl)
  have Fstirred := Tstirred.at_ (ps := ["rule", "many"]) X G (fun _ _ _ _ _ _ us hl => match us, hl with | [_, _], _ => rfl)
  have Fquotient := Tquotient.at_ (ps := ["rule", "ring"]) X G (fun _ _ _ _ _ _ us hl => match us, hl with | [_, _], _ => rfl)
  have Foldest := Toldest.at_ (ps := ["rule", "ring"]) X G (fun _ _ _ _ _ _ us hl => match us, hl with | [_, _], _ => rfl)
  have Fage := Tage.at_ (ps := ["rule", "ring"]) X G (fun _ _ _ _ _ _ us hl => match us, hl with | [_, _], _ => rfl)
  have Fstood := Tstood.at_ (ps := ["rule", "ring", "days"]) X G (fun _ _ _ _ _ _ us hl => match us, hl with | [_, _, _], _ => rfl)
  have F_law_power := T_law_power.at_ (ps := ["number", "many"]) X G (fun _ _ _ _ _ _ us hl => match us, hl with | [_, _], _ => rfl)
  have F_law_day := T_law_day.at_ (ps := ["rule_d", "ring_d"]) X G (fun _ _ _ _ _ _ us hl => match us, hl with | [_, _], _ => rfl)
  have F_law_draw := T_law_draw.at_ (ps := ["draws", "many"]) X G (fun _ _ _ _ _ _ us hl => match us, hl with | [_, _], _ => rfl)
  have F_law_draws := T_law_draws.at_ (ps := ["script", "k"]) X G (fun _ _ _ _ _ _ us hl => match us, hl with | [_, _], _ => rfl)
  have F_law_common := T_law_common.at_ (ps := ["one", "other"]) X G (fun _ _ _ _ _ _ us hl => match us, hl with | [_, _], _ => rfl)
  have F_law_of := T_law_of.at_ (ps := ["draws", "some"]) X G (fun _ _ _ _ _ _ us hl => match us, hl with | [_, _], _ => rfl)
  have F_law_rule := T_law_rule.at_ (ps := ["draws"]) X G (fun _ _ _ _ _ _ us hl => match us, hl with | [_], _ => rfl)
  have F_law_ring := T_law_ring.at_ (ps := ["draws", "many"]) X G (fun _ _ _ _ _ _ us hl => match us, hl with | [_, _], _ => rfl)
  have F_law_case := T_law_case.at_ (ps := ["draws"]) X G (fun _ _ _ _ _ _ us hl => match us, hl with | [_], _ => rfl)
  have F_law_pieces := T_law_pieces.at_ (ps := []) X G (fun _ _ _ _ _ _ us hl => match us, hl with | [], _ => rfl)
  have F_law_product := T_law_product.at_ (ps := ["one", "other"]) X G (fun _ _ _ _ _ _ us hl => match us, hl with | [_, _], _ => rfl)
  have F_law_norm := T_law_norm.at_ (ps := ["rule_d", "word"]) X G (fun _ _ _ _ _ _ us hl => match us, hl with | [_, _], _ => rfl)
  have F_law_rest := T_law_rest.at_ (ps := ["word", "by"]) X G (fun _ _ _ _ _ _ us hl => match us, hl with | [_, _], _ => rfl)
  have F_law_pieces_so := T_law_pieces_so.at_ (ps := ["rule_d", "many"]) X G (fun _ _ _ _ _ _ us hl => match us, hl with | [_, _], _ => rfl)
  have F_law_endless_so := T_law_endless_so.at_ (ps := ["rule_d", "ring_d", "told"]) X G (fun _ _ _ _ _ _ us hl => match us, hl with | [_, _, _], _ => rfl)
  obtain ⟨f, oc, od, an, sl, kV, dc, pm, cd, ct, a, lk, c, kp⟩ := Tlaw.ex
  have e := hfa.symm.trans (PySem.W.mg_of X G a)
  cases e
  refine ⟨PySem.W.fnOf "law" "law" (defArgs sLaw) (defBody sLaw) (defScope sLaw) .none kV dc pm an cd ct, fun s v => .of_eq rfl, fun base _ _ => ?_⟩
  have Gpower := ok_power (P := l.prog) (w := w) (base := base) B Fpower
  have Gdivisor := ok_divisor (P := l.prog) (w := w) (base := base) B Gpower Fdivisor
  have Gweights := ok_weights (P := l.prog) (w := w) (base := base) B Gpower Fweights
  have Gweighed := ok_weighed (P := l.prog) (w := w) (base := base) B Gweights Fweighed
  have Gis_multiple := ok_is_multiple (P := l.prog) (w := w) (base := base) Fis_multiple
  have Gfollow := ok_follow (P := l.prog) (w := w) (base := base) B Ffollow
  have Gelder := ok_elder (P := l.prog) (w := w) (base := base) B Gpower Gdivisor Gweighed Gis_multiple Gfollow Felder
  have Gover := ok_over (P := l.prog) (w := w) (base := base) B Fover
  have Gproduct := ok_product (P := l.prog) (w := w) (base := base) B Fproduct
  have Gpiece := ok_piece (P := l.prog) (w := w) (base := base) B Gover Fpiece
  have Gnorm := ok_norm (P := l.prog) (w := w) (base := base) B Gpower Gpiece Fnorm
  have Gstirred := ok_stirred (P := l.prog) (w := w) (base := base) B Gproduct Gpiece Gnorm Fstirred
  have Gquotient := ok_quotient (P := l.prog) (w := w) (base := base) B Gover Gstirred Fquotient
  have Goldest := ok_oldest (P := l.prog) (w := w) (base := base) Gelder Foldest
  have Gage := ok_age (P := l.prog) (w := w) (base := base) Gquotient Goldest Fage
  have Gstood := ok_stood (P := l.prog) (w := w) (base := base) B Gelder Fstood
  have G_law_power := ok_law_power (P := l.prog) (w := w) (base := base) B F_law_power
  have G_law_day := ok_law_day (P := l.prog) (w := w) (base := base) B F_law_day
  have G_law_draw := ok_law_draw (P := l.prog) (w := w) (base := base) B F_law_draw
  have G_law_draws := ok_law_draws (P := l.prog) (w := w) (base := base) B F_law_draws
  have G_law_common := ok_law_common (P := l.prog) (w := w) (base := base) B F_law_common
  have G_law_of := ok_law_of (P := l.prog) (w := w) (base := base) B G_law_draw F_law_of
  have G_law_rule := ok_law_rule (P := l.prog) (w := w) (base := base) B G_law_draw G_law_common G_law_of F_law_rule
  have G_law_ring := ok_law_ring (P := l.prog) (w := w) (base := base) B G_law_draw F_law_ring
  have G_law_case := ok_law_case (P := l.prog) (w := w) (base := base) B G_law_draw G_law_rule G_law_ring G_law_day F_law_case
  have G_law_pieces := ok_law_pieces (P := l.prog) (w := w) (base := base) B F_law_pieces
  have G_law_product := ok_law_product (P := l.prog) (w := w) (base := base) B F_law_product
  have G_law_norm := ok_law_norm (P := l.prog) (w := w) (base := base) B G_law_power F_law_norm
  have G_law_rest := ok_law_rest (P := l.prog) (w := w) (base := base) B F_law_rest
  have G_law_pieces_so := ok_law_pieces_so (P := l.prog) (w := w) (base := base) B G_law_pieces Gpiece Gnorm G_law_norm G_law_product Gdivisor Gstirred F_law_pieces_so
  have G_law_endless_so := ok_law_endless_so (P := l.prog) (w := w) (base := base) B Gage Gstood Gquotient Gstirred G_law_product G_law_day F_law_endless_so
  exact ok_law B G_law_draws G_law_draw G_law_ring G_law_case G_law_pieces_so Gstirred G_law_product Gquotient G_law_rest Gage G_law_endless_so (Gquotient.kw Fquotient (fun _ _ _ _ _ _ ws hl => match ws, hl with | [_, _], _ => rfl)) (fun_mk (st := sLaw) lk c kp)
end DL

open PySem PySem.W PyProof.Rows in
set_option maxRecDepth 100000 in
set_option maxHeartbeats 0 in
theorem PySem.Challenge.cw_ringage_k13_whole_endless_rings_by_words_holds : PySem.Challenge.rw_ringage_k13_whole_endless_rings_by_words.Holds := by
  w_on; o_law; k_head; (case hw => w_witness2)
  k_fill
  refine DL.walk (l := PySem.Challenge.rw_ringage_k13_whole_endless_rings_by_words) (k := 17) ⟨rfl, by decide, by decide⟩ rfl rfl (fun w h Y => PySem.W.kIn_of Y) ?F
  case F =>
    intro w mg fa h KX G hmg
    refine' DL.all_mk KX G hmg (DL.raw_mk ?a0 ?l0 ?c0 ?k0) (DL.raw_mk ?a1 ?l1 ?c1 ?k1) (DL.raw_mk ?a2 ?l2 ?c2 ?k2) (DL.raw_mk ?a3 ?l3 ?c3 ?k3) (DL.raw_mk ?a4 ?l4 ?c4 ?k4) (DL.raw_mk ?a5 ?l5 ?c5 ?k5) (DL.raw_mk ?a6 ?l6 ?c6 ?k6) (DL.raw_mk ?a7 ?l7 ?c7 ?k7) (DL.raw_mk ?a8 ?l8 ?c8 ?k8) (DL.raw_mk ?a9 ?l9 ?c9 ?k9) (DL.raw_mk ?a10 ?l10 ?c10 ?k10) (DL.raw_mk ?a11 ?l11 ?c11 ?k11) (DL.raw_mk ?a12 ?l12 ?c12 ?k12) (DL.raw_mk ?a13 ?l13 ?c13 ?k13) (DL.raw_mk ?a14 ?l14 ?c14 ?k14) (DL.raw_mk ?a15 ?l15 ?c15 ?k15) (DL.raw_mk ?a16 ?l16 ?c16 ?k16) (DL.raw_mk ?a17 ?l17 ?c17 ?k17) (DL.raw_mk ?a18 ?l18 ?c18 ?k18) (DL.raw_mk ?a19 ?l19 ?c19 ?k19) (DL.raw_mk ?a20 ?l20 ?c20 ?k20) (DL.raw_mk ?a21 ?l21 ?c21 ?k21) (DL.raw_mk ?a22 ?l22 ?c22 ?k22) (DL.raw_mk ?a23 ?l23 ?c23 ?k23) (DL.raw_mk ?a24 ?l24 ?c24 ?k24) (DL.raw_mk ?a25 ?l25 ?c25 ?k25) (DL.raw_mk ?a26 ?l26 ?c26 ?k26) (DL.raw_mk ?a27 ?l27 ?c27 ?k27) (DL.raw_mk ?a28 ?l28 ?c28 ?k28) (DL.raw_mk ?a29 ?l29 ?c29 ?k29) (DL.raw_mk ?a30 ?l30 ?c30 ?k30) (DL.raw_mk ?a31 ?l31 ?c31 ?k31) ?zlen ?zrange ?zenumerate ?zzip ?ztuple ?zlist ?zsum ?zabs ?zmax ?zmin ?zint ?zall ?zany ?zisinstance ?zbool ?zstr ?zsorted ?zdict
    (case a0 => k_is)
    (case l0 => k_is)
    (case c0 => k_is)
    (case k0 => k_is)
    (case a1 => k_is)
    (case l1 => k_is)
    (case c1 => k_is)
    (case k1 => k_is)
    (case a2 => k_is)
    (case l2 => k_is)
    (case c2 => k_is)
    (case k2 => k_is)
    (case a3 => k_is)
    (case l3 => k_is)
    (case c3 => k_is)
    (case k3 => k_is)
    (case a4 => k_is)
    (case l4 => k_is)
    (case c4 => k_is)
    (case k4 => k_is)
    (case a5 => k_is)
    (case l5 => k_is)
    (case c5 => k_is)
    (case k5 => k_is)
    (case a6 => k_is)
    (case l6 => k_is)
    (case c6 => k_is)
    (case k6 => k_is)
    (case a7 => k_is)
    (case l7 => k_is)
    (case c7 => k_is)
    (case k7 => k_is)
    (case a8 => k_is)
    (case l8 => k_is)
    (case c8 => k_is)
    (case k8 => k_is)
    (case a9 => k_is)
    (case l9 => k_is)
    (case c9 => k_is)
    (case k9 => k_is)
    (case a10 => k_is)
    (case l10 => k_is)
    (case c10 => k_is)
    (case k10 => k_is)
    (case a11 => k_is)
    (case l11 => k_is)
    (case c11 => k_is)
    (case k11 => k_is)
    (case a12 => k_is)
    (case l12 => k_is)
    (case c12 => k_is)
    (case k12 => k_is)
    (case a13 => k_is)
    (case l13 => k_is)
    (case c13 => k_is)
    (case k13 => k_is)
    (case a14 => k_is)
    (case l14 => k_is)
    (case c14 => k_is)
    (case k14 => k_is)
    (case a15 => k_is)
    (case l15 => k_is)
    (case c15 => k_is)
    (case k15 => k_is)
    (case a16 => k_is)
    (case l16 => k_is)
    (case c16 => k_is)
    (case k16 => k_is)
    (case a17 => k_is)
    (case l17 => k_is)
    (case c17 => k_is)
    (case k17 => k_is)
    (case a18 => k_is)
    (case l18 => k_is)
    (case c18 => k_is)
    (case k18 => k_is)
    (case a19 => k_is)
    (case l19 => k_is)
    (case c19 => k_is)
    (case k19 => k_is)
    (case a20 => k_is)
    (case l20 => k_is)
    (case c20 => k_is)
    (case k20 => k_is)
    (case a21 => k_is)
    (case l21 => k_is)
    (case c21 => k_is)
    (case k21 => k_is)
    (case a22 => k_is)
    (case l22 => k_is)
    (case c22 => k_is)
    (case k22 => k_is)
    (case a23 => k_is)
    (case l23 => k_is)
    (case c23 => k_is)
    (case k23 => k_is)
    (case a24 => k_is)
    (case l24 => k_is)
    (case c24 => k_is)
    (case k24 => k_is)
    (case a25 => k_is)
    (case l25 => k_is)
    (case c25 => k_is)
    (case k25 => k_is)
    (case a26 => k_is)
    (case l26 => k_is)
    (case c26 => k_is)
    (case k26 => k_is)
    (case a27 => k_is)
    (case l27 => k_is)
    (case c27 => k_is)
    (case k27 => k_is)
    (case a28 => k_is)
    (case l28 => k_is)
    (case c28 => k_is)
    (case k28 => k_is)
    (case a29 => k_is)
    (case l29 => k_is)
    (case c29 => k_is)
    (case k29 => k_is)
    (case a30 => k_is)
    (case l30 => k_is)
    (case c30 => k_is)
    (case k30 => k_is)
    (case a31 => k_is)
    (case l31 => k_is)
    (case c31 => k_is)
    (case k31 => k_is)
    (case zlen => k_is)
    (case zrange => k_is)
    (case zenumerate => k_is)
    (case zzip => k_is)
    (case ztuple => k_is)
    (case zlist => k_is)
    (case zsum => k_is)
    (case zabs => k_is)
    (case zmax => k_is)
    (case zmin => k_is)
    (case zint => k_is)
    (case zall => k_is)
    (case zany => k_is)
    (case zisinstance => k_is)
    (case zbool => k_is)
    (case zstr => k_is)
    (case zsorted => k_is)
    (case zdict => k_is)
#print axioms PySem.Challenge.cw_ringage_k13_whole_endless_rings_by_words_holds
