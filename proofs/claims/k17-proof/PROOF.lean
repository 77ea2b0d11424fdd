import PyProof.Rows.All
import Wide.All
import OpenK.AllK
import Wide.FinOn
import HandS.ForMost
import HandS.ForSpec
import HandS.FStr
import HandS.IsInst
import HandS.Evl
import HandS.Flow
import HandS.Zip
import HandS.NoneIn
import HandS.TupAny
import HandS.Walk
import HandS.Style
import KE.KDictDisplayH
import HandS.ExcInit
import HandS.ExcSuper
import HandS.ExcField
import HandS.ExcOwn
import HandS.TryOnly
import HandS.TryMany
import KE.KExcSuper
import HandS.Replace
import HandS.ReplaceLit
import PySem.Challenge.RW_tokensmove_k17_ratios_and_errors
import HandS.Codes
import KE.IntTextLaws
set_option Elab.async false
set_option linter.all false
-- FL1
section
set_option maxRecDepth 100000
set_option maxHeartbeats 2000000
/-! FL: meanings as functions over plain data, over the hand layer's readings. -/
namespace FL
open PySem PySem.Spec L2

abbrev PD := PyData
/-- what an expression may give: data; a list, a dict that its frame still changes; the law's draw -/
inductive Vl where
  | d (d : PD) | brw (l : List PD) | brwD (t : Bool) (kvs : List (PD × PD)) | draw
/-- what stands in the draw -/
structure Dr where
  cells : List Int
  i : Int
  r : Int
  s : Int
inductive Sl where
  | none | val (d : PD) | par (v : Vl) | own (l : List PD) | ownD (t : Bool) (kvs : List (PD × PD))
abbrev Rho := List Sl
abbrev Ex' := Str × Option Int
inductive Res (S α : Type) where
  | ok (a : α) (s : S) | exc (x : Ex') (s : S) | stuck
def Res.bind {S α β : Type} (r : Res S α) (f : α → S → Res S β) : Res S β := match r with
  | .ok a s => f a s
  | .exc x s => .exc x s
  | .stuck => .stuck
abbrev Me := Rho → Dr → Res Dr Vl
abbrev Mt := Rho → Dr → Res Dr Bool
abbrev Mes := Rho → Dr → Res Dr (List Vl)

/-! ### how data lies: lists that do not change any more are locked -/
mutual
inductive Rp (K : PySem.W.Frag) (H : Hp) : PD → V → Prop
  | non : Rp K H .none .non
  | bl (b : Bool) : Rp K H (.bool b) (.bl b)
  | int (i : Int) : Rp K H (.int i) (.int i)
  | str (x : Str) : Rp K H (.str x) (.str x)
  | lst {a : Addr} {o : Obj} {xs : List V} {ds : List PD} : H a = some (.frz o (.lst xs)) → RpL K H ds xs → Rp K H (.list ds) (.ref a)
  | tup {a : Addr} {xs : List V} {ds : List PD} : H a = some (.tup xs) → RpL K H ds xs → Rp K H (.tuple ds) (.ref a)
inductive RpL (K : PySem.W.Frag) (H : Hp) : List PD → List V → Prop
  | nil : RpL K H [] []
  | cons {v : V} {vs : List V} {d : PD} {ds : List PD} : Rp K H d v → RpL K H ds vs → RpL K H (d :: ds) (v :: vs)
end
/-- what is kept by whatever happens -/
structure Fz (H H' : Hp) : Prop where
  t : ∀ b xs, H b = some (.tup xs) → H' b = some (.tup xs)
  f : ∀ b o u, H b = some (.frz o u) → H' b = some (.frz o u)
theorem Fz.refl (H : Hp) : Fz H H := ⟨fun _ _ h => h, fun _ _ _ h => h⟩
theorem Fz.trans {H H1 H2 : Hp} (a : Fz H H1) (b : Fz H1 H2) : Fz H H2 := ⟨fun _ _ h => b.t _ _ (a.t _ _ h), fun _ _ _ h => b.f _ _ _ (a.f _ _ _ h)⟩
theorem Fz.rd {H H' : Hp} (e : Fz H H') {a : Addr} {xs : List V} (h : Rd H a (.tup xs)) : Rd H' a (.tup xs) := by
  rcases h with h | ⟨o, h⟩
  · exact .inl (e.t _ _ h)
  · exact .inr ⟨o, e.f _ _ _ h⟩
theorem Fz.sqt {K : PySem.W.Frag} {H H' : Hp} (e : Fz H H') {a : Addr} {xs : List V} (h : SqT K H a xs) : SqT K H' a xs := by
  rcases h with h | h
  · exact .inl (e.rd h)
  · exact .inr h
section
variable {K : PySem.W.Frag} {H H' : Hp}
mutual
theorem Rp.mono (e : Fz H H') : ∀ {d : PD} {v : V}, Rp K H d v → Rp K H' d v
  | _, _, .non => .non
  | _, _, .bl b => .bl b
  | _, _, .int i => .int i
  | _, _, .str x => .str x
  | _, _, .lst h r => .lst (e.f _ _ _ h) (RpL.mono e r)
  | _, _, .tup h r => .tup (e.t _ _ h) (RpL.mono e r)
theorem RpL.mono (e : Fz H H') : ∀ {d : List PD} {v : List V}, RpL K H d v → RpL K H' d v
  | _, _, .nil => .nil
  | _, _, .cons h r => .cons (Rp.mono e h) (RpL.mono e r)
end
mutual
theorem Rp.dp : ∀ {d : PD} {v : V}, Rp K H d v → Dp K H v d
  | _, _, .non => .non
  | _, _, .bl b => .bl b
  | _, _, .int i => .int i
  | _, _, .str x => .str x
  | _, _, .lst h r => .lst (.inl (.inr ⟨_, h⟩)) (RpL.dp r)
  | _, _, .tup h r => .tup (SqT.of h) (RpL.dp r)
theorem RpL.dp : ∀ {d : List PD} {v : List V}, RpL K H d v → DpAll K H v d
  | _, _, .nil => .nil
  | _, _, .cons h r => .cons (Rp.dp h) (RpL.dp r)
end
theorem RpL.length : ∀ {d : List PD} {v : List V}, RpL K H d v → d.length = v.length
  | _, _, .nil => rfl
  | _, _, .cons _ r => by simp [RpL.length r]
theorem RpL.get : ∀ {d : List PD} {v : List V} {i : Nat} {x : PD}, RpL K H d v → d[i]? = some x → ∃ y, v[i]? = some y ∧ Rp K H x y
  | _, _, _, _, .nil, h => by simp at h
  | _, _, 0, _, .cons h _, e => by simp at e; subst e; exact ⟨_, rfl, h⟩
  | _, _, i + 1, _, .cons _ r, e => by simpa using RpL.get (i := i) r (by simpa using e)
theorem RpL.getv : ∀ {d : List PD} {v : List V} {i : Nat} {y : V}, RpL K H d v → v[i]? = some y → ∃ x, d[i]? = some x ∧ Rp K H x y
  | _, _, _, _, .nil, h => by simp at h
  | _, _, 0, _, .cons h _, e => by simp at e; subst e; exact ⟨_, rfl, h⟩
  | _, _, i + 1, _, .cons _ r, e => by simpa using RpL.getv (i := i) r (by simpa using e)
theorem RpL.append : ∀ {d e : List PD} {v w : List V}, RpL K H d v → RpL K H e w → RpL K H (d ++ e) (v ++ w)
  | _, _, _, _, .nil, s => s
  | _, _, _, _, .cons h r, s => .cons h (RpL.append r s)
theorem RpL.one {d : PD} {v : V} (h : Rp K H d v) : RpL K H [d] [v] := .cons h .nil
theorem RpL.take : ∀ {d : List PD} {v : List V} (n : Nat), RpL K H d v → RpL K H (d.take n) (v.take n)
  | _, _, 0, _ => by simp; exact .nil
  | _, _, _ + 1, .nil => by simp; exact .nil
  | _, _, n + 1, .cons h r => by simp; exact .cons h (RpL.take n r)
theorem RpL.drop : ∀ {d : List PD} {v : List V} (n : Nat), RpL K H d v → RpL K H (d.drop n) (v.drop n)
  | _, _, 0, h => by simpa using h
  | _, _, _ + 1, .nil => by simp; exact .nil
  | _, _, n + 1, .cons _ r => by simpa using RpL.drop n r
theorem RpL.set : ∀ {d : List PD} {v : List V} {x : PD} {y : V} (i : Nat), RpL K H d v → Rp K H x y → RpL K H (d.set i x) (v.set i y)
  | _, _, _, _, _, .nil, _ => by simp; exact .nil
  | _, _, _, _, 0, .cons _ r, h => .cons h r
  | _, _, _, _, i + 1, .cons g r, h => .cons g (RpL.set i r h)
end

/-! ### dicts: keys are ints and texts, or tuples of such -/
def keyOf : PD → Option Key
  | .int i => some (.inl i)
  | .str x => some (.inr x)
  | _ => none
def keysOf : List PD → Option (List Key)
  | [] => some []
  | d :: r => match keyOf d, keysOf r with | some k, some ks => some (k :: ks) | _, _ => none
def tkeyOf : PD → Option (List Key)
  | .tuple ds => keysOf ds
  | _ => none
/-- the dict at a holds these pairs -/
def DicAt (K : PySem.W.Frag) (H : Hp) (a : Addr) : Bool → List (PD × PD) → Prop
  | false, kvs => ∃ ks, H a = some (.dK ks) ∧ Paired (fun (p : Key × V) (q : PD × PD) => keyOf q.1 = some p.1 ∧ Rp K H q.2 p.2) ks kvs
  | true, kvs => ∃ ks, H a = some (.dT ks) ∧ Paired (fun (p : List Key × V) (q : PD × PD) => tkeyOf q.1 = some p.1 ∧ Rp K H q.2 p.2) ks kvs
theorem dicAt_some {K : PySem.W.Frag} {H : Hp} {a : Addr} {t : Bool} {kvs : List (PD × PD)} (h : DicAt K H a t kvs) : ∃ o, H a = some o := by
  cases t with
  | true => obtain ⟨_, h, _⟩ := h; exact ⟨_, h⟩
  | false => obtain ⟨_, h, _⟩ := h; exact ⟨_, h⟩

/-! ### values -/
def RV (K : PySem.W.Frag) (dr : Option Addr) (H : Hp) : Vl → V → Prop
  | .d d, v => Rp K H d v
  | .brw l, v => ∃ a xs, v = .ref a ∧ dr ≠ some a ∧ SqL K H a xs ∧ RpL K H l xs
  | .brwD t kvs, v => ∃ a, v = .ref a ∧ dr ≠ some a ∧ DicAt K H a t kvs
  | .draw, v => ∃ a, dr = some a ∧ v = .ref a
/-- all but the draw is kept -/
def ExD (dr : Option Addr) (H H' : Hp) : Prop := ∀ b o, dr ≠ some b → H b = some o → H' b = some o
def DrAt (dr : Option Addr) (H : Hp) (ω : Dr) : Prop := ∀ a, dr = some a → ∃ L o,
  H a = some (.lst [.ref L, .int ω.i, .int ω.r, .int ω.s]) ∧ H L = some (.frz o (.lst (ω.cells.map V.int))) ∧ -1 ≤ ω.i ∧ 0 ≤ ω.r ∧ ω.r < 2147483647 ∧ 0 ≤ ω.s ∧ (∀ c ∈ ω.cells, 0 ≤ c) ∧ ω.cells.length ≤ 63
theorem ExD.refl (dr : Option Addr) (H : Hp) : ExD dr H H := fun _ _ _ h => h
theorem ExD.trans {dr : Option Addr} {H H1 H2 : Hp} (a : ExD dr H H1) (b : ExD dr H1 H2) : ExD dr H H2 := fun x o n h => b x o n (a x o n h)
theorem ExD.of {dr : Option Addr} {H H' : Hp} (h : Same H H') : ExD dr H H' := fun b o _ e => h b o e
theorem ExD.fz {dr : Option Addr} {H H' : Hp} {ω : Dr} (h : ExD dr H H') (w : DrAt dr H ω) : Fz H H' := by
  refine ⟨fun b xs e => h b _ (fun z => ?_) e, fun b o u e => h b _ (fun z => ?_) e⟩
  · obtain ⟨_, _, q, _⟩ := w b z
    rw [e] at q; cases q
  · obtain ⟨_, _, q, _⟩ := w b z
    rw [e] at q; cases q
theorem Fz.of {H H' : Hp} (h : Same H H') : Fz H H' := ⟨fun b _ e => h b _ e, fun b _ _ e => h b _ e⟩
theorem DrAt.mono {dr : Option Addr} {H H' : Hp} {ω : Dr} (w : DrAt dr H ω) (h : Same H H') : DrAt dr H' ω := fun a e => by
  obtain ⟨L, o, h1, h2, r⟩ := w a e
  exact ⟨L, o, h _ _ h1, h _ _ h2, r⟩
theorem sql_ex {K : PySem.W.Frag} {dr : Option Addr} {H H' : Hp} {a : Addr} {xs : List V} (e : ExD dr H H') (n : dr ≠ some a) (h : SqL K H a xs) : SqL K H' a xs := by
  rcases h with (h | ⟨o, h⟩) | h
  · exact .inl (.inl (e _ _ n h))
  · exact .inl (.inr ⟨o, e _ _ n h⟩)
  · exact .inr h
theorem Paired.imp' {α β : Type} {F G : α → β → Prop} (f : ∀ a b, F a b → G a b) : ∀ {l : List α} {m : List β}, Paired F l m → Paired G l m
  | _, _, .nil => .nil
  | _, _, .cons r t => .cons (f _ _ r) (Paired.imp' f t)
theorem dic_keep {K : PySem.W.Frag} {H H' : Hp} {a : Addr} {t : Bool} {kvs : List (PD × PD)} (e : ∀ o, H a = some o → H' a = some o) (z : Fz H H') (h : DicAt K H a t kvs) : DicAt K H' a t kvs := by
  cases t with
  | false =>
    obtain ⟨ks, h, p⟩ := h
    exact ⟨ks, e _ h, Paired.imp' (fun _ _ q => ⟨q.1, q.2.mono z⟩) p⟩
  | true =>
    obtain ⟨ks, h, p⟩ := h
    exact ⟨ks, e _ h, Paired.imp' (fun _ _ q => ⟨q.1, q.2.mono z⟩) p⟩
theorem dic_ex {K : PySem.W.Frag} {dr : Option Addr} {H H' : Hp} {a : Addr} {t : Bool} {kvs : List (PD × PD)} (e : ExD dr H H') (z : Fz H H') (n : dr ≠ some a) (h : DicAt K H a t kvs) : DicAt K H' a t kvs := dic_keep (fun o q => e a o n q) z h
theorem RV.mono {K : PySem.W.Frag} {dr : Option Addr} {H H' : Hp} {u : Vl} {v : V} (e : ExD dr H H') (z : Fz H H') (h : RV K dr H u v) : RV K dr H' u v := by
  cases u with
  | d d => exact Rp.mono z h
  | brw l => obtain ⟨a, xs, rfl, n, h1, h2⟩ := h; exact ⟨a, xs, rfl, n, sql_ex e n h1, h2.mono z⟩
  | brwD t l => obtain ⟨a, rfl, n, h1⟩ := h; exact ⟨a, rfl, n, dic_ex e z n h1⟩
  | draw => exact h
theorem RV.same {K : PySem.W.Frag} {dr : Option Addr} {H H' : Hp} {u : Vl} {v : V} (e : Same H H') (h : RV K dr H u v) : RV K dr H' u v := h.mono (.of e) (.of e)

/-! ### the names' slots -/
def SlOk (K : PySem.W.Frag) (dr : Option Addr) (H0 H : Hp) : Sl → Option V → Prop
  | .none, _ => True
  | .val d, x => ∃ v, x = some v ∧ Rp K H d v
  | .par u, x => ∃ v, x = some v ∧ RV K dr H0 u v
  | .own l, x => ∃ a xs, x = some (.ref a) ∧ H0 a = none ∧ dr ≠ some a ∧ H a = some (.lst xs) ∧ RpL K H l xs
  | .ownD t kvs, x => ∃ a, x = some (.ref a) ∧ H0 a = none ∧ dr ≠ some a ∧ DicAt K H a t kvs
def isOwn : Sl → Bool
  | .own _ => true
  | .ownD _ _ => true
  | _ => false
structure Gd (K : PySem.W.Frag) (dr : Option Addr) (H0 : Hp) (ρ : Rho) (σ : St) (H : Hp) (ω : Dr) : Prop where
  ext : ExD dr H0 H
  d0 : ∀ a, dr = some a → ∃ o, H0 a = some o
  fz : Fz H0 H
  len : ρ.length = σ.length
  sl : ∀ (i : Nat) (s : Sl), ρ[i]? = some s → SlOk K dr H0 H s (σ[i]?.join)
  ne : ∀ (i j : Nat) (s t : Sl) (a : Addr), ρ[i]? = some s → ρ[j]? = some t → isOwn s = true → isOwn t = true → σ[i]? = some (some (.ref a)) → σ[j]? = some (some (.ref a)) → i = j
  dw : DrAt dr H ω
theorem SlOk.mono {K : PySem.W.Frag} {dr : Option Addr} {H0 H H' : Hp} {s : Sl} {x : Option V} (e : ExD dr H H') (z : Fz H H') (h : SlOk K dr H0 H s x) : SlOk K dr H0 H' s x := by
  cases s with
  | none => trivial
  | val d => obtain ⟨v, h1, h2⟩ := h; exact ⟨v, h1, h2.mono z⟩
  | par u => exact h
  | own l => obtain ⟨a, xs, h1, h2, n, h3, h4⟩ := h; exact ⟨a, xs, h1, h2, n, e _ _ n h3, h4.mono z⟩
  | ownD t l => obtain ⟨a, h1, h2, n, h3⟩ := h; exact ⟨a, h1, h2, n, dic_ex e z n h3⟩
section
variable {K : PySem.W.Frag} {dr : Option Addr} {H0 H H' : Hp} {ρ : Rho} {σ : St} {ω ω' : Dr}
theorem Gd.grow (g : Gd K dr H0 ρ σ H ω) (e : ExD dr H H') (w : DrAt dr H' ω') : Gd K dr H0 ρ σ H' ω' :=
  have z := e.fz g.dw
  ⟨g.ext.trans e, g.d0, g.fz.trans z, g.len, fun i s h => (g.sl i s h).mono e z, g.ne, w⟩
theorem Gd.same (g : Gd K dr H0 ρ σ H ω) (e : Same H H') : Gd K dr H0 ρ σ H' ω := g.grow (.of e) (g.dw.mono e)
end

/-! ### meanings -/
/-- an exception as it lies -/
def ExcRp (mg : Str → Option Value) (H : Hp) (x : Ex') (cls : Value) (od : Option Addr) : Prop := ∃ C, mg x.1 = some (.ref C) ∧ cls = .ref C ∧
  match x.2 with
  | none => od = none
  | some i => ∃ d, od = some d ∧ H d = some (.xd [(("line" : Str), .int i)])
section
variable (K : PySem.W.Frag) (mg : Str → Option Value) (W : WX)
def PostE (dr : Option Addr) (H0 : Hp) (ρ : Rho) (σ : St) (H : Hp) (Q : VK) : Res Dr Vl → Prop
  | .ok u ω => ∀ v H', ExD dr H H' → Gd K dr H0 ρ σ H' ω → RV K dr H' u v → Q v H'
  | .exc x ω => ∀ cls od H', ExD dr H H' → Gd K dr H0 ρ σ H' ω → ExcRp mg H' x cls od → W cls od σ H'
  | .stuck => False
def PostT (dr : Option Addr) (H0 : Hp) (ρ : Rho) (σ : St) (H : Hp) (Q : Bool → Hp → Prop) : Res Dr Bool → Prop
  | .ok u ω => ∀ H', ExD dr H H' → Gd K dr H0 ρ σ H' ω → Q u H'
  | .exc x ω => ∀ cls od H', ExD dr H H' → Gd K dr H0 ρ σ H' ω → ExcRp mg H' x cls od → W cls od σ H'
  | .stuck => False
def RVs (dr : Option Addr) (H : Hp) (us : List Vl) (vs : List V) : Prop := Paired (RV K dr H) us vs
def PostA (dr : Option Addr) (H0 : Hp) (ρ : Rho) (σ : St) (H : Hp) (Q : List V → Hp → Prop) : Res Dr (List Vl) → Prop
  | .ok us ω => ∀ vs H', ExD dr H H' → Gd K dr H0 ρ σ H' ω → Paired (RV K dr H') us vs → Q vs H'
  | .exc x ω => ∀ cls od H', ExD dr H H' → Gd K dr H0 ρ σ H' ω → ExcRp mg H' x cls od → W cls od σ H'
  | .stuck => False
def rdE (m : Me) : TE := fun σ H Q => ∃ dr H0 ρ ω, Gd K dr H0 ρ σ H ω ∧ PostE K mg W dr H0 ρ σ H Q (m ρ ω)
def rdT (m : Mt) : TT := fun σ H Q => ∃ dr H0 ρ ω, Gd K dr H0 ρ σ H ω ∧ PostT K mg W dr H0 ρ σ H Q (m ρ ω)
def rdA (m : Mes) : TA := fun σ H Q => ∃ dr H0 ρ ω, Gd K dr H0 ρ σ H ω ∧ PostA K mg W dr H0 ρ σ H Q (m ρ ω)
end
def ME (X : Cx) (W : WX) (e : Expr) (m : Me) : Prop := PE X e (rdE X.K X.mg W m)
def MT (X : Cx) (W : WX) (e : Expr) (m : Mt) : Prop := PT X e (rdT X.K X.mg W m)
structure MA (X : Cx) (W : WX) (es : List Expr) (m : Mes) : Prop where
  run : PA X es (rdA X.K X.mg W m)
  len : ∀ ρ ω us ω', m ρ ω = .ok us ω' → us.length = es.length
theorem pe_imp {X : Cx} {e : Expr} {t t' : TE} (h : PE X e t) (i : ∀ σ H Q, t' σ H Q → t σ H Q) : PE X e t' := ⟨fun pins s σ H Q I q => h.run pins s σ H Q I (i σ H Q q)⟩
theorem pt_imp {X : Cx} {e : Expr} {t t' : TT} (h : PT X e t) (i : ∀ σ H Q, t' σ H Q → t σ H Q) : PT X e t' := ⟨fun pins s σ H Q I q => h.run pins s σ H Q I (i σ H Q q)⟩
theorem pa_imp {X : Cx} {e : List Expr} {t t' : TA} (h : PA X e t) (i : ∀ σ H Q, t' σ H Q → t σ H Q) : PA X e t' := ⟨fun pos pins s σ H Q I q => h.run pos pins s σ H Q I (i σ H Q q)⟩

/-! ### putting meanings one behind the other -/
section
variable {K : PySem.W.Frag} {mg : Str → Option Value} {W : WX} {dr : Option Addr} {H0 H : Hp} {ρ : Rho} {σ : St} {ω : Dr}
/-- run a part, then the rest -/
theorem seqE {m : Me} {f : Vl → Dr → Res Dr Vl} {Q R : VK} (g : Gd K dr H0 ρ σ H ω) (p : PostE K mg W dr H0 ρ σ H Q ((m ρ ω).bind f))
    (k : ∀ u ω' v H', ExD dr H H' → Gd K dr H0 ρ σ H' ω' → RV K dr H' u v → PostE K mg W dr H0 ρ σ H' Q (f u ω') → R v H') : rdE K mg W m σ H R := by
  refine ⟨dr, H0, ρ, ω, g, ?_⟩
  cases h : m ρ ω with
  | ok u ω' =>
    rw [h] at p
    intro v H' e g' r
    refine k u ω' v H' e g' r ?_
    have p' : PostE K mg W dr H0 ρ σ H Q (f u ω') := p
    cases h2 : f u ω' with
    | ok u2 ω2 => rw [h2] at p'; exact fun v2 H2 e2 g2 r2 => p' v2 H2 (e.trans e2) g2 r2
    | exc x ω2 => rw [h2] at p'; exact fun c od H2 e2 g2 r2 => p' c od H2 (e.trans e2) g2 r2
    | stuck => rw [h2] at p'; exact p'
  | exc x ω' => rw [h] at p; exact p
  | stuck => rw [h] at p; exact p
end
end FL
end
-- FL2
section
set_option maxRecDepth 100000
set_option maxHeartbeats 2000000
/-! FL2: expressions -/
namespace FL
open PySem PySem.Spec L2

/-! ### constants, names -/
def mC (d : PD) : Me := fun _ ω => .ok (.d d) ω
def mVar (i : Nat) : Me := fun ρ ω => match ρ[i]? with
  | some (.val d) => .ok (.d d) ω
  | some (.par u) => .ok u ω
  | some (.own l) => .ok (.brw l) ω
  | some (.ownD t k) => .ok (.brwD t k) ω
  | _ => .stuck
section
variable {X : Cx} {W : WX}
theorem me_c {e : Expr} {d : PD} {v : V} (h : PE X e (tC v)) (r : ∀ H, Rp X.K H d v) : ME X W e (mC d) := pe_imp h fun σ H Q ⟨dr, H0, ρ, ω, g, p⟩ => p v H (ExD.refl _ _) g (r H)
theorem me_int {i j pos} : ME X W (.Constant (.int i) j pos) (mC (.int i)) := me_c pe_int fun _ => .int _
theorem me_bl {i j pos} : ME X W (.Constant (.bool i) j pos) (mC (.bool i)) := me_c pe_bl fun _ => .bl _
theorem me_non {j pos} : ME X W (.Constant .none j pos) (mC .none) := me_c pe_non fun _ => .non
theorem me_str {x j pos} : ME X W (.Constant (.str x) j pos) (mC (.str x)) := me_c pe_str fun _ => .str _
theorem me_var (i : Nat) {x : Str} {pos : Pos} (hN : X.N[i]? = some x := by rfl) (hv : Vis X.env.scope x := by first | exact Or.inl rfl | exact Or.inr (Or.inl rfl) | exact Or.inr (Or.inr rfl)) (hd : (x == ("__debug__" : Str)) = false := by decide)
    (hcd : (x == ("__classdict__" : Str)) = false := by decide) : ME X W (.Name x pos) (mVar i) := pe_imp (pe_var hN hv hd hcd) fun σ H Q ⟨dr, H0, ρ, ω, g, p⟩ => by
  have fin : ∀ s x, ρ[i]? = some s → σ[i]?.join = some x → σ[i]? = some (some x) := fun s x _ h => by
    cases q : σ[i]? with
    | none => rw [q] at h; cases h
    | some o => rw [q] at h; exact congrArg some h
  unfold mVar at p
  cases h : ρ[i]? with
  | none => rw [h] at p; exact False.elim p
  | some s =>
    have k := g.sl i s h
    rw [h] at p
    cases s with
    | none => exact False.elim p
    | val d =>
      obtain ⟨v, e, r⟩ := k
      exact ⟨v, fin _ _ h e, p v H (ExD.refl _ _) g r⟩
    | par u =>
      obtain ⟨v, e, r⟩ := k
      exact ⟨v, fin _ _ h e, p v H (ExD.refl _ _) g (r.mono g.ext g.fz)⟩
    | own l =>
      obtain ⟨a, xs, e, h0, n, h1, r⟩ := k
      exact ⟨_, fin _ _ h e, p _ H (ExD.refl _ _) g ⟨a, xs, rfl, n, SqL.of h1, r⟩⟩
    | ownD t l =>
      obtain ⟨a, e, h0, n, h1⟩ := k
      exact ⟨_, fin _ _ h e, p _ H (ExD.refl _ _) g ⟨a, rfl, n, h1⟩⟩
end

/-! ### arguments -/
def mNil : Mes := fun _ ω => .ok [] ω
def mCons (m : Me) (ms : Mes) : Mes := fun ρ ω => (m ρ ω).bind fun u ω => (ms ρ ω).bind fun us ω => .ok (u :: us) ω
section
variable {X : Cx} {W : WX} {e : Expr} {es : List Expr} {m : Me} {ms : Mes}
theorem paired_mono {K : PySem.W.Frag} {dr : Option Addr} {H H' : Hp} (e : ExD dr H H') (z : Fz H H') : ∀ {us : List Vl} {vs : List V}, Paired (RV K dr H) us vs → Paired (RV K dr H') us vs
  | _, _, .nil => .nil
  | _, _, .cons r t => .cons (r.mono e z) (paired_mono e z t)
theorem consA {K : PySem.W.Frag} {mg : Str → Option Value} {dr : Option Addr} {H0 H : Hp} {ρ : Rho} {σ : L2.St} {ω : Dr} {Q : List V → Hp → Prop} (g : Gd K dr H0 ρ σ H ω) (p : PostA K mg W dr H0 ρ σ H Q (mCons m ms ρ ω)) : tCons (rdE K mg W m) (rdA K mg W ms) σ H Q := by
  refine ⟨dr, H0, ρ, ω, g, ?_⟩
  unfold mCons at p
  cases h : m ρ ω with
  | ok u ω1 =>
    rw [h] at p
    intro v H1 e1 g1 r1
    refine ⟨dr, H0, ρ, ω1, g1, ?_⟩
    have p : PostA K mg W dr H0 ρ σ H Q ((ms ρ ω1).bind fun us ω => .ok (u :: us) ω) := p
    cases h2 : ms ρ ω1 with
    | ok us ω2 =>
      rw [h2] at p
      exact fun vs H2 e2 g2 r2 => p (v :: vs) H2 (e1.trans e2) g2 (.cons (r1.mono e2 (e2.fz g1.dw)) r2)
    | exc x ω2 => rw [h2] at p; exact fun c od H2 e2 g2 r2 => p c od H2 (e1.trans e2) g2 r2
    | stuck => rw [h2] at p; exact p
  | exc x ω' => rw [h] at p; exact p
  | stuck => rw [h] at p; exact p
theorem ma_nil : MA X W [] mNil := ⟨pa_imp pa_nil fun σ H Q ⟨dr, H0, ρ, ω, g, p⟩ => p [] H (ExD.refl _ _) g .nil, fun ρ ω us ω' h => by cases h; rfl⟩
theorem ma_cons (he : ME X W e m) (hr : MA X W es ms) (hs : starEach (e :: es) X.env = (false, eval e X.env) :: starEach es X.env := by rfl) : MA X W (e :: es) (mCons m ms) := by
  refine ⟨pa_imp (pa_cons he hr.run hs) fun σ H Q h => ?_, fun ρ ω us ω' h => ?_⟩
  · obtain ⟨dr, H0, ρ, ω, g, p⟩ := h
    exact consA g p
  · unfold mCons at h
    cases h1 : m ρ ω with
    | ok u ω1 =>
      rw [h1] at h
      cases h2 : ms ρ ω1 with
      | ok us2 ω2 =>
        simp only [Res.bind, h2] at h
        cases h
        simp [hr.len _ _ _ _ h2]
      | exc x ω2 => simp only [Res.bind, h2] at h; cases h
      | stuck => simp only [Res.bind, h2] at h; cases h
    | exc x ω2 => rw [h1] at h; cases h
    | stuck => rw [h1] at h; cases h
end

/-! ### operations on two values, on one, calls on values: nothing but new things -/
def Op2 (K : PySem.W.Frag) (r : R2) (f : Vl → Vl → Option Vl) : Prop := ∀ (dr : Option Addr) (H : Hp) (a b : Vl) (x y : V) (c : Vl), f a b = some c → RV K dr H a x → RV K dr H b y → ∀ Q : VK, (∀ v H', Same H H' → RV K dr H' c v → Q v H') → r x y H Q
/-- a comparison -/
def Op2B (K : PySem.W.Frag) (r : R2) (f : Vl → Vl → Option Bool) : Prop := ∀ (dr : Option Addr) (H : Hp) (a b : Vl) (x y : V) (k : Bool), f a b = some k → RV K dr H a x → RV K dr H b y → ∀ Q : VK, (∀ H', Same H H' → Q (.bl k) H') → r x y H Q
def bV (f : Vl → Vl → Option Bool) : Vl → Vl → Option Vl := fun a b => (f a b).map fun k => .d (.bool k)
theorem op2_b {K : PySem.W.Frag} {r : R2} {f : Vl → Vl → Option Bool} (h : Op2B K r f) : Op2 K r (bV f) := fun dr H a b x y c e ra rb Q q => by
  unfold bV at e
  cases h1 : f a b with
  | none => rw [h1] at e; cases e
  | some k =>
    rw [h1] at e
    cases e
    exact h dr H a b x y k h1 ra rb Q fun H' e' => q _ H' e' (.bl k)
def Op1 (K : PySem.W.Frag) (r : V → Hp → VK → Prop) (f : Vl → Option Vl) : Prop := ∀ (dr : Option Addr) (H : Hp) (a : Vl) (x : V) (c : Vl), f a = some c → RV K dr H a x → ∀ Q : VK, (∀ v H', Same H H' → RV K dr H' c v → Q v H') → r x H Q
def Cl (K : PySem.W.Frag) (r : List V → Hp → VK → Prop) (f : List Vl → Option Vl) : Prop := ∀ (dr : Option Addr) (H : Hp) (us : List Vl) (xs : List V) (c : Vl), f us = some c → Paired (RV K dr H) us xs → ∀ Q : VK, (∀ v H', Same H H' → RV K dr H' c v → Q v H') → r xs H Q
def lift {α : Type} (o : Option α) (ω : Dr) : Res Dr α := match o with
  | some a => .ok a ω
  | none => .stuck
def mOp2 (f : Vl → Vl → Option Vl) (ma mb : Me) : Me := fun ρ ω => (ma ρ ω).bind fun a ω => (mb ρ ω).bind fun b ω => lift (f a b) ω
def mOp1 (f : Vl → Option Vl) (ma : Me) : Me := fun ρ ω => (ma ρ ω).bind fun a ω => lift (f a) ω
def mCl (f : List Vl → Option Vl) (ms : Mes) : Me := fun ρ ω => (ms ρ ω).bind fun a ω => lift (f a) ω
section
variable {X : Cx} {W : WX} {a b c : Expr} {es : List Expr} {ma mb mc : Me} {ms : Mes} {pos : Pos}
theorem rd_op2 {r : R2} {f : Vl → Vl → Option Vl} (hs : Op2 X.K r f) : ∀ σ H Q, rdE X.K X.mg W (mOp2 f ma mb) σ H Q → tOp r (rdE X.K X.mg W ma) (rdE X.K X.mg W mb) σ H Q := fun σ H Q ⟨dr, H0, ρ, ω, g, p⟩ => by
  refine seqE (Q := Q) g p fun u ω1 v H1 e1 g1 r1 p1 => ?_
  refine seqE (Q := Q) g1 p1 fun u2 ω2 v2 H2 e2 g2 r2 p2 => ?_
  cases h : f u u2 with
  | none => rw [h] at p2; exact False.elim p2
  | some w =>
    rw [h] at p2
    exact hs dr H2 u u2 v v2 w h (r1.mono e2 (e2.fz g1.dw)) r2 Q fun v' H' e' r' => p2 v' H' (.of e') (g2.same e') r'
theorem me_op {op : Operator} {r : R2} {f : Vl → Vl → Option Vl} (ho : OpR X (binaryOp op) r) (hs : Op2 X.K r f) (ha : ME X W a ma) (hb : ME X W b mb) : ME X W (.BinOp a op b pos) (mOp2 f ma mb) := pe_imp (pe_op ho ha hb) (rd_op2 hs)
theorem me_cmp {op : CmpOp} {r : R2} {f : Vl → Vl → Option Bool} (ho : OpR X (compareOp op) r) (hs : Op2B X.K r f) (ha : ME X W a ma) (hb : ME X W b mb) (hm : behindInMarks op b = false) : ME X W (.Compare a [op] [b] pos) (mOp2 (bV f) ma mb) := pe_imp (pe_cmpR ho ha hb hm) (rd_op2 (op2_b hs))
theorem me_un {op : UnaryOp} {r : V → Hp → VK → Prop} {f : Vl → Option Vl} (ho : UnR X (unaryOp op) r) (hs : Op1 X.K r f) (ha : ME X W a ma) : ME X W (.UnaryOp op a pos) (mOp1 f ma) := pe_imp (pe_un ho ha) fun σ H Q ⟨dr, H0, ρ, ω, g, p⟩ => by
  refine seqE (Q := Q) g p fun u ω1 v H1 e1 g1 r1 p1 => ?_
  cases h : f u with
  | none => rw [h] at p1; exact False.elim p1
  | some w => rw [h] at p1; exact hs dr H1 u v w h r1 Q fun v' H' e' r' => p1 v' H' (.of e') (g1.same e') r'
theorem me_ix {r : R2} {f : Vl → Vl → Option Vl} (ho : IxR X r) (hs : Op2 X.K r f) (ha : ME X W a ma) (hb : ME X W b mb) (hx : PlainIx b) : ME X W (.Subscript a b pos) (mOp2 f ma mb) := pe_imp (pe_ix ho ha hb hx) (rd_op2 hs)
theorem rd_cl {r : List V → Hp → VK → Prop} {f : List Vl → Option Vl} (hs : Cl X.K r f) : ∀ σ H Q, rdE X.K X.mg W (mCl f ms) σ H Q → tCB r (rdA X.K X.mg W ms) σ H Q := fun σ H Q ⟨dr, H0, ρ, ω, g, p⟩ => by
  refine ⟨dr, H0, ρ, ω, g, ?_⟩
  unfold mCl at p
  cases h : ms ρ ω with
  | ok us ω1 =>
    rw [h] at p
    intro vs H1 e1 g1 r1
    have p : PostE X.K X.mg W dr H0 ρ σ H Q (lift (f us) ω1) := p
    cases h2 : f us with
    | none => rw [h2] at p; exact False.elim p
    | some w => rw [h2] at p; exact hs dr H1 us vs w h2 r1 Q fun v' H' e' r' => p v' H' (e1.trans (.of e')) (g1.same e') r'
  | exc x ω' => rw [h] at p; exact p
  | stuck => rw [h] at p; exact p
theorem me_callB {r : List V → Hp → VK → Prop} {f : List Vl → Option Vl} {x : Str} {id : String} {p : Pos} {e : Expr} (hc : CallR X (.builtin id) r) (hs : Cl X.K r f) (hg : Gl X x) (hm : X.mg x = none) (hv : bootBuiltins x = some (.builtin id)) (ha : MA X W (e :: es) ms) (hn : x ≠ "__name__" := by decide) (hdb : (x == ("__debug__" : Str)) = false := by decide)
    (he : starEach (e :: es) X.env = (false, eval e X.env) :: starEach es X.env := by rfl) (hpl : (backTo pos (starEach es X.env)).any (·.1) = false := by rfl) : ME X W (.Call (.Name x p) (e :: es) [] pos) (mCl f ms) := pe_imp (pe_callB hc hg hm hv ha.run hn hdb he hpl) (rd_cl hs)
theorem me_callTy {r : List V → Hp → VK → Prop} {f : List Vl → Option Vl} {x : Str} {T : String} {p : Pos} {e : Expr} (hc : CallR X (.type T) r) (hs : Cl X.K r f) (hg : Gl X x) (hm : X.mg x = none) (hv : bootBuiltins x = some (.type T)) (ha : MA X W (e :: es) ms) (hn : x ≠ "__name__" := by decide) (hdb : (x == ("__debug__" : Str)) = false := by decide)
    (he : starEach (e :: es) X.env = (false, eval e X.env) :: starEach es X.env := by rfl) (hpl : (backTo pos (starEach es X.env)).any (·.1) = false := by rfl) : ME X W (.Call (.Name x p) (e :: es) [] pos) (mCl f ms) := pe_imp (pe_callTy hc hg hm hv ha.run hn hdb he hpl) (rd_cl hs)
end
end FL
end
-- FL3
section
set_option maxRecDepth 100000
set_option maxHeartbeats 2000000
/-! FL3: tests, and, or, not, conditional expressions; displays, slices -/
namespace FL
open PySem PySem.Spec L2
theorem sz100 {n : Nat} (h : n ≤ 100000) : n ≤ sizeLine := Nat.le_trans h (by decide)
def tru : Vl → Option Bool
  | .d .none => some false
  | .d (.bool b) => some b
  | .d (.int i) => some (i != 0)
  | .d (.str x) => if x.length ≤ 100000 then some ((x.length : Int) != 0) else none
  | .d (.list l) => some (!l.isEmpty)
  | .d (.tuple l) => some (!l.isEmpty)
  | .brw l => some (!l.isEmpty)
  | _ => none
theorem rpl_empty {K : PySem.W.Frag} {H : Hp} {l : List PD} {xs : List V} (r : RpL K H l xs) : l.isEmpty = xs.isEmpty := by
  cases r <;> rfl
theorem tru_ok' {K : PySem.W.Frag} {dr : Option Addr} {H : Hp} {u : Vl} {v : V} {b : Bool} (h : tru u = some b) (r : RV K dr H u v) : TruV K v H b := by
  cases u with
  | d d =>
    have r : Rp K H d v := r
    cases r with
    | non => simp [tru] at h; subst h; rfl
    | bl c => simp [tru] at h; subst h; rfl
    | int i => simp [tru] at h; subst h; rfl
    | str x =>
      unfold tru at h
      dsimp only at h
      split at h
      · rename_i hz; cases h; exact ⟨sz100 hz, rfl⟩
      · cases h
    | lst hf hr => cases Option.some.inj h; exact .inl ⟨_, .inl (.inr ⟨_, hf⟩), by rw [rpl_empty hr]⟩
    | tup hf hr => cases Option.some.inj h; exact .inr (.inl ⟨_, SqT.of hf, by rw [rpl_empty hr]⟩)
  | brw l => obtain ⟨a, xs, rfl, n, h1, h2⟩ := r; cases Option.some.inj h; exact .inl ⟨_, h1, by rw [rpl_empty h2]⟩
  | brwD t l => simp [tru] at h
  | draw => simp [tru] at h
def mTru (m : Me) : Mt := fun ρ ω => (m ρ ω).bind fun u ω => lift (tru u) ω
def mCmp (f : Vl → Vl → Option Bool) (ma mb : Me) : Mt := fun ρ ω => (ma ρ ω).bind fun a ω => (mb ρ ω).bind fun b ω => lift (f a b) ω
def mNotT (m : Mt) : Mt := fun ρ ω => (m ρ ω).bind fun b ω => .ok (!b) ω
def mAndT (m n : Mt) : Mt := fun ρ ω => (m ρ ω).bind fun b ω => if b = true then n ρ ω else .ok false ω
def mOrT (m n : Mt) : Mt := fun ρ ω => (m ρ ω).bind fun b ω => if b = true then .ok true ω else n ρ ω
def mOr (m n : Me) : Me := fun ρ ω => (m ρ ω).bind fun u ω => match tru u with | some true => .ok u ω | some false => n ρ ω | none => .stuck
def mAnd (m n : Me) : Me := fun ρ ω => (m ρ ω).bind fun u ω => match tru u with | some false => .ok u ω | some true => n ρ ω | none => .stuck
def mNot (m : Me) : Me := fun ρ ω => (m ρ ω).bind fun u ω => match tru u with | some b => .ok (.d (.bool (!b))) ω | none => .stuck
def mIf (c : Mt) (m n : Me) : Me := fun ρ ω => (c ρ ω).bind fun b ω => if b = true then m ρ ω else n ρ ω
def MW (X : Cx) (W : WX) (e : Expr) (m : Mt) : Prop := PW X e (rdT X.K X.mg W m)
theorem pw_imp {X : Cx} {e : Expr} {t t' : TT} (h : PW X e t) (i : ∀ σ H Q, t' σ H Q → t σ H Q) : PW X e t' := ⟨fun wh pins s σ H Q I q => h.run wh pins s σ H Q I (i σ H Q q)⟩
section
variable {K : PySem.W.Frag} {mg : Str → Option Value} {W : WX} {dr : Option Addr} {H0 H : Hp} {ρ : Rho} {σ : L2.St} {ω : Dr}
/-- an expression's value, then a test's rest -/
theorem seqET {m : Me} {f : Vl → Dr → Res Dr Bool} {Q : Bool → Hp → Prop} {R : VK} (g : Gd K dr H0 ρ σ H ω) (p : PostT K mg W dr H0 ρ σ H Q ((m ρ ω).bind f))
    (k : ∀ u ω' v H', ExD dr H H' → Gd K dr H0 ρ σ H' ω' → RV K dr H' u v → PostT K mg W dr H0 ρ σ H' Q (f u ω') → R v H') : rdE K mg W m σ H R := by
  refine ⟨dr, H0, ρ, ω, g, ?_⟩
  cases h : m ρ ω with
  | ok u ω' =>
    rw [h] at p
    intro v H' e g' r
    refine k u ω' v H' e g' r ?_
    have p' : PostT K mg W dr H0 ρ σ H Q (f u ω') := p
    cases h2 : f u ω' with
    | ok u2 ω2 => rw [h2] at p'; exact fun H2 e2 g2 => p' H2 (e.trans e2) g2
    | exc x ω2 => rw [h2] at p'; exact fun c od H2 e2 g2 r2 => p' c od H2 (e.trans e2) g2 r2
    | stuck => rw [h2] at p'; exact p'
  | exc x ω' => rw [h] at p; exact p
  | stuck => rw [h] at p; exact p
theorem seqTT {m : Mt} {f : Bool → Dr → Res Dr Bool} {Q R : Bool → Hp → Prop} (g : Gd K dr H0 ρ σ H ω) (p : PostT K mg W dr H0 ρ σ H Q ((m ρ ω).bind f))
    (k : ∀ u ω' H', ExD dr H H' → Gd K dr H0 ρ σ H' ω' → PostT K mg W dr H0 ρ σ H' Q (f u ω') → R u H') : rdT K mg W m σ H R := by
  refine ⟨dr, H0, ρ, ω, g, ?_⟩
  cases h : m ρ ω with
  | ok u ω' =>
    rw [h] at p
    intro H' e g'
    refine k u ω' H' e g' ?_
    have p' : PostT K mg W dr H0 ρ σ H Q (f u ω') := p
    cases h2 : f u ω' with
    | ok u2 ω2 => rw [h2] at p'; exact fun H2 e2 g2 => p' H2 (e.trans e2) g2
    | exc x ω2 => rw [h2] at p'; exact fun c od H2 e2 g2 r2 => p' c od H2 (e.trans e2) g2 r2
    | stuck => rw [h2] at p'; exact p'
  | exc x ω' => rw [h] at p; exact p
  | stuck => rw [h] at p; exact p
theorem seqTE {m : Mt} {f : Bool → Dr → Res Dr Vl} {Q : VK} {R : Bool → Hp → Prop} (g : Gd K dr H0 ρ σ H ω) (p : PostE K mg W dr H0 ρ σ H Q ((m ρ ω).bind f))
    (k : ∀ u ω' H', ExD dr H H' → Gd K dr H0 ρ σ H' ω' → PostE K mg W dr H0 ρ σ H' Q (f u ω') → R u H') : rdT K mg W m σ H R := by
  refine ⟨dr, H0, ρ, ω, g, ?_⟩
  cases h : m ρ ω with
  | ok u ω' =>
    rw [h] at p
    intro H' e g'
    refine k u ω' H' e g' ?_
    have p' : PostE K mg W dr H0 ρ σ H Q (f u ω') := p
    cases h2 : f u ω' with
    | ok u2 ω2 => rw [h2] at p'; exact fun v H2 e2 g2 => p' v H2 (e.trans e2) g2
    | exc x ω2 => rw [h2] at p'; exact fun c od H2 e2 g2 r2 => p' c od H2 (e.trans e2) g2 r2
    | stuck => rw [h2] at p'; exact p'
  | exc x ω' => rw [h] at p; exact p
  | stuck => rw [h] at p; exact p
end
section
variable {X : Cx} {W : WX} {a b c : Expr} {rest : List Expr} {es : List Expr} {ma mb : Me} {mc : Mt} {ta tb : Mt} {ms : Mes} {pos : Pos}
/-- a value's truth as a test -/
theorem mt_tru (ha : ME X W a ma) (he : ∀ whole, isTrue a X.env whole = (do let v ← whole; standAt a.pos; holding [v] (truthy v)) := by intro _; rfl) : MT X W a (mTru ma) :=
  pt_imp (pt_truth ha he) fun σ H Q ⟨dr, H0, ρ, ω, g, p⟩ => by
    refine seqET (Q := Q) g p fun u ω1 v H1 e1 g1 r1 p1 => ?_
    cases h : tru u with
    | none => rw [h] at p1; exact False.elim p1
    | some b => rw [h] at p1; exact ⟨b, tru_ok' h r1, p1 H1 (ExD.refl _ _) g1⟩
/-- a comparison as a test -/
theorem mt_cmp {op : CmpOp} {r : R2} {f : Vl → Vl → Option Bool} (ho : OpR X (compareOp op) r) (hs : Op2B X.K r f) (ha : ME X W a ma) (hb : ME X W b mb) (hm : behindInMarks op b = false) : MT X W (.Compare a [op] [b] pos) (mCmp f ma mb) :=
  pt_imp (pt_cmpR ho ha hb hm) fun σ H Q ⟨dr, H0, ρ, ω, g, p⟩ => by
    refine seqET (Q := Q) g p fun u ω1 v H1 e1 g1 r1 p1 => ?_
    refine seqET (Q := Q) g1 p1 fun u2 ω2 v2 H2 e2 g2 r2 p2 => ?_
    cases h : f u u2 with
    | none => rw [h] at p2; exact False.elim p2
    | some k =>
      rw [h] at p2
      exact hs dr H2 u u2 v v2 k h (r1.mono e2 (e2.fz g1.dw)) r2 _ fun H' e' => ⟨k, rfl, p2 H' (.of e') (g2.same e')⟩
theorem mt_not (ha : MT X W a ta) : MT X W (.UnaryOp .Not a pos) (mNotT ta) := pt_imp (pt_not ha) fun σ H Q ⟨dr, H0, ρ, ω, g, p⟩ => by
  refine seqTT (Q := Q) g p fun u ω1 H1 e1 g1 p1 => ?_
  exact p1 H1 (ExD.refl _ _) g1
theorem mw_and1 (ha : MT X W a ta) : MW X W (.BoolOp .And [a] pos) ta := pw_and1 ha
theorem mw_or1 (ha : MT X W a ta) : MW X W (.BoolOp .Or [a] pos) ta := pw_or1 ha
theorem mw_and (ha : MT X W a ta) (hb : MW X W (.BoolOp .And (b :: rest) pos) tb) : MW X W (.BoolOp .And (a :: b :: rest) pos) (mAndT ta tb) := pw_imp (pw_and ha hb) fun σ H Q ⟨dr, H0, ρ, ω, g, p⟩ => by
  refine seqTT (Q := Q) g p fun u ω1 H1 e1 g1 p1 => ?_
  cases u with
  | true => exact ⟨dr, H0, ρ, ω1, g1, p1⟩
  | false => exact p1 H1 (ExD.refl _ _) g1
theorem mw_or (ha : MT X W a ta) (hb : MW X W (.BoolOp .Or (b :: rest) pos) tb) : MW X W (.BoolOp .Or (a :: b :: rest) pos) (mOrT ta tb) := pw_imp (pw_or ha hb) fun σ H Q ⟨dr, H0, ρ, ω, g, p⟩ => by
  refine seqTT (Q := Q) g p fun u ω1 H1 e1 g1 p1 => ?_
  cases u with
  | false => exact ⟨dr, H0, ρ, ω1, g1, p1⟩
  | true => exact p1 H1 (ExD.refl _ _) g1
theorem mt_w (h : MW X W a ta) : MT X W a ta := h.pt
theorem me_one {op} (h : ME X W a ma) : ME X W (.BoolOp op [a] pos) ma := pe_one h
theorem me_and (ha : ME X W a ma) (hb : ME X W (.BoolOp .And (b :: rest) pos) mb) : ME X W (.BoolOp .And (a :: b :: rest) pos) (mAnd ma mb) := pe_imp (pe_andT ha hb) fun σ H Q ⟨dr, H0, ρ, ω, g, p⟩ => by
  refine seqE (Q := Q) g p fun u ω1 v H1 e1 g1 r1 p1 => ?_
  cases h : tru u with
  | none => rw [h] at p1; exact False.elim p1
  | some k =>
    rw [h] at p1
    refine ⟨k, tru_ok' h r1, ?_⟩
    cases k with
    | true => exact ⟨dr, H0, ρ, ω1, g1, p1⟩
    | false => exact p1 v H1 (ExD.refl _ _) g1 r1
theorem me_or (ha : ME X W a ma) (hb : ME X W (.BoolOp .Or (b :: rest) pos) mb) : ME X W (.BoolOp .Or (a :: b :: rest) pos) (mOr ma mb) := pe_imp (pe_orT ha hb) fun σ H Q ⟨dr, H0, ρ, ω, g, p⟩ => by
  refine seqE (Q := Q) g p fun u ω1 v H1 e1 g1 r1 p1 => ?_
  cases h : tru u with
  | none => rw [h] at p1; exact False.elim p1
  | some k =>
    rw [h] at p1
    refine ⟨k, tru_ok' h r1, ?_⟩
    cases k with
    | false => exact ⟨dr, H0, ρ, ω1, g1, p1⟩
    | true => exact p1 v H1 (ExD.refl _ _) g1 r1
theorem me_not (ha : ME X W a ma) : ME X W (.UnaryOp .Not a pos) (mNot ma) := pe_imp (pe_notT ha) fun σ H Q ⟨dr, H0, ρ, ω, g, p⟩ => by
  refine seqE (Q := Q) g p fun u ω1 v H1 e1 g1 r1 p1 => ?_
  cases h : tru u with
  | none => rw [h] at p1; exact False.elim p1
  | some k => rw [h] at p1; exact ⟨k, tru_ok' h r1, p1 _ H1 (ExD.refl _ _) g1 (.bl _)⟩
theorem me_if (hc : MT X W c mc) (ha : ME X W a ma) (hb : ME X W b mb) : ME X W (.IfExp c a b pos) (mIf mc ma mb) := pe_imp (pe_ifExp hc ha hb) fun σ H Q ⟨dr, H0, ρ, ω, g, p⟩ => by
  refine seqTE (Q := Q) g p fun u ω1 H1 e1 g1 p1 => ?_
  cases u with
  | true => exact ⟨dr, H0, ρ, ω1, g1, p1⟩
  | false => exact ⟨dr, H0, ρ, ω1, g1, p1⟩


end
/-! ### displays, slices, new lists -/
def pds : List Vl → Option (List PD)
  | [] => some []
  | .d d :: r => (pds r).map (d :: ·)
  | _ => none
theorem pds_rp {K : PySem.W.Frag} {dr : Option Addr} {H : Hp} : ∀ {us : List Vl} {vs : List V} {l : List PD}, pds us = some l → Paired (RV K dr H) us vs → RpL K H l vs
  | [], _, _, h, .nil => by cases h; exact .nil
  | .d d :: r, _, l, h, .cons a b => by
    unfold pds at h
    cases q : pds r with
    | none => rw [q] at h; cases h
    | some m => rw [q] at h; cases h; exact .cons a (pds_rp q b)
  | .brw _ :: _, _, _, h, _ => by cases h
  | .brwD _ _ :: _, _, _, h, _ => by cases h
  | .draw :: _, _, _, h, _ => by cases h
def mTup (ms : Mes) : Me := fun ρ ω => (ms ρ ω).bind fun us ω => match pds us with | some l => if l.length ≤ 100000 then .ok (.d (.tuple l)) ω else .stuck | none => .stuck
/-- a meaning that gives a new list, not locked yet -/
abbrev Mn := Rho → Dr → Res Dr (List PD)
def PostN (K : PySem.W.Frag) (mg : Str → Option Value) (W : WX) (dr : Option Addr) (H0 : Hp) (ρ : Rho) (σ : L2.St) (H : Hp) (Q : VK) : Res Dr (List PD) → Prop
  | .ok l ω => ∀ p xs H', H p = none → H' p = some (.lst xs) → dr ≠ some p → ExD dr H H' → Gd K dr H0 ρ σ H' ω → RpL K H' l xs → Q (.ref p) H'
  | .exc x ω => ∀ cls od H', ExD dr H H' → Gd K dr H0 ρ σ H' ω → ExcRp mg H' x cls od → W cls od σ H'
  | .stuck => False
def rdN (K : PySem.W.Frag) (mg : Str → Option Value) (W : WX) (m : Mn) : TE := fun σ H Q => ∃ dr H0 ρ ω, Gd K dr H0 ρ σ H ω ∧ PostN K mg W dr H0 ρ σ H Q (m ρ ω)
def MN (X : Cx) (W : WX) (e : Expr) (m : Mn) : Prop := PE X e (rdN X.K X.mg W m)
def tFz (t : TE) : TE := fun σ H Q => t σ H fun v H1 => ∃ p xs, v = .ref p ∧ H1 p = some (.lst xs) ∧ ∀ o, Q v (upd H1 p (.frz o (.lst xs)))
theorem pe_fz {X : Cx} {e : Expr} {t : TE} (h : PE X e t) : PE X e (tFz t) := ⟨fun pins s σ H Q I q => by
  refine thn (h.run pins s σ H _ I q) fun v s1 ⟨x, H1, I1, r1, p, xs, e1, e2, q1⟩ => ?_
  obtain ⟨o, I2⟩ := I1.lock e2 trivial
  exact ⟨x, _, I2, r1, q1 o⟩⟩
theorem dr_ne {dr : Option Addr} {H : Hp} {ω : Dr} (w : DrAt dr H ω) {p : Addr} (h : H p = none) : dr ≠ some p := fun z => by
  obtain ⟨_, _, q, _⟩ := w p z
  rw [h] at q; cases q
/-- a new list is locked -/
theorem frz_new {K : PySem.W.Frag} {dr : Option Addr} {H0 H H' : Hp} {ρ : Rho} {σ : L2.St} {ω ω' : Dr} {p : Addr} {xs : List V} {l : List PD} (o : Obj) (g : Gd K dr H0 ρ σ H ω) (hp : H p = none) (h1 : H' p = some (.lst xs)) (n : dr ≠ some p) (e : ExD dr H H') (g' : Gd K dr H0 ρ σ H' ω')
    (r : RpL K H' l xs) : ExD dr H (upd H' p (.frz o (.lst xs))) ∧ Gd K dr H0 ρ σ (upd H' p (.frz o (.lst xs))) ω' ∧ Rp K (upd H' p (.frz o (.lst xs))) (.list l) (.ref p) := by
  have z : Fz H' (upd H' p (.frz o (.lst xs))) := ⟨fun b ys q => by rw [upd_ne (ne_of q h1 (fun z => nomatch z))]; exact q, fun b u ys q => by rw [upd_ne (ne_of q h1 (fun z => nomatch z))]; exact q⟩
  have e2 : ExD dr H (upd H' p (.frz o (.lst xs))) := fun b u nb q => by rw [upd_ne (ne_of_none q hp)]; exact e b u nb q
  refine ⟨e2, g.grow e2 fun a q => ?_, .lst upd_same (r.mono z)⟩
  obtain ⟨L, oL, h2, h3, rest⟩ := g'.dw a q
  have na : a ≠ p := fun w => n (by rw [q, w])
  exact ⟨L, oL, by rw [upd_ne na]; exact h2, by rw [upd_ne (ne_of h3 h1 (fun z => nomatch z))]; exact h3, rest⟩
def mLk (m : Mn) : Me := fun ρ ω => (m ρ ω).bind fun l ω => .ok (.d (.list l)) ω
def mLst (ms : Mes) : Mn := fun ρ ω => (ms ρ ω).bind fun us ω => match pds us with | some l => if l.length ≤ 100000 then .ok l ω else .stuck | none => .stuck
section
variable {X : Cx} {W : WX} {a b c : Expr} {es : List Expr} {ma mb : Me} {mn : Mn} {ms : Mes} {pos : Pos}
theorem me_new (h : MN X W a mn) : ME X W a (mLk mn) := pe_imp (pe_fz h) fun σ H Q ⟨dr, H0, ρ, ω, g, p⟩ => by
  refine ⟨dr, H0, ρ, ω, g, ?_⟩
  unfold mLk at p
  cases h : mn ρ ω with
  | ok l ω1 =>
    rw [h] at p
    intro q xs H1 hq h1 n e1 g1 r1
    refine ⟨q, xs, rfl, h1, fun o => ?_⟩
    obtain ⟨k1, k2, k3⟩ := frz_new o g hq h1 n e1 g1 r1
    exact p _ _ k1 k2 k3
  | exc x ω' => rw [h] at p; exact p
  | stuck => rw [h] at p; exact p
theorem me_tup {k : Nat} (ha : MA X W es ms) : ME X W (.Tuple es k pos) (mTup ms) := pe_imp (pe_tup ha.run) fun σ H Q ⟨dr, H0, ρ, ω, g, p⟩ => by
  refine ⟨dr, H0, ρ, ω, g, ?_⟩
  unfold mTup at p
  cases h : ms ρ ω with
  | ok us ω1 =>
    rw [h] at p
    intro vs H1 e1 g1 r1
    cases h2 : pds us with
    | none => simp only [Res.bind, h2] at p; exact False.elim p
    | some l =>
      simp only [Res.bind, h2] at p
      have rl := pds_rp h2 r1
      split at p
      · rename_i hz
        refine ⟨by rw [← rl.length]; exact sz100 hz, fun q hq => ?_⟩
        have s : Same H1 (upd H1 q (.tup vs)) := fun b o e => by rw [upd_ne (ne_of_none e hq)]; exact e
        exact p _ _ (e1.trans (.of s)) (g1.same s) (.tup upd_same (rl.mono (.of s)))
      · exact False.elim p
  | exc x ω' => rw [h] at p; exact p
  | stuck => rw [h] at p; exact p
theorem mn_lst (ha : MA X W es ms) : MN X W (.List es pos) (mLst ms) := pe_imp (pe_lst ha.run) fun σ H Q ⟨dr, H0, ρ, ω, g, p⟩ => by
  refine ⟨dr, H0, ρ, ω, g, ?_⟩
  unfold mLst at p
  cases h : ms ρ ω with
  | ok us ω1 =>
    rw [h] at p
    intro vs H1 e1 g1 r1
    cases h2 : pds us with
    | none => simp only [Res.bind, h2] at p; exact False.elim p
    | some l =>
      simp only [Res.bind, h2] at p
      have rl := pds_rp h2 r1
      split at p
      · rename_i hz
        refine ⟨by rw [← rl.length]; exact sz100 hz, fun q hq => ?_⟩
        have s : Same H1 (upd H1 q (.lst vs)) := fun b o e => by rw [upd_ne (ne_of_none e hq)]; exact e
        refine p q vs _ ?_ upd_same (dr_ne g1.dw hq) (e1.trans (.of s)) (g1.same s) (rl.mono (.of s))
        cases hh : H q with
        | none => rfl
        | some o =>
          by_cases hd : dr = some q
          · obtain ⟨_, _, w, _⟩ := g1.dw q hd
            rw [hq] at w; cases w
          · rw [e1 q o hd hh] at hq; cases hq
      · exact False.elim p
  | exc x ω' => rw [h] at p; exact p
  | stuck => rw [h] at p; exact p
end
end FL
end
-- FL4
section
set_option maxRecDepth 100000
set_option maxHeartbeats 2000000
/-! FL4: what operators and built-in functions do on values -/
namespace FL
open PySem PySem.Spec L2
/-! ### readers -/
def intOf : Vl → Option Int
  | .d (.int i) => some i
  | _ => none
def strOf : Vl → Option Str
  | .d (.str x) => some x
  | _ => none
def boolOf : Vl → Option Bool
  | .d (.bool b) => some b
  | _ => none
/-- a list's items -/
def lstOf : Vl → Option (List PD)
  | .d (.list l) => some l
  | .brw l => some l
  | _ => none
def tupOf : Vl → Option (List PD)
  | .d (.tuple l) => some l
  | _ => none
def seqOf : Vl → Option (List PD)
  | .d (.list l) => some l
  | .brw l => some l
  | .d (.tuple l) => some l
  | _ => none
def datOf : Vl → Option PD
  | .d d => some d
  | .brw l => some (.list l)
  | _ => none
section
variable {K : PySem.W.Frag} {dr : Option Addr} {H : Hp} {u : Vl} {v : V}
theorem int_rv {i : Int} (h : intOf u = some i) (r : RV K dr H u v) : v = .int i := by
  unfold intOf at h
  split at h
  · cases h; cases r; rfl
  · cases h
theorem str_rv {i : Str} (h : strOf u = some i) (r : RV K dr H u v) : v = .str i := by
  unfold strOf at h
  split at h
  · cases h; cases r; rfl
  · cases h
theorem bool_rv {i : Bool} (h : boolOf u = some i) (r : RV K dr H u v) : v = .bl i := by
  unfold boolOf at h
  split at h
  · cases h; cases r; rfl
  · cases h
theorem lst_rv {l : List PD} (h : lstOf u = some l) (r : RV K dr H u v) : ∃ a xs, v = .ref a ∧ SqL K H a xs ∧ RpL K H l xs := by
  unfold lstOf at h
  split at h
  · cases h
    cases r with
    | lst h1 h2 => exact ⟨_, _, rfl, .inl (.inr ⟨_, h1⟩), h2⟩
  · cases h
    obtain ⟨a, xs, e, _, h1, h2⟩ := r
    exact ⟨a, xs, e, h1, h2⟩
  · cases h
theorem tup_rv {l : List PD} (h : tupOf u = some l) (r : RV K dr H u v) : ∃ a xs, v = .ref a ∧ H a = some (.tup xs) ∧ RpL K H l xs := by
  unfold tupOf at h
  split at h
  · cases h
    cases r with
    | tup h1 h2 => exact ⟨_, _, rfl, h1, h2⟩
  · cases h
theorem seq_rv {l : List PD} (h : seqOf u = some l) (r : RV K dr H u v) : ∃ a xs, v = .ref a ∧ (SqL K H a xs ∨ H a = some (.tup xs)) ∧ RpL K H l xs := by
  unfold seqOf at h
  split at h
  · obtain ⟨a, xs, e, h1, h2⟩ := lst_rv (l := l) (by exact h) r
    exact ⟨a, xs, e, .inl h1, h2⟩
  · obtain ⟨a, xs, e, h1, h2⟩ := lst_rv (l := l) (by exact h) r
    exact ⟨a, xs, e, .inl h1, h2⟩
  · obtain ⟨a, xs, e, h1, h2⟩ := tup_rv (l := l) (by exact h) r
    exact ⟨a, xs, e, .inr h1, h2⟩
  · cases h
theorem dat_rv {d : PD} (h : datOf u = some d) (r : RV K dr H u v) : Dp K H v d := by
  unfold datOf at h
  split at h
  · cases h; exact Rp.dp r
  · cases h
    obtain ⟨a, xs, rfl, _, h1, h2⟩ := r
    exact .lst h1 (RpL.dp h2)
  · cases h
end
/-! ### operators -/
def fInt2 (C : Int → Int → Bool) (g : Int → Int → Int) : Vl → Vl → Option Vl
  | .d (.int i), .d (.int j) => if C i j = true then some (.d (.int (g i j))) else none
  | _, _ => none
theorem o2_int {K : PySem.W.Frag} {P : Int → Int → Prop} {C : Int → Int → Bool} {g : Int → Int → Int} (hC : ∀ i j, C i j = true → P i j) : Op2 K (rI P fun i j => .int (g i j)) (fInt2 C g) := fun dr H a b x y c h ra rb Q q => by
  unfold fInt2 at h
  split at h
  · split at h
    · rename_i i j hc
      cases h; cases ra; cases rb
      exact ⟨i, j, rfl, rfl, hC i j hc, q _ H (Same.refl H) (.int _)⟩
    · cases h
  · cases h
theorem o2_int0 {K : PySem.W.Frag} {g : Int → Int → Int} : Op2 K (rI0 fun i j => .int (g i j)) (fInt2 (fun _ _ => true) g) := fun dr H a b x y c h ra rb Q q => by
  unfold fInt2 at h
  split at h
  · rename_i i j
    rw [if_pos rfl] at h
    cases h; cases ra; cases rb
    exact ⟨i, j, rfl, rfl, q _ H (Same.refl H) (.int _)⟩
  · cases h
def cMul (i j : Int) : Bool := decide (-(2 ^ 64) < i ∧ i < 2 ^ 64) || decide (-(2 ^ 64) < j ∧ j < 2 ^ 64)
theorem cMul_ok (i j : Int) (h : cMul i j = true) : CMul i j := by
  unfold cMul at h
  rcases Bool.or_eq_true_iff.mp h with h | h
  · exact .inl (of_decide_eq_true h)
  · exact .inr (of_decide_eq_true h)
def cDiv (_ j : Int) : Bool := decide (0 < j ∧ j < 1073741824)
theorem cDiv_ok (i j : Int) (h : cDiv i j = true) : CDiv i j := by
  unfold cDiv at h
  show 0 < j ∧ j < 1073741824
  exact of_decide_eq_true h
def cMod (_ j : Int) : Bool := decide (0 < j)
theorem cMod_ok (i j : Int) (h : cMod i j = true) : 0 < j := of_decide_eq_true h
/-- + : ints, texts, tuples -/
def fAdd : Vl → Vl → Option Vl
  | .d (.int i), .d (.int j) => some (.d (.int (i + j)))
  | .d (.str i), .d (.str j) => if i.length + j.length ≤ 100000 then some (.d (.str (i ++ j))) else none
  | .d (.tuple l), .d (.tuple m) => if l.length + m.length ≤ 100000 then some (.d (.tuple (l ++ m))) else none
  | _, _ => none
def rAdd (K : PySem.W.Frag) : R2 := fun x y H Q => (rI0 fun i j => .int (i + j)) x y H Q ∨ (∃ i j, x = .str i ∧ y = .str j ∧ i.length + j.length ≤ sizeLine ∧ Q (.str (i ++ j)) H) ∨ rCatA K x y H Q
theorem op_rAdd {X : Cx} : OpR X (binaryOp .Add) (rAdd X.K) := op_add.or (op_add_str.or op_catA)
theorem o2_add {K : PySem.W.Frag} : Op2 K (rAdd K) fAdd := fun dr H a b x y c h ra rb Q q => by
  unfold fAdd at h
  split at h
  · rename_i i j
    cases h; cases ra; cases rb
    exact .inl ⟨i, j, rfl, rfl, q _ H (Same.refl H) (.int _)⟩
  · rename_i i j
    split at h
    · rename_i hz
      cases h; cases ra; cases rb
      exact .inr (.inl ⟨i, j, rfl, rfl, sz100 hz, q _ H (Same.refl H) (.str _)⟩)
    · cases h
  · rename_i l m
    split at h
    · rename_i hz
      cases h
      cases ra with
      | tup h1 r1 =>
      cases rb with
      | tup h2 r2 =>
      rename_i a' xs b' ys
      refine .inr (.inr ⟨_, _, _, _, rfl, rfl, SqT.of h1, SqT.of h2, by rw [← r1.length, ← r2.length]; exact sz100 hz, fun z => ?_, fun _ z => ?_, fun _ _ p hp => ?_⟩)
      · subst z; cases r1; exact q _ H (Same.refl H) (.tup h2 r2)
      · subst z; cases r2; rw [List.append_nil] at q; exact q _ H (Same.refl H) (.tup h1 r1)
      · have s : Same H (upd H p (.tup (xs ++ ys))) := fun b o e => by rw [upd_ne (ne_of_none e hp)]; exact e
        exact q _ _ s (.tup upd_same ((r1.mono (.of s)).append (r2.mono (.of s))))
    · cases h
  · cases h
def fNeg : Vl → Option Vl
  | .d (.int i) => some (.d (.int (-i)))
  | _ => none
theorem o1_neg {K : PySem.W.Frag} : Op1 K (rU fun i => .int (-i)) fNeg := fun dr H a x c h ra Q q => by
  unfold fNeg at h
  split at h
  · cases h; cases ra; exact ⟨_, rfl, q _ H (Same.refl H) (.int _)⟩
  · cases h
/-! ### comparisons -/
def fCmp (g : Int → Int → Bool) : Vl → Vl → Option Bool
  | .d (.int i), .d (.int j) => some (g i j)
  | _, _ => none
theorem o2_cmp {K : PySem.W.Frag} {g : Int → Int → Bool} : Op2B K (rI0 fun i j => .bl (g i j)) (fCmp g) := fun dr H a b x y c h ra rb Q q => by
  unfold fCmp at h
  split at h
  · rename_i i j
    cases h; cases ra; cases rb
    exact ⟨i, j, rfl, rfl, q H (Same.refl H)⟩
  · cases h
def fEq (neg : Bool) (a b : Vl) : Option Bool := match datOf a, datOf b with
  | some d, some e => if SeqAt.shaped d = true ∧ SeqAt.shaped e = true then some (if neg = true then !PyData.eqv d e else PyData.eqv d e) else none
  | _, _ => none
theorem o2_eq {K : PySem.W.Frag} : Op2B K (rEqD K) (fEq false) := fun dr H a b x y c h ra rb Q q => by
  unfold fEq at h
  split at h
  · rename_i d e h1 h2
    split at h
    · rename_i hs
      cases h
      exact ⟨d, e, dat_rv h1 ra, dat_rv h2 rb, hs.1, hs.2, q H (Same.refl H)⟩
    · cases h
  · cases h
theorem o2_ne {K : PySem.W.Frag} : Op2B K (rNeD K) (fEq true) := fun dr H a b x y c h ra rb Q q => by
  unfold fEq at h
  split at h
  · rename_i d e h1 h2
    split at h
    · rename_i hs
      cases h
      exact ⟨d, e, dat_rv h1 ra, dat_rv h2 rb, hs.1, hs.2, q H (Same.refl H)⟩
    · cases h
  · cases h
def isNon : Vl → Bool
  | .d .none => true
  | _ => false
def fIs (neg : Bool) (a b : Vl) : Option Bool := match b with
  | .d .none => some (if neg = true then !isNon a else isNon a)
  | _ => none
theorem isNon_rv {K : PySem.W.Frag} {dr : Option Addr} {H : Hp} {u : Vl} {v : V} (r : RV K dr H u v) : decide (v = .non) = isNon u := by
  cases u with
  | d d =>
    have r : Rp K H d v := r
    cases r <;> rfl
  | brw l => obtain ⟨a, xs, rfl, _⟩ := r; rfl
  | brwD t l => obtain ⟨a, rfl, _⟩ := r; rfl
  | draw => obtain ⟨a, _, rfl⟩ := r; rfl
theorem o2_is {K : PySem.W.Frag} : Op2B K (fun x y H Q => y = .non ∧ Q (.bl (decide (x = .non))) H) (fIs false) := fun dr H a b x y c h ra rb Q q => by
  unfold fIs at h
  split at h
  · cases h; cases rb
    exact ⟨rfl, by rw [isNon_rv ra]; exact q H (Same.refl H)⟩
  · cases h
theorem o2_isnot {K : PySem.W.Frag} : Op2B K (fun x y H Q => y = .non ∧ Q (.bl (!decide (x = .non))) H) (fIs true) := fun dr H a b x y c h ra rb Q q => by
  unfold fIs at h
  split at h
  · cases h; cases rb
    exact ⟨rfl, by rw [isNon_rv ra]; exact q H (Same.refl H)⟩
  · cases h
/-! ### subscripts -/
def fIx : Vl → Vl → Option Vl
  | .d (.str z), .d (.int i) => if z.length ≤ 100000 then (atI z.cps.toList i).map fun c => .d (.str ⟨#[c]⟩) else none
  | u, .d (.int i) => match seqOf u with
    | some l => (atI l i).map Vl.d
    | none => none
  | _, _ => none
theorem atI_rp {K : PySem.W.Frag} {H : Hp} {l : List PD} {xs : List V} {i : Int} {d : PD} (r : RpL K H l xs) (h : atI l i = some d) : ∃ v, atI xs i = some v ∧ Rp K H d v := by
  unfold atI at h ⊢
  rw [r.length] at h
  cases q : ixN xs.length i with
  | none => rw [q] at h; cases h
  | some j => rw [q] at h; exact r.get h
theorem o2_ix {K : PySem.W.Frag} : Op2 K (rIx K) fIx := fun dr H a b x y c h ra rb Q q => by
  unfold fIx at h
  split at h
  · rename_i z i
    split at h
    · rename_i hz
      cases hh : atI z.cps.toList i with
      | none => rw [hh] at h; cases h
      | some k =>
        rw [hh] at h
        cases h; cases ra; cases rb
        exact .inr (.inr ⟨z, i, k, rfl, rfl, sz100 hz, hh, q _ H (Same.refl H) (.str _)⟩)
    · cases h
  · rename_i i _
    cases rb
    split at h
    · rename_i l hl
      cases hh : atI l i with
      | none => rw [hh] at h; cases h
      | some d =>
        rw [hh] at h
        cases h
        obtain ⟨p, xs, rfl, h1, r⟩ := seq_rv hl ra
        obtain ⟨v, e, rv⟩ := atI_rp r hh
        rcases h1 with h1 | h1
        · exact .inl ⟨p, xs, i, v, rfl, rfl, h1, e, q _ H (Same.refl H) rv⟩
        · exact .inr (.inl ⟨p, xs, i, v, rfl, rfl, SqT.of h1, e, q _ H (Same.refl H) rv⟩)
    · cases h
  · cases h
/-! ### built-in functions -/
def fLen : List Vl → Option Vl
  | [.d (.str z)] => if z.length ≤ 100000 then some (.d (.int z.length)) else none
  | [u] => (seqOf u).map fun l => .d (.int l.length)
  | _ => none
def rLen' (K : PySem.W.Frag) : List V → Hp → VK → Prop := fun xs H Q => (∃ p ys, xs = [.ref p] ∧ (SqL K H p ys ∨ SqT K H p ys) ∧ Q (.int ys.length) H) ∨ ∃ z, xs = [.str z] ∧ z.length ≤ sizeLine ∧ Q (.int z.length) H
theorem cr_len {X : Cx} : CallR X (.builtin "len") (rLen' X.K) := call_len_seq.or call_len_str
theorem cl_len {K : PySem.W.Frag} : Cl K (rLen' K) fLen := fun dr H us xs c h r Q q => by
  unfold fLen at h
  split at h
  · split at h
    · rename_i z hz
      cases h
      cases r with
      | cons r rr => cases rr; cases r; exact .inr ⟨z, rfl, sz100 hz, q _ H (Same.refl H) (.int _)⟩
    · cases h
  · rename_i u _
    cases hl : seqOf u with
    | none => rw [hl] at h; cases h
    | some l =>
      rw [hl] at h
      cases h
      cases r with
      | cons r rr =>
        cases rr
        obtain ⟨p, ys, rfl, h1, r⟩ := seq_rv hl r
        refine .inl ⟨p, ys, rfl, h1.imp id SqT.of, ?_⟩
        rw [← r.length]
        exact q _ H (Same.refl H) (.int _)
  · cases h
def fAbs : List Vl → Option Vl
  | [.d (.int i)] => some (.d (.int (if i < 0 then -i else i)))
  | _ => none
theorem cl_abs {K : PySem.W.Frag} : Cl K (fun xs H Q => ∃ i, xs = [.int i] ∧ Q (.int (if i < 0 then -i else i)) H) fAbs := fun dr H us xs c h r Q q => by
  unfold fAbs at h
  split at h
  · cases h
    cases r with
    | cons r rr => cases rr; cases r; exact ⟨_, rfl, q _ H (Same.refl H) (.int _)⟩
  · cases h
def fInt : List Vl → Option Vl
  | [.d (.int i)] => some (.d (.int i))
  | [.d (.str x)] => if x.length ≤ 640 then (PySem.intText? x).map fun n => .d (.int n) else none
  | _ => none
def rInt' : List V → Hp → VK → Prop := fun xs H Q => ((∃ i, xs = [.int i] ∧ Q (.int i) H) ∨ ∃ k, xs = [.bl k] ∧ Q (.int (if k then 1 else 0)) H) ∨ ∃ a n, xs = [.str a] ∧ PySem.intText? a = some n ∧ a.length ≤ 640 ∧ Q (.int n) H
theorem cr_int {X : Cx} : CallR X (.type "int") rInt' := call_int1.or call_int_str
theorem cl_int {K : PySem.W.Frag} : Cl K rInt' fInt := fun dr H us xs c h r Q q => by
  unfold fInt at h
  split at h
  · cases h
    cases r with
    | cons r rr => cases rr; cases r; exact .inl (.inl ⟨_, rfl, q _ H (Same.refl H) (.int _)⟩)
  · rename_i x
    split at h
    · rename_i hz
      cases hh : PySem.intText? x with
      | none => rw [hh] at h; cases h
      | some n =>
        rw [hh] at h
        cases h
        cases r with
        | cons r rr => cases rr; cases r; exact .inr ⟨x, n, rfl, hh, hz, q _ H (Same.refl H) (.int _)⟩
    · cases h
  · cases h
def fStr : List Vl → Option Vl
  | [.d (.int i)] => if i.natAbs.log2 < 1920 then some (.d (.str (toString i))) else none
  | _ => none
theorem cl_str {K : PySem.W.Frag} : Cl K (fun xs H Q => ∃ i, xs = [.int i] ∧ i.natAbs.log2 < 1920 ∧ Q (.str (toString i)) H) fStr := fun dr H us xs c h r Q q => by
  unfold fStr at h
  split at h
  · split at h
    · rename_i i hz
      cases h
      cases r with
      | cons r rr => cases rr; cases r; exact ⟨i, rfl, hz, q _ H (Same.refl H) (.str _)⟩
    · cases h
  · cases h
/-- all, any of a list of bools -/
def boolsOf : List PD → Option (List Bool)
  | [] => some []
  | .bool b :: r => (boolsOf r).map (b :: ·)
  | _ => none
theorem bools_rp {K : PySem.W.Frag} {H : Hp} : ∀ {l : List PD} {xs : List V} {bs : List Bool}, boolsOf l = some bs → RpL K H l xs → xs = bs.map V.bl
  | [], _, _, h, .nil => by cases h; rfl
  | .bool b :: r, _, bs, h, .cons a t => by
    unfold boolsOf at h
    cases q : boolsOf r with
    | none => rw [q] at h; cases h
    | some cs => rw [q] at h; cases h; cases a; rw [bools_rp q t]; rfl
  | .none :: _, _, _, h, _ => by cases h
  | .int _ :: _, _, _, h, _ => by cases h
  | .str _ :: _, _, _, h, _ => by cases h
  | .list _ :: _, _, _, h, _ => by cases h
  | .tuple _ :: _, _, _, h, _ => by cases h
  | .dict _ :: _, _, _, h, _ => by cases h
def fBs (g : List Bool → Bool) : List Vl → Option Vl
  | [u] => match lstOf u with
    | some l => (boolsOf l).map fun bs => .d (.bool (g bs))
    | none => none
  | _ => none
theorem cl_bs {K : PySem.W.Frag} {g : List Bool → Bool} : Cl K (fun vs H Q => ∃ (a : Addr) (bs : List Bool), vs = [V.ref a] ∧ SqL K H a (bs.map V.bl) ∧ Q (.bl (g bs)) H) (fBs g) := fun dr H us xs c h r Q q => by
  unfold fBs at h
  split at h
  · split at h
    · rename_i u l hl
      cases hb : boolsOf l with
      | none => rw [hb] at h; cases h
      | some bs =>
        rw [hb] at h
        cases h
        cases r with
        | cons r rr =>
          cases rr
          obtain ⟨p, ys, rfl, h1, r⟩ := lst_rv hl r
          rw [bools_rp hb r] at h1
          exact ⟨p, bs, rfl, h1, q _ H (Same.refl H) (.bl _)⟩
    · cases h
  · cases h
theorem cl_all {K : PySem.W.Frag} : Cl K (rAll K) (fBs fun bs => bs.all id) := cl_bs
theorem cl_any {K : PySem.W.Frag} : Cl K (rAny K) (fBs fun bs => bs.any id) := cl_bs
def intsOf : List PD → Option (List Int)
  | [] => some []
  | .int b :: r => (intsOf r).map (b :: ·)
  | _ => none
theorem ints_rp {K : PySem.W.Frag} {H : Hp} : ∀ {l : List PD} {xs : List V} {bs : List Int}, intsOf l = some bs → RpL K H l xs → xs = bs.map V.int
  | [], _, _, h, .nil => by cases h; rfl
  | .int b :: r, _, bs, h, .cons a t => by
    unfold intsOf at h
    cases q : intsOf r with
    | none => rw [q] at h; cases h
    | some cs => rw [q] at h; cases h; cases a; rw [ints_rp q t]; rfl
  | .none :: _, _, _, h, _ => by cases h
  | .bool _ :: _, _, _, h, _ => by cases h
  | .str _ :: _, _, _, h, _ => by cases h
  | .list _ :: _, _, _, h, _ => by cases h
  | .tuple _ :: _, _, _, h, _ => by cases h
  | .dict _ :: _, _, _, h, _ => by cases h
def fSum : List Vl → Option Vl
  | [u] => match lstOf u with
    | some l => (intsOf l).map fun bs => .d (.int bs.sum)
    | none => none
  | _ => none
theorem cl_sum {K : PySem.W.Frag} : Cl K (rSum K) fSum := fun dr H us xs c h r Q q => by
  unfold fSum at h
  split at h
  · split at h
    · rename_i u l hl
      cases hb : intsOf l with
      | none => rw [hb] at h; cases h
      | some bs =>
        rw [hb] at h
        cases h
        cases r with
        | cons r rr =>
          cases rr
          obtain ⟨p, ys, rfl, h1, r⟩ := lst_rv hl r
          rw [ints_rp hb r] at h1
          exact ⟨p, bs, rfl, h1, q _ H (Same.refl H) (.int _)⟩
    · cases h
  · cases h
/-- tuple(xs) -/
def fTuple : List Vl → Option Vl
  | [u] => (seqOf u).map fun l => .d (.tuple l)
  | _ => none
def rTuple (K : PySem.W.Frag) : List V → Hp → VK → Prop := fun xs H Q => ∃ p ys, xs = [.ref p] ∧ ((SqL K H p ys ∧ ∀ l, H l = none → Q (.ref l) (upd H l (.tup ys))) ∨ (SqT K H p ys ∧ Q (.ref p) H))
theorem cl_tuple {K : PySem.W.Frag} : Cl K (rTuple K) fTuple := fun dr H us xs c h r Q q => by
  unfold fTuple at h
  split at h
  · rename_i u
    cases hl : seqOf u with
    | none => rw [hl] at h; cases h
    | some l =>
      rw [hl] at h
      cases h
      cases r with
      | cons r rr =>
        cases rr
        obtain ⟨p, ys, rfl, h1, r⟩ := seq_rv hl r
        refine ⟨p, ys, rfl, ?_⟩
        rcases h1 with h1 | h1
        · refine .inl ⟨h1, fun l hl => ?_⟩
          have s : Same H (upd H l (.tup ys)) := fun b o e => by rw [upd_ne (ne_of_none e hl)]; exact e
          exact q _ _ s (.tup upd_same (r.mono (.of s)))
        · exact .inr ⟨SqT.of h1, q _ H (Same.refl H) (.tup h1 r)⟩
  · cases h
end FL
end
-- FL5
section
set_option maxRecDepth 100000
set_option maxHeartbeats 2000000
/-! FL5: slices, calls of defs, statements -/
namespace FL
open PySem PySem.Spec L2
/-! ### slices -/
abbrev Mo := Rho → Dr → Res Dr (Option Int)
def PostO (K : PySem.W.Frag) (mg : Str → Option Value) (W : WX) (dr : Option Addr) (H0 : Hp) (ρ : Rho) (σ : L2.St) (H : Hp) (Q : Option Int → Hp → Prop) : Res Dr (Option Int) → Prop
  | .ok o ω => ∀ H', ExD dr H H' → Gd K dr H0 ρ σ H' ω → Q o H'
  | .exc x ω => ∀ cls od H', ExD dr H H' → Gd K dr H0 ρ σ H' ω → ExcRp mg H' x cls od → W cls od σ H'
  | .stuck => False
def rdO (K : PySem.W.Frag) (mg : Str → Option Value) (W : WX) (m : Mo) : TO := fun σ H Q => ∃ dr H0 ρ ω, Gd K dr H0 ρ σ H ω ∧ PostO K mg W dr H0 ρ σ H Q (m ρ ω)
def MO (X : Cx) (W : WX) (e : Option Expr) (m : Mo) : Prop := PO X e (rdO X.K X.mg W m)
def mNoP : Mo := fun _ ω => .ok none ω
def mPart (m : Me) : Mo := fun ρ ω => (m ρ ω).bind fun u ω => match intOf u with | some i => .ok (some i) ω | none => .stuck
def cutP (l : List PD) (lo hi : Option Int) : List PD := (l.drop (HT.sIx l.length 0 lo)).take (HT.sIx l.length l.length hi - HT.sIx l.length 0 lo)
theorem cutP_rp {K : PySem.W.Frag} {H : Hp} {l : List PD} {xs : List V} (r : RpL K H l xs) (lo hi : Option Int) : RpL K H (cutP l lo hi) (cutV xs lo hi) := by
  unfold cutP cutV
  rw [r.length]
  exact (r.drop _).take _
def fSl (u : Vl) (lo hi : Option Int) : Option Vl := match u with
  | .d (.str z) => if z.length ≤ 100000 then some (.d (.str (cutS z lo hi))) else none
  | .d (.tuple l) => some (.d (.tuple (cutP l lo hi)))
  | .d (.list l) => some (.brw (cutP l lo hi))
  | .brw l => some (.brw (cutP l lo hi))
  | _ => none
def mSl (m : Me) (lo hi : Mo) : Me := fun ρ ω => (m ρ ω).bind fun u ω => (lo ρ ω).bind fun l ω => (hi ρ ω).bind fun h ω => lift (fSl u l h) ω
/-- a slice of a list as a new list -/
def mSlN (m : Me) (lo hi : Mo) : Mn := fun ρ ω => (m ρ ω).bind fun u ω => (lo ρ ω).bind fun l ω => (hi ρ ω).bind fun h ω => match lstOf u with | some xs => .ok (cutP xs l h) ω | none => .stuck
def rSlAll (K : PySem.W.Frag) : V → Option Int → Option Int → Hp → VK → Prop := fun x lo hi H Q => rSlS x lo hi H Q ∨ (rSlA K x lo hi H Q ∨ rSlL K x lo hi H Q)
theorem sl_all {X : Cx} : SlR X (rSlAll X.K) := sl_str.or (sl_tupA.or sl_list)
section
variable {K : PySem.W.Frag} {mg : Str → Option Value} {W : WX} {dr : Option Addr} {H0 H : Hp} {ρ : Rho} {σ : L2.St} {ω : Dr}
theorem seqOE {m : Mo} {f : Option Int → Dr → Res Dr Vl} {Q : VK} {R : Option Int → Hp → Prop} (g : Gd K dr H0 ρ σ H ω) (p : PostE K mg W dr H0 ρ σ H Q ((m ρ ω).bind f))
    (k : ∀ u ω' H', ExD dr H H' → Gd K dr H0 ρ σ H' ω' → PostE K mg W dr H0 ρ σ H' Q (f u ω') → R u H') : rdO K mg W m σ H R := by
  refine ⟨dr, H0, ρ, ω, g, ?_⟩
  cases h : m ρ ω with
  | ok u ω' =>
    rw [h] at p
    intro H' e g'
    refine k u ω' H' e g' ?_
    have p' : PostE K mg W dr H0 ρ σ H Q (f u ω') := p
    cases h2 : f u ω' with
    | ok u2 ω2 => rw [h2] at p'; exact fun v H2 e2 g2 => p' v H2 (e.trans e2) g2
    | exc x ω2 => rw [h2] at p'; exact fun c od H2 e2 g2 r2 => p' c od H2 (e.trans e2) g2 r2
    | stuck => rw [h2] at p'; exact p'
  | exc x ω' => rw [h] at p; exact p
  | stuck => rw [h] at p; exact p
end
theorem same_new {H : Hp} {p : Addr} {o : HO} (h : H p = none) : Same H (upd H p o) := fun b u e => by rw [upd_ne (ne_of_none e h)]; exact e
section
variable {X : Cx} {W : WX} {a : Expr} {ma : Me} {pos : Pos} {lo hi : Option Expr} {ml mh : Mo}
theorem mo_none : MO X W none mNoP := ⟨fun pins s σ H Q I ⟨dr, H0, ρ, ω, g, p⟩ => po_none.run pins s σ H Q I (p H (ExD.refl _ _) g)⟩
theorem mo_some (h : ME X W a ma) : MO X W (some a) (mPart ma) := ⟨fun pins s σ H Q I ⟨dr, H0, ρ, ω, g, p⟩ => (po_some h).run pins s σ H Q I (by
  refine ⟨dr, H0, ρ, ω, g, ?_⟩
  unfold mPart at p
  cases h : ma ρ ω with
  | ok u ω1 =>
    rw [h] at p
    intro v H1 e1 g1 r1
    cases hi : intOf u with
    | none => simp only [Res.bind, hi] at p; exact False.elim p
    | some i => simp only [Res.bind, hi] at p; exact ⟨i, int_rv hi r1, p H1 e1 g1⟩
  | exc x ω' => rw [h] at p; exact p
  | stuck => rw [h] at p; exact p)⟩
theorem me_slice {p2 : Pos} (ha : ME X W a ma) (hl : MO X W lo ml) (hh : MO X W hi mh) : ME X W (.Subscript a (.Slice lo hi none p2) pos) (mSl ma ml mh) := pe_imp (pe_slice sl_all ha hl hh) fun σ H Q ⟨dr, H0, ρ, ω, g, p⟩ => by
  refine seqE (Q := Q) g p fun u ω1 v H1 e1 g1 r1 p1 => ?_
  refine seqOE (Q := Q) g1 p1 fun l ω2 H2 e2 g2 p2 => ?_
  refine seqOE (Q := Q) g2 p2 fun h ω3 H3 e3 g3 p3 => ?_
  have r3 := (r1.mono e2 (e2.fz g1.dw)).mono e3 (e3.fz g2.dw)
  cases hf : fSl u l h with
  | none => rw [hf] at p3; exact False.elim p3
  | some w =>
    rw [hf] at p3
    have q : ∀ v H', Same H3 H' → RV X.K dr H' w v → Q v H' := fun v H' e r => p3 v H' (.of e) (g3.same e) r
    unfold fSl at hf
    split at hf
    · split at hf
      · rename_i z hz
        cases hf; cases r3
        exact .inl ⟨z, rfl, sz100 hz, q _ H3 (Same.refl _) (.str _)⟩
      · cases hf
    · cases hf
      cases r3 with
      | tup h1 r =>
        rename_i a' xs
        refine .inr (.inl ⟨_, _, rfl, SqT.of h1, fun z => q _ H3 (Same.refl _) (.tup h1 ?_), fun _ p hp => q _ _ (same_new hp) (.tup upd_same ((cutP_rp r _ _).mono (.of (same_new hp))))⟩)
        have e : cutV xs l h = xs := by
          unfold cutV
          rw [z.1, z.2]
          simp
        have := cutP_rp r l h
        rw [e] at this
        exact this
    · cases hf
      cases r3 with
      | lst h1 r =>
        exact .inr (.inr ⟨_, _, rfl, .inl (.inr ⟨_, h1⟩), fun p hp => q _ _ (same_new hp) ⟨p, _, rfl, dr_ne g3.dw hp, SqL.of upd_same, (cutP_rp r _ _).mono (.of (same_new hp))⟩⟩)
    · cases hf
      obtain ⟨a', xs, rfl, n, h1, r⟩ := r3
      exact .inr (.inr ⟨_, _, rfl, h1, fun p hp => q _ _ (same_new hp) ⟨p, _, rfl, dr_ne g3.dw hp, SqL.of upd_same, (cutP_rp r _ _).mono (.of (same_new hp))⟩⟩)
    · cases hf
end

/-! ### calls of defs -/
/-- what a def is worth -/
abbrev Mf := List Vl → Dr → Res Dr PD
def spF (K : PySem.W.Frag) (mg : Str → Option Value) (n : Nat) (F : Mf) : Sp := fun vs H Q E => ∃ (dr : Option Addr) (ω : Dr) (us : List Vl), vs.length = n ∧ DrAt dr H ω ∧ Paired (RV K dr H) us vs ∧
  match F us ω with
  | .ok d ω' => ∀ v H', ExD dr H H' → DrAt dr H' ω' → Rp K H' d v → Q v H'
  | .exc x ω' => ∀ cls od H', ExD dr H H' → DrAt dr H' ω' → ExcRp mg H' x cls od → E cls od H'
  | .stuck => False
def mCall (F : Mf) (ms : Mes) : Me := fun ρ ω => (ms ρ ω).bind fun us ω => (F us ω).bind fun d ω => .ok (.d d) ω
section
variable {X : Cx} {W : WX} {e : Expr} {es : List Expr} {ms : Mes} {pos p : Pos} {x : Str} {k n : Nat} {f : Addr} {fd : FuncData} {ps : List Str} {F : Mf}
theorem me_call (tk : Takes X W) (hF : FnOk X.prog X.w X.K X.mg X.base (L2.CX X.prog X.w) k f fd ps (spF X.K X.mg n F)) (hr : Room k X.A) (hg : Gl X x) (hm : X.mg x = some (.ref f)) (hk : PySem.W.keepIn X.K (.ref f) = true) (hb : Binds X.K fd ps [])
    (ha : MA X W (e :: es) ms) (hn : (e :: es).length = n) (hdb : (x == ("__debug__" : Str)) = false := by decide) (he : starEach (e :: es) X.env = (false, eval e X.env) :: starEach es X.env := by rfl) (hpl : (backTo pos (starEach es X.env)).any (·.1) = false := by rfl) :
    ME X W (.Call (.Name x p) (e :: es) [] pos) (mCall F ms) := pe_imp (pe_callS hF hr hg hm hk hb (fun σ => passAt tk σ) ha.run hdb he hpl) fun σ H Q ⟨dr, H0, ρ, ω, g, p⟩ => by
  refine ⟨dr, H0, ρ, ω, g, ?_⟩
  unfold mCall at p
  cases h : ms ρ ω with
  | ok us ω1 =>
    rw [h] at p
    intro vs H1 e1 g1 r1
    have p : PostE X.K X.mg W dr H0 ρ σ H Q ((F us ω1).bind fun d ω => .ok (.d d) ω) := p
    refine ⟨dr, ω1, us, by rw [← Paired.length r1, ha.len _ _ _ _ h]; exact hn, g1.dw, r1, ?_⟩
    cases h2 : F us ω1 with
    | ok d ω2 => rw [h2] at p; exact fun v H2 e2 w2 r2 => p v H2 (e1.trans e2) (g1.grow e2 w2) r2
    | exc x ω2 => rw [h2] at p; exact fun c od H2 e2 w2 r2 => p c od H2 (e1.trans e2) (g1.grow e2 w2) r2
    | stuck => rw [h2] at p; exact p
  | exc x ω' => rw [h] at p; exact p
  | stuck => rw [h] at p; exact p
end
end FL
end
-- FL6
section
set_option maxRecDepth 100000
set_option maxHeartbeats 2000000
/-! FL6: statements without loops -/
namespace FL
open PySem PySem.Spec L2
/-! ### what is put into a slot -/
abbrev Msl := Rho → Dr → Res Dr Sl
def SlN (K : PySem.W.Frag) (dr : Option Addr) (H H' : Hp) : Sl → V → Prop
  | .val d, v => Rp K H' d v
  | .own l, v => ∃ p xs, v = .ref p ∧ H p = none ∧ dr ≠ some p ∧ H' p = some (.lst xs) ∧ RpL K H' l xs
  | .ownD t kvs, v => ∃ p, v = .ref p ∧ H p = none ∧ dr ≠ some p ∧ DicAt K H' p t kvs
  | _, _ => False
def PostL (K : PySem.W.Frag) (mg : Str → Option Value) (W : WX) (dr : Option Addr) (H0 : Hp) (ρ : Rho) (σ : L2.St) (H : Hp) (Q : VK) : Res Dr Sl → Prop
  | .ok s ω => ∀ v H', ExD dr H H' → Gd K dr H0 ρ σ H' ω → SlN K dr H H' s v → Q v H'
  | .exc x ω => ∀ cls od H', ExD dr H H' → Gd K dr H0 ρ σ H' ω → ExcRp mg H' x cls od → W cls od σ H'
  | .stuck => False
def rdL (K : PySem.W.Frag) (mg : Str → Option Value) (W : WX) (m : Msl) : TE := fun σ H Q => ∃ dr H0 ρ ω, Gd K dr H0 ρ σ H ω ∧ PostL K mg W dr H0 ρ σ H Q (m ρ ω)
def ML (X : Cx) (W : WX) (e : Expr) (m : Msl) : Prop := PE X e (rdL X.K X.mg W m)
def mVal (m : Me) : Msl := fun ρ ω => (m ρ ω).bind fun u ω => match u with | .d d => .ok (.val d) ω | _ => .stuck
def mOwn (m : Mn) : Msl := fun ρ ω => (m ρ ω).bind fun l ω => .ok (.own l) ω
section
variable {X : Cx} {W : WX} {e : Expr} {m : Me} {mn : Mn}
theorem ml_val (h : ME X W e m) : ML X W e (mVal m) := pe_imp h fun σ H Q ⟨dr, H0, ρ, ω, g, p⟩ => by
  refine ⟨dr, H0, ρ, ω, g, ?_⟩
  unfold mVal at p
  cases h : m ρ ω with
  | ok u ω1 =>
    rw [h] at p
    intro v H1 e1 g1 r1
    cases u with
    | d d => exact p v H1 e1 g1 r1
    | _ => exact False.elim p
  | exc x ω' => rw [h] at p; exact p
  | stuck => rw [h] at p; exact p
theorem ml_own (h : MN X W e mn) : ML X W e (mOwn mn) := pe_imp h fun σ H Q ⟨dr, H0, ρ, ω, g, p⟩ => by
  refine ⟨dr, H0, ρ, ω, g, ?_⟩
  unfold mOwn at p
  cases h : mn ρ ω with
  | ok l ω1 =>
    rw [h] at p
    intro q xs H1 hq h1 n e1 g1 r1
    exact p _ H1 e1 g1 ⟨q, xs, rfl, hq, n, h1, r1⟩
  | exc x ω' => rw [h] at p; exact p
  | stuck => rw [h] at p; exact p
end
section
variable {K : PySem.W.Frag} {dr : Option Addr} {H0 H H' : Hp} {ρ : Rho} {σ : L2.St} {ω ω' : Dr} {s : Sl} {v : V} {i : Nat}
theorem own_at {s : Sl} {x : Option V} {a : Addr} (h : SlOk K dr H0 H s x) (o : isOwn s = true) (e : x = some (.ref a)) : ∃ u, H a = some u := by
  cases s with
  | own l => obtain ⟨b, xs, h1, _, _, h2, _⟩ := h; rw [e] at h1; cases h1; exact ⟨_, h2⟩
  | ownD t l =>
    obtain ⟨b, h1, _, _, h2⟩ := h
    rw [e] at h1; cases h1
    exact dicAt_some h2
  | _ => cases o
theorem Gd.put (g : Gd K dr H0 ρ σ H ω) (g' : Gd K dr H0 ρ σ H' ω') (n : SlN K dr H H' s v) (i : Nat) : Gd K dr H0 (ρ.set i s) (σ.set i (some v)) H' ω' := by
  have h0 : ∀ p, H p = none → dr ≠ some p → H0 p = none := fun p hp hd => by
    cases q : H0 p with
    | none => rfl
    | some o => rw [g.ext p o hd q] at hp; cases hp
  refine ⟨g'.ext, g'.d0, g'.fz, by simp [g'.len], fun j t hj => ?_, fun j k t u a hj hk ot ou ej ek => ?_, g'.dw⟩
  · by_cases hji : j = i
    · subst hji
      have hlt : j < ρ.length := by
        have := (List.getElem?_eq_some_iff.mp hj).1
        simpa using this
      rw [List.getElem?_set_self hlt] at hj
      cases hj
      rw [List.getElem?_set_self (by rw [← g'.len]; exact hlt)]
      show SlOk K dr H0 H' s (some v)
      cases s with
      | val d => exact ⟨v, rfl, n⟩
      | own l => obtain ⟨p, xs, rfl, hp, hd, h1, h2⟩ := n; exact ⟨p, xs, rfl, h0 p hp hd, hd, h1, h2⟩
      | ownD t l => obtain ⟨p, rfl, hp, hd, h1⟩ := n; exact ⟨p, rfl, h0 p hp hd, hd, h1⟩
      | none => exact False.elim n
      | par u => exact False.elim n
    · rw [List.getElem?_set_ne (Ne.symm hji)] at hj ⊢
      exact g'.sl j t hj
  · have fresh : ∀ (j : Nat) (t : Sl) (a : Addr), j ≠ i → (ρ.set i s)[j]? = some t → isOwn t = true → (σ.set i (some v))[j]? = some (some (.ref a)) → isOwn s = true → v = .ref a → False := fun j t a hji hj ot ej os ev => by
      rw [List.getElem?_set_ne (Ne.symm hji)] at hj ej
      have q := g.sl j t hj
      rw [ej] at q
      obtain ⟨u, hu⟩ := own_at q ot rfl
      have hn : H a = none := by
        cases s with
        | own l => obtain ⟨p, xs, e, hp, _⟩ := n; rw [e] at ev; cases ev; exact hp
        | ownD t l => obtain ⟨p, e, hp, _⟩ := n; rw [e] at ev; cases ev; exact hp
        | _ => cases os
      rw [hn] at hu; cases hu
    have self : ∀ (j : Nat) (t : Sl) (a : Addr), j = i → (ρ.set i s)[j]? = some t → isOwn t = true → (σ.set i (some v))[j]? = some (some (.ref a)) → isOwn s = true ∧ v = .ref a := fun j t a hji hj ot ej => by
      subst hji
      have hlt : j < ρ.length := by
        have := (List.getElem?_eq_some_iff.mp hj).1
        simpa using this
      rw [List.getElem?_set_self hlt] at hj
      rw [List.getElem?_set_self (by rw [← g'.len]; exact hlt)] at ej
      cases hj
      exact ⟨ot, by injection ej with e1; injection e1⟩
    by_cases h1 : j = i
    · by_cases h2 : k = i
      · rw [h1, h2]
      · obtain ⟨os, ev⟩ := self j t a h1 hj ot ej
        exact (fresh k u a h2 hk ou ek os ev).elim
    · by_cases h2 : k = i
      · obtain ⟨os, ev⟩ := self k u a h2 hk ou ek
        exact (fresh j t a h1 hj ot ej os ev).elim
      · rw [List.getElem?_set_ne (Ne.symm h1)] at hj ej
        rw [List.getElem?_set_ne (Ne.symm h2)] at hk ek
        exact g'.ne j k t u a hj hk ot ou ej ek
end

/-! ### statements -/
inductive Fl where
  | nx | rt (d : PD) | bk | ct
abbrev Ms := Rho → Dr → Res (Rho × Dr) Fl
def PostS (K : PySem.W.Frag) (mg : Str → Option Value) (W : WX) (dr : Option Addr) (H0 Hs : Hp) (D : Ends) : Res (Rho × Dr) Fl → Prop
  | .ok .nx (ρ, ω) => ∀ σ H, Fz Hs H → Gd K dr H0 ρ σ H ω → D.nx σ H
  | .ok .bk (ρ, ω) => ∀ σ H, Fz Hs H → Gd K dr H0 ρ σ H ω → D.bk σ H
  | .ok .ct (ρ, ω) => ∀ σ H, Fz Hs H → Gd K dr H0 ρ σ H ω → D.ct σ H
  | .ok (.rt d) (_, ω) => ∀ v H, ExD dr H0 H → DrAt dr H ω → Rp K H d v → D.rt v H
  | .exc x (ρ, ω) => ∀ cls od σ H, Gd K dr H0 ρ σ H ω → ExcRp mg H x cls od → W cls od σ H
  | .stuck => False
theorem PostS.mono {K : PySem.W.Frag} {mg : Str → Option Value} {W : WX} {dr : Option Addr} {H0 H H' : Hp} {D : Ends} {r : Res (Rho × Dr) Fl} (p : PostS K mg W dr H0 H D r) (z : Fz H H') : PostS K mg W dr H0 H' D r := by
  cases r with
  | ok f s =>
    obtain ⟨ρ, ω⟩ := s
    cases f with
    | nx => exact fun σ H2 z2 g => p σ H2 (z.trans z2) g
    | bk => exact fun σ H2 z2 g => p σ H2 (z.trans z2) g
    | ct => exact fun σ H2 z2 g => p σ H2 (z.trans z2) g
    | rt d => exact p
  | exc x s => exact p
  | stuck => exact p
def rdS (K : PySem.W.Frag) (mg : Str → Option Value) (W : WX) (m : Ms) : TS := fun D σ H => ∃ dr H0 ρ ω, Gd K dr H0 ρ σ H ω ∧ PostS K mg W dr H0 H D (m ρ ω)
def MS (X : Cx) (W : WX) (s : Stmt) (m : Ms) : Prop := PS X s (rdS X.K X.mg W m)
def MSs (X : Cx) (W : WX) (s : List Stmt) (m : Ms) : Prop := PSs X s (rdS X.K X.mg W m)
theorem ps_imp {X : Cx} {e : Stmt} {t t' : TS} (h : PS X e t) (i : ∀ D σ H, t' D σ H → t D σ H) : PS X e t' := ⟨fun pins s σ H Q I q => h.run pins s σ H Q I (i Q σ H q)⟩
theorem pss_imp {X : Cx} {e : List Stmt} {t t' : TS} (h : PSs X e t) (i : ∀ D σ H, t' D σ H → t D σ H) : PSs X e t' := ⟨fun pins s σ H Q I q => h.run pins s σ H Q I (i Q σ H q)⟩
/-- an expression's end as a statement's -/
def Res.st {α : Type} (ρ : Rho) (r : Res Dr α) (f : α → Dr → Res (Rho × Dr) Fl) : Res (Rho × Dr) Fl := match r with
  | .ok a ω => f a ω
  | .exc x ω => .exc x (ρ, ω)
  | .stuck => .stuck
def mNx : Ms := fun ρ ω => .ok .nx (ρ, ω)
def mBk : Ms := fun ρ ω => .ok .bk (ρ, ω)
def mCt : Ms := fun ρ ω => .ok .ct (ρ, ω)
def mSeq (a b : Ms) : Ms := fun ρ ω => match a ρ ω with
  | .ok .nx (ρ, ω) => b ρ ω
  | r => r
def mAsg (i : Nat) (m : Msl) : Ms := fun ρ ω => (m ρ ω).st ρ fun s ω => .ok .nx (ρ.set i s, ω)
def mIfS (c : Mt) (a b : Ms) : Ms := fun ρ ω => (c ρ ω).st ρ fun t ω => if t = true then a ρ ω else b ρ ω
def mRet (m : Me) : Ms := fun ρ ω => (m ρ ω).st ρ fun u ω => match u with | .d d => .ok (.rt d) (ρ, ω) | _ => .stuck
def mRetN : Ms := fun ρ ω => .ok (.rt .none) (ρ, ω)
/-- return of a list of the frame's own -/
def mRetOwn (i : Nat) : Ms := fun ρ ω => match ρ[i]? with | some (.own l) => .ok (.rt (.list l)) (ρ, ω) | _ => .stuck
/-- an expression whose value is dropped -/
def mDrop (m : Me) : Ms := fun ρ ω => (m ρ ω).st ρ fun _ ω => .ok .nx (ρ, ω)
/-- xs.append(e), xs a list of the frame's own -/
def mApp (i : Nat) (m : Me) : Ms := fun ρ ω => match ρ[i]? with
  | some (.own l) => (m ρ ω).st ρ fun u ω => match u with
    | .d d => if l.length < 100000 then .ok .nx (ρ.set i (.own (l ++ [d])), ω) else .stuck
    | _ => .stuck
  | _ => .stuck
section
variable {X : Cx} {W : WX} {st : Stmt} {rest : List Stmt} {a b : Ms} {pos : Pos} {e c : Expr} {m : Me} {ml : Msl} {mc : Mt} {body orelse : List Stmt}
theorem mss_nil : MSs X W [] mNx := pss_imp pss_nil fun D σ H ⟨dr, H0, ρ, ω, g, p⟩ => p σ H (Fz.refl _) g
theorem rd_seq {D : Ends} {σ : L2.St} {H : Hp} : rdS X.K X.mg W (mSeq a b) D σ H → tSeq (rdS X.K X.mg W a) (rdS X.K X.mg W b) D σ H := fun ⟨dr, H0, ρ, ω, g, p⟩ => by
  refine ⟨dr, H0, ρ, ω, g, ?_⟩
  unfold mSeq at p
  cases h : a ρ ω with
  | ok f s =>
    rw [h] at p
    obtain ⟨ρ1, ω1⟩ := s
    cases f with
    | nx => exact fun σ1 H1 z1 g1 => ⟨dr, H0, ρ1, ω1, g1, PostS.mono p z1⟩
    | rt d => exact p
    | bk => exact p
    | ct => exact p
  | exc x s => rw [h] at p; exact p
  | stuck => rw [h] at p; exact p
theorem mss_cons (h1 : MS X W st a) (h2 : MSs X W rest b) : MSs X W (st :: rest) (mSeq a b) := pss_imp (pss_cons h1 h2) fun _ _ _ => rd_seq
theorem mss_one (h1 : MS X W st a) : MSs X W [st] a := pss_one h1
theorem ms_pass : MS X W (.Pass pos) mNx := ps_imp ps_pass fun D σ H ⟨dr, H0, ρ, ω, g, p⟩ => p σ H (Fz.refl _) g
theorem ms_break : MS X W (.Break pos) mBk := ps_imp ps_break fun D σ H ⟨dr, H0, ρ, ω, g, p⟩ => p σ H (Fz.refl _) g
theorem ms_continue : MS X W (.Continue pos) mCt := ps_imp ps_continue fun D σ H ⟨dr, H0, ρ, ω, g, p⟩ => p σ H (Fz.refl _) g
theorem st_exc {α : Type} {r : Res Dr α} {f : α → Dr → Res (Rho × Dr) Fl} {K : PySem.W.Frag} {mg : Str → Option Value} {dr : Option Addr} {H0 : Hp} {ρ : Rho} {D : Ends} {x : Ex'} {ω : Dr} {σ : L2.St} {Hs : Hp} (h : r = .exc x ω) (p : PostS K mg W dr H0 Hs D (r.st ρ f)) :
    ∀ cls od H', Gd K dr H0 ρ σ H' ω → ExcRp mg H' x cls od → W cls od σ H' := by
  subst h
  exact fun cls od H' g r => p cls od σ H' g r
/-- a value comes, then what follows -/
theorem seqES {K : PySem.W.Frag} {mg : Str → Option Value} {dr : Option Addr} {H0 H : Hp} {ρ : Rho} {σ : L2.St} {ω : Dr} {m : Me} {f : Vl → Dr → Res (Rho × Dr) Fl} {D : Ends} {R : VK} (g : Gd K dr H0 ρ σ H ω) (p : PostS K mg W dr H0 H D ((m ρ ω).st ρ f))
    (k : ∀ u ω' v H', ExD dr H H' → Gd K dr H0 ρ σ H' ω' → RV K dr H' u v → PostS K mg W dr H0 H' D (f u ω') → R v H') : rdE K mg W m σ H R := by
  refine ⟨dr, H0, ρ, ω, g, ?_⟩
  cases h : m ρ ω with
  | ok u ω' => rw [h] at p; exact fun v H' e g' r => k u ω' v H' e g' r (PostS.mono p (e.fz g.dw))
  | exc x ω' => exact fun cls od H' e g' r => st_exc h p cls od H' g' r
  | stuck => rw [h] at p; exact p
theorem seqTS {K : PySem.W.Frag} {mg : Str → Option Value} {dr : Option Addr} {H0 H : Hp} {ρ : Rho} {σ : L2.St} {ω : Dr} {m : Mt} {f : Bool → Dr → Res (Rho × Dr) Fl} {D : Ends} {R : Bool → Hp → Prop} (g : Gd K dr H0 ρ σ H ω) (p : PostS K mg W dr H0 H D ((m ρ ω).st ρ f))
    (k : ∀ u ω' H', ExD dr H H' → Gd K dr H0 ρ σ H' ω' → PostS K mg W dr H0 H' D (f u ω') → R u H') : rdT K mg W m σ H R := by
  refine ⟨dr, H0, ρ, ω, g, ?_⟩
  cases h : m ρ ω with
  | ok u ω' => rw [h] at p; exact fun H' e g' => k u ω' H' e g' (PostS.mono p (e.fz g.dw))
  | exc x ω' => exact fun cls od H' e g' r => st_exc h p cls od H' g' r
  | stuck => rw [h] at p; exact p
theorem seqLS {K : PySem.W.Frag} {mg : Str → Option Value} {dr : Option Addr} {H0 H : Hp} {ρ : Rho} {σ : L2.St} {ω : Dr} {m : Msl} {f : Sl → Dr → Res (Rho × Dr) Fl} {D : Ends} {R : VK} (g : Gd K dr H0 ρ σ H ω) (p : PostS K mg W dr H0 H D ((m ρ ω).st ρ f))
    (k : ∀ s ω' v H', ExD dr H H' → Gd K dr H0 ρ σ H' ω' → SlN K dr H H' s v → PostS K mg W dr H0 H' D (f s ω') → R v H') : rdL K mg W m σ H R := by
  refine ⟨dr, H0, ρ, ω, g, ?_⟩
  cases h : m ρ ω with
  | ok u ω' => rw [h] at p; exact fun v H' e g' r => k u ω' v H' e g' r (PostS.mono p (e.fz g.dw))
  | exc x ω' => exact fun cls od H' e g' r => st_exc h p cls od H' g' r
  | stuck => rw [h] at p; exact p
theorem ms_set {i : Nat} {x : Str} {pos' : Pos} (hN : X.N.Nodup) (he : ML X W e ml) (hi : X.N[i]? = some x := by rfl) (hx : Loc X.env.scope x := by first | exact Or.inl rfl | exact Or.inr rfl) (hs : swapsWith e (some (.Name x pos')) pos.line X.env = pure false := by rfl)
    (hf : X.fn x = true ∨ X.env.scope.names.lookup x = some .local := by first | exact .inl rfl | exact .inr rfl | assumption) : MS X W (.Assign [.Name x pos'] e pos) (mAsg i ml) :=
  ps_imp (ps_set hN hi hx he hs hf) fun D σ H ⟨dr, H0, ρ, ω, g, p⟩ => seqLS (D := D) g p fun s ω' v H' e g' n p' => p' _ _ (Fz.refl _) (g.put g' n i)
theorem ms_if (hc : MT X W c mc) (ha : MSs X W body a) (hb : MSs X W orelse b) : MS X W (.If c body orelse pos) (mIfS mc a b) :=
  ps_imp (ps_if hc ha hb) fun D σ H ⟨dr, H0, ρ, ω, g, p⟩ => seqTS (D := D) g p fun t ω' H' e g' p' => by
    cases t with
    | true => exact ⟨dr, H0, ρ, ω', g', p'⟩
    | false => exact ⟨dr, H0, ρ, ω', g', p'⟩
theorem ms_ret (he : ME X W e m) : MS X W (.Return (some e) pos) (mRet m) :=
  ps_imp (ps_ret he) fun D σ H ⟨dr, H0, ρ, ω, g, p⟩ => seqES (D := D) g p fun u ω' v H' e g' r p' => by
    cases u with
    | d d => exact p' v H' g'.ext g'.dw r
    | _ => exact False.elim p'
theorem ms_retN : MS X W (.Return none pos) mRetN := ps_imp ps_retN fun D σ H ⟨dr, H0, ρ, ω, g, p⟩ => p .non H g.ext g.dw .non
theorem ms_drop (he : ME X W e m) (hs : swapsWith e none pos.line X.env = pure false := by rfl) : MS X W (.Expr e pos) (mDrop m) :=
  ps_imp (ps_expr he hs) fun D σ H ⟨dr, H0, ρ, ω, g, p⟩ => seqES (D := D) g p fun u ω' v H' e g' r p' => p' σ H' (Fz.refl _) g'
theorem ms_retOwn {x : Str} {p' : Pos} (i : Nat) (hN : X.N[i]? = some x := by rfl) (hv : Vis X.env.scope x := by first | exact Or.inl rfl | exact Or.inr (Or.inl rfl) | exact Or.inr (Or.inr rfl)) (hd : (x == ("__debug__" : Str)) = false := by decide)
    (hcd : (x == ("__classdict__" : Str)) = false := by decide) : MS X W (.Return (some (.Name x p')) pos) (mRetOwn i) :=
  ps_imp (ps_ret (pe_fz (pe_var hN hv hd hcd))) fun D σ H ⟨dr, H0, ρ, ω, g, p⟩ => by
    unfold mRetOwn at p
    cases h : ρ[i]? with
    | none => rw [h] at p; exact False.elim p
    | some s =>
      rw [h] at p
      have k := g.sl i s h
      cases s with
      | own l =>
        obtain ⟨q, xs, e1, h0, n, h1, r⟩ := k
        refine ⟨.ref q, ?_, q, xs, rfl, h1, fun o => ?_⟩
        · cases z : σ[i]? with
          | none => rw [z] at e1; cases e1
          | some y => rw [z] at e1; exact congrArg some e1
        · have z : Fz H (upd H q (.frz o (.lst xs))) := ⟨fun b ys w => by rw [upd_ne (ne_of w h1 (fun z => nomatch z))]; exact w, fun b u ys w => by rw [upd_ne (ne_of w h1 (fun z => nomatch z))]; exact w⟩
          refine p _ _ (fun b u nb w => ?_) (fun a w => ?_) (.lst upd_same (r.mono z))
          · rw [upd_ne (ne_of_none w h0)]; exact g.ext b u nb w
          · obtain ⟨L, oL, h2, h3, rr⟩ := g.dw a w
            have na : a ≠ q := fun y => n (by rw [w, y])
            exact ⟨L, oL, by rw [upd_ne na]; exact h2, by rw [upd_ne (ne_of h3 h1 (fun z => nomatch z))]; exact h3, rr⟩
      | _ => exact False.elim p
end
/-- a list of the frame's own is changed -/
theorem Gd.upd {K : PySem.W.Frag} {dr : Option Addr} {H0 H : Hp} {ρ : Rho} {σ : L2.St} {ω : Dr} {i : Nat} {l l' : List PD} {a : Addr} {xs xs' : List V} (g : Gd K dr H0 ρ σ H ω) (hi : ρ[i]? = some (.own l)) (hs : σ[i]? = some (some (.ref a))) (ha : H a = some (.lst xs)) (r : RpL K H l' xs') :
    Gd K dr H0 (ρ.set i (.own l')) σ (L2.upd H a (.lst xs')) ω := by
  have z : Fz H (L2.upd H a (.lst xs')) := ⟨fun b ys w => by rw [upd_ne (ne_of w ha (fun z => nomatch z))]; exact w, fun b u ys w => by rw [upd_ne (ne_of w ha (fun z => nomatch z))]; exact w⟩
  have k := g.sl i _ hi
  rw [hs] at k
  obtain ⟨b, ys, e1, h0, n, h1, _⟩ := k
  cases e1
  have hlt : i < ρ.length := (List.getElem?_eq_some_iff.mp hi).1
  refine ⟨fun c u nb w => by rw [upd_ne (ne_of_none w h0)]; exact g.ext c u nb w, g.d0, g.fz.trans z, by simp [g.len], fun j t hj => ?_, fun j k t u c hj hk ot ou ej ek => ?_, fun c w => ?_⟩
  · by_cases hji : j = i
    · subst hji
      rw [List.getElem?_set_self hlt] at hj
      cases hj
      rw [hs]
      exact ⟨a, xs', rfl, h0, n, upd_same, r.mono z⟩
    · rw [List.getElem?_set_ne (Ne.symm hji)] at hj
      have q := g.sl j t hj
      have nea : ∀ c, isOwn t = true → σ[j]?.join = some (.ref c) → c ≠ a := fun c ot e w => by
        have ej : σ[j]? = some (some (.ref a)) := by
          cases z : σ[j]? with
          | none => rw [z] at e; cases e
          | some y => rw [z] at e; rw [← w]; exact congrArg some e
        exact hji (g.ne j i t _ a hj hi ot rfl ej hs)
      cases t with
      | none => trivial
      | val d => obtain ⟨v, h2, h3⟩ := q; exact ⟨v, h2, h3.mono z⟩
      | par u => exact q
      | own m => obtain ⟨c, zs, h2, h3, h4, h5, h6⟩ := q; exact ⟨c, zs, h2, h3, h4, by rw [upd_ne (nea c rfl h2)]; exact h5, h6.mono z⟩
      | ownD tt m =>
        obtain ⟨c, h2, h3, h4, h5⟩ := q
        exact ⟨c, h2, h3, h4, dic_keep (fun o w => by rw [upd_ne (nea c rfl h2)]; exact w) z h5⟩
  · have un : ∀ (j : Nat) (t : Sl), (ρ.set i (.own l'))[j]? = some t → isOwn t = true → ∃ t', ρ[j]? = some t' ∧ isOwn t' = true := fun j t hj ot => by
      by_cases hji : j = i
      · subst hji; exact ⟨_, hi, rfl⟩
      · rw [List.getElem?_set_ne (Ne.symm hji)] at hj; exact ⟨t, hj, ot⟩
    obtain ⟨t', hj', ot'⟩ := un j t hj ot
    obtain ⟨u', hk', ou'⟩ := un k u hk ou
    exact g.ne j k t' u' c hj' hk' ot' ou' ej ek
  · obtain ⟨L, oL, h2, h3, rr⟩ := g.dw c w
    have na : c ≠ a := fun y => n (by rw [w, y])
    exact ⟨L, oL, by rw [upd_ne na]; exact h2, by rw [upd_ne (ne_of h3 ha (fun z => nomatch z))]; exact h3, rr⟩
section
variable {X : Cx} {W : WX} {pos cpos apos p' : Pos} {e : Expr} {m : Me}
theorem slot_some {σ : L2.St} {i : Nat} {v : V} (h : σ[i]?.join = some v) : σ[i]? = some (some v) := by
  cases z : σ[i]? with
  | none => rw [z] at h; cases h
  | some y => rw [z] at h; exact congrArg some h
theorem ms_app {x : Str} (i : Nat) (he : ME X W e m) (hN : X.N[i]? = some x := by rfl) (hv : Vis X.env.scope x := by first | exact Or.inl rfl | exact Or.inr (Or.inl rfl) | exact Or.inr (Or.inr rfl)) (hd : (x == ("__debug__" : Str)) = false := by decide)
    (hcd : (x == ("__classdict__" : Str)) = false := by decide) (hse : starEach [e] X.env = (false, eval e X.env) :: starEach [] X.env := by rfl)
    (hbase : attributeBase (.Name x p') "append" X.env (eval (.Name x p') X.env) = eval (.Name x p') X.env := by rfl)
    (hfew : ((backTo cpos (starEach [e] X.env)).all (fun x => !x.1) && (backToKw cpos (keywordEach [] X.env)).all (fun x => x.1.isSome)
      && decide (([e] : List Expr).length + ([] : List Keyword).length + (if ([] : List Keyword).isEmpty then 0 else 1) < 30)) = true := by rfl)
    (hline : (apos.endLine == cpos.line) = true := by rfl) (hs : swapsWith (.Call (.Attribute (.Name x p') "append" apos) [e] [] cpos) none pos.line X.env = pure false := by rfl) :
    MS X W (.Expr (.Call (.Attribute (.Name x p') "append" apos) [e] [] cpos) pos) (mApp i m) :=
  ps_imp (ps_expr (pe_bm PySem.F.plainAttrs_list PySem.F.slot_list_append PySem.F.type_list_append mt_append (pe_var hN hv hd hcd) (pa_cons he pa_nil hse) hbase hfew hline hse rfl) hs) fun D σ H ⟨dr, H0, ρ, ω, g, p⟩ => by
    by_cases hl : ∃ l, ρ[i]? = some (.own l)
    · obtain ⟨l, h⟩ := hl
      obtain ⟨a, xs, e1, h0, n, h1, r⟩ := g.sl i _ h
      refine ⟨_, slot_some e1, .inl ⟨rfl, xs, SqL.of h1⟩, ?_⟩
      unfold mApp at p
      rw [h] at p
      refine seqES (D := D) g p fun u ω' v H' ex g' rv p' => ?_
      cases u with
      | d d =>
        dsimp only at p'
        split at p'
        · rename_i hz
          have h1' := ex a _ n h1
          obtain ⟨a2, xs2, e2, _, _, h2, r2⟩ := g'.sl i _ h
          rw [e1] at e2; cases e2
          rw [h1'] at h2; cases h2
          exact ⟨a, xs, v, rfl, rfl, h1', Nat.lt_of_lt_of_le (by rw [← r.length]; exact hz) (by decide : (100000 : Nat) ≤ sizeLine), p' _ _ ⟨fun b ys w => by rw [upd_ne (ne_of w h1' (fun z => nomatch z))]; exact w, fun b u ys w => by rw [upd_ne (ne_of w h1' (fun z => nomatch z))]; exact w⟩ (g'.upd h (slot_some e1) h1' (r2.append (RpL.one rv)))⟩
        · exact False.elim p'
      | _ => exact False.elim p'
    · unfold mApp at p
      cases h : ρ[i]? with
      | none => rw [h] at p; exact False.elim p
      | some t =>
        rw [h] at p
        cases t with
        | own l => exact (hl ⟨l, h⟩).elim
        | _ => exact False.elim p
end
end FL
end
-- FL7
section
set_option maxRecDepth 100000
set_option maxHeartbeats 2000000
/-! FL7: what is walked, comprehensions, loops, defs -/
namespace FL
open PySem PySem.Spec L2
/-! ### what is walked: is it locked, its items -/
abbrev Mi := Rho → Dr → Res Dr (Bool × List PD)
/-- J walks these items from the heap H on, as long as .. is kept -/
def Wk (K : PySem.W.Frag) (dr : Option Addr) (lk : Bool) (H : Hp) (J : It) (items : List PD) : Prop := ∃ (G : Hp → Prop) (Y : Nat → Hp → V → Hp → Prop), Walk J items.length G Y ∧ items.length ≤ sizeLine ∧
  (∀ H', Fz H H' → (lk = true ∨ ExD dr H H') → G H') ∧ ∀ i H1 x H2, Fz H H1 → (lk = true ∨ ExD dr H H1) → Y i H1 x H2 → Same H1 H2 ∧ ∃ d, items[i]? = some d ∧ Rp K H2 d x
def PostI (K : PySem.W.Frag) (mg : Str → Option Value) (W : WX) (dr : Option Addr) (H0 : Hp) (ρ : Rho) (σ : L2.St) (H : Hp) (R : It → Hp → Prop) : Res Dr (Bool × List PD) → Prop
  | .ok (lk, items) ω => ∀ J H', ExD dr H H' → Gd K dr H0 ρ σ H' ω → Wk K dr lk H' J items → R J H'
  | .exc x ω => ∀ cls od H', ExD dr H H' → Gd K dr H0 ρ σ H' ω → ExcRp mg H' x cls od → W cls od σ H'
  | .stuck => False
def rdI (K : PySem.W.Frag) (mg : Str → Option Value) (W : WX) (m : Mi) : TI := fun σ H R => ∃ dr H0 ρ ω, Gd K dr H0 ρ σ H ω ∧ PostI K mg W dr H0 ρ σ H R (m ρ ω)
def MI (X : Cx) (W : WX) (tg e : Expr) (m : Mi) : Prop := PI X tg e (rdI X.K X.mg W m)
/-- the lengths of what is read -/
def Bd (K : PySem.W.Frag) (H : Hp) : Prop := ∀ a xs, SqL K H a xs ∨ SqT K H a xs → xs.length ≤ sizeLine
theorem bd_of {X : Cx} {pins : List (Addr × Obj)} {σ : L2.St} {H : Hp} {s : Shared} (I : Inv X pins σ H s) : Bd X.K H := fun a xs h => by
  rcases h with h | h
  · exact (I.list h).choose_spec.2.2
  · exact (I.tuple h).choose_spec.2.2
/-- what comes out of an iterable, with the lengths known -/
theorem pi_bd {X : Cx} {tg e : Expr} {wi : TI} (h : PI X tg e wi) : PI X tg e (fun σ H R => wi σ H fun J H1 => Bd X.K H1 → R J H1) := ⟨fun pins s σ H R I q => by
  refine thn (h.run pins s σ H _ I q) fun v s1 h1 => thn h1 fun itv s2 h2 => ?_
  obtain ⟨it, fp, tn, J, H', e1, I2, T, t0, f, r⟩ := h2
  exact ⟨it, fp, tn, J, H', e1, I2, T, t0, f, r (bd_of I2)⟩⟩
theorem pi_imp {X : Cx} {tg e : Expr} {t t' : TI} (h : PI X tg e t) (i : ∀ σ H R, t' σ H R → t σ H R) : PI X tg e t' := ⟨fun pins s σ H Q I q => h.run pins s σ H Q I (i σ H Q q)⟩
theorem pi_or {X : Cx} {tg e : Expr} {t t' : TI} (h : PI X tg e t) (h' : PI X tg e t') : PI X tg e (fun σ H R => t σ H R ∨ t' σ H R) := ⟨fun pins s σ H Q I q => by
  rcases q with q | q
  · exact h.run pins s σ H Q I q
  · exact h'.run pins s σ H Q I q⟩
section
variable {K : PySem.W.Frag} {dr : Option Addr} {H : Hp}
theorem wk_tup {a : Addr} {xs : List V} {l : List PD} (h : SqT K H a xs) (r : RpL K H l xs) (hz : xs.length ≤ sizeLine) : Wk K dr true H (Itt K a) l := by
  refine ⟨_, _, by rw [r.length]; exact walk_tup (xs := xs), by rw [r.length]; exact hz, fun H' z _ => z.sqt h, fun i H1 x H2 z _ y => ?_⟩
  obtain ⟨rfl, e⟩ := y
  exact ⟨Same.refl _, (r.mono z).getv e⟩
theorem wk_frz {a : Addr} {o : Obj} {xs : List V} {l : List PD} (h : H a = some (.frz o (.lst xs))) (r : RpL K H l xs) (hz : xs.length ≤ sizeLine) : Wk K dr true H (Itl K a) l := by
  refine ⟨_, _, by rw [r.length]; exact walk_list (xs := xs), by rw [r.length]; exact hz, fun H' z _ => (Or.inl (Or.inr ⟨o, z.f _ _ _ h⟩) : SqL K H' a xs), fun i H1 x H2 z _ y => ?_⟩
  obtain ⟨rfl, e⟩ := y
  exact ⟨Same.refl _, (r.mono z).getv e⟩
theorem wk_brw {a : Addr} {xs : List V} {l : List PD} (n : dr ≠ some a) (h : SqL K H a xs) (r : RpL K H l xs) (hz : xs.length ≤ sizeLine) : Wk K dr false H (Itl K a) l := by
  refine ⟨_, _, by rw [r.length]; exact walk_list (xs := xs), by rw [r.length]; exact hz, fun H' z e => ?_, fun i H1 x H2 z _ y => ?_⟩
  · rcases e with e | e
    · cases e
    · exact sql_ex e n h
  · obtain ⟨rfl, e⟩ := y
    exact ⟨Same.refl _, (r.mono z).getv e⟩
/-- lo, lo + 1, .. -/
def rngP (lo : Int) (n : Nat) : List PD := (List.range n).map fun (i : Nat) => PyData.int (lo + (i : Int))
theorem rngP_len (lo : Int) (n : Nat) : (rngP lo n).length = n := by simp [rngP]
theorem rngP_get (lo : Int) (n : Nat) {i : Nat} (h : i < n) : (rngP lo n)[i]? = some (.int (lo + i)) := by simp [rngP, h]
theorem wk_range {lo : Int} {n : Nat} (hn : n ≤ 100000) : Wk K dr true H (Itr lo n) (rngP lo n) := by
  refine ⟨fun _ => True, fun i H x H' => i < n ∧ YFn (fun i => .int (lo + i)) i H x H', ?_, by rw [rngP_len]; exact sz100 hn, fun _ _ _ => trivial, fun i H1 x H2 _ _ y => ?_⟩
  · rw [rngP_len]
    exact ⟨fun _ _ hi _ => hi, fun _ _ => Nat.le_refl _, fun i _ _ _ hi _ y => ⟨hi, y⟩⟩
  · obtain ⟨hi, rfl, rfl⟩ := y
    exact ⟨Same.refl _, _, rngP_get lo n hi, .int _⟩
/-- a text's signs -/
def signs (z : Str) : List PD := z.cps.toList.map fun c => PyData.str ⟨#[c]⟩
theorem wk_str {z : Str} (hn : z.length ≤ 100000) : Wk K dr true H (Its z) (signs z) := by
  have e : (signs z).length = z.cps.size := by simp [signs]
  refine ⟨fun _ => True, _, by rw [e]; exact walk_str, by rw [e]; exact sz100 hn, fun _ _ _ => trivial, fun i H1 x H2 _ _ y => ?_⟩
  obtain ⟨rfl, c, h, rfl⟩ := y
  refine ⟨Same.refl _, _, ?_, .str _⟩
  simp [signs, h]
/-- pairs -/
def zipP (l m : List PD) : List PD := List.zipWith (fun a b => PyData.tuple [a, b]) l m
theorem zipP_get {l m : List PD} {i : Nat} {a b : PD} (h1 : l[i]? = some a) (h2 : m[i]? = some b) : (zipP l m)[i]? = some (.tuple [a, b]) := by
  simp [zipP, List.getElem?_zipWith, h1, h2]
theorem walk_zipT {a b : Addr} {xs ys : List V} {n : Nat} (hn : n = min xs.length ys.length) : Walk (RZ.ItzT K a b) n (fun H => SqT K H a xs ∧ SqT K H b ys) (YPair (fun i => xs[i]?) (fun i => ys[i]?)) := by
  subst hn
  refine ⟨fun i _ hi q => ?_, fun _ q => ⟨xs, ys, q.1, q.2, by omega⟩, fun i H v H' _ q y => ?_⟩
  · have h1 : i < xs.length := by omega
    have h2 : i < ys.length := by omega
    exact ⟨xs, ys, xs[i], ys[i], q.1, q.2, by simp [h1], by simp [h2]⟩
  · obtain ⟨T, x, z, h1, h2, h3, h4, h5⟩ := y
    exact ⟨T, x, z, h1, h2, h3, h4 xs q.1, h5 ys q.2⟩
theorem pair_rp {l m : List PD} {xs ys : List V} {i : Nat} {H1 H2 : Hp} {x : V} (z : Fz H H1) (r1 : RpL K H l xs) (r2 : RpL K H m ys) (y : YPair (fun i => xs[i]?) (fun i => ys[i]?) i H1 x H2) : Same H1 H2 ∧ ∃ d, (zipP l m)[i]? = some d ∧ Rp K H2 d x := by
  obtain ⟨T, v, w, rfl, hT, rfl, e1, e2⟩ := y
  have s := same_new (o := .tup [v, w]) hT
  obtain ⟨d1, f1, q1⟩ := (r1.mono z).getv e1
  obtain ⟨d2, f2, q2⟩ := (r2.mono z).getv e2
  exact ⟨s, _, zipP_get f1 f2, .tup upd_same (.cons (q1.mono (.of s)) (.cons (q2.mono (.of s)) .nil))⟩
theorem wk_zipT {a b : Addr} {xs ys : List V} {l m : List PD} (h1 : SqT K H a xs) (h2 : SqT K H b ys) (r1 : RpL K H l xs) (r2 : RpL K H m ys) (hz : xs.length ≤ sizeLine) : Wk K dr true H (RZ.ItzT K a b) (zipP l m) := by
  have e : (zipP l m).length = min xs.length ys.length := by simp [zipP, r1.length, r2.length]
  refine ⟨_, _, walk_zipT (xs := xs) (ys := ys) e, by rw [e]; omega, fun H' z _ => ⟨z.sqt h1, z.sqt h2⟩, fun i H1 x H2 z _ y => pair_rp z r1 r2 y⟩
theorem wk_zipL {lk : Bool} {a b : Addr} {xs ys : List V} {l m : List PD} (h1 : ∀ H', Fz H H' → (lk = true ∨ ExD dr H H') → SqL K H' a xs) (h2 : ∀ H', Fz H H' → (lk = true ∨ ExD dr H H') → SqL K H' b ys) (r1 : RpL K H l xs) (r2 : RpL K H m ys) (hz : xs.length ≤ sizeLine) : Wk K dr lk H (Itz K a b) (zipP l m) := by
  have e : (zipP l m).length = min xs.length ys.length := by simp [zipP, r1.length, r2.length]
  refine ⟨_, _, walk_zip (xs := xs) (ys := ys) e, by rw [e]; omega, fun H' z q => ⟨h1 H' z q, h2 H' z q⟩, fun i H1 x H2 z _ y => pair_rp z r1 r2 y⟩
end
/-- over a value: list, tuple, text -/
def iOf : Vl → Option (Bool × List PD)
  | .d (.list l) => some (true, l)
  | .d (.tuple l) => some (true, l)
  | .brw l => some (false, l)
  | .d (.str z) => if z.length ≤ 100000 then some (true, signs z) else none
  | _ => none
def mIt (m : Me) : Mi := fun ρ ω => (m ρ ω).bind fun u ω => lift (iOf u) ω
section
variable {K : PySem.W.Frag} {mg : Str → Option Value} {W : WX} {dr : Option Addr} {H0 H : Hp} {ρ : Rho} {σ : L2.St} {ω : Dr}
theorem seqEI {m : Me} {f : Vl → Dr → Res Dr (Bool × List PD)} {Q : It → Hp → Prop} {R : VK} (g : Gd K dr H0 ρ σ H ω) (p : PostI K mg W dr H0 ρ σ H Q ((m ρ ω).bind f))
    (k : ∀ u ω' v H', m ρ ω = .ok u ω' → ExD dr H H' → Gd K dr H0 ρ σ H' ω' → RV K dr H' u v → PostI K mg W dr H0 ρ σ H' Q (f u ω') → R v H') : rdE K mg W m σ H R := by
  refine ⟨dr, H0, ρ, ω, g, ?_⟩
  cases h : m ρ ω with
  | ok u ω' =>
    rw [h] at p
    intro v H' e g' r
    refine k u ω' v H' h e g' r ?_
    have p' : PostI K mg W dr H0 ρ σ H Q (f u ω') := p
    cases h2 : f u ω' with
    | ok u2 ω2 => obtain ⟨lk, it⟩ := u2; rw [h2] at p'; exact fun v2 H2 e2 g2 r2 => p' v2 H2 (e.trans e2) g2 r2
    | exc x ω2 => rw [h2] at p'; exact fun c od H2 e2 g2 r2 => p' c od H2 (e.trans e2) g2 r2
    | stuck => rw [h2] at p'; exact p'
  | exc x ω' => rw [h] at p; exact p
  | stuck => rw [h] at p; exact p
end
section
variable {X : Cx} {W : WX} {tg a b : Expr} {ma mb : Me} {ms : Mes} {pos p : Pos}
theorem mi_it (ha : ME X W a ma) : MI X W tg a (mIt ma) := pi_imp (pi_or (pi_bd (pi_list ha)) (pi_or (pi_bd (pi_tup ha)) (pi_bd (pi_str ha)))) fun σ H R ⟨dr, H0, ρ, ω, g, p⟩ => by
  unfold mIt at p
  cases h : ma ρ ω with
  | ok u ω1 =>
    by_cases hl : ∃ l, lstOf u = some l
    · refine .inl (seqEI (Q := R) g p fun u' ω' v H1 hu e1 g1 r1 p1 => ?_)
      rw [h] at hu; cases hu
      obtain ⟨l, hl⟩ := hl
      cases u with
      | d d =>
        cases d with
        | list m =>
          cases hl
          cases r1 with
          | lst h1 r => exact ⟨_, rfl, ⟨_, .inl (.inr ⟨_, h1⟩)⟩, fun bd => p1 _ H1 (ExD.refl _ _) g1 (wk_frz h1 r (bd _ _ (.inl (.inl (.inr ⟨_, h1⟩)))))⟩
        | _ => cases hl
      | brw m =>
        cases hl
        obtain ⟨a', xs, rfl, n, h1, r⟩ := r1
        exact ⟨a', rfl, ⟨xs, h1⟩, fun bd => p1 _ H1 (ExD.refl _ _) g1 (wk_brw n h1 r (bd _ _ (.inl h1)))⟩
      | _ => cases hl
    · refine .inr ?_
      cases u with
      | d d =>
        cases d with
        | tuple m =>
          refine .inl (seqEI (Q := R) g p fun u' ω' v H1 hu e1 g1 r1 p1 => ?_)
          rw [h] at hu; cases hu
          cases r1 with
          | tup h1 r => exact ⟨_, rfl, ⟨_, SqT.of h1⟩, fun bd => p1 _ H1 (ExD.refl _ _) g1 (wk_tup (SqT.of h1) r (bd _ _ (.inr (SqT.of h1))))⟩
        | str z =>
          refine .inr (seqEI (Q := R) g p fun u' ω' v H1 hu e1 g1 r1 p1 => ?_)
          rw [h] at hu; cases hu
          cases r1
          unfold iOf at p1
          dsimp only at p1
          split at p1
          · rename_i hz
            exact ⟨z, rfl, fun bd => p1 _ H1 (ExD.refl _ _) g1 (wk_str hz)⟩
          · exact False.elim p1
        | list m => exact (hl ⟨m, rfl⟩).elim
        | _ => rw [h] at p; exact False.elim p
      | brw m => exact (hl ⟨m, rfl⟩).elim
      | _ => rw [h] at p; exact False.elim p
  | exc x ω' =>
    refine .inl ⟨dr, H0, ρ, ω, g, ?_⟩
    rw [h] at p ⊢
    exact p
  | stuck => rw [h] at p; exact False.elim p
/-- range(n) -/
def mRng1 (ms : Mes) : Mi := fun ρ ω => (ms ρ ω).bind fun us ω => match us with
  | [.d (.int j)] => if j ≤ 100000 ∧ -100000 ≤ j then .ok (true, rngP 0 j.toNat) ω else .stuck
  | _ => .stuck
def mRng2 (ms : Mes) : Mi := fun ρ ω => (ms ρ ω).bind fun us ω => match us with
  | [.d (.int i), .d (.int j)] => if j ≤ 50000 ∧ -50000 ≤ j ∧ i ≤ 50000 ∧ -50000 ≤ i then .ok (true, rngP i (j - i).toNat) ω else .stuck
  | _ => .stuck
theorem seqAI {K : PySem.W.Frag} {mg : Str → Option Value} {dr : Option Addr} {H0 H : Hp} {ρ : Rho} {σ : L2.St} {ω : Dr} {f : List Vl → Dr → Res Dr (Bool × List PD)} {Q : It → Hp → Prop} {R : List V → Hp → Prop} (g : Gd K dr H0 ρ σ H ω) (p : PostI K mg W dr H0 ρ σ H Q ((ms ρ ω).bind f))
    (k : ∀ us ω' vs H', ms ρ ω = .ok us ω' → ExD dr H H' → Gd K dr H0 ρ σ H' ω' → Paired (RV K dr H') us vs → PostI K mg W dr H0 ρ σ H' Q (f us ω') → R vs H') : rdA K mg W ms σ H R := by
  refine ⟨dr, H0, ρ, ω, g, ?_⟩
  cases h : ms ρ ω with
  | ok u ω' =>
    rw [h] at p
    intro v H' e g' r
    refine k u ω' v H' h e g' r ?_
    have p' : PostI K mg W dr H0 ρ σ H Q (f u ω') := p
    cases h2 : f u ω' with
    | ok u2 ω2 => obtain ⟨lk, it⟩ := u2; rw [h2] at p'; exact fun v2 H2 e2 g2 r2 => p' v2 H2 (e.trans e2) g2 r2
    | exc x ω2 => rw [h2] at p'; exact fun c od H2 e2 g2 r2 => p' c od H2 (e.trans e2) g2 r2
    | stuck => rw [h2] at p'; exact p'
  | exc x ω' => rw [h] at p; exact p
  | stuck => rw [h] at p; exact p
theorem mi_range1 (hg : Gl X "range") (hm : X.mg "range" = none) (ha : MA X W [a] ms) (hs : starEach [a] X.env = [(false, eval a X.env)] := by rfl) : MI X W tg (.Call (.Name "range" p) [a] [] pos) (mRng1 ms) := pi_imp (pi_range1 hg hm ha.run hs) fun σ H R ⟨dr, H0, ρ, ω, g, p⟩ => by
  refine seqAI (Q := R) g p fun us ω' vs H1 hu e1 g1 r1 p1 => ?_
  split at p1
  · split at p1
    · rename_i j hj
      cases r1 with
      | cons r rr =>
        cases rr; cases r
        exact ⟨j, rfl, by omega, by omega, p1 _ H1 (ExD.refl _ _) g1 (wk_range (by omega))⟩
    · exact False.elim p1
  · exact False.elim p1
theorem mi_range2 (hg : Gl X "range") (hm : X.mg "range" = none) (ha : MA X W [a, b] ms) (hs : starEach [a, b] X.env = [(false, eval a X.env), (false, eval b X.env)] := by rfl) (hs2 : starEach [b] X.env = [(false, eval b X.env)] := by rfl) : MI X W tg (.Call (.Name "range" p) [a, b] [] pos) (mRng2 ms) := pi_imp (pi_range2 hg hm ha.run hs hs2) fun σ H R ⟨dr, H0, ρ, ω, g, p⟩ => by
  refine seqAI (Q := R) g p fun us ω' vs H1 hu e1 g1 r1 p1 => ?_
  split at p1
  · split at p1
    · rename_i i j hj
      cases r1 with
      | cons r rr =>
        cases rr with
        | cons r' rr =>
          cases rr; cases r; cases r'
          exact ⟨i, j, rfl, ⟨by omega, by omega, by omega, by omega⟩, p1 _ H1 (ExD.refl _ _) g1 (wk_range (by omega))⟩
    · exact False.elim p1
  · exact False.elim p1
/-- zip of two tuples or two lists -/
def mZip (ms : Mes) : Mi := fun ρ ω => (ms ρ ω).bind fun us ω => match us with
  | [.d (.tuple l), .d (.tuple m)] => .ok (true, zipP l m) ω
  | [u, v] => match lstOf u, lstOf v with
    | some l, some m => .ok (false, zipP l m) ω
    | _, _ => .stuck
  | _ => .stuck
theorem lst_ex {K : PySem.W.Frag} {dr : Option Addr} {H : Hp} {ω : Dr} {u : Vl} {v : V} {l : List PD} (w : DrAt dr H ω) (h : lstOf u = some l) (r : RV K dr H u v) : ∃ a xs, v = .ref a ∧ SqL K H a xs ∧ RpL K H l xs ∧ ∀ H', ExD dr H H' → SqL K H' a xs := by
  unfold lstOf at h
  split at h
  · cases h
    cases r with
    | lst h1 h2 => exact ⟨_, _, rfl, .inl (.inr ⟨_, h1⟩), h2, fun H' e => .inl (.inr ⟨_, (e.fz w).f _ _ _ h1⟩)⟩
  · cases h
    obtain ⟨a, xs, e, n, h1, h2⟩ := r
    exact ⟨a, xs, e, h1, h2, fun H' e => sql_ex e n h1⟩
  · cases h
theorem mi_zip {elts : List Expr} {kk : Nat} {tpos : Pos} (hg : Gl X "zip") (hm : X.mg "zip" = none) (ha : MA X W [a, b] ms)
    (hs : starEach [a, b] X.env = (false, eval a X.env) :: starEach [b] X.env := by rfl) (hpl : (backTo pos (starEach [b] X.env)).any (·.1) = false := by rfl) :
    MI X W (.Tuple elts kk tpos) (.Call (.Name "zip" p) [a, b] [] pos) (mZip ms) := pi_imp (pi_bd (RZ.pi_zipA hg hm ha.run hs hpl)) fun σ H R ⟨dr, H0, ρ, ω, g, p⟩ => by
  refine seqAI (Q := R) g p fun us ω' vs H1 hu e1 g1 r1 p1 => ?_
  split at p1
  · rename_i l m
    cases r1 with
    | cons r rr =>
      cases rr with
      | cons r' rr =>
        cases rr
        cases r with
        | tup h1 q1 =>
        cases r' with
        | tup h2 q2 => exact ⟨_, _, _, _, rfl, .inr ⟨SqT.of h1, SqT.of h2, fun bd => p1 _ H1 (ExD.refl _ _) g1 (wk_zipT (SqT.of h1) (SqT.of h2) q1 q2 (bd _ _ (.inr (SqT.of h1))))⟩⟩
  · rename_i u v _
    split at p1
    · rename_i l m hu hv
      cases r1 with
      | cons r rr =>
        cases rr with
        | cons r' rr =>
          cases rr
          obtain ⟨a1, xs, rfl, h1, q1, k1⟩ := lst_ex g1.dw hu r
          obtain ⟨b1, ys, rfl, h2, q2, k2⟩ := lst_ex g1.dw hv r'
          refine ⟨_, _, _, _, rfl, .inl ⟨h1, h2, fun bd => p1 _ H1 (ExD.refl _ _) g1 (wk_zipL (fun H' z e => ?_) (fun H' z e => ?_) q1 q2 (bd _ _ (.inl h1)))⟩⟩
          · rcases e with e | e
            · cases e
            · exact k1 H' e
          · rcases e with e | e
            · cases e
            · exact k2 H' e
    · exact False.elim p1
  · exact False.elim p1
end
end FL
end
-- FL8
section
set_option maxRecDepth 100000
set_option maxHeartbeats 2000000
/-! FL8: targets, comprehensions -/
namespace FL
open PySem PySem.Spec L2
/-! ### targets: the slots that are stored, and what is stored -/
abbrev Tg := Rho → PD → Option Rho
def rdG (K : PySem.W.Frag) (is : List Nat) (m : Tg) : TG := fun v σ H Q => ∃ dr H0 ρ ω d, Gd K dr H0 ρ σ H ω ∧ Rp K H d v ∧ ∃ ρ', m ρ d = some ρ' ∧ ∀ σ' H', Same H H' → Gd K dr H0 ρ' σ' H' ω → σ'.length = σ.length → (∀ j, j ∉ is → σ'[j]? = σ[j]?) → Q σ' H'
def MG (X : Cx) (tg : Expr) (is : List Nat) (m : Tg) : Prop := PG X tg (rdG X.K is m)
theorem pg_imp {X : Cx} {e : Expr} {t t' : TG} (h : PG X e t) (i : ∀ v σ H Q, t' v σ H Q → t v σ H Q) : PG X e t' := ⟨fun pins s σ H v u Q I r q => h.run pins s σ H v u Q I r (i v σ H Q q)⟩
def tgName (i : Nat) : Tg := fun ρ d => some (ρ.set i (.val d))
def tgAll : List Nat → Rho → List PD → Option Rho
  | [], ρ, [] => some ρ
  | i :: is, ρ, d :: ds => tgAll is (ρ.set i (.val d)) ds
  | _, _, _ => none
def tgTup (is : List Nat) : Tg := fun ρ d => match d with
  | .tuple ds => tgAll is ρ ds
  | _ => none
def gNames : List Nat → TGs
  | [] => gNil
  | i :: is => gCons (gName i) (gNames is)
section
variable {X : Cx}
theorem mg_name {i : Nat} {x : Str} {pos : Pos} (hN : X.N.Nodup) (hi : X.N[i]? = some x := by rfl) (hx : Loc X.env.scope x := by first | exact Or.inl rfl | exact Or.inr rfl) (hf : X.fn x = true ∨ X.env.scope.names.lookup x = some .local := by first | exact .inl rfl | exact .inr rfl | assumption) : MG X (.Name x pos) [i] (tgName i) :=
  pg_imp (pg_name hN hi hx hf) fun v σ H Q ⟨dr, H0, ρ, ω, d, g, r, ρ', e, k⟩ => by
    cases e
    refine k _ H (Same.refl H) (g.put (s := .val d) g r i) (by simp) fun j hj => ?_
    rw [List.getElem?_set_ne (fun z => hj (by simp [z]))]
theorem names_run {K : PySem.W.Frag} {dr : Option Addr} {H0 H : Hp} {ω : Dr} : ∀ (is : List Nat) (ρ ρ' : Rho) (σ : L2.St) (ds : List PD) (vs : List V) (Q : L2.St → Hp → Prop), tgAll is ρ ds = some ρ' → Gd K dr H0 ρ σ H ω → RpL K H ds vs →
    (∀ σ', Gd K dr H0 ρ' σ' H ω → σ'.length = σ.length → (∀ j, j ∉ is → σ'[j]? = σ[j]?) → Q σ' H) → gNames is vs σ H Q
  | [], ρ, ρ', σ, [], vs, Q, h, g, r, k => by
    cases h; cases r
    exact ⟨rfl, k σ g rfl fun _ _ => rfl⟩
  | [], _, _, _, _ :: _, _, _, h, _, _, _ => by cases h
  | _ :: _, _, _, _, [], _, _, h, _, _, _ => by cases h
  | i :: is, ρ, ρ', σ, d :: ds, vs, Q, h, g, r, k => by
    cases r with
    | cons r1 r2 =>
      rename_i v vs
      refine ⟨v, vs, rfl, ?_⟩
      refine names_run is (ρ.set i (.val d)) ρ' (σ.set i (some v)) ds vs Q h (g.put (s := .val d) g r1 i) r2 fun σ' g' hl hj => ?_
      refine k σ' g' (by simpa using hl) fun j nj => ?_
      rw [hj j (fun z => nj (List.mem_cons_of_mem _ z)), List.getElem?_set_ne (fun z => nj (by simp [z]))]
theorem mgs_nil : PGs X [] (gNames []) := pgs_nil
theorem mgs_cons {i : Nat} {is : List Nat} {x : Str} {pos : Pos} {es : List Expr} (hN : X.N.Nodup) (h2 : PGs X es (gNames is)) (hi : X.N[i]? = some x := by rfl) (hx : Loc X.env.scope x := by first | exact Or.inl rfl | exact Or.inr rfl)
    (hf : X.fn x = true ∨ X.env.scope.names.lookup x = some .local := by first | exact .inl rfl | exact .inr rfl | assumption)
    (hs : (assignEach (.Name x pos :: es) X.env).map (·.2) = assign (.Name x pos) X.env :: (assignEach es X.env).map (·.2) := by rfl) : PGs X (.Name x pos :: es) (gNames (i :: is)) := pgs_cons (pg_name hN hi hx hf) h2 hs
theorem tgAll_len : ∀ {is : List Nat} {ρ ρ' : Rho} {ds : List PD}, tgAll is ρ ds = some ρ' → ds.length = is.length
  | [], _, _, [], _ => rfl
  | [], _, _, _ :: _, h => by cases h
  | _ :: _, _, _, [], h => by cases h
  | _ :: is, _, _, _ :: ds, h => by simp [tgAll_len (is := is) (ds := ds) h]
theorem mg_tup {es : List Expr} {k : Nat} {is : List Nat} {pos : Pos} (hc : X.calm = true) (h : PGs X es (gNames is)) (hn : (assignEach es X.env).length = is.length := by rfl) (hst : (assignEach es X.env).findIdx? (·.1) = none := by rfl) : MG X (.Tuple es k pos) is (tgTup is) :=
  pg_imp (pg_tup hc h hn hst) fun v σ H Q ⟨dr, H0, ρ, ω, d, g, r, ρ', e, q⟩ => by
    unfold tgTup at e
    cases d with
    | tuple ds =>
      cases r with
      | tup h1 r1 =>
        exact ⟨_, _, rfl, SqT.of h1, by rw [← r1.length]; exact tgAll_len e, names_run is ρ ρ' σ ds _ Q e g r1 fun σ' g' hl hj => q σ' H (Same.refl H) g' hl hj⟩
    | _ => cases e
end

/-! ### comprehensions -/
def wipeR (ρ : Rho) : List Nat → Rho
  | [] => ρ
  | v :: vs => (wipeR ρ vs).set v .none
theorem wipeR_length (ρ : Rho) : ∀ vs, (wipeR ρ vs).length = ρ.length
  | [] => rfl
  | v :: vs => by unfold wipeR; rw [List.length_set, wipeR_length ρ vs]
theorem Gd.wipe {K : PySem.W.Frag} {dr : Option Addr} {H0 H : Hp} {ρ : Rho} {σ : L2.St} {ω : Dr} (g : Gd K dr H0 ρ σ H ω) : ∀ vs : List Nat, Gd K dr H0 (wipeR ρ vs) (L2.wipe σ vs) H ω
  | [] => g
  | v :: vs => by
    have g1 := Gd.wipe g vs
    unfold wipeR L2.wipe
    have at_ : ∀ (j : Nat) (s : Sl), ((wipeR ρ vs).set v .none)[j]? = some s → s ≠ .none → j ≠ v := fun j s h n z => by
      subst z
      by_cases hl : j < (wipeR ρ vs).length
      · rw [List.getElem?_set_self hl] at h; cases h; exact n rfl
      · rw [List.getElem?_eq_none (by simpa using hl)] at h; cases h
    refine ⟨g1.ext, g1.d0, g1.fz, by simp [g1.len], fun j s h => ?_, fun j k s t a hj hk os ot ej ek => ?_, g1.dw⟩
    · cases s with
      | none => trivial
      | _ =>
        have n := at_ j _ h (fun z => nomatch z)
        rw [List.getElem?_set_ne (Ne.symm n)] at h ⊢
        exact g1.sl j _ h
    · have n1 := at_ j _ hj (fun z => by rw [z] at os; cases os)
      have n2 := at_ k _ hk (fun z => by rw [z] at ot; cases ot)
      rw [List.getElem?_set_ne (Ne.symm n1)] at hj ej
      rw [List.getElem?_set_ne (Ne.symm n2)] at hk ek
      exact g1.ne j k s t a hj hk os ot ej ek
theorem wipe_ext {σ σ' : L2.St} {vs is : List Nat} (hs : ∀ i ∈ is, i ∈ vs) (hl : σ'.length = σ.length) (hj : ∀ j, j ∉ is → σ'[j]? = (L2.wipe σ vs)[j]?) : L2.wipe σ' vs = L2.wipe σ vs := by
  have wn : ∀ (τ : L2.St) (ws : List Nat) (j : Nat), j ∈ ws → j < τ.length → (L2.wipe τ ws)[j]? = some none := fun τ ws => by
    induction ws with
    | nil => intro j h; cases h
    | cons w ws ih =>
      intro j h hl
      unfold L2.wipe
      by_cases e : w = j
      · subst e; rw [List.getElem?_set_self (by rw [wipe_length]; exact hl)]
      · rw [List.getElem?_set_ne e]
        rcases List.mem_cons.mp h with z | z
        · exact (e z.symm).elim
        · exact ih j z hl
  apply List.ext_getElem?
  intro j
  by_cases h : j ∈ vs
  · by_cases hlt : j < σ.length
    · rw [wn σ' vs j h (by rw [hl]; exact hlt), wn σ vs j h hlt]
    · rw [List.getElem?_eq_none (by rw [wipe_length, hl]; omega), List.getElem?_eq_none (by rw [wipe_length]; omega)]
  · rw [wipe_out h, hj j (fun z => h (hs j z))]
def compL (vs : List Nat) (tg : Tg) (mt : Mt) (me : Me) (ρ : Rho) : List PD → Dr → Res Dr (List PD)
  | [], ω => .ok [] ω
  | x :: r, ω => match tg (wipeR ρ vs) x with
    | none => .stuck
    | some ρ1 => match mt ρ1 ω with
      | .ok true ω1 => match me ρ1 ω1 with
        | .ok (.d y) ω2 => match compL vs tg mt me ρ r ω2 with
          | .ok ys ω3 => .ok (y :: ys) ω3
          | _ => .stuck
        | _ => .stuck
      | .ok false ω1 => compL vs tg mt me ρ r ω1
      | _ => .stuck
def mComp (vs : List Nat) (mi : Mi) (tg : Tg) (mt : Mt) (me : Me) : Mn := fun ρ ω => (mi ρ ω).bind fun p ω => compL vs tg mt me ρ p.2 ω
def mYes : Mt := fun _ ω => .ok true ω
abbrev W0 : WX := fun _ _ _ _ => False
def MTs (X : Cx) (W : WX) (ifs : List Expr) (m : Mt) : Prop := PTs X ifs (rdT X.K X.mg W m)
theorem pts_imp {X : Cx} {e : List Expr} {t t' : TT} (h : PTs X e t) (i : ∀ σ H Q, t' σ H Q → t σ H Q) : PTs X e t' := ⟨fun pins s σ H Q I q => h.run pins s σ H Q I (i σ H Q q)⟩
theorem mts_nil {X : Cx} {W : WX} : MTs X W [] mYes := pts_imp pts_nil fun σ H Q ⟨dr, H0, ρ, ω, g, p⟩ => p H (ExD.refl _ _) g
theorem mts_one {X : Cx} {W : WX} {c : Expr} {m : Mt} (h : MT X W c m) : MTs X W [c] m := pts_one h
theorem drat_new {dr : Option Addr} {H : Hp} {ω : Dr} {D : Addr} {xs ys : List V} (w : DrAt dr H ω) (hD : H D = some (.lst xs)) (n : dr ≠ some D) : DrAt dr (upd H D (.lst ys)) ω := fun a e => by
  obtain ⟨L, oL, h2, h3, rr⟩ := w a e
  have na : a ≠ D := fun y => n (by rw [e, y])
  exact ⟨L, oL, by rw [upd_ne na]; exact h2, by rw [upd_ne (ne_of h3 hD (fun z => nomatch z))]; exact h3, rr⟩
theorem fz_lst {H : Hp} {D : Addr} {xs : List V} {o : HO} (hD : H D = some (.lst xs)) : Fz H (upd H D o) := ⟨fun b ys w => by rw [upd_ne (ne_of w hD (fun z => nomatch z))]; exact w, fun b u ys w => by rw [upd_ne (ne_of w hD (fun z => nomatch z))]; exact w⟩
theorem none_back {dr : Option Addr} {H H' : Hp} {ω : Dr} {D : Addr} (e : ExD dr H H') (w : DrAt dr H' ω) (h : H' D = none) : H D = none := by
  cases q : H D with
  | none => rfl
  | some o => rw [e D o (dr_ne w h) q] at h; cases h
theorem mn_comp {X : Cx} {W : WX} {elt tg iter : Expr} {ifs : List Expr} {scope : Scope} {own : List (Str × Nat)} {pos : Pos} {mi : Mi} {mg : Tg} {is : List Nat} {mt : Mt} {me : Me} (hc : X.calm = true) (hN : X.N.Nodup) (ok : BlkOk X.N X.env.scope scope own)
    (his : ∀ i ∈ is, i ∈ own.map (·.2)) (hi : MI X W tg iter mi)
    (hg : ∀ (s : Shared) (H : Hp) (C : Addr) (cl : List (Str × Addr)) (fp : List Addr), MG (X.blk s H scope (compEnvC scope cl C X.env) fp) tg is mg)
    (ht : ∀ (s : Shared) (H : Hp) (C : Addr) (cl : List (Str × Addr)) (fp : List Addr), MTs (X.blk s H scope (compEnvC scope cl C X.env) fp) W0 ifs mt)
    (he : ∀ (s : Shared) (H : Hp) (C : Addr) (cl : List (Str × Addr)) (fp : List Addr), ME (X.blk s H scope (compEnvC scope cl C X.env) fp) W0 elt me)
    (hs : ∀ x, foldedSetIterable iter X.env x = pure x := by intro _; rfl) : MN X W (.ListComp elt [⟨tg, iter, ifs, 0⟩] scope pos) (mComp (own.map (·.2)) mi mg mt me) :=
  pe_imp (pe_lc (g := rdG X.K is mg) (tt := rdT X.K X.mg W0 mt) (te := rdE X.K X.mg W0 me) hc hN hi ok hg ht he hs) fun σ H Q ⟨dr, H0, ρ, ω, g, p⟩ => by
    refine ⟨dr, H0, ρ, ω, g, ?_⟩
    unfold mComp at p
    cases h : mi ρ ω with
    | exc x ω' => rw [h] at p; exact p
    | stuck => rw [h] at p; exact p
    | ok u ω0 =>
      obtain ⟨lk, items⟩ := u
      rw [h] at p
      intro J H1 e1 g1 wk D hD
      have p : PostN X.K X.mg W dr H0 ρ σ H Q (compL (own.map (·.2)) mg mt me ρ items ω0) := p
      cases hr : compL (own.map (·.2)) mg mt me ρ items ω0 with
      | stuck => rw [hr] at p; exact False.elim p
      | exc x ωf =>
        exfalso
        have noexc : ∀ (l : List PD) (w : Dr), compL (own.map (·.2)) mg mt me ρ l w ≠ .exc x ωf := fun l => by
          induction l with
          | nil => intro w z; cases z
          | cons y r ih =>
            intro w z
            unfold compL at z
            split at z
            · cases z
            · split at z
              · split at z
                · split at z <;> cases z
                · cases z
              · exact ih _ z
              · cases z
        exact noexc _ _ hr
      | ok ys ωf =>
        rw [hr] at p
        obtain ⟨G, Y, wk, hz, hG, hY⟩ := wk
        have nD : dr ≠ some D := dr_ne g1.dw hD
        let vs := own.map (·.2)
        refine lc_it wk (fun i H' => ∃ ωi rest acc accV, compL vs mg mt me ρ (items.drop i) ωi = .ok rest ωf ∧ acc ++ rest = ys ∧ H' D = some (.lst accV) ∧ RpL X.K H' acc accV ∧ ExD dr H1 H' ∧ DrAt dr H' ωi ∧ acc.length ≤ i) ?_ ?_ ?_ ?_
        · exact ⟨ω0, ys, [], [], hr, rfl, upd_same, .nil, .of (same_new hD), g1.dw.mono (same_new hD), Nat.le_refl _⟩
        · rintro i H' _ ⟨ωi, rest, acc, accV, _, _, _, _, eH, _, _⟩
          exact hG H' (eH.fz g1.dw) (.inr eH)
        · rintro i x H2 H3 hi ⟨ωi, rest, acc, accV, c1, c2, c3, c4, c5, c6, c7⟩ y
          obtain ⟨s3, d, hd, rd⟩ := hY i H2 x H3 (c5.fz g1.dw) (.inr c5) y
          have hdrop : items.drop i = d :: items.drop (i + 1) := by
            have hlt := (List.getElem?_eq_some_iff.mp hd).1
            rw [List.drop_eq_getElem_cons hlt]
            rw [(List.getElem?_eq_some_iff.mp hd).2]
          rw [hdrop] at c1
          have e13 : ExD dr H1 H3 := c5.trans (.of s3)
          have gw : Gd X.K dr H0 (wipeR ρ vs) (L2.wipe σ vs) H3 ωi := (g1.grow e13 (c6.mono s3)).wipe vs
          unfold compL at c1
          split at c1
          · cases c1
          · rename_i ρ1 hρ1
            refine ⟨dr, H0, _, ωi, d, gw, rd, ρ1, hρ1, fun σ2 H4 s4 g4 hl hj => ⟨?_, ?_⟩⟩
            · exact wipe_ext (σ := σ) (σ' := σ2) his (by rw [hl, wipe_length]) hj
            · have hD4 : H4 D = some (.lst accV) := s4 _ _ (s3 _ _ c3)
              refine ⟨dr, H0, ρ1, ωi, g4, ?_⟩
              split at c1
              · -- kept
                rename_i ω1 hmt
                show PostT _ _ _ _ _ _ _ _ _ (mt ρ1 ωi)
                rw [hmt]
                intro H5 e5 g5
                show rdE _ _ _ _ _ _ _
                refine ⟨dr, H0, ρ1, ω1, g5, ?_⟩
                split at c1
                · rename_i y' ω2 hme
                  show PostE _ _ _ _ _ _ _ _ _ (me ρ1 ω1)
                  rw [hme]
                  intro v H6 e6 g6 r6
                  split at c1
                  · rename_i ys' ω3 hrest
                    cases c1
                    have hD6 : H6 D = some (.lst accV) := e6 _ _ nD (e5 _ _ nD hD4)
                    have z26 : Fz H2 H6 := (Fz.of s3).trans ((Fz.of s4).trans ((e5.fz g4.dw).trans (e6.fz g5.dw)))
                    have z67 : Fz H6 (upd H6 D (.lst (accV ++ [v]))) := fz_lst hD6
                    have e16 : ExD dr H1 H6 := e13.trans ((ExD.of s4).trans (e5.trans e6))
                    refine ⟨accV, hD6, ?_, ω2, ys', acc ++ [y'], accV ++ [v], hrest, by rw [List.append_assoc]; exact c2, upd_same, ?_, ?_, drat_new g6.dw hD6 nD, by simp; omega⟩
                    · rw [← c4.length]; omega
                    · exact (c4.mono (z26.trans z67)).append (RpL.one (Rp.mono z67 r6))
                    · exact fun b o nb q => by
                        rw [upd_ne (ne_of_none q hD)]
                        exact e16 b o nb q
                  · cases c1
                · cases c1
              · -- left out
                rename_i ω1 hmt
                show PostT _ _ _ _ _ _ _ _ _ (mt ρ1 ωi)
                rw [hmt]
                intro H5 e5 g5
                show ∃ ωi rest acc accV, _
                exact ⟨ω1, rest, acc, accV, c1, c2, e5 _ _ nD hD4, c4.mono ((Fz.of s3).trans ((Fz.of s4).trans (e5.fz g4.dw))), e13.trans ((ExD.of s4).trans e5), g5.dw, by omega⟩
              · cases c1
        · rintro H' ⟨ωi, rest, acc, accV, c1, c2, c3, c4, c5, c6, c7⟩
          rw [List.drop_length] at c1
          cases c1
          rw [List.append_nil] at c2
          subst c2
          exact p D accV H' (none_back e1 g1.dw hD) c3 nD (e1.trans c5) (g1.grow c5 c6) c4
end FL
end
-- FL9
section
set_option maxRecDepth 100000
set_option maxHeartbeats 2000000
/-! FL9: several stores, loops, raise, defs -/
namespace FL
open PySem PySem.Spec L2
/-! ### several values into slots -/
abbrev Mls := Rho → Dr → Res Dr (List Sl)
def putR : Rho → List Nat → List Sl → Rho
  | ρ, i :: is, s :: ss => putR (ρ.set i s) is ss
  | ρ, _, _ => ρ
def putS : L2.St → List Nat → List V → L2.St
  | σ, i :: is, v :: vs => putS (σ.set i (some v)) is vs
  | σ, _, _ => σ
def Puts (K : PySem.W.Frag) (dr : Option Addr) (H0 H : Hp) (ω : Dr) (ss : List Sl) (vs : List V) (H' : Hp) (ω' : Dr) : Prop := vs.length = ss.length ∧ ∀ (ρ : Rho) (σ : L2.St) (is : List Nat), Gd K dr H0 ρ σ H ω → is.length = ss.length → Gd K dr H0 (putR ρ is ss) (putS σ is vs) H' ω'
def PostAs (K : PySem.W.Frag) (mg : Str → Option Value) (W : WX) (dr : Option Addr) (H0 : Hp) (ρ : Rho) (σ : L2.St) (H : Hp) (ω0 : Dr) (Q : List V → Hp → Prop) : Res Dr (List Sl) → Prop
  | .ok ss ω => ∀ vs H', ExD dr H H' → Gd K dr H0 ρ σ H' ω → Puts K dr H0 H ω0 ss vs H' ω → Q vs H'
  | .exc x ω => ∀ cls od H', ExD dr H H' → Gd K dr H0 ρ σ H' ω → ExcRp mg H' x cls od → W cls od σ H'
  | .stuck => False
def rdAs (K : PySem.W.Frag) (mg : Str → Option Value) (W : WX) (m : Mls) : TA := fun σ H Q => ∃ dr H0 ρ ω, Gd K dr H0 ρ σ H ω ∧ PostAs K mg W dr H0 ρ σ H ω Q (m ρ ω)
structure MAs (X : Cx) (W : WX) (es : List Expr) (m : Mls) : Prop where
  run : PA X es (rdAs X.K X.mg W m)
  len : ∀ ρ ω us ω', m ρ ω = .ok us ω' → us.length = es.length
def mNilL : Mls := fun _ ω => .ok [] ω
def mConsL (m : Msl) (ms : Mls) : Mls := fun ρ ω => (m ρ ω).bind fun u ω => (ms ρ ω).bind fun us ω => .ok (u :: us) ω
section
variable {X : Cx} {W : WX} {e : Expr} {es : List Expr} {m : Msl} {ms : Mls}
theorem mas_nil : MAs X W [] mNilL := ⟨pa_imp pa_nil fun σ H Q ⟨dr, H0, ρ, ω, g, p⟩ => p [] H (ExD.refl _ _) g ⟨rfl, fun ρ' σ' is g' _ => by
  have : putR ρ' is [] = ρ' := by cases is <;> rfl
  have h2 : putS σ' is [] = σ' := by cases is <;> rfl
  rw [this, h2]; exact g'⟩, fun ρ ω us ω' h => by cases h; rfl⟩
theorem mas_cons (he : ML X W e m) (hr : MAs X W es ms) (hs : starEach (e :: es) X.env = (false, eval e X.env) :: starEach es X.env := by rfl) : MAs X W (e :: es) (mConsL m ms) := by
  refine ⟨pa_imp (pa_cons he hr.run hs) fun σ H Q h => ?_, fun ρ ω us ω' h => ?_⟩
  · obtain ⟨dr, H0, ρ, ω, g, p⟩ := h
    refine ⟨dr, H0, ρ, ω, g, ?_⟩
    unfold mConsL at p
    cases h : m ρ ω with
    | ok u ω1 =>
      rw [h] at p
      intro v H1 e1 g1 r1
      refine ⟨dr, H0, ρ, ω1, g1, ?_⟩
      have p : PostAs X.K X.mg W dr H0 ρ σ H ω Q ((ms ρ ω1).bind fun us ω => .ok (u :: us) ω) := p
      cases h2 : ms ρ ω1 with
      | ok us ω2 =>
        rw [h2] at p
        intro vs H2 e2 g2 r2
        refine p (v :: vs) H2 (e1.trans e2) g2 ⟨by simp [r2.1], fun ρ' σ' is g' hl => ?_⟩
        cases is with
        | nil => simp at hl
        | cons i is => exact r2.2 (ρ'.set i u) (σ'.set i (some v)) is (g'.put (g'.grow e1 g1.dw) r1 i) (by simpa using hl)
      | exc x ω2 => rw [h2] at p; exact fun c od H2 e2 g2 r2 => p c od H2 (e1.trans e2) g2 r2
      | stuck => rw [h2] at p; exact p
    | exc x ω' => rw [h] at p; exact p
    | stuck => rw [h] at p; exact p
  · unfold mConsL at h
    cases h1 : m ρ ω with
    | ok u ω1 =>
      rw [h1] at h
      cases h2 : ms ρ ω1 with
      | ok us2 ω2 =>
        simp only [Res.bind, h2] at h
        cases h
        simp [hr.len _ _ _ _ h2]
      | exc x ω2 => simp only [Res.bind, h2] at h; cases h
      | stuck => simp only [Res.bind, h2] at h; cases h
    | exc x ω2 => rw [h1] at h; cases h
    | stuck => rw [h1] at h; cases h
end
/-- a, b = x, y -/
def mPar (is : List Nat) (ms : Mls) : Ms := fun ρ ω => (ms ρ ω).st ρ fun ss ω => .ok .nx (putR ρ is ss, ω)
theorem seqAsS {K : PySem.W.Frag} {mg : Str → Option Value} {W : WX} {ms : Mls} {dr : Option Addr} {H0 H : Hp} {ρ : Rho} {σ : L2.St} {ω : Dr} {f : List Sl → Dr → Res (Rho × Dr) Fl} {D : Ends} {R : List V → Hp → Prop} (g : Gd K dr H0 ρ σ H ω) (p : PostS K mg W dr H0 H D ((ms ρ ω).st ρ f))
    (k : ∀ ss ω' vs H', ms ρ ω = .ok ss ω' → ExD dr H H' → Gd K dr H0 ρ σ H' ω' → Puts K dr H0 H ω ss vs H' ω' → PostS K mg W dr H0 H' D (f ss ω') → R vs H') : rdAs K mg W ms σ H R := by
  refine ⟨dr, H0, ρ, ω, g, ?_⟩
  cases h : ms ρ ω with
  | ok u ω' => rw [h] at p; exact fun v H' e g' r => k u ω' v H' h e g' r (PostS.mono p (e.fz g.dw))
  | exc x ω' => exact fun cls od H' e g' r => st_exc h p cls od H' g' r
  | stuck => rw [h] at p; exact p
section
variable {X : Cx} {W : WX} {ms : Mls} {pos : Pos}
theorem ms_par2 {i j : Nat} {x y : Str} {a b : Expr} {px py pt : Pos} {kt k2 pt2} (hc : X.calm = true) (hN : X.N.Nodup) (ha : MAs X W [a, b] ms) (hi : X.N[i]? = some x := by rfl) (hj : X.N[j]? = some y := by rfl) (hij : i ≠ j := by decide)
    (hx : X.env.scope.names.lookup x = some .local := by rfl) (hy : X.env.scope.names.lookup y = some .local := by rfl)
    (hw : swappedStores [.Tuple [.Name x px, .Name y py] kt pt] (.Tuple [a, b] k2 pt2) X.env = pure (some [x, y]) := by rfl)
    (hs : swapsWithSole [.Tuple [.Name x px, .Name y py] kt pt] (.Tuple [a, b] k2 pt2) pos.line X.env = pure false := by rfl) :
    MS X W (.Assign [.Tuple [.Name x px, .Name y py] kt pt] (.Tuple [a, b] k2 pt2) pos) (mPar [i, j] ms) :=
  ps_imp (ps_par hc hN hi hj hij hx hy ha.run hw hs) fun D σ H ⟨dr, H0, ρ, ω, g, p⟩ => seqAsS (D := D) g p fun ss ω' vs H' hm e g' r p' => by
    have l1 := r.1
    rw [ha.len _ _ _ _ hm] at l1
    match vs, l1 with
    | [v, w], _ => exact ⟨v, w, rfl, p' _ _ (Fz.refl _) (r.2 ρ σ [i, j] g (by rw [ha.len _ _ _ _ hm]; rfl))⟩
theorem ms_par3 {i j l : Nat} {x y z : Str} {a b c : Expr} {px py pz pt : Pos} {kt k2 pt2} (hc : X.calm = true) (hN : X.N.Nodup) (ha : MAs X W [a, b, c] ms) (hi : X.N[i]? = some x := by rfl) (hj : X.N[j]? = some y := by rfl) (hl : X.N[l]? = some z := by rfl) (hij : i ≠ j := by decide) (hil : i ≠ l := by decide) (hjl : j ≠ l := by decide)
    (hx : X.env.scope.names.lookup x = some .local := by rfl) (hy : X.env.scope.names.lookup y = some .local := by rfl) (hz : X.env.scope.names.lookup z = some .local := by rfl)
    (hw : swappedStores [.Tuple [.Name x px, .Name y py, .Name z pz] kt pt] (.Tuple [a, b, c] k2 pt2) X.env = pure (some [x, y, z]) := by rfl)
    (hs : swapsWithSole [.Tuple [.Name x px, .Name y py, .Name z pz] kt pt] (.Tuple [a, b, c] k2 pt2) pos.line X.env = pure false := by rfl) :
    MS X W (.Assign [.Tuple [.Name x px, .Name y py, .Name z pz] kt pt] (.Tuple [a, b, c] k2 pt2) pos) (mPar [i, j, l] ms) :=
  ps_imp (ps_par3 hc hN hi hj hl hij hil hjl hx hy hz ha.run hw hs) fun D σ H ⟨dr, H0, ρ, ω, g, p⟩ => seqAsS (D := D) g p fun ss ω' vs H' hm e g' r p' => by
    have l1 := r.1
    rw [ha.len _ _ _ _ hm] at l1
    match vs, l1 with
    | [v, w, u], _ => exact ⟨v, w, u, rfl, p' _ _ (Fz.refl _) (r.2 ρ σ [i, j, l] g (by rw [ha.len _ _ _ _ hm]; rfl))⟩
theorem gNames_put : ∀ (is : List Nat) (vs : List V) (σ : L2.St) (H : Hp) (Q : L2.St → Hp → Prop), is.length = vs.length → Q (putS σ is vs) H → gNames is vs σ H Q
  | [], [], σ, H, Q, _, q => ⟨rfl, q⟩
  | i :: is, v :: vs, σ, H, Q, h, q => ⟨v, vs, rfl, gNames_put is vs _ H Q (by simpa using h) q⟩
  | [], _ :: _, _, _, _, h, _ => by simp at h
  | _ :: _, [], _, _, _, h, _ => by simp at h
/-- four and more: through a tuple -/
theorem ms_parN {es ts : List Expr} {is : List Nat} {kt : Nat} {k2 : Nat} {pt pt2 : Pos} (hc : X.calm = true) (ha : MAs X W es ms) (hg : PGs X ts (gNames is)) (hl : is.length = es.length := by rfl) (hz : es.length ≤ 100000 := by decide) (hn : (assignEach ts X.env).length = is.length := by rfl) (hst : (assignEach ts X.env).findIdx? (·.1) = none := by rfl)
    (hs : swapsWithSole [.Tuple ts kt pt] (.Tuple es k2 pt2) pos.line X.env = pure false := by rfl) (hw : swappedStores [.Tuple ts kt pt] (.Tuple es k2 pt2) X.env = pure none := by rfl)
    (h1 : (assignEach [.Tuple ts kt pt] X.env).map (·.2) = [assign (.Tuple ts kt pt) X.env] := by rfl) : MS X W (.Assign [.Tuple ts kt pt] (.Tuple es k2 pt2) pos) (mPar is ms) :=
  ps_imp (ps_asg (pe_tup ha.run) (pg_tup hc hg hn hst) hs hw h1) fun D σ H ⟨dr, H0, ρ, ω, g, p⟩ => seqAsS (D := D) g p fun ss ω' vs H' hm e g' r p' => by
    have ls := ha.len _ _ _ _ hm
    have lv : vs.length = es.length := r.1.trans ls
    refine ⟨by rw [lv]; exact sz100 hz, fun q hq => ?_⟩
    have s := same_new (o := .tup vs) hq
    refine ⟨q, vs, rfl, SqT.of upd_same, by rw [lv, hl], gNames_put is vs σ _ _ (by rw [lv, hl]) (p' _ _ (.of s) ((r.2 ρ σ is g (by rw [hl, ls])).same s))⟩
/-- a, b = e, e a tuple (or a list) -/
def mUnp (is : List Nat) (m : Me) : Ms := fun ρ ω => (m ρ ω).st ρ fun u ω => match tupOf u with
  | some ds => match tgAll is ρ ds with
    | some ρ' => .ok .nx (ρ', ω)
    | none => .stuck
  | none => .stuck
def mUnpL (is : List Nat) (m : Me) : Ms := fun ρ ω => (m ρ ω).st ρ fun u ω => match lstOf u with
  | some ds => match tgAll is ρ ds with
    | some ρ' => .ok .nx (ρ', ω)
    | none => .stuck
  | none => .stuck
theorem ms_unp {e : Expr} {m : Me} {ts : List Expr} {is : List Nat} {kt : Nat} {pt : Pos} (hc : X.calm = true) (he : ME X W e m) (hg : PGs X ts (gNames is)) (hn : (assignEach ts X.env).length = is.length := by rfl) (hst : (assignEach ts X.env).findIdx? (·.1) = none := by rfl)
    (hs : swapsWithSole [.Tuple ts kt pt] e pos.line X.env = pure false := by rfl) (hw : swappedStores [.Tuple ts kt pt] e X.env = pure none := by rfl)
    (h1 : (assignEach [.Tuple ts kt pt] X.env).map (·.2) = [assign (.Tuple ts kt pt) X.env] := by rfl) : MS X W (.Assign [.Tuple ts kt pt] e pos) (mUnp is m) :=
  ps_imp (ps_asg he (pg_tup hc hg hn hst) hs hw h1) fun D σ H ⟨dr, H0, ρ, ω, g, p⟩ => seqES (D := D) g p fun u ω' v H' e g' r p' => by
    cases ht : tupOf u with
    | none => rw [ht] at p'; exact False.elim p'
    | some ds =>
      rw [ht] at p'
      obtain ⟨a, xs, rfl, h1, r1⟩ := tup_rv ht r
      dsimp only at p'
      cases hr : tgAll is ρ ds with
      | none => rw [hr] at p'; exact False.elim p'
      | some ρ' =>
        rw [hr] at p'
        exact ⟨a, xs, rfl, SqT.of h1, by rw [← r1.length]; exact tgAll_len hr, names_run is ρ ρ' σ ds xs _ hr g' r1 fun σ' g2 _ _ => p' σ' H' (Fz.refl _) g2⟩
theorem ms_unpL {e : Expr} {m : Me} {ts : List Expr} {is : List Nat} {kt : Nat} {pt : Pos} (hc : X.calm = true) (he : ME X W e m) (hg : PGs X ts (gNames is)) (hn : (assignEach ts X.env).length = is.length := by rfl) (hst : (assignEach ts X.env).findIdx? (·.1) = none := by rfl)
    (hs : swapsWithSole [.Tuple ts kt pt] e pos.line X.env = pure false := by rfl) (hw : swappedStores [.Tuple ts kt pt] e X.env = pure none := by rfl)
    (h1 : (assignEach [.Tuple ts kt pt] X.env).map (·.2) = [assign (.Tuple ts kt pt) X.env] := by rfl) : MS X W (.Assign [.Tuple ts kt pt] e pos) (mUnpL is m) :=
  ps_imp (ps_asg he (pg_unl hc hg hn hst) hs hw h1) fun D σ H ⟨dr, H0, ρ, ω, g, p⟩ => seqES (D := D) g p fun u ω' v H' e g' r p' => by
    cases ht : lstOf u with
    | none => rw [ht] at p'; exact False.elim p'
    | some ds =>
      rw [ht] at p'
      obtain ⟨a, xs, rfl, h1, r1⟩ := lst_rv ht r
      dsimp only at p'
      cases hr : tgAll is ρ ds with
      | none => rw [hr] at p'; exact False.elim p'
      | some ρ' =>
        rw [hr] at p'
        exact ⟨a, xs, rfl, h1, by rw [← r1.length]; exact tgAll_len hr, names_run is ρ ρ' σ ds xs _ hr g' r1 fun σ' g2 _ _ => p' σ' H' (Fz.refl _) g2⟩
end

/-! ### loops -/
def forL (tg : Tg) (body : Ms) : List PD → Rho → Dr → Res (Rho × Dr) Fl
  | [], ρ, ω => .ok .nx (ρ, ω)
  | x :: r, ρ, ω => match tg ρ x with
    | none => .stuck
    | some ρ1 => match body ρ1 ω with
      | .ok .nx (ρ2, ω2) => forL tg body r ρ2 ω2
      | .ok .ct (ρ2, ω2) => forL tg body r ρ2 ω2
      | .ok .bk (ρ2, ω2) => .ok .nx (ρ2, ω2)
      | .ok (.rt d) s => .ok (.rt d) s
      | .exc x s => .exc x s
      | .stuck => .stuck
def mFor (mi : Mi) (tg : Tg) (body : Ms) : Ms := fun ρ ω => (mi ρ ω).st ρ fun p ω => if p.1 = true then forL tg body p.2 ρ ω else .stuck
def whileN (c : Mt) (body : Ms) : Nat → Rho → Dr → Res (Rho × Dr) Fl
  | 0, _, _ => .stuck
  | n + 1, ρ, ω => (c ρ ω).st ρ fun b ω => if b = true then match body ρ ω with
      | .ok .nx (ρ2, ω2) => whileN c body n ρ2 ω2
      | .ok .ct (ρ2, ω2) => whileN c body n ρ2 ω2
      | .ok .bk (ρ2, ω2) => .ok .nx (ρ2, ω2)
      | .ok (.rt d) s => .ok (.rt d) s
      | .exc x s => .exc x s
      | .stuck => .stuck
    else .ok .nx (ρ, ω)
def mWhile (n : Nat) (c : Mt) (body : Ms) : Ms := fun ρ ω => whileN c body n ρ ω
section
variable {X : Cx} {W : WX} {pos : Pos}
theorem ms_for {iter tg : Expr} {body : List Stmt} {mi : Mi} {is : List Nat} {mg : Tg} {mb : Ms} (hp : PassesOwn (model X.prog X.w) X.A X.env X.xe) (hc : X.calm = true) (hi : MI X W tg iter mi) (hg : MG X tg is mg) (hb : MSs X W body mb)
    (hs : ∀ x, foldedSetIterable iter X.env x = pure x := by intro _; rfl) : MS X W (.For tg iter body [] pos) (mFor mi mg mb) :=
  ps_imp (ps_for hp hc hi hg hb hs) fun D σ H ⟨dr, H0, ρ, ω, g, p⟩ => by
    refine ⟨dr, H0, ρ, ω, g, ?_⟩
    unfold mFor at p
    cases h : mi ρ ω with
    | exc x ω' => exact fun cls od H' e g' r => st_exc h p cls od H' g' r
    | stuck => rw [h] at p; exact p
    | ok u ω0 =>
      obtain ⟨lk, items⟩ := u
      rw [h] at p
      intro J H1 e1 g1 wk
      have p : PostS X.K X.mg W dr H0 H D (if lk = true then forL mg mb items ρ ω0 else .stuck) := p
      cases lk with
      | false => exact False.elim p
      | true =>
        have p : PostS X.K X.mg W dr H0 H1 D (forL mg mb items ρ ω0) := PostS.mono p (e1.fz g.dw)
        obtain ⟨G, Y, wk, hz, hG, hY⟩ := wk
        refine for_it wk (fun i σ' H' => ∃ ρi ωi, Gd X.K dr H0 ρi σ' H' ωi ∧ Fz H1 H' ∧ PostS X.K X.mg W dr H0 H' D (forL mg mb (items.drop i) ρi ωi)) ⟨ρ, ω0, g1, Fz.refl _, p⟩ ?_ ?_ ?_
        · rintro i σ' H' _ ⟨ρi, ωi, gi, zi, _⟩
          exact hG H' zi (.inl rfl)
        · rintro i x σ' H2 H3 hi ⟨ρi, ωi, gi, zi, pi⟩ y
          obtain ⟨s3, d, hd, rd⟩ := hY i H2 x H3 zi (.inl rfl) y
          have hdrop : items.drop i = d :: items.drop (i + 1) := by
            have hlt := (List.getElem?_eq_some_iff.mp hd).1
            rw [List.drop_eq_getElem_cons hlt]
            rw [(List.getElem?_eq_some_iff.mp hd).2]
          rw [hdrop] at pi
          unfold forL at pi
          cases ht : mg ρi d with
          | none => rw [ht] at pi; exact False.elim pi
          | some ρ1 =>
            rw [ht] at pi
            refine ⟨dr, H0, ρi, ωi, d, gi.same s3, rd, ρ1, ht, fun σ2 H4 s4 g4 _ _ => ⟨dr, H0, ρ1, ωi, g4, ?_⟩⟩
            dsimp only at pi
            have z24 : Fz H2 H4 := (Fz.of s3).trans (.of s4)
            have z4 : Fz H1 H4 := zi.trans z24
            have pi := PostS.mono pi z24
            cases hb : mb ρ1 ωi with
            | ok f st =>
              obtain ⟨ρ2, ω2⟩ := st
              rw [hb] at pi
              cases f with
              | nx => exact fun σ5 H5 z5 g5 => ⟨ρ2, ω2, g5, z4.trans z5, PostS.mono pi z5⟩
              | ct => exact fun σ5 H5 z5 g5 => ⟨ρ2, ω2, g5, z4.trans z5, PostS.mono pi z5⟩
              | bk => exact pi
              | rt d => exact pi
            | exc x st => rw [hb] at pi; exact pi
            | stuck => rw [hb] at pi; exact pi
        · rintro σ' H' ⟨ρi, ωi, gi, zi, pi⟩
          rw [List.drop_length] at pi
          exact pi σ' H' (Fz.refl _) gi
theorem ms_while (n : Nat) {c : Expr} {body : List Stmt} {mc : Mt} {mb : Ms} (hp : PassesOwn (model X.prog X.w) X.A X.env X.xe) (hc : MT X W c mc) (hb : MSs X W body mb) : MS X W (.While c body [] pos) (mWhile n mc mb) :=
  ps_imp (ps_while hp hc hb) fun D σ H ⟨dr, H0, ρ, ω, g, p⟩ => by
    refine ⟨fun m σ' H' => ∃ ρ' ω', Gd X.K dr H0 ρ' σ' H' ω' ∧ PostS X.K X.mg W dr H0 H' D (whileN mc mb m ρ' ω'), ⟨n, ρ, ω, g, p⟩, fun m σ' H' ⟨ρ', ω', g', p'⟩ => ?_⟩
    cases m with
    | zero => exact False.elim p'
    | succ m =>
      unfold whileN at p'
      refine seqTS (D := D) g' p' fun b ω1 H1 e1 g1 p1 => ?_
      cases b with
      | false => exact p1 σ' H1 (Fz.refl _) g1
      | true =>
        refine ⟨fun σ2 H2 => ∃ ρ2 ω2, Gd X.K dr H0 ρ2 σ2 H2 ω2 ∧ PostS X.K X.mg W dr H0 H2 D (whileN mc mb m ρ2 ω2), fun σ2 H2 h => ⟨m, Nat.lt_succ_self m, h⟩, dr, H0, ρ', ω1, g1, ?_⟩
        rw [if_pos rfl] at p1
        cases hb : mb ρ' ω1 with
        | ok f st =>
          obtain ⟨ρ2, ω2⟩ := st
          rw [hb] at p1
          cases f with
          | nx => exact fun σ5 H5 z5 g5 => ⟨ρ2, ω2, g5, PostS.mono p1 z5⟩
          | ct => exact fun σ5 H5 z5 g5 => ⟨ρ2, ω2, g5, PostS.mono p1 z5⟩
          | bk => exact p1
          | rt d => exact p1
        | exc x st => rw [hb] at p1; exact p1
        | stuck => rw [hb] at p1; exact p1
end

/-! ### raise, defs -/
def mRaise (x : Str) : Ms := fun ρ ω => .exc (x, none) (ρ, ω)
section
variable {X : Cx} {W : WX} {pos : Pos}
theorem ms_raise {C : Addr} {bmB : List Value} {B newId initId : String} {x m : Str} {j : Nat} {p p2 pos2 : Pos} (F : PySem.ExcBaseFacts B newId initId bmB) (hc : X.calm = true) (tk : Takes X W) (q : PySem.W.excIn X.K C bmB newId = true) (gC : X.mg x = some (.ref C)) (kC : PySem.W.keepIn X.K (.ref C) = true) (r : Raises X (.ref C)) (hg : Gl X x)
    (hdb : (x == ("__debug__" : Str)) = false := by decide) : MS X W (.Raise (some (.Call (.Name x p) [.Constant (.str m) j p2] [] pos)) none pos2) (mRaise x) :=
  ps_imp (ps_raise hc tk (pmk_own F q gC kC r hg hdb)) fun D σ H ⟨dr, H0, ρ, ω, g, p⟩ => p (.ref C) none σ H g ⟨C, gC, rfl, rfl⟩
end
/-- a def's meaning by its body's -/
def mDef (nN np : Nat) (m : Ms) : Mf := fun us ω => if us.length = np then match m (us.map .par ++ List.replicate (nN - np) .none) ω with
    | .ok (.rt d) (_, ω') => .ok d ω'
    | .ok .nx (_, ω') => .ok .none ω'
    | .exc x (_, ω') => .exc x ω'
    | _ => .stuck
  else .stuck
abbrev WE0 (E : XK) : WX := fun cls d _ H => E cls d H
theorem gd_start {K : PySem.W.Frag} {dr : Option Addr} {H : Hp} {ω : Dr} {us : List Vl} {vs : List V} {N : List Str} (w : DrAt dr H ω) (r : Paired (RV K dr H) us vs) : Gd K dr H (us.map .par ++ List.replicate (N.length - us.length) .none) (L2.start N vs) H ω := by
  have hl := Paired.length r
  have getp : ∀ {us : List Vl} {vs : List V} {i : Nat} {u : Vl}, Paired (RV K dr H) us vs → us[i]? = some u → ∃ v, vs[i]? = some v ∧ RV K dr H u v := by
    intro us vs i u r
    induction r generalizing i with
    | nil => intro h; simp at h
    | cons a _ ih =>
      intro h
      cases i with
      | zero => simp at h; subst h; exact ⟨_, rfl, a⟩
      | succ i => simpa using ih (by simpa using h)
  refine ⟨ExD.refl _ _, fun a e => ?_, Fz.refl _, ?_, fun i s h => ?_, fun i j s t a h _ os _ _ _ => ?_, w⟩
  · obtain ⟨_, _, q, _⟩ := w a e
    exact ⟨_, q⟩
  · unfold L2.start
    simp [hl]
  · by_cases hi : i < us.length
    · rw [List.getElem?_append_left (by simpa using hi), List.getElem?_map, List.getElem?_eq_getElem hi] at h
      cases h
      obtain ⟨v, e, rv⟩ := getp r (List.getElem?_eq_getElem hi)
      refine ⟨v, ?_, rv⟩
      unfold L2.start
      rw [List.getElem?_append_left (by rw [List.length_map, ← hl]; exact hi), List.getElem?_map, e]
      rfl
    · rw [List.getElem?_append_right (by simpa using Nat.le_of_not_lt hi)] at h
      rw [List.getElem?_replicate] at h
      split at h
      · cases h; trivial
      · cases h
  · exfalso
    by_cases hi : i < us.length
    · rw [List.getElem?_append_left (by simpa using hi), List.getElem?_map, List.getElem?_eq_getElem hi] at h
      cases h; cases os
    · rw [List.getElem?_append_right (by simpa using Nat.le_of_not_lt hi)] at h
      rw [List.getElem?_replicate] at h
      split at h
      · cases h; cases os
      · cases h
theorem fn_ok {P : Program} {w : World} {K : PySem.W.Frag} {mg : Str → Option Value} {base : Heap} {x qual : Str} {st : Stmt} {f : Addr} {fd : FuncData} {N ps : List Str} {k : Nat} {m : Ms} (F : Fun K x qual st f fd) (S : FnScope N ps (defScope st))
    (hb : ∀ (cdv : Value) (A : Around) (outer : List Env) (s : Shared) (H : Hp) (E : XK), Room k (A.deeper (PyProof.Rows.envOfC qual (defScope st) s.heap.objs.size f cdv)) → MSs (cxOf (L2.CX P w) P w K mg base N qual (defScope st) f cdv A outer s H E) (WE0 E) (defBody st) m) :
    FnOk P w K mg base (L2.CX P w) (k + 1) f fd ps (spF K mg ps.length (mDef N.length ps.length m)) :=
  F.okX S (fun vs H Q E h => by obtain ⟨_, _, _, h, _⟩ := h; exact h) fun cdv A outer s H vs Q E hr h => by
    obtain ⟨dr, ω, us, hl, w', r, p⟩ := h
    have hu : us.length = ps.length := by rw [Paired.length r, hl]
    refine ⟨_, hb cdv A outer s H E hr, dr, H, _, ω, gd_start (N := N) w' r, ?_⟩
    unfold mDef at p
    rw [if_pos hu] at p
    rw [hu]
    show PostS K mg (WE0 E) dr H H _ (m (us.map .par ++ List.replicate (N.length - ps.length) .none) ω)
    cases hm : m (us.map .par ++ List.replicate (N.length - ps.length) .none) ω with
    | ok fl s' =>
      obtain ⟨ρ', ω'⟩ := s'
      rw [hm] at p
      cases fl with
      | nx => exact fun σ' H' z g => p .non H' g.ext g.dw .non
      | rt d => exact fun v H' e w2 rd => p v H' e w2 rd
      | bk => exact False.elim p
      | ct => exact False.elim p
    | exc x' s' =>
      obtain ⟨ρ', ω'⟩ := s'
      rw [hm] at p
      exact fun cls od σ' H' g rx => p cls od H' g.ext g.dw rx
    | stuck => rw [hm] at p; exact False.elim p
end FL
end
-- FLA
section
set_option maxRecDepth 100000
set_option maxHeartbeats 2000000
/-! FLA: isinstance, texts, in, dicts -/
namespace FL
open PySem PySem.Spec L2
section
variable {K : PySem.W.Frag} {mg : Str → Option Value} {W : WX} {dr : Option Addr} {H0 H : Hp} {ρ : Rho} {σ : L2.St} {ω : Dr}
end
/-! ### isinstance -/
def tyOf : Vl → Option String
  | .d .none => some "NoneType"
  | .d (.bool _) => some "bool"
  | .d (.int _) => some "int"
  | .d (.str _) => some "str"
  | .d (.list _) => some "list"
  | .d (.tuple _) => some "tuple"
  | _ => none
theorem tyOf_rv {K : PySem.W.Frag} {dr : Option Addr} {H : Hp} {u : Vl} {v : V} {T : String} (h : tyOf u = some T) (r : RV K dr H u v) : TyX K H v (.type T) := by
  cases u with
  | d d =>
    have r : Rp K H d v := r
    cases r with
    | non => cases h; exact .base .non
    | bl b => cases h; exact .base (.bl b)
    | int i => cases h; exact .base (.int i)
    | str x => cases h; exact .base (.str x)
    | lst h1 r1 => cases h; exact .base (.frz h1)
    | tup h1 r1 => cases h; exact .base (.tup h1)
  | _ => cases h
def mIsI (T : String) (m : Me) : Me := fun ρ ω => (m ρ ω).bind fun u ω => match tyOf u with
  | some t => match kitB t T with
    | some b => .ok (.d (.bool b)) ω
    | none => .stuck
  | none => .stuck
section
variable {X : Cx} {W : WX} {a b c : Expr} {ma mb mk mv : Me} {pos p p1 : Pos}
theorem me_isi {T : String} {x : Str} (hg : Gl X "isinstance") (hm : X.mg "isinstance" = none) (hg2 : Gl X x) (hm2 : X.mg x = none) (hv2 : bootBuiltins x = some (.type T)) (ha : ME X W a ma)
    (hv : bootBuiltins "isinstance" = some (.builtin "isinstance") := by decide +kernel) (hn2 : x ≠ "__name__" := by decide) (hd2 : (x == ("__debug__" : Str)) = false := by decide)
    (he : starEach [a, .Name x p1] X.env = (false, eval a X.env) :: starEach [.Name x p1] X.env := by rfl) (he2 : starEach [.Name x p1] X.env = (false, eval (.Name x p1) X.env) :: starEach [] X.env := by rfl)
    (hpl : (backTo pos (starEach [.Name x p1] X.env)).any (·.1) = false := by rfl) : ME X W (.Call (.Name "isinstance" p) [a, .Name x p1] [] pos) (mIsI T ma) :=
  pe_imp (pe_callB call_isi hg hm hv (pa_cons ha (pa_cons (pe_bltn hg2 hm2 hv2 (v := .ty T) rfl hn2 hd2) pa_nil he2) he) (by decide) (by decide) he hpl) fun σ H Q ⟨dr, H0, ρ, ω, g, p⟩ => by
    refine seqE (Q := Q) g p fun u ω1 v H1 e1 g1 r1 p1 => ?_
    cases ht : tyOf u with
    | none => rw [ht] at p1; exact False.elim p1
    | some t =>
      rw [ht] at p1
      dsimp only at p1
      cases hk : kitB t T with
      | none => rw [hk] at p1; exact False.elim p1
      | some b =>
        rw [hk] at p1
        exact ⟨v, .ty T, .type t, .type T, b, rfl, .ty T, tyOf_rv ht r1, kit_ty hk, p1 _ H1 (ExD.refl _ _) g1 (.bl b)⟩
/-! ### texts -/
/-- f"{e}" -/
def mFmt (m : Me) : Me := fun ρ ω => (m ρ ω).bind fun u ω => match intOf u with
  | some i => if i.natAbs.log2 < 1920 then .ok (.d (.str (toString i))) ω else .stuck
  | none => .stuck
theorem me_fmt (ha : ME X W a ma) : ME X W (.FormattedValue a (-1) none pos) (mFmt ma) := pe_imp (pe_fmt ha) fun σ H Q ⟨dr, H0, ρ, ω, g, p⟩ => by
  refine seqE (Q := Q) g p fun u ω1 v H1 e1 g1 r1 p1 => ?_
  cases hi : intOf u with
  | none => rw [hi] at p1; exact False.elim p1
  | some i =>
    rw [hi] at p1
    dsimp only at p1
    split at p1
    · rename_i hz
      exact .inr ⟨i, int_rv hi r1, hz, p1 _ H1 (ExD.refl _ _) g1 (.str _)⟩
    · exact False.elim p1
theorem me_join1 (ha : ME X W a ma) : ME X W (.JoinedStr [a] pos) ma := pe_joined1 ha
/-- a text of at most 30000 signs, or nothing goes on -/
def sStr (u : Vl) : Option Str := match strOf u with
  | some x => if x.length ≤ 30000 then some x else none
  | none => none
theorem sStr_of {u : Vl} {x : Str} (h : sStr u = some x) : strOf u = some x ∧ x.length ≤ 30000 := by
  unfold sStr at h
  split at h
  · rename_i y hy
    split at h
    · rename_i hz; cases h; exact ⟨hy, hz⟩
    · cases h
  · cases h
/-- f"{a}..{b}" of three parts that are texts -/
def mJoin3 (ma mb mc : Me) : Me := fun ρ ω => (ma ρ ω).bind fun u ω => match sStr u with
  | none => .stuck
  | some x => (mb ρ ω).bind fun v ω => match sStr v with
    | none => .stuck
    | some y => (mc ρ ω).bind fun w ω => match sStr w with
      | none => .stuck
      | some z => .ok (.d (.str (x ++ y ++ z))) ω
theorem str_empty_append (x : Str) : Str.empty ++ x = x := by
  show Str.mk (#[] ++ x.cps) = x
  simp
theorem me_join3 {mc : Me} (ha : ME X W a ma) (hb : ME X W b mb) (hc : ME X W c mc) : ME X W (.JoinedStr [a, b, c] pos) (mJoin3 ma mb mc) := pe_imp (pe_joined (.cons ha (.cons hb (.cons hc .nil)))) fun σ H Q ⟨dr, H0, ρ, ω, g, p⟩ => by
  refine seqE (Q := Q) g p fun u ω1 v H1 e1 g1 r1 p1 => ?_
  cases hu : sStr u with
  | none => rw [hu] at p1; exact False.elim p1
  | some x =>
    rw [hu] at p1
    obtain ⟨hu, lx⟩ := sStr_of hu
    refine ⟨x, str_rv hu r1, by rw [str_empty_append]; exact sz100 (by omega), ?_⟩
    refine seqE (Q := Q) g1 p1 fun u2 ω2 v2 H2 e2 g2 r2 p2 => ?_
    cases hv : sStr u2 with
    | none => rw [hv] at p2; exact False.elim p2
    | some y =>
      rw [hv] at p2
      obtain ⟨hv, ly⟩ := sStr_of hv
      refine ⟨y, str_rv hv r2, by rw [str_empty_append, PySem.Str.length_append]; exact sz100 (by omega), ?_⟩
      refine seqE (Q := Q) g2 p2 fun u3 ω3 v3 H3 e3 g3 r3 p3 => ?_
      cases hw : sStr u3 with
      | none => rw [hw] at p3; exact False.elim p3
      | some z =>
        rw [hw] at p3
        obtain ⟨hw, lz⟩ := sStr_of hw
        refine ⟨z, str_rv hw r3, by rw [str_empty_append, PySem.Str.length_append, PySem.Str.length_append]; exact sz100 (by omega), ?_⟩
        rw [str_empty_append]
        exact p3 _ H3 (ExD.refl _ _) g3 (.str _)
/-- s.partition(t), s.split(t) -/
def mM1 {α : Type} (f : Str → Str → Option α) (ma mb : Me) (k : α → Dr → Res Dr β) : Rho → Dr → Res Dr β := fun ρ ω => (ma ρ ω).bind fun u ω => match strOf u with
  | none => .stuck
  | some x => (mb ρ ω).bind fun v ω => match strOf v with
    | none => .stuck
    | some y => match f x y with
      | some a => k a ω
      | none => .stuck
def fPart (x y : Str) : Option PD := if (y.length == 0) = false ∧ x.length ≤ 100000 then some (.tuple [.str (Txt.partition x y).1, .str (Txt.partition x y).2.1, .str (Txt.partition x y).2.2]) else none
def mPart3 (ma mb : Me) : Me := mM1 fPart ma mb fun a ω => .ok (.d a) ω
def fSplit (x y : Str) : Option (List PD) := if (y.length == 0) = false ∧ x.length ≤ 100000 then some ((Txt.split x y).map PyData.str) else none
def mSplit (ma mb : Me) : Mn := mM1 fSplit ma mb fun a ω => .ok a ω
theorem strs_rp {K : PySem.W.Frag} {H : Hp} : ∀ (ys : List Str), RpL K H (ys.map PyData.str) (ys.map V.str)
  | [] => .nil
  | y :: ys => .cons (.str y) (strs_rp ys)
theorem me_partition {apos : Pos} (ha : ME X W a ma) (hb : ME X W b mb) (hs : starEach [b] X.env = [(false, eval b X.env)] := by rfl) (hbase : attributeBase a "partition" X.env (eval a X.env) = eval a X.env := by rfl) (hline : (apos.endLine == pos.line) = true := by rfl) :
    ME X W (.Call (.Attribute a "partition" apos) [b] [] pos) (mPart3 ma mb) := pe_imp (pe_partition ha hb hs hbase hline) fun σ H Q ⟨dr, H0, ρ, ω, g, p⟩ => by
  refine seqE (Q := Q) g p fun u ω1 v H1 e1 g1 r1 p1 => ?_
  cases hu : strOf u with
  | none => rw [hu] at p1; exact False.elim p1
  | some x =>
    rw [hu] at p1
    refine ⟨⟨x, str_rv hu r1⟩, ?_⟩
    refine seqE (Q := Q) g1 p1 fun u2 ω2 v2 H2 e2 g2 r2 p2 => ?_
    cases hv : strOf u2 with
    | none => rw [hv] at p2; exact False.elim p2
    | some y =>
      rw [hv] at p2
      dsimp only at p2
      unfold fPart at p2
      split at p2
      · rename_i a' ha'
        split at ha'
        · rename_i hz
          cases ha'
          refine ⟨x, y, str_rv hu r1, by rw [str_rv hv r2], hz.1, sz100 hz.2, fun q hq => p2 _ _ (.of (same_new hq)) (g2.same (same_new hq)) (.tup upd_same (.cons (.str _) (.cons (.str _) (.cons (.str _) .nil))))⟩
        · cases ha'
      · exact False.elim p2
theorem mn_split {apos : Pos} (ha : ME X W a ma) (hb : ME X W b mb) (hs : starEach [b] X.env = [(false, eval b X.env)] := by rfl) (hbase : attributeBase a "split" X.env (eval a X.env) = eval a X.env := by rfl) (hline : (apos.endLine == pos.line) = true := by rfl) :
    MN X W (.Call (.Attribute a "split" apos) [b] [] pos) (mSplit ma mb) := pe_imp (pe_split ha hb hs hbase hline) fun σ H Q ⟨dr, H0, ρ, ω, g, p⟩ => by
  refine ⟨dr, H0, ρ, ω, g, ?_⟩
  unfold mSplit mM1 at p
  cases h : ma ρ ω with
  | exc x ω' => rw [h] at p; exact p
  | stuck => rw [h] at p; exact p
  | ok u ω1 =>
    rw [h] at p
    intro v H1 e1 g1 r1
    simp only [Res.bind] at p
    cases hu : strOf u with
    | none => rw [hu] at p; exact False.elim p
    | some x =>
      rw [hu] at p
      dsimp only at p
      refine ⟨⟨x, str_rv hu r1⟩, dr, H0, ρ, ω1, g1, ?_⟩
      cases h2 : mb ρ ω1 with
      | exc x ω' => rw [h2] at p; exact fun c od H2 e2 g2 r2 => p c od H2 (e1.trans e2) g2 r2
      | stuck => rw [h2] at p; exact p
      | ok u2 ω2 =>
        rw [h2] at p
        intro v2 H2 e2 g2 r2
        dsimp only at p
        cases hv : strOf u2 with
        | none => rw [hv] at p; exact False.elim p
        | some y =>
          rw [hv] at p
          dsimp only at p
          unfold fSplit at p
          split at p
          · rename_i a' ha'
            split at ha'
            · rename_i hz
              cases ha'
              refine ⟨x, y, str_rv hu r1, by rw [str_rv hv r2], hz.1, by rw [sizeLine_eq]; omega, fun q hq => ?_⟩
              exact p q _ _ (none_back (e1.trans e2) g2.dw hq) upd_same (dr_ne g2.dw hq) ((e1.trans e2).trans (.of (same_new hq))) (g2.same (same_new hq)) (strs_rp _)
            · cases ha'
          · exact False.elim p
end
/-! ### in -/
/-- one sign in a text -/
def fInS (neg : Bool) (a b : Vl) : Option Bool := match strOf a, strOf b with
  | some x, some z => match x.cps.toList with
    | [c] => some (if neg = true then !decide (c ∈ z.cps.toList) else decide (c ∈ z.cps.toList))
    | _ => none
  | _, _ => none
theorem one_sign {x : Str} {c : Nat} (h : x.cps.toList = [c]) : x = ⟨#[c]⟩ := by
  cases x with
  | mk cps =>
    have : cps = #[c] := by
      apply Array.ext'
      simpa using h
    rw [this]
theorem o2_inS {K : PySem.W.Frag} : Op2B K (fun x y H Q => ∃ (c : Nat) (z : Str), x = .str ⟨#[c]⟩ ∧ y = .str z ∧ Q (.bl (decide (c ∈ z.cps.toList))) H) (fInS false) := fun dr H a b x y k h ra rb Q q => by
  unfold fInS at h
  split at h
  · rename_i s z hs hz
    split at h
    · rename_i c hc
      cases h
      exact ⟨c, z, by rw [str_rv hs ra, one_sign hc], str_rv hz rb, q H (Same.refl H)⟩
    · cases h
  · cases h
theorem o2_notInS {K : PySem.W.Frag} : Op2B K (fun x y H Q => ∃ (c : Nat) (z : Str), x = .str ⟨#[c]⟩ ∧ y = .str z ∧ Q (.bl (!decide (c ∈ z.cps.toList))) H) (fInS true) := fun dr H a b x y k h ra rb Q q => by
  unfold fInS at h
  split at h
  · rename_i s z hs hz
    split at h
    · rename_i c hc
      cases h
      exact ⟨c, z, by rw [str_rv hs ra, one_sign hc], str_rv hz rb, q H (Same.refl H)⟩
    · cases h
  · cases h
/-- among ints, texts, None: a list or a tuple -/
def flatP : PD → Bool
  | .int _ => true
  | .str _ => true
  | .none => true
  | .bool _ => true
  | _ => false
end FL
end
-- FLB
section
set_option maxRecDepth 100000
set_option maxHeartbeats 2000000
/-! FLB: in, dicts -/
namespace FL
open PySem PySem.Spec L2
def eqP : PD → PD → Bool
  | .none, .none => true
  | .bool a, .bool b => a == b
  | .bool a, .int b => (if a then 1 else 0) == b
  | .int a, .bool b => a == (if b then 1 else 0)
  | .int a, .int b => a == b
  | .str a, .str b => a == b
  | _, _ => false
theorem flat_rv {K : PySem.W.Frag} {H : Hp} {d : PD} {v : V} (h : flatP d = true) (r : Rp K H d v) : flatV v = true := by
  cases r <;> first | rfl | (cases h)
theorem eqP_rv {K : PySem.W.Frag} {H : Hp} {d e : PD} {v w : V} (r : Rp K H d v) (s : Rp K H e w) : flatP d = true → flatP e = true → eqV v w = eqP d e := by
  cases r <;> cases s <;> first | (intro _ _; rfl) | (intro h _; cases h) | (intro _ h; cases h)
theorem flats_rv {K : PySem.W.Frag} {H : Hp} : ∀ {l : List PD} {xs : List V}, l.all flatP = true → RpL K H l xs → xs.all flatV = true
  | _, _, _, .nil => rfl
  | _, _, h, .cons a t => by
    rw [List.all_cons, Bool.and_eq_true] at h
    rw [List.all_cons, flat_rv h.1 a, flats_rv h.2 t]; rfl
theorem any_rv {K : PySem.W.Frag} {H : Hp} {d : PD} {v : V} (r : Rp K H d v) (hd : flatP d = true) : ∀ {l : List PD} {xs : List V}, l.all flatP = true → RpL K H l xs → inV v xs = l.any fun e => eqP e d
  | _, _, _, .nil => rfl
  | _, _, h, .cons a t => by
    rw [List.all_cons, Bool.and_eq_true] at h
    have ih := any_rv r hd h.2 t
    unfold inV at ih ⊢
    rw [List.any_cons, List.any_cons, ih, eqP_rv a r h.1 hd]
def fIn (neg : Bool) (a b : Vl) : Option Bool := match a, seqOf b with
  | .d d, some l => if flatP d = true ∧ l.all flatP = true then some (if neg = true then !(l.any fun e => eqP e d) else l.any fun e => eqP e d) else none
  | _, _ => none
theorem o2_in {K : PySem.W.Frag} {neg : Bool} : Op2B K (rIn K neg) (fIn neg) := fun dr H a b x y k h ra rb Q q => by
  unfold fIn at h
  split at h
  · rename_i d l hl
    split at h
    · rename_i hf
      cases h
      obtain ⟨p, xs, rfl, h1, r⟩ := seq_rv hl rb
      refine ⟨p, xs, rfl, h1.imp id SqT.of, flat_rv hf.1 ra, flats_rv hf.2 r, ?_⟩
      rw [any_rv ra hf.1 hf.2 r]
      exact q H (Same.refl H)
    · cases h
  · cases h

/-! ### dicts -/
def kOf (t : Bool) (k : PD) : Option (List Key) := if t = true then tkeyOf k else (keyOf k).map fun x => [x]
def dget (t : Bool) (kvs : List (PD × PD)) (k : PD) : Option PD := (kvs.find? fun p => decide (kOf t p.1 = kOf t k)).map (·.2)
def dput (t : Bool) (kvs : List (PD × PD)) (k v : PD) : List (PD × PD) :=
  if (kvs.any fun p => decide (kOf t p.1 = kOf t k)) = true then kvs.map (fun p => if kOf t p.1 = kOf t k then (p.1, v) else p) else kvs ++ [(k, v)]
theorem key_rv {K : PySem.W.Frag} {H : Hp} {d : PD} {v : V} {key : Key} (h : keyOf d = some key) (r : Rp K H d v) : v = kV key := by
  cases r <;> first | (cases h; rfl) | (cases h)
theorem keys_rv {K : PySem.W.Frag} {H : Hp} : ∀ {l : List PD} {xs : List V} {ks : List Key}, keysOf l = some ks → RpL K H l xs → xs = ks.map kV
  | [], _, _, h, .nil => by cases h; rfl
  | d :: r, _, ks, h, .cons a t => by
    unfold keysOf at h
    cases h1 : keyOf d with
    | none => rw [h1] at h; cases h
    | some k =>
      cases h2 : keysOf r with
      | none => rw [h1, h2] at h; cases h
      | some m =>
        rw [h1, h2] at h
        cases h
        rw [key_rv h1 a, keys_rv h2 t]; rfl
theorem find_k {κ : Type} [DecidableEq κ] {K : PySem.W.Frag} {H : Hp} {f : PD → Option κ} {key : κ} {ks : List (κ × V)} {kvs : List (PD × PD)} (h : Paired (fun (p : κ × V) (q : PD × PD) => f q.1 = some p.1 ∧ Rp K H q.2 p.2) ks kvs) :
    (∀ d, ((kvs.find? fun p => decide (f p.1 = some key)).map (·.2)) = some d → ∃ v, valV ks key = some v ∧ Rp K H d v) ∧ (((kvs.find? fun p => decide (f p.1 = some key)).map (·.2)) = none → valV ks key = none) := by
  induction h with
  | nil => exact ⟨fun _ h => (by cases h), fun _ => rfl⟩
  | @cons a b ps qs h t ih =>
    by_cases e : a.1 = key
    · have e2 : f b.1 = some key := by rw [h.1, e]
      rw [List.find?_cons, decide_eq_true e2]
      refine ⟨fun d hd => ?_, fun hd => (by cases hd)⟩
      cases hd
      exact ⟨a.2, valV_pos e, h.2⟩
    · have e2 : ¬ f b.1 = some key := fun z => e (Option.some.inj (h.1.symm.trans z))
      rw [List.find?_cons, decide_eq_false e2, valV_neg e]
      exact ih
theorem put_k {κ : Type} [DecidableEq κ] {K : PySem.W.Frag} {H : Hp} {f : PD → Option κ} {key : κ} {k d : PD} {v : V} (hk : f k = some key) (hd : Rp K H d v) {ks : List (κ × V)} {kvs : List (PD × PD)} (h : Paired (fun (p : κ × V) (q : PD × PD) => f q.1 = some p.1 ∧ Rp K H q.2 p.2) ks kvs) :
    Paired (fun (p : κ × V) (q : PD × PD) => f q.1 = some p.1 ∧ Rp K H q.2 p.2) (putK ks key v) (if (kvs.any fun p => decide (f p.1 = f k)) = true then kvs.map (fun p => if f p.1 = f k then (p.1, d) else p) else kvs ++ [(k, d)]) := by
  have ha : (ks.any fun kv => decide (kv.1 = key)) = (kvs.any fun p => decide (f p.1 = f k)) := by
    induction h with
    | nil => rfl
    | cons h _ ih =>
      rw [List.any_cons, List.any_cons, ih, h.1, hk]
      congr 1
      exact decide_eq_decide.mpr ⟨fun z => by rw [z], fun z => Option.some.inj z⟩
  unfold putK
  rw [ha]
  split
  · clear ha
    rename_i hh
    clear hh
    induction h with
    | nil => exact .nil
    | @cons a b _ _ h _ ih =>
      rw [List.map_cons, List.map_cons]
      refine .cons ?_ ih
      by_cases e : a.1 = key
      · have e2 : f b.1 = f k := by rw [h.1, hk, e]
        rw [if_pos e, if_pos e2]
        exact ⟨h.1, hd⟩
      · have e2 : ¬ f b.1 = f k := fun z => e (Option.some.inj (h.1.symm.trans (z.trans hk)))
        rw [if_neg e, if_neg e2]
        exact h
  · clear ha
    rename_i hh
    clear hh
    induction h with
    | nil => exact .cons ⟨hk, hd⟩ .nil
    | cons h _ ih => exact .cons h ih
theorem kOf_f {k : PD} : kOf false k = (keyOf k).map fun x => [x] := rfl
theorem kOf_eq {a b : PD} : (kOf false a = kOf false b) = (keyOf a = keyOf b) := by
  rw [kOf_f, kOf_f]
  cases keyOf a <;> cases keyOf b <;> simp
theorem DicAt.put {K : PySem.W.Frag} {H : Hp} {a : Addr} {t : Bool} {kvs : List (PD × PD)} {k d : PD} {y v : V} (h : DicAt K H a t kvs) (hk : (kOf t k).isSome = true) (rk : Rp K H k y) (rd : Rp K H d v) (hz : kvs.length < sizeLine) :
    ∃ o, DPut H a y v (upd H a o) ∧ DicAt K (upd H a o) a t (dput t kvs k d) ∧ (∃ u, H a = some u ∧ ((∃ z, u = .dK z) ∨ ∃ z, u = .dT z)) := by
  cases t with
  | false =>
    obtain ⟨ks, h1, h2⟩ := h
    cases e : keyOf k with
    | none => rw [kOf_f, e] at hk; cases hk
    | some key =>
      have hl : ks.length = kvs.length := Paired.length h2
      have z : Fz H (upd H a (.dK (putK ks key v))) := ⟨fun b ys w => by rw [upd_ne (ne_of w h1 (fun z => nomatch z))]; exact w, fun b u ys w => by rw [upd_ne (ne_of w h1 (fun z => nomatch z))]; exact w⟩
      refine ⟨.dK (putK ks key v), by rw [key_rv e rk]; exact DPut.k h1 (by omega), ⟨_, upd_same, ?_⟩, _, h1, .inl ⟨_, rfl⟩⟩
      have hp := put_k (f := keyOf) e rd h2
      unfold dput
      simp only [kOf_eq]
      exact Paired.imp' (fun _ _ q => ⟨q.1, q.2.mono z⟩) hp
  | true =>
    obtain ⟨ks, h1, h2⟩ := h
    cases e : tkeyOf k with
    | none => simp [kOf, e] at hk
    | some key =>
      have hl : ks.length = kvs.length := Paired.length h2
      have z : Fz H (upd H a (.dT (putK ks key v))) := ⟨fun b ys w => by rw [upd_ne (ne_of w h1 (fun z => nomatch z))]; exact w, fun b u ys w => by rw [upd_ne (ne_of w h1 (fun z => nomatch z))]; exact w⟩
      cases rk with
      | tup hb rb =>
        have e' : keysOf _ = some key := e
        rw [keys_rv e' rb] at hb
        refine ⟨.dT (putK ks key v), DPut.t h1 hb (by omega), ⟨_, upd_same, ?_⟩, _, h1, .inr ⟨_, rfl⟩⟩
        have hp := put_k (f := tkeyOf) e rd h2
        exact Paired.imp' (fun _ _ q => ⟨q.1, q.2.mono z⟩) hp
      | _ => cases e
theorem DicAt.get {K : PySem.W.Frag} {H : Hp} {a : Addr} {t : Bool} {kvs : List (PD × PD)} {k : PD} {y : V} (h : DicAt K H a t kvs) (hk : (kOf t k).isSome = true) (rk : Rp K H k y) :
    ∃ o, DGet H a y o ∧ o.isSome = (dget t kvs k).isSome ∧ ∀ d, dget t kvs k = some d → ∃ v, o = some v ∧ Rp K H d v := by
  cases t with
  | false =>
    obtain ⟨ks, h1, h2⟩ := h
    cases e : keyOf k with
    | none => rw [kOf_f, e] at hk; cases hk
    | some key =>
      obtain ⟨f1, f2⟩ := find_k (key := key) h2
      have ed : dget false kvs k = (kvs.find? fun p => decide (keyOf p.1 = some key)).map (·.2) := by
        unfold dget
        simp only [kOf_eq, e]
      refine ⟨valV ks key, by rw [key_rv e rk]; exact DGet.k h1, ?_, fun d hd => f1 d (by rw [← ed]; exact hd)⟩
      rw [ed]
      cases hh : (kvs.find? fun p => decide (keyOf p.1 = some key)).map (·.2) with
      | none => rw [f2 hh] <;> rfl
      | some d => obtain ⟨v, e1, _⟩ := f1 d hh; rw [e1]; rfl
  | true =>
    obtain ⟨ks, h1, h2⟩ := h
    cases e : tkeyOf k with
    | none => simp [kOf, e] at hk
    | some key =>
      obtain ⟨f1, f2⟩ := find_k (key := key) h2
      have ed : dget true kvs k = (kvs.find? fun p => decide (tkeyOf p.1 = some key)).map (·.2) := by
        unfold dget
        simp only [kOf, if_pos, e]
      cases rk with
      | tup hb rb =>
        have e' : keysOf _ = some key := e
        rw [keys_rv e' rb] at hb
        refine ⟨valV ks key, DGet.t h1 hb, ?_, fun d hd => f1 d (by rw [← ed]; exact hd)⟩
        rw [ed]
        cases hh : (kvs.find? fun p => decide (tkeyOf p.1 = some key)).map (·.2) with
        | none => rw [f2 hh] <;> rfl
        | some d => obtain ⟨v, e1, _⟩ := f1 d hh; rw [e1]; rfl
      | _ => cases e
def mDGet (md mk : Me) : Me := fun ρ ω => (md ρ ω).bind fun u ω => (mk ρ ω).bind fun w ω => match u, w with
  | .brwD t kvs, .d k => if (kOf t k).isSome = true then match dget t kvs k with | some d => .ok (.d d) ω | none => .stuck else .stuck
  | _, _ => .stuck
def fDIn (neg : Bool) : Vl → Vl → Option Bool := fun w u => match u, w with
  | .brwD t kvs, .d k => if (kOf t k).isSome = true then some (if neg = true then !(dget t kvs k).isSome else (dget t kvs k).isSome) else none
  | _, _ => none
section
variable {X : Cx} {W : WX} {a b c : Expr} {ma mb mk mv : Me} {pos p p1 : Pos}
theorem me_dget (hu : X.A.units + 1 < cLine) (ha : ME X W a ma) (hb : ME X W b mb) (hs : NoSl b) : ME X W (.Subscript a b pos) (mDGet ma mb) := pe_imp (pe_dget hu ha hb hs) fun σ H Q ⟨dr, H0, ρ, ω, g, p⟩ => by
  refine seqE (Q := Q) g p fun u ω1 v H1 e1 g1 r1 p1 => ?_
  refine seqE (Q := Q) g1 p1 fun u2 ω2 v2 H2 e2 g2 r2 p2 => ?_
  have r1 := r1.mono e2 (e2.fz g1.dw)
  split at p2
  · rename_i t kvs k
    split at p2
    · rename_i hk
      obtain ⟨a', rfl, n, hd⟩ := r1
      obtain ⟨o, d1, d2, d3⟩ := hd.get hk r2
      split at p2
      · rename_i d he
        obtain ⟨v', e', rv⟩ := d3 d he
        subst e'
        exact ⟨a', v', rfl, d1, p2 _ H2 (ExD.refl _ _) g2 rv⟩
      · exact False.elim p2
    · exact False.elim p2
  · exact False.elim p2
theorem rd_din {neg : Bool} (σ : L2.St) (H : Hp) (Q : Bool → Hp → Prop) : rdT X.K X.mg W (mCmp (fDIn neg) mk ma) σ H Q → rdE X.K X.mg W mk σ H fun y H1 => rdE X.K X.mg W ma σ H1 fun x H2 => ∃ a' o, x = .ref a' ∧ DGet H2 a' y o ∧ Q (if neg = true then !o.isSome else o.isSome) H2 := fun ⟨dr, H0, ρ, ω, g, p⟩ => by
  refine seqET (Q := Q) g p fun u ω1 v H1 e1 g1 r1 p1 => ?_
  refine seqET (Q := Q) g1 p1 fun u2 ω2 v2 H2 e2 g2 r2 p2 => ?_
  have r1 := r1.mono e2 (e2.fz g1.dw)
  cases hf : fDIn neg u u2 with
  | none => rw [hf] at p2; exact False.elim p2
  | some kk =>
    rw [hf] at p2
    unfold fDIn at hf
    split at hf
    · rename_i t kvs k
      split at hf
      · rename_i hk
        cases hf
        obtain ⟨a', rfl, n, hd⟩ := r2
        obtain ⟨o, d1, d2, d3⟩ := hd.get hk r1
        refine ⟨a', o, rfl, d1, ?_⟩
        rw [d2]
        exact p2 H2 (ExD.refl _ _) g2
      · cases hf
    · cases hf
theorem mt_din (hu : X.A.units + 1 < cLine) (hk : ME X W b mk) (ha : ME X W a ma) (hb : behindInMarks .In a = false := by with_unfolding_all rfl) : MT X W (.Compare b [.In] [a] pos) (mCmp (fDIn false) mk ma) := pt_imp (pt_cmp (pc_din hu hk ha) hb) fun σ H Q h => by
  have h2 := rd_din (neg := false) σ H Q h
  obtain ⟨dr, H0, ρ, ω, g, p⟩ := h2
  refine ⟨dr, H0, ρ, ω, g, ?_⟩
  cases hm : mk ρ ω with
  | ok u ω1 =>
    rw [hm] at p
    intro v H1 e1 g1 r1
    obtain ⟨dr', H0', ρ', ω', g', p'⟩ := p v H1 e1 g1 r1
    refine ⟨dr', H0', ρ', ω', g', ?_⟩
    cases hm2 : ma ρ' ω' with
    | ok u2 ω2 =>
      rw [hm2] at p'
      intro v2 H2 e2 g2 r2
      obtain ⟨a', o, e, d, q⟩ := p' v2 H2 e2 g2 r2
      exact ⟨a', o, e, d, _, rfl, q⟩
    | exc x w => rw [hm2] at p'; exact p'
    | stuck => rw [hm2] at p'; exact p'
  | exc x w => rw [hm] at p; exact p
  | stuck => rw [hm] at p; exact p
theorem mt_dnotin (hu : X.A.units + 1 < cLine) (hk : ME X W b mk) (ha : ME X W a ma) (hb : behindInMarks .NotIn a = false := by with_unfolding_all rfl) : MT X W (.Compare b [.NotIn] [a] pos) (mCmp (fDIn true) mk ma) := pt_imp (pt_cmp (pc_dnotin hu hk ha) hb) fun σ H Q h => by
  have h2 := rd_din (neg := true) σ H Q h
  obtain ⟨dr, H0, ρ, ω, g, p⟩ := h2
  refine ⟨dr, H0, ρ, ω, g, ?_⟩
  cases hm : mk ρ ω with
  | ok u ω1 =>
    rw [hm] at p
    intro v H1 e1 g1 r1
    obtain ⟨dr', H0', ρ', ω', g', p'⟩ := p v H1 e1 g1 r1
    refine ⟨dr', H0', ρ', ω', g', ?_⟩
    cases hm2 : ma ρ' ω' with
    | ok u2 ω2 =>
      rw [hm2] at p'
      intro v2 H2 e2 g2 r2
      obtain ⟨a', o, e, d, q⟩ := p' v2 H2 e2 g2 r2
      exact ⟨a', o, e, d, _, rfl, q⟩
    | exc x w => rw [hm2] at p'; exact p'
    | stuck => rw [hm2] at p'; exact p'
  | exc x w => rw [hm] at p; exact p
  | stuck => rw [hm] at p; exact p
end
end FL
end
-- FLC
section
set_option maxRecDepth 100000
set_option maxHeartbeats 2000000
/-! FLC: dicts that are stored into, displays of dicts -/
namespace FL
open PySem PySem.Spec L2
/-- what may be written, and is neither a tuple nor locked -/
def Wr (u : HO) : Prop := (∀ xs, u ≠ .tup xs) ∧ ∀ o v, u ≠ .frz o v
theorem Wr.fz {H : Hp} {a : Addr} {u o : HO} (w : Wr u) (h : H a = some u) : Fz H (upd H a o) := ⟨fun b xs q => by
    rw [upd_ne (ne_of q h (fun z => w.1 xs z.symm))]; exact q, fun b x ys q => by rw [upd_ne (ne_of q h (fun z => w.2 _ _ z.symm))]; exact q⟩
theorem Gd.updG {K : PySem.W.Frag} {dr : Option Addr} {H0 H : Hp} {ρ : Rho} {σ : L2.St} {ω : Dr} {i : Nat} {s s' : Sl} {a : Addr} {u o : HO} (g : Gd K dr H0 ρ σ H ω) (hi : ρ[i]? = some s) (os : isOwn s = true) (hs : σ[i]? = some (some (.ref a))) (ha : H a = some u) (w : Wr u)
    (n : SlOk K dr H0 (L2.upd H a o) s' (some (.ref a))) (os' : isOwn s' = true) : Gd K dr H0 (ρ.set i s') σ (L2.upd H a o) ω := by
  have z : Fz H (L2.upd H a o) := w.fz ha
  have k := g.sl i _ hi
  have h0n : H0 a = none ∧ dr ≠ some a := by
    rw [hs] at k
    cases s with
    | own l => obtain ⟨b, ys, e1, h0, n, _⟩ := k; cases e1; exact ⟨h0, n⟩
    | ownD t l => obtain ⟨b, e1, h0, n, _⟩ := k; cases e1; exact ⟨h0, n⟩
    | _ => cases os
  obtain ⟨h0, nd⟩ := h0n
  have hlt : i < ρ.length := (List.getElem?_eq_some_iff.mp hi).1
  refine ⟨fun c u nb w => by rw [upd_ne (ne_of_none w h0)]; exact g.ext c u nb w, g.d0, g.fz.trans z, by simp [g.len], fun j t hj => ?_, fun j k t u c hj hk ot ou ej ek => ?_, fun c e => ?_⟩
  · by_cases hji : j = i
    · subst hji
      rw [List.getElem?_set_self hlt] at hj
      cases hj
      rw [hs]
      exact n
    · rw [List.getElem?_set_ne (Ne.symm hji)] at hj
      have q := g.sl j t hj
      have nea : ∀ c, isOwn t = true → σ[j]?.join = some (.ref c) → c ≠ a := fun c ot e w => by
        have ej : σ[j]? = some (some (.ref a)) := by
          cases z : σ[j]? with
          | none => rw [z] at e; cases e
          | some y => rw [z] at e; rw [← w]; exact congrArg some e
        exact hji (g.ne j i t _ a hj hi ot os ej hs)
      cases t with
      | none => trivial
      | val d => obtain ⟨v, h2, h3⟩ := q; exact ⟨v, h2, h3.mono z⟩
      | par u => exact q
      | own m => obtain ⟨c, zs, h2, h3, h4, h5, h6⟩ := q; exact ⟨c, zs, h2, h3, h4, by rw [upd_ne (nea c rfl h2)]; exact h5, h6.mono z⟩
      | ownD tt m =>
        obtain ⟨c, h2, h3, h4, h5⟩ := q
        exact ⟨c, h2, h3, h4, dic_keep (fun o w => by rw [upd_ne (nea c rfl h2)]; exact w) z h5⟩
  · have un : ∀ (j : Nat) (t : Sl), (ρ.set i s')[j]? = some t → isOwn t = true → ∃ t', ρ[j]? = some t' ∧ isOwn t' = true := fun j t hj ot => by
      by_cases hji : j = i
      · subst hji; exact ⟨_, hi, os⟩
      · rw [List.getElem?_set_ne (Ne.symm hji)] at hj; exact ⟨t, hj, ot⟩
    obtain ⟨t', hj', ot'⟩ := un j t hj ot
    obtain ⟨u', hk', ou'⟩ := un k u hk ou
    exact g.ne j k t' u' c hj' hk' ot' ou' ej ek
  · obtain ⟨L, oL, h2, h3, rr⟩ := g.dw c e
    have na : c ≠ a := fun y => nd (by rw [e, y])
    exact ⟨L, oL, by rw [upd_ne na]; exact h2, by rw [upd_ne (ne_of h3 ha (fun z => w.2 _ _ z.symm))]; exact h3, rr⟩
/-- d[k] = v, d a dict of the frame's own -/
def mDPut (i : Nat) (mk mv : Me) : Ms := fun ρ ω => match ρ[i]? with
  | some (.ownD t kvs) => (mv ρ ω).st ρ fun v ω => (mk ρ ω).st ρ fun k ω => match v, k with
    | .d v, .d k => if (kOf t k).isSome = true ∧ kvs.length < 100000 then .ok .nx (ρ.set i (.ownD t (dput t kvs k v)), ω) else .stuck
    | _, _ => .stuck
  | _ => .stuck
section
variable {X : Cx} {W : WX} {a b c k v : Expr} {ma mb mk mv : Me} {pos pos' p p1 : Pos}
theorem ms_dput {x : Str} (i : Nat) (hu : X.A.units + 1 < cLine) (hk : ME X W b mk) (hv : ME X W v mv) (hN : X.N[i]? = some x := by rfl) (hvis : Vis X.env.scope x := by first | exact Or.inl rfl | exact Or.inr (Or.inl rfl) | exact Or.inr (Or.inr rfl)) (hd : (x == ("__debug__" : Str)) = false := by decide)
    (hcd : (x == ("__classdict__" : Str)) = false := by decide) (hs : swapsWith v (some (.Subscript (.Name x p) b pos')) pos.line X.env = pure false := by rfl) : MS X W (.Assign [.Subscript (.Name x p) b pos'] v pos) (mDPut i mk mv) :=
  ps_imp (ps_dput hu (pe_var hN hvis hd hcd) hk hv hs) fun D σ H ⟨dr, H0, ρ, ω, g, p⟩ => by
    unfold mDPut at p
    cases h : ρ[i]? with
    | none => rw [h] at p; exact False.elim p
    | some s =>
      rw [h] at p
      cases s with
      | ownD t kvs =>
        refine seqES (D := D) g p fun u ω1 v1 H1 e1 g1 r1 p1 => ?_
        obtain ⟨a1, q1, h0, n, hd1⟩ := g1.sl i _ h
        refine ⟨_, slot_some q1, ?_⟩
        refine seqES (D := D) g1 p1 fun u2 ω2 v2 H2 e2 g2 r2 p2 => ?_
        obtain ⟨a2, q2, _, _, hd2⟩ := g2.sl i _ h
        rw [q1] at q2; cases q2
        have r1 := r1.mono e2 (e2.fz g1.dw)
        cases u with
        | d dv =>
          cases u2 with
          | d dk =>
            dsimp only at p2
            split at p2
            · rename_i hz
              obtain ⟨o, d1, d2, u', hu', hw⟩ := hd2.put hz.1 r2 r1 (Nat.lt_of_lt_of_le hz.2 (by decide : (100000 : Nat) ≤ sizeLine))
              have w : Wr u' := by
                rcases hw with ⟨z, e⟩ | ⟨z, e⟩
                · subst e; exact ⟨fun _ q => (nomatch q), fun _ _ q => (nomatch q)⟩
                · subst e; exact ⟨fun _ q => (nomatch q), fun _ _ q => (nomatch q)⟩
              refine ⟨a1, _, rfl, d1, p2 _ _ (w.fz hu') (g2.updG h rfl (slot_some q1) hu' w ⟨a1, rfl, h0, n, d2⟩ rfl)⟩
            · exact False.elim p2
          | _ => exact False.elim p2
        | _ => cases u2 <;> exact False.elim p2
      | _ => exact False.elim p
/-! ### displays -/
def mDNew (t : Bool) : Msl := fun _ ω => .ok (.ownD t []) ω
theorem ml_dnewK : ML X W (.Dict [] [] pos) (mDNew false) := pe_imp pe_dnewK fun σ H Q ⟨dr, H0, ρ, ω, g, p⟩ => fun q hq => p _ _ (.of (same_new hq)) (g.same (same_new hq)) ⟨q, rfl, hq, dr_ne g.dw hq, ⟨_, upd_same, .nil⟩⟩
theorem ml_dnewT : ML X W (.Dict [] [] pos) (mDNew true) := pe_imp pe_dnewT fun σ H Q ⟨dr, H0, ρ, ω, g, p⟩ => fun q hq => p _ _ (.of (same_new hq)) (g.same (same_new hq)) ⟨q, rfl, hq, dr_ne g.dw hq, ⟨_, upd_same, .nil⟩⟩
/-- {k: v}, k an int, a text or a tuple of such; neither raises -/
def mD1 (t : Bool) (mk mv : Me) : Msl := fun ρ ω => match mk ρ ω with
  | .ok (.d k) ω1 => match mv ρ ω1 with
    | .ok (.d v) ω2 => if (kOf t k).isSome = true then .ok (.ownD t [(k, v)]) ω2 else .stuck
    | _ => .stuck
  | _ => .stuck
def tDispT (tk tv : TE) : TE := fun σ H Q => ∀ p, H p = none → tPairs [(tk, tv)] σ (upd H p (.dT [])) fun ps H2 => H2 p = some (.dT []) ∧ ∃ (b : Addr) (ks : List Key) (y : V), ps = [(.ref b, y)] ∧ H2 b = some (.tup (ks.map kV)) ∧ Q (.ref p) (upd H2 p (.dT [(ks, y)]))
theorem pe_dispT {tk tv : TE} (hu : X.A.units + 1 < cLine) (hk : PE X k tk) (hv : PE X v tv) : PE X (.Dict [some k] [v] pos) (tDispT tk tv) := by
  refine ⟨fun pins s σ H Q I q => ?_⟩
  have hn := I.hok.fresh (Nat.le_refl s.heap.objs.size)
  have I1 := I.laid (a := s.heap.objs.size) (o := .dT []) (h' := s.heap.push { cls := .type "dict", data := .dict #[] }) (t' := s.toks) (fun _ _ q => Heap.get?_push_of_some _ q) (Nat.le_refl _) (dt_empty s.heap I.big)
  have hp : PPs X pos [some k] [v] [(tk, tv)] := pps_cons hk hv pps_nil
  have hsh := zip_pairTrees [some k] [v] X.env pos rfl rfl
  have hlen : (pairTrees [some k] [v] X.env pos).length = 1 := pairTrees_length [some k] [v] X.env pos rfl rfl
  have h0 : pairTrees [some k] [v] X.env pos ≠ [] := fun e => by rw [e] at hlen; cases hlen
  rw [arm_eval_Dict, hsh, dictDisplay_pairs _ h0 (by rw [hlen]; decide)]
  refine wpAny_bind (wpAny_standAt (wpAny_bind (wpAny_subDictH (knd := tupleKind (mixKind X.prog X.w)) (Q := fun d s' => wpAny (model X.prog X.w) X.A (pure (Value.ref d)) (EP X pins σ Q) X.xe s') (show (tupleKind (mixKind X.prog X.w)).room X.A from by first | exact hu | exact Nat.lt_of_succ_lt hu) (by rw [hlen]; decide) ?_)))
  refine thn (hp.run pins _ σ _ _ I1 (q _ hn)) fun ws s2 hh => ?_
  obtain ⟨ps, H2, I2, rel, e, b, ks, y, ep, hb, q2⟩ := hh
  subst ep
  obtain ⟨z, hd, xs0, r0, dd⟩ := dt_of I2.hok e
  cases r0
  cases rel with
  | cons rel1 rel2 =>
    cases rel2
    rename_i kv
    obtain ⟨kv1, kv2⟩ := kv
    obtain ⟨ra, rb⟩ := rel1
    cases (show kv1 = Value.ref b from ra)
    refine ⟨[(ks, b, kv2)], ⟨rfl, rfl, key_of I2.hok hb, trivial⟩, dd, fun h' tk dd' hs => wpAny_pure ⟨.ref s.heap.objs.size, _, ?_, rfl, q2⟩⟩
    obtain ⟨qo, es, ep, hq, h2, h3, h4, _, h5⟩ := dd'
    refine d_write I2 (by rw [e]; exact True.intro) hs ⟨qo, hq⟩ ⟨by rw [sizeLine_eq]; show 1 ≤ 16777216; decide, hd, _, .cons ⟨rfl, ?_, rb⟩ .nil, qo, es, ep, hq, h2, h3, h4, h5⟩
    rw [upd_ne (ne_of hb e (fun z => (nomatch z)))]
    exact hb
theorem rdE_imp {K : PySem.W.Frag} {mg : Str → Option Value} {m : Me} {σ : L2.St} {H : Hp} {R R' : VK} (h : rdE K mg W m σ H R) (i : ∀ v H', R v H' → R' v H') : rdE K mg W m σ H R' := by
  obtain ⟨dr, H0, ρ, ω, g, p⟩ := h
  refine ⟨dr, H0, ρ, ω, g, ?_⟩
  cases hm : m ρ ω with
  | ok u ω1 => rw [hm] at p; exact fun v H1 e1 g1 r1 => i _ _ (p v H1 e1 g1 r1)
  | exc x w => rw [hm] at p; exact p
  | stuck => rw [hm] at p; exact p
theorem ml_d1 (t : Bool) (hu : X.A.units + 1 < cLine) (hk : ME X W k mk) (hv : ME X W v mv) : ML X W (.Dict [some k] [v] pos) (mD1 t mk mv) := by
  have post : ∀ (σ : L2.St) (H : Hp) (Q : VK), rdL X.K X.mg W (mD1 t mk mv) σ H Q → ∀ p (o : HO), H p = none → (o = .dK [] ∨ o = .dT []) → rdE X.K X.mg W mk σ (upd H p o) fun x H1 => rdE X.K X.mg W mv σ H1 fun y H2 => H2 p = some o ∧ ∃ dk dv dr H0 ρ ω, (kOf t dk).isSome = true ∧ Rp X.K H2 dk x ∧ Rp X.K H2 dv y ∧ Gd X.K dr H0 ρ σ H2 ω ∧ ∀ o' : HO, (∀ K' : PySem.W.Frag, K' = X.K → DicAt K' (upd H2 p o') p t [(dk, dv)]) → Q (.ref p) (upd H2 p o') := fun σ H Q ⟨dr, H0, ρ, ω, g, p⟩ q o hq ho => by
    have s1 := same_new (o := o) hq
    have g0 := g.same s1
    unfold mD1 at p
    refine ⟨dr, H0, ρ, ω, g0, ?_⟩
    cases h : mk ρ ω with
    | ok u ω1 =>
      rw [h] at p
      cases u with
      | d dk =>
        dsimp only at p
        intro x H1 e1 g1 r1
        refine ⟨dr, H0, ρ, ω1, g1, ?_⟩
        cases h2 : mv ρ ω1 with
        | ok u2 ω2 =>
          rw [h2] at p
          cases u2 with
          | d dv =>
            dsimp only at p
            split at p
            · rename_i hz
              intro y H2 e2 g2 r2
              have nq : dr ≠ some q := dr_ne g.dw hq
              have hq2 : H2 q = some o := e2 _ _ nq (e1 _ _ nq upd_same)
              refine ⟨hq2, dk, dv, dr, H0, ρ, ω2, hz, Rp.mono (e2.fz g1.dw) r1, r2, g2, fun o' hd => ?_⟩
              have wr : Wr o := by
                rcases ho with e | e
                · subst e; exact ⟨fun _ q => (nomatch q), fun _ _ q => (nomatch q)⟩
                · subst e; exact ⟨fun _ q => (nomatch q), fun _ _ q => (nomatch q)⟩
              have ex : ExD dr H (upd H2 q o') := fun b u nb w => by
                rw [upd_ne (ne_of_none w hq)]
                exact e2 _ _ nb (e1 _ _ nb (s1 _ _ w))
              refine p _ _ ex (g.grow ex fun a w => ?_) ⟨q, rfl, hq, nq, hd _ rfl⟩
              obtain ⟨L, oL, h2, h3, rr⟩ := g2.dw a w
              have na : a ≠ q := fun z => nq (by rw [w, z])
              exact ⟨L, oL, by rw [upd_ne na]; exact h2, by rw [upd_ne (ne_of h3 hq2 (fun z => wr.2 _ _ z.symm))]; exact h3, rr⟩
            · exact False.elim p
          | _ => exact False.elim p
        | exc x w => rw [h2] at p; exact False.elim p
        | stuck => rw [h2] at p; exact False.elim p
      | _ => exact False.elim p
    | exc x w => rw [h] at p; exact False.elim p
    | stuck => rw [h] at p; exact False.elim p
  cases t with
  | false =>
    refine pe_imp (pe_disp (pps_cons hk hv pps_nil) rfl rfl (fun z => by cases z) (by show 1 ≤ 15; decide)) fun σ H Q hh q hq => ?_
    refine rdE_imp (post σ H Q hh q (.dK []) hq (.inl rfl)) fun x H1 hp => rdE_imp hp fun y H2 hz => ?_
    obtain ⟨hq2, dk, dv, dr, H0, ρ, ω, hk', rk, rv, g2, hQ⟩ := hz
    cases e : keyOf dk with
    | none => rw [kOf_f, e] at hk'; cases hk'
    | some key =>
      refine ⟨hq2, [(key, y)], by rw [key_rv e rk]; rfl, by show 1 ≤ 15; decide, hQ _ fun K' eK => ?_⟩
      subst eK
      have z : Fz H2 (upd H2 q (.dK [(key, y)])) := Wr.fz (u := .dK []) ⟨fun _ q => (nomatch q), fun _ _ q => (nomatch q)⟩ hq2
      exact ⟨_, upd_same, .cons ⟨e, rv.mono z⟩ .nil⟩
  | true =>
    refine pe_imp (pe_dispT hu hk hv) fun σ H Q hh q hq => ?_
    refine rdE_imp (post σ H Q hh q (.dT []) hq (.inr rfl)) fun x H1 hp => rdE_imp hp fun y H2 hz => ?_
    obtain ⟨hq2, dk, dv, dr, H0, ρ, ω, hk', rk, rv, g2, hQ⟩ := hz
    cases e : tkeyOf dk with
    | none => simp [kOf, e] at hk'
    | some key =>
      cases rk with
      | tup hb rb =>
        have e' : keysOf _ = some key := e
        rw [keys_rv e' rb] at hb
        refine ⟨hq2, _, key, y, rfl, hb, hQ _ fun K' eK => ?_⟩
        subst eK
        have z : Fz H2 (upd H2 q (.dT [(key, y)])) := Wr.fz (u := .dT []) ⟨fun _ q => (nomatch q), fun _ _ q => (nomatch q)⟩ hq2
        exact ⟨_, upd_same, .cons ⟨e, rv.mono z⟩ .nil⟩
      | _ => cases e
end
end FL
end
-- FLD
section
set_option maxRecDepth 100000
set_option maxHeartbeats 2000000
/-! FLD: what is never come to, == of all kinds, text times int, x += n -/
namespace FL
open PySem PySem.Spec L2
def mNever : Me := fun _ _ => .stuck
def mtNever : Mt := fun _ _ => .stuck
def msNever : Ms := fun _ _ => .stuck
section
variable {X : Cx} {W : WX} {a b c : Expr} {st : Stmt} {sts : List Stmt} {pos pos' : Pos}
theorem me_never : ME X W a mNever := ⟨fun pins s σ H Q I ⟨_, _, _, _, _, p⟩ => p.elim⟩
theorem mt_never : MT X W a mtNever := ⟨fun pins s σ H Q I ⟨_, _, _, _, _, p⟩ => p.elim⟩
theorem ms_never : MS X W st msNever := ⟨fun pins s σ H Q I ⟨_, _, _, _, _, p⟩ => p.elim⟩
theorem mss_never : MSs X W sts msNever := ⟨fun pins s σ H Q I ⟨_, _, _, _, _, p⟩ => p.elim⟩
end
/-! ### == and != -/
def eqS : PD → PD → Option Bool
  | .str x, .str y => some (x == y)
  | .int i, .int j => some (i == j)
  | _, _ => none
def fEq2 (neg : Bool) (a b : Vl) : Option Bool := match a, b with
  | .d d, .d e => match eqS d e with
    | some k => some (if neg = true then !k else k)
    | none => fEq neg a b
  | _, _ => fEq neg a b
def rEq2 (K : PySem.W.Frag) : R2 := fun x y H Q => rEq x y H Q ∨ rEqD K x y H Q
def rNe2 (K : PySem.W.Frag) : R2 := fun x y H Q => rNe x y H Q ∨ rNeD K x y H Q
theorem hu64 {k : Nat} {A : Around} (hr : Room k A) : A.units + 64 < cLine := by have := hr.un; omega
theorem op_eq2 {X : Cx} (hu : X.A.units + 64 < cLine) : OpR X (compareOp .Eq) (rEq2 X.K) := op_eq.or (op_eqD hu)
theorem op_ne2 {X : Cx} (hu : X.A.units + 64 < cLine) : OpR X (compareOp .NotEq) (rNe2 X.K) := op_ne.or (op_neD hu)
theorem eqS_rv {K : PySem.W.Frag} {dr : Option Addr} {H : Hp} {d e : PD} {x y : V} {k : Bool} (h : eqS d e = some k) (ra : RV K dr H (.d d) x) (rb : RV K dr H (.d e) y) : scal x y = true ∧ decide (x = y) = k := by
  unfold eqS at h
  split at h
  · cases h; cases ra; cases rb; exact ⟨rfl, dec_str⟩
  · cases h; cases ra; cases rb; exact ⟨rfl, dec_int⟩
  · cases h
theorem o2_eq2 {K : PySem.W.Frag} : Op2B K (rEq2 K) (fEq2 false) := fun dr H a b x y c h ra rb Q q => by
  unfold fEq2 at h
  split at h
  · split at h
    · rename_i k hk
      cases h
      obtain ⟨h1, h2⟩ := eqS_rv hk ra rb
      exact .inl ⟨h1, by rw [h2]; exact q H (Same.refl H)⟩
    · exact .inr (o2_eq dr H _ _ x y c h ra rb Q q)
  · exact .inr (o2_eq dr H _ _ x y c h ra rb Q q)
theorem o2_ne2 {K : PySem.W.Frag} : Op2B K (rNe2 K) (fEq2 true) := fun dr H a b x y c h ra rb Q q => by
  unfold fEq2 at h
  split at h
  · split at h
    · rename_i k hk
      cases h
      obtain ⟨h1, h2⟩ := eqS_rv hk ra rb
      exact .inl ⟨h1, by rw [h2]; exact q H (Same.refl H)⟩
    · exact .inr (o2_ne dr H _ _ x y c h ra rb Q q)
  · exact .inr (o2_ne dr H _ _ x y c h ra rb Q q)
/-! ### a text times an int -/
def rMulS : R2 := fun x y H Q => ∃ (z : Str) (n : Int), x = .str z ∧ y = .int n ∧ MulOk z n ∧ Q (.str (Txt.mul z n)) H
theorem op_mulS {X : Cx} : OpR X (binaryOp .Mult) rMulS := by
  intro pins s σ H x y v u Q I rx ry h
  obtain ⟨z, n, rfl, rfl, hz, q⟩ := h
  obtain ⟨t, rfl⟩ := rx
  obtain ⟨t', rfl⟩ := ry
  exact PySem.SB.mul hz fun t k => ⟨.str (Txt.mul z n), H, I.tok _, ⟨_, rfl⟩, q⟩
def rMul2 : R2 := fun x y H Q => (rI CMul fun i j => .int (i * j)) x y H Q ∨ rMulS x y H Q
theorem op_mul2 {X : Cx} : OpR X (binaryOp .Mult) rMul2 := op_mul.or op_mulS
def fMul2 : Vl → Vl → Option Vl
  | .d (.int i), .d (.int j) => if cMul i j = true then some (.d (.int (i * j))) else none
  | .d (.str z), .d (.int n) => if z.length ≤ 1000 ∧ 1 ≤ n ∧ n ≤ 1000 then some (.d (.str (Txt.mul z n))) else none
  | _, _ => none
theorem mulOk_of {z : Str} {n : Int} (h : z.length ≤ 1000 ∧ 1 ≤ n ∧ n ≤ 1000) : MulOk z n := by
  obtain ⟨h1, h2, h3⟩ := h
  refine ⟨?_, fun _ _ hc => ?_, fun _ _ => ?_⟩
  · rw [Bool.or_eq_false_iff]
    exact ⟨decide_eq_false (by omega), decide_eq_false (by omega)⟩
  · have : (1001 : Int) ≤ (2 ^ 63 - 1) / n := by
      rw [Int.le_ediv_iff_mul_le (by omega)]
      have : 1001 * n ≤ 1001 * 1000 := by omega
      exact Int.le_trans this (by decide)
    omega
  · have hm : z.length * n.toNat ≤ 1000 * 1000 := Nat.mul_le_mul h1 (by omega)
    have hs : (1000 * 1000 : Nat) ≤ sizeLine := by rw [sizeLine_eq]; decide
    exact decide_eq_false (by omega)
theorem o2_mul2 {K : PySem.W.Frag} : Op2 K rMul2 fMul2 := fun dr H a b x y c h ra rb Q q => by
  unfold fMul2 at h
  split at h
  · split at h
    · rename_i i j hc
      cases h; cases ra; cases rb
      exact .inl ⟨i, j, rfl, rfl, cMul_ok i j hc, q _ H (Same.refl H) (.int _)⟩
    · cases h
  · split at h
    · rename_i z n hc
      cases h; cases ra; cases rb
      exact .inr ⟨z, n, rfl, rfl, mulOk_of hc, q _ H (Same.refl H) (.str _)⟩
    · cases h
  · cases h
/-! ### x += n -/
def mAug (i : Nat) (m : Me) : Ms := fun ρ ω => match ρ[i]? with
  | some (.val (.int k)) => (m ρ ω).st ρ fun u ω => match intOf u with
    | some j => .ok .nx (ρ.set i (.val (.int (k + j))), ω)
    | none => .stuck
  | _ => .stuck
section
variable {X : Cx} {W : WX} {pos pos' : Pos} {e : Expr} {m : Me}
theorem ms_aug {x : Str} (i : Nat) (hN : X.N.Nodup) (he : ME X W e m) (hi : X.N[i]? = some x := by rfl) (hx : Loc X.env.scope x := by first | exact Or.inl rfl | exact Or.inr rfl)
    (hf : X.fn x = true ∨ X.env.scope.names.lookup x = some .local := by first | exact .inl rfl | exact .inr rfl | assumption) : MS X W (.AugAssign (.Name x pos') .Add e pos) (mAug i m) :=
  ps_imp (ps_aug hN hi hx he ip_add hf) fun D σ H ⟨dr, H0, ρ, ω, g, p⟩ => by
    unfold mAug at p
    cases h : ρ[i]? with
    | none => rw [h] at p; exact False.elim p
    | some s =>
      rw [h] at p
      split at p
      · rename_i k hk
        cases Option.some.inj hk
        obtain ⟨v, e1, r1⟩ := g.sl i _ h
        cases r1
        refine ⟨.int k, slot_some e1, ?_⟩
        refine seqES (D := D) g p fun u ω' v' H' ex g' rv p' => ?_
        cases hi : intOf u with
        | none => rw [hi] at p'; exact False.elim p'
        | some j =>
          rw [hi] at p'
          rw [int_rv hi rv]
          have q := g'.put g' (s := .val (.int (k + j))) (v := .int (k + j)) (Rp.int _) i
          exact ⟨k, j, rfl, rfl, p' _ _ (Fz.refl _) q⟩
      · exact False.elim p
end
/-- a def's promise by one of many -/
theorem fn_weak {P : Program} {w : World} {K : PySem.W.Frag} {mg : Str → Option Value} {base : Heap} {CX : CXT} {k : Nat} {f : Addr} {fd : FuncData} {ps : List Str} {ι : Type} {sp : ι → Sp} {sp' : Sp} (h : ∀ n, FnOk P w K mg base CX k f fd ps (sp n)) (i : ∀ vs H Q E, sp' vs H Q E → ∃ n, sp n vs H Q E) : FnOk P w K mg base CX k f fd ps sp' :=
  ⟨fun vs H Q E q => let ⟨n, q'⟩ := i vs H Q E q; (h n).len vs H Q E q', fun A outer s H args us vs Q E hr he hb hv hs => let ⟨n, q'⟩ := i vs H Q E hs; (h n).run A outer s H args us vs Q E hr he hb hv q'⟩
/-- a promise's meaning by another, that says the same where the new one says anything -/
theorem fn_same {P : Program} {w : World} {K : PySem.W.Frag} {mg : Str → Option Value} {base : Heap} {CX : CXT} {k n : Nat} {f : Addr} {fd : FuncData} {ps : List Str} {ι : Type} {F : ι → Mf} {G : Mf} (h : ∀ i, FnOk P w K mg base CX k f fd ps (spF K mg n (F i))) (e : ∀ us ω, G us ω ≠ .stuck → ∃ i, F i us ω = G us ω) : FnOk P w K mg base CX k f fd ps (spF K mg n G) :=
  fn_weak h fun vs H Q E ⟨dr, ω, us, hl, w', r, p⟩ => by
    by_cases hs : G us ω = .stuck
    · rw [hs] at p; exact p.elim
    · obtain ⟨i, hi⟩ := e us ω hs
      exact ⟨i, dr, ω, us, hl, w', r, by rw [hi]; exact p⟩
end FL
end
-- FLE
section
set_option maxRecDepth 100000
set_option maxHeartbeats 2000000
/-! FLE: BadForm(n), an own exception over an own one over ValueError, with super().__init__(..) and a field -/
namespace PySem
namespace BfX
open PySem.W PySem.Calls PyProof.Rows PySem.HandSPX
/-! ### the text of __init__ -/
def iA (p1 p2 : Pos) : Arguments := { posonlyargs := [], args := [{ arg := "self", annotation := none, pos := p1 }, { arg := "line", annotation := none, pos := p2 }], vararg := none, kwonlyargs := [], kw_defaults := [], kwarg := none, defaults := [] }
def iE (n0 f0 c0 c1 j0 : Pos) : Expr := .JoinedStr [.Constant (.str "line ") 0 c0, .FormattedValue (.Name "line" n0) (-1) none f0, .Constant (.str " is not of its form") 0 c1] j0
def iB (p0 p1 ap cp ep n0 f0 c0 c1 j0 q1 q2 q3 q4 : Pos) : List Stmt :=
  [.Expr (.Call (.Attribute (.Call (.Name "super" p0) [] [] p1) "__init__" ap) [iE n0 f0 c0 c1 j0] [] cp) ep, .Assign [.Attribute (.Name "self" q1) "line" q2] (.Name "line" q3) q4]
def iS : Scope := { kind := .function, names := [(PySem.Str.ofString "self", .local), (PySem.Str.ofString "line", .local), (PySem.Str.ofString "__class__", .free), (PySem.Str.ofString "super", .globalImplicit)], isGenerator := false, isCoroutine := false, more := [] }
/-- what the written part says of BadForm, at C, and of its __init__, at fI -/
structure BfTxt (P : Program) (K : Frag) (mg : Str → Option Value) (C fI cc cda : Addr) : Prop where
  gC : mg "BadForm" = some (.ref C)
  cls : ∃ nm q N bs bm sn sub ab col dd k0 k1 k2 k3 k5, K.lookup C = some (excClassObj nm q C N bs bm true sn sub ab col dd k0 k1 k2 k3 k5 "ValueError.__new__") ∧ refsVE bm = true
  sa : findIn K (.ref C) "__setattr__" = some (some (.builtin "object.__setattr__"))
  ga : findIn K (.ref C) "__getattribute__" = some (some (.builtin "BaseException.__getattribute__"))
  gg : findIn K (.ref C) "__getattr__" = some none
  noN : findIn K (.ref C) "line" = some none
  iC : findIn K (.ref C) "__init__" = some (some (.ref fI))
  tC : typeIn K (.ref fI) = some (.type "function")
  kC : keepIn K (.ref C) = true
  exC : subIn K (.ref C) (.type "BaseException") = some true
  vaC : subIn K (.ref C) (.type "ValueError") = some true
  tyC : typeIn K (.ref C) = some (.type "type")
  hdC : hasDictIn K C = true
  fn : ∃ (oc : Value) (od : Option Addr) (doc pm : Value) (an : Option Addr) (ct : Value) (osl : Array (Option Value)) (p1 p2 r0 r1 r2 r3 r4 r5 r6 r7 r8 r9 q1 q2 q3 q4 : Pos),
    K.lookup fI = some ⟨oc, od, .func (ksFn "__init__" "BadForm.__init__" (iA p1 p2) (iB r0 r1 r2 r3 r4 r5 r6 r7 r8 r9 q1 q2 q3 q4) iS .none .none doc pm an (.ref cda) ct cc), osl⟩ ∧ codeIn K (.ref cda) "BadForm.__init__" = true ∧ (r2.endLine == r3.line) = true
  code : ∃ (ccl : Value) (cdd : Option Addr) (vs : Array Value) (ccs : Array (Option Value)) (file : Str) (tf : Tok), K.lookup cda = some ⟨ccl, cdd, .fields vs, ccs⟩ ∧ vs[2]? = some (.str file tf) ∧ ((P.main.file : Str) == file) = true
  cell : ∃ (cl : Value) (cld : Option Addr) (csl : Array (Option Value)), K.lookup cc = some ⟨cl, cld, .cell (some (.ref C)), csl⟩
  mro : mroIn K C (.ref C) = some true
  sup : mg "super" = none
  top : (P.main.scope.names.lookup ("super" : Str)).isSome = false
  ops : nsIn K cStatics "thirdparty.any" = some none
  sin : ks_superIn K C C "__init__" = some (some (.builtin "ValueError.__init__"))
theorem iS_nocell : ∀ x ∈ iS.names, x.2 ≠ NameKind.cell := by decide
theorem iS_loc {a b : Value} : ∀ x ∈ [(("self" : Str), a), ("line", b)], iS.names.lookup x.1 = some .local := fun x hx => by
  rcases List.mem_cons.mp hx with rfl | hx
  · rfl
  rcases List.mem_cons.mp hx with rfl | hx
  · rfl
  cases hx
theorem he_of {o e : Expr} {name : Str} {apos pos : Pos} {env : Env} (hl : (apos.endLine == pos.line) = true) (hf : methodCallForm 1 (backTo pos (starEach [e] env)) (backToKw pos (keywordEach [] env)) = true := by rfl) : eval (.Call (.Attribute o name apos) [e] [] pos) env = (do
      let ov ← attributeBase o name env (eval o env)
      standAt apos.atName
      let (f, first) ← holding [ov] (getMethod ov name (do return (← importBound o env).getD true))
      callWith pos f first (backTo pos (starEach [e] env)) []) := by
  rw [arm_eval_Call]
  unfold methodCall
  show (do
    let ov ← attributeBase o name env (eval o env)
    standAt apos.atName
    (do
      let (f, first) ← holding [ov] (calleeOf (methodCallForm 1 (backTo pos (starEach [e] env)) (backToKw pos (keywordEach [] env))) o env ov name)
      let callPos ← methodCallPos (methodCallForm 1 (backTo pos (starEach [e] env)) (backToKw pos (keywordEach [] env))) o env apos pos
      callWith callPos f first (backTo pos (starEach [e] env)) [])) = _
  rw [hf]
  unfold methodCallPos
  simp only [hl, Bool.not_true, Bool.false_or, if_true]
  rfl
theorem one_size (v : Value) : [v].length ≤ sizeLine := by
  rw [sizeLine_eq]
  exact (by decide : 1 ≤ 16777216)
theorem ldX {M : Model} {s : Shared} {name : Str} {scope : Scope} {L a : Addr} {cd : Value} {cl : List (Str × Addr)} {m : Str → Option Value} {x : Str} {pos : Pos} {v : Value} {Q : Value → Shared → Prop} {A : Around} {E : Value → Shared → Prop} (hn : s.heap.Ns L m) (hv : m x = some v) (h : Q v s)
    (hk : scope.kind = .function := by rfl) (hl : (envX name scope L a cd cl).kindOf x = some .local := by rfl) (hd : (x == ("__debug__" : Str)) = false := by decide) :
    wpAny M A (eval (.Name x pos) (envX name scope L a cd cl)) Q E s := wpAny_Name (wpAny_loadName_local hk hl hn hv h) hd
theorem ns_but {h h' : Heap} {L x : Addr} {m : Str → Option Value} (hn : h.Ns L m) (hx : L ≠ x) (k : ∀ b o, b ≠ x → h.get? b = some o → h'.get? b = some o) : h'.Ns L m := by
  obtain ⟨oL, es, ep, hL, r⟩ := hn
  exact ⟨oL, es, ep, k _ _ hx hL, r⟩
/-- what __init__ leaves of a fresh exception at x -/
structure InitEnd (h h' : Heap) (x C dx t1 : Addr) (v : Value) : Prop where
  keep : ∀ b o, b ≠ x → h.get? b = some o → h'.get? b = some o
  obj : h'.get? x = some { cls := .ref C, dict := some dx, data := .fields #[.ref t1, .none, .none, .none, .bool false, .none] }
  dbig : h.objs.size ≤ dx
  dne : dx ≠ x
  ns : h'.Ns1 dx (fun y => if y = "line" then some v else none)
/-- a made BadForm -/
structure OwnMade (h h' : Heap) (e C d : Addr) (v : Value) : Prop where
  keep : ∀ b o, h.get? b = some o → h'.get? b = some o
  new : h.objs.size ≤ e
  obj : ∃ oe vs, h'.get? e = some oe ∧ oe.cls = .ref C ∧ oe.dict = some d ∧ oe.data = .fields vs ∧ vs[1]? = some .none
  dbig : h.objs.size ≤ d
  dne : d ≠ e
  ns : h'.Ns1 d (fun y => if y = "line" then some v else none)
section
variable {prog : Program} {w : World} {A : Around} {E : Value → Shared → Prop} {h : Heap} {g : Array GenState} {d : Drawn} {t : Nat} {os : OsState}
variable {nm q : Str} {C N : Addr} {bs bm : List Value} {hdct : Bool} {sn : List Str} {sub : List Value} {ab : Bool} {col : Option Bool} {dd : Option Addr} {k0 k1 k2 k3 k5 : Option Value}
theorem call_mw {u e t0 : Addr} {rest : List Value} {Q : Value → Shared → Prop}
    (hC : h.get? C = some (excClassObj nm q C N bs bm hdct sn sub ab col dd k0 k1 k2 k3 k5 "ValueError.__new__")) (he : h.get? e = some (HandSPX.excO C t0)) (hu : h.get? u = some (kxs_mw "ValueError.__init__" e)) (hrest : rest.length ≤ sizeLine)
    (hq : ∀ h' t1, (∀ b o, b ≠ e → h.get? b = some o → h'.get? b = some o) → h'.get? e = some (HandSPX.excO C t1) → Q .none ⟨h', g, d, t, os⟩) :
    wpAny (model prog w) A (call (.ref u) rest) Q E ⟨h, g, d, t, os⟩ := by
  refine wpAny_call (codeAny_of_tree ?_)
  show wpAny _ A.in1 (callAny (.ref u) ⟨rest, []⟩) _ _ _
  simp only [callAny]
  refine wpAny_bind (wpAny_load hu ?_)
  simp only [kxs_mw, show (Value.type "method-wrapper" == Value.type "method" || Value.type "method-wrapper" == Value.type "builtin_function_or_method" || Value.type "method-wrapper" == Value.type "method-wrapper") = true by decide, if_true]
  refine W.KFB.if_so (by decide) ?_
  refine wpAny_bind (check_bound_init F.excBase_ValueError.toExcCallFacts hC he rfl ?_)
  refine wpAny_bind (wpAny_pure (wpAny_pure ?_))
  refine ⟨Code.quiet_builtin _ (by decide +kernel), codeAny_builtin F.excBase_ValueError.initEntry ?_⟩
  rw [Around.under_plainId F.excBase_ValueError.init.plain _]
  wp_walk
  refine hq _ h.objs.size (fun b o hb ho => ?_) ?_
  · rw [Heap.get?_update_other _ _ (Ne.symm hb)]
    exact Heap.get?_push_of_some _ ho
  · rw [Heap.get?_update_self _ (Heap.get?_push_of_some _ he) rfl]
    rfl
end
section
variable {P : Program} {w : World} {A : Around} {E : Value → Shared → Prop} {R : Result → Shared → Prop} {s : Shared} {K : Frag} {mg mb : Str → Option Value} {C fI cc cda : Addr}
theorem bf_init (T : BfTxt P K mg C fI cc cda) {x t0 : Addr} {n : Int} {tv : Tok} (hn : n.natAbs.log2 < 1920) (hlen : (Str.ofString (toString n)).length ≤ 640) (X : K.In s.heap) (G : s.heap.Ns mainGlobals mg) (Bm : s.heap.Ns builtinsNs mb) (hmb : mb "super" = some (.type "super")) (hlim : s.heap.NoLimit) (hx : s.heap.get? x = some (excO C t0))
    (hnx : K.lookup x = none) (hroom : A.depth < recursionLimit)
    (hq : ∀ h' tk dx t1, InitEnd s.heap h' x C dx t1 (.int n tv) → R (.ok (.ret .none)) { s with heap := h', toks := tk }) :
    codeAny (model P w) A (.call (.ref fI) ⟨[.ref x, .int n tv], []⟩) R s := by
  obtain ⟨oc, od, doc, pm, an, ct, osl, p1, p2, r0, r1, r2, r3, r4, r5, r6, r7, r8, r9, q1, q2, q3, q4, ho, hcd, hline⟩ := T.fn
  obtain ⟨nm, q, N, bs, bm, sn, sub, ab, col, dd, k0, k1, k2, k3, k5, hC, hbm⟩ := T.cls
  obtain ⟨ccl, cdd, vs, ccs, file, tf, hcda, hvs, hfile⟩ := T.code
  obtain ⟨cl, cld, csl, hcell⟩ := T.cell
  have hcl : clsIn K C = some { name := nm, bases := bs, mro := .ref C :: bm, ns := N, qualname := q, hasDict := true, slotNames := sn, subclasses := sub, abstract := ab, collection := col, hasDel := false } := by unfold clsIn; rw [hC] <;> rfl
  have hxC : x ≠ C := fun z => by rw [z, hC] at hnx; cases hnx
  refine ks_codeAny_call_defAt (fd := ksFn "__init__" "BadForm.__init__" (iA p1 p2) (iB r0 r1 r2 r3 r4 r5 r6 r7 r8 r9 q1 q2 q3 q4) iS .none .none doc pm an (.ref cda) ct cc) (body := iB r0 r1 r2 r3 r4 r5 r6 r7 r8 r9 q1 q2 q3 q4) (binds := [("self", .ref x), ("line", .int n tv)]) hroom (X _ _ ho) rfl hlim (codeRec_of X hcd) rfl
    (BindsTo.of_eq (by first | rfl | with_unfolding_all rfl)) iS_nocell iS_loc (fun h₁ hns hk₁ => ?_)
  have X₁ : K.In h₁ := X.keeps hk₁
  have hx₁ := hk₁ _ _ hx
  have hxL : s.heap.objs.size ≠ x := Nat.ne_of_gt (Heap.lt_size hx)
  have tail : ∀ (h₂ : Heap) (tk₂ t1 : Nat), (∀ b o, b ≠ x → h₁.get? b = some o → h₂.get? b = some o) → h₂.get? x = some (excO C t1) → K.In h₂ →
      PySem.wpAt (model P w) (A.deeper (ksEnv "BadForm.__init__" iS s.heap.objs.size fI (.ref cda) cc)) (.func (iB r0 r1 r2 r3 r4 r5 r6 r7 r8 r9 q1 q2 q3 q4) (ksEnv "BadForm.__init__" iS s.heap.objs.size fI (.ref cda) cc))
        (execs [.Assign [.Attribute (.Name "self" q1) "line" q2] (.Name "line" q3) q4] (ksEnv "BadForm.__init__" iS s.heap.objs.size fI (.ref cda) cc))
        (fun f s' => R (.ok (.ret (match f with | .ret v => v | _ => .none))) s')
        (fun e s' => wpAny (model P w) (A.deeper (ksEnv "BadForm.__init__" iS s.heap.objs.size fI (.ref cda) cc)) (leaving (ksEnv "BadForm.__init__" iS s.heap.objs.size fI (.ref cda) cc) e) (fun _ s'' => R (.error e) s'') (fun e' s'' => R (.error e') s'') s')
        { s with heap := h₂, toks := tk₂ } := fun h₂ tk₂ t1 kk hx₂ X₂ => by
    have hn₂ := ns_but hns hxL kk
    refine wpAt_of_wpAny (wpAny_execs_cons (plainObj_wpAny_Assign_Attribute ?_))
    refine ldX (v := .int n tv) hn₂ (by first | rfl | with_unfolding_all rfl | kernel_rfl) (ldX (v := .ref x) hn₂ (by first | rfl | with_unfolding_all rfl | kernel_rfl) ?_)
    refine set_plain X₂ (ox := excO C t1) (od := none) ⟨hx₂, rfl, rfl, trivial⟩ T.sa ?_
    refine exc_osa X₂ hx₂ hcl (show refsVE (.ref C :: bm) = true from hbm) rfl T.noN (fun h₃ tk₃ dx k₃ dn dne hx₃ hn₃ => ?_)
    show wpAny _ _ (execs _ _) _ _ _
    have zz : s.heap.objs.size < h₂.objs.size := hn₂.lt
    exact wpAny_execs_nil (hq h₃ tk₃ dx t1 ⟨fun b o hb e => k₃ b o hb (kk b o hb (hk₁ b o e)), hx₃, Nat.le_of_lt (Nat.lt_of_lt_of_le zz dn), dne, hn₃⟩)
  refine ks_wpAt_execs_cons (ks_wpAt_Expr_any ?_)
  refine ks_wpAt_MethodCall (pl := (do return (← importBound (.Call (.Name "super" r0) [] [] r1) (callEnv (ksFn "__init__" "BadForm.__init__" (iA p1 p2) (iB r0 r1 r2 r3 r4 r5 r6 r7 r8 r9 q1 q2 q3 q4) iS .none .none doc pm an (.ref cda) ct cc) s.heap.objs.size fI)).getD true : Sem Bool)) ?_ (he_of hline)
  refine ks_wpAt_super_base rfl rfl (by decide) rfl (X₁ _ _ ho) rfl rfl rfl (X₁ _ _ hcda) rfl hvs hfile T.top ?_
  refine ks_loadName_global rfl rfl (loadGlobal_builtin (G.keeps hk₁) T.sup (Bm.keeps hk₁) hmb ⟨rfl, ?_⟩)
  refine wpAny_loadName_free rfl rfl rfl ⟨_, X₁ _ _ hcell, rfl⟩ ?_
  refine wpAny_loadName_local rfl rfl hns rfl ?_
  refine ks_wpAny_isType_cls (X₁ _ _ hC) rfl ⟨rfl, ?_⟩
  refine ks_wpAny_call_super (X₁ _ _ hC) rfl hx₁ rfl (fun c e => by cases e) (looks_mroIn X₁ T.mro) (fun h₂ e₂ k₂ => ?_)
  have X₂ : K.In h₂ := X₁.keeps k₂
  have I₂ : InstAt h₂ x (excO C t0) C none := ⟨k₂ _ _ hx₁, rfl, rfl, trivial⟩
  have hsin := T.sin
  unfold ks_superIn at hsin
  rw [hcl] at hsin
  refine kxs_getMethod (B := "ValueError") (i := "ValueError.__init__") kxs_ValueError e₂ (looks_opaque X₂ T.ops) (fun A Q E s k q => wpAny_bind ((looks_clsIn X₂ hcl) A _ E s k (wpAny_pure q))) rfl X₂ hsin (I₂.type.andThen (looks_subIn X₂ T.vaC)) hxC (by decide) ?_
  have k₃ : ∀ b o, h₂.get? b = some o → (h₂.push (kxs_mw "ValueError.__init__" x)).get? b = some o := fun b o e => Heap.get?_push_of_some _ e
  have hu : (h₂.push (kxs_mw "ValueError.__init__" x)).get? h₂.objs.size = some (kxs_mw "ValueError.__init__" x) := Heap.get?_push_at rfl rfl
  have kk₃ : ∀ b o, h₁.get? b = some o → (h₂.push (kxs_mw "ValueError.__init__" x)).get? b = some o := fun b o e => k₃ b o (k₂ b o e)
  refine kxs_callWith (i := "ValueError.__init__") (x := x) rfl (evalArgs_plain (x := eval (iE r5 r6 r7 r8 r9) (ksEnv "BadForm.__init__" iS s.heap.objs.size fI (.ref cda) cc)) (rest := []) ?_)
  refine Calls.spliced_cons ?_
  show wpAny _ _ (eval (.JoinedStr [.Constant (.str "line ") 0 r7, .FormattedValue (.Name "line" r5) (-1) none r6, .Constant (.str " is not of its form") 0 r8] r9) _) _ _ _
  have hns₃ := hns.keeps kk₃
  refine wpAny_JoinedStr ?_
  refine Calls.Constant_str ⟨_, _, rfl, (by decide +kernel), ?_⟩
  refine wpAny_FormattedValue_plain (ldX (v := .int n tv) hns₃ (by first | rfl | with_unfolding_all rfl | kernel_rfl) ?_)
  refine wpAny_formatField_int hn ⟨_, _, rfl, ?_, ?_⟩
  · rw [PySem.Str.length_append]
    have : (Str.empty ++ PySem.Str.ofString "line ").length = 5 := by decide +kernel
    rw [sizeLine_eq]; omega
  refine Calls.Constant_str ⟨_, _, rfl, ?_, ?_⟩
  · rw [PySem.Str.length_append, PySem.Str.length_append]
    have : (Str.empty ++ PySem.Str.ofString "line ").length = 5 := by decide +kernel
    have : (PySem.Str.ofString " is not of its form").length = 19 := by decide +kernel
    rw [sizeLine_eq]; omega
  refine ⟨?_, ?_⟩
  · rw [PySem.Str.length_append, PySem.Str.length_append]
    have : (Str.empty ++ PySem.Str.ofString "line ").length = 5 := by decide +kernel
    have : (PySem.Str.ofString " is not of its form").length = 19 := by decide +kernel
    rw [sizeLine_eq]; omega
  refine Calls.spliced_nil ⟨hu, ?_⟩
  refine call_mw (kk₃ _ _ (X₁ _ _ hC)) (kk₃ _ _ hx₁) hu (one_size _) fun h₄ t1 k₄ hx₄ => ?_
  have kk₄ : ∀ b o, b ≠ x → h₁.get? b = some o → h₄.get? b = some o := fun b o hb e => k₄ b o hb (kk₃ b o e)
  exact tail h₄ _ t1 kk₄ hx₄ (fun a o e => kk₄ a o (fun z => by rw [z, hnx] at e; cases e) (X₁ _ _ e))
theorem bf_made (T : BfTxt P K mg C fI cc cda) {n : Int} {tv : Tok} (hn : n.natAbs.log2 < 1920) (hlen : (Str.ofString (toString n)).length ≤ 640) (X : K.In s.heap) (G : s.heap.Ns mainGlobals mg) (Bm : s.heap.Ns builtinsNs mb) (hmb : mb "super" = some (.type "super")) (hlim : s.heap.NoLimit) (hroom : A.depth + 1 < recursionLimit)
    (hq : ∀ h' tk e d, OwnMade s.heap h' e C d (.int n tv) → R (.ok (.ret (.ref e))) { s with heap := h', toks := tk }) :
    codeAny (model P w) A (.call (.ref C) ⟨[.int n tv], []⟩) R s := by
  obtain ⟨nm, q, N, bs, bm, sn, sub, ab, col, dd, k0, k1, k2, k3, k5, hC, hbm⟩ := T.cls
  obtain ⟨hp, g, dr, tk, os⟩ := s
  have k : ∀ b o, hp.get? b = some o → ((hp.push (kdv_tup [.int n tv])).push (excO C hp.objs.size)).get? b = some o := fun b o e => Heap.get?_push_of_some _ (Heap.get?_push_of_some _ e)
  have hget : ((hp.push (kdv_tup [.int n tv])).push (excO C hp.objs.size)).get? (hp.objs.size + 1) = some (excO C hp.objs.size) := by heap_get
  have hnx : K.lookup (hp.objs.size + 1) = none := by
    cases e : K.lookup (hp.objs.size + 1) with
    | none => rfl
    | some o =>
      have z : hp.get? (hp.objs.size + 1) = some o := X _ _ e
      exact absurd (Nat.lt_of_succ_lt (Heap.lt_size z)) (Nat.lt_irrefl _)
  refine call_own F.excBase_ValueError (fun X => refsVE_contains X bm hbm) (X _ _ hC) (looks_findIn X T.iC) (fun self => bind_fn X self T.tC) (one_size _) ?_
  refine bf_init (s := ⟨(hp.push (kdv_tup [.int n tv])).push (excO C hp.objs.size), g, dr, tk, os⟩) T hn hlen (X.keeps k) (G.keeps k) (Bm.keeps k) hmb (hlim.keeps k) hget hnx ?_ fun h' tk' dx t1 ⟨k', hx, dn, dne, hns⟩ => ?_
  · show A.depth + 1 < recursionLimit
    exact hroom
  · have old : ∀ b o, hp.get? b = some o → h'.get? b = some o := fun b o e => k' b o (Nat.ne_of_lt (Nat.lt_succ_of_lt (Heap.lt_size e))) (k b o e)
    have z : hp.objs.size + 1 + 1 ≤ dx := by
      first
        | (simpa only [Heap.size_push] using dn)
        | exact dn
        | (have q := dn; rw [Heap.size_push, Heap.size_push] at q; exact q)
    exact ⟨rfl, hq h' tk' (hp.objs.size + 1) dx ⟨old, Nat.le_succ _, ⟨_, _, hx, rfl, rfl, rfl, rfl⟩, Nat.le_trans (Nat.le_trans (Nat.le_succ _) (Nat.le_succ _)) z, dne, hns⟩⟩
end
end BfX
end PySem
namespace L2
open PySem PySem.Spec PyProof.Rows
theorem relO_bf {v : V} {v' : Value} (r : RelV v v') (f : Str) : RelO (List.lookup f [(("line" : Str), v)]) (if f = "line" then some v' else none) := by
  by_cases hw : f = "line"
  · subst hw
    rw [if_pos rfl]
    have q : List.lookup ("line" : Str) [(("line" : Str), v)] = some v := by simp [List.lookup]
    rw [q]
    exact r
  · rw [if_neg hw]
    have qw : (f == ("line" : Str)) = false := by simpa using hw
    have q2 : List.lookup f [(("line" : Str), v)] = none := by simp [List.lookup, qw]
    rw [q2]
    trivial
section
variable {X : Cx} {C fI cc cda : Addr}
/-- BadForm(e) -/
def tMkBf (C : Addr) (ta : TA) : St → Hp → XK → Prop := fun σ H Q => ta σ H fun vs H1 => ∃ n : Int, vs = [.int n] ∧ n.natAbs.log2 < 1920 ∧ (Str.ofString (toString n)).length ≤ 640 ∧ ∀ d, H1 d = none → Q (.ref C) (some d) (upd H1 d (.xd [(("line" : Str), .int n)]))
theorem pmk_bf {a : Expr} {ta : TA} {p pos : Pos} {k : Nat} (T : PySem.BfX.BfTxt X.prog X.K X.mg C fI cc cda) (hr : Room k X.A) (ha : PA X [a] ta) (hg : Gl X "BadForm" := by rfl)
    (he : starEach (a :: []) X.env = (false, eval a X.env) :: starEach [] X.env := by rfl) (hpl : (backTo pos (starEach [] X.env)).any (·.1) = false := by rfl) :
    PMk X (.Call (.Name "BadForm" p) [a] [] pos) (tMkBf C ta) := by
  intro pins s σ H Q I h
  refine wpAny_Call_Name_kw (ld_glob I hg T.gC ?_)
  refine PySem.W.callWith_K (h₀ := X.base) I.ok.mod.kin T.kC (thn (ha.run pos pins s σ H _ I h) fun us s1 hh => ?_) he hpl
  obtain ⟨vs, H1, I1, r1, n, ev, hn, hl, q1⟩ := hh
  subst ev
  refine ⟨I1.kIn, ?_⟩
  cases r1 with
  | cons rv rn =>
    rename_i v' us'
    cases rn
    obtain ⟨tv, rfl⟩ := rv
    show wpAny _ _ (call (.ref C) [.int n tv]) _ _ _
    have hlim := I1.nolimit
    obtain ⟨mb, hb1, hb2⟩ := I1.mod.blt
    have hG : s1.heap.Ns mainGlobals X.mg := I1.mod.glob.keeps I1.bk
    have hB : s1.heap.Ns builtinsNs mb := hb1.keeps I1.bk
    have hmb : mb "super" = some (.type "super") := (hb2 _ (by decide)).trans (by decide +kernel)
    obtain ⟨hp, g, dr, tk, os⟩ := s1
    refine wpAny_call (PySem.BfX.bf_made T hn hl I1.kIn hG hB hmb hlim (by have := hr.dp; omega) fun h' tk' e d M => ?_)
    show MkP X pins σ Q (.ref e) ⟨h', g, dr, tk', os⟩
    obtain ⟨oe, fv, hoe, hc, hd, hdat, h1⟩ := M.obj
    have hns := M.ns
    obtain ⟨G', g1, g2⟩ := restrict h' fun b => decide (b ≠ e)
    have gk : ∀ b, b ≠ e → G'.get? b = h'.get? b := fun b hb => g1 b (decide_eq_true hb)
    have ge : G'.get? e = none := g2 e (by simp)
    have old : ∀ b o, hp.get? b = some o → G'.get? b = some o := fun b o q => (gk b (Nat.ne_of_lt (Nat.lt_of_lt_of_le (Heap.lt_size q) M.new))).trans (M.keep b o q)
    have ob : ObjOk X.prog X.w (upd H1 d (.xd [(("line" : Str), .int n)])) G' d (.xd [(("line" : Str), .int n)]) :=
      ⟨_, hns.at (fun o q => (gk d M.dne).trans q), fun f => relO_bf (v := .int n) (v' := .int n tv) ⟨tv, rfl⟩ f⟩
    have J : Inv X pins σ (upd H1 d (.xd [(("line" : Str), .int n)])) ⟨G', g, dr, tk', os⟩ := I1.laid (t' := tk') old M.dbig ob
    refine ⟨e, oe, fv, ⟨G', g, dr, tk', os⟩, _, .ref C, some d, rfl, J, fun b o q => ?_, ge, hoe, ⟨hc, hd⟩, hdat, h1, ?_, rfl, I1.bare, raises_own T.exC T.tyC, q1 d (I1.hok.fresh M.dbig)⟩
    · by_cases hb : b = e
      · have q' : G'.get? b = some o := q
        rw [hb, ge] at q'; cases q'
      · exact (gk b hb).symm.trans q
    · rw [upd_ne (Ne.symm M.dne)]
      exact I1.hok.fresh M.new
end
end L2
namespace FL
open PySem PySem.Spec L2
def mRaiseN (x : Str) (n : Int) : Ms := fun ρ ω => .exc (x, some n) (ρ, ω)
section
variable {X : Cx} {W : WX} {pos : Pos}
theorem ms_raiseBF {C fI cc cda : Addr} {n : Int} {j k : Nat} {p p2 pos2 : Pos} (hc : X.calm = true) (T : PySem.BfX.BfTxt X.prog X.K X.mg C fI cc cda) (hr : Room k X.A) (tk : Takes X W) (hn : n.natAbs.log2 < 1920 ∧ (Str.ofString (toString n)).length ≤ 640 := by decide +kernel) (hg : Gl X "BadForm" := by rfl)
    (he : starEach [.Constant (.int n) j p2] X.env = (false, eval (.Constant (.int n) j p2) X.env) :: starEach [] X.env := by rfl) :
    MS X W (.Raise (some (.Call (.Name "BadForm" p) [.Constant (.int n) j p2] [] pos)) none pos2) (mRaiseN "BadForm" n) :=
  ps_imp (ps_raise hc tk (pmk_bf T hr (pa_cons pe_int pa_nil he) hg he)) fun D σ H ⟨dr, H0, ρ, ω, g, p⟩ =>
    ⟨n, rfl, hn.1, hn.2, fun d hd => p (.ref C) (some d) σ _ (g.same (same_new hd)) ⟨C, T.gC, rfl, d, rfl, upd_same⟩⟩
end
end FL
end
-- FLF
section
set_option maxRecDepth 100000
set_option maxHeartbeats 2000000
/-! FLF: len(x.replace(y, z, 1)) > n behind a test that gives out a token -/
namespace PySem
open Builtin Builtin.Str
/-- the first y of x is made z -/
def rep1 (x y z : Str) : Str := if ((occurrences x y 0 x.length 1).isEmpty || (y.length == 0 && z.length == 0)) = true then x else glued z (partsBetween x (occurrences x y 0 x.length 1) y.length)
theorem gives_replace1 (x y z : Str) (t u v p : Tok)
    (hf : (u == 0 || v == 0) = false ∧ (u == v) = false ∧ (y == z) = false ∧ tooLong (x.length + (occurrences x y 0 x.length 1).length * z.length) = false) :
    Gives («str.replace» ⟨[.str x t, .str y u, .str z v, .int 1 p], []⟩) (if ((occurrences x y 0 x.length 1).isEmpty || (y.length == 0 && z.length == 0)) = true then .val (.str x t) else .str (glued z (partsBetween x (occurrences x y 0 x.length 1) y.length))) := by
  show Gives (if ((occurrences x y 0 x.length 1).isEmpty || (y.length == 0 && z.length == 0)) = true then (do rule "str.replace.nothing"; ret (.str x t)) else
          (do let same ← isSame (.str y u) (.str z v)
              if same = true then (do rule "str.replace.old-is-new"; ret (.str x t)) else
              if tooLong (x.length + (occurrences x y 0 x.length 1).length * z.length) = true then unsupported "str.replace:memory" else
              retStr (glued z (partsBetween x (occurrences x y 0 x.length 1) y.length)))) _
  cases hc : ((occurrences x y 0 x.length 1).isEmpty || (y.length == 0 && z.length == 0))
  · obtain ⟨h0, huv, hyz, hl⟩ := hf
    rw [isSame_str_other y z u v h0 huv hyz, hl]
    exact .of_eq rfl
  · exact .rule (.of_eq rfl)
section
variable {prog : Program} {w : World} {A : Around} {E : Value → Shared → Prop} {s : Shared} {x y z : Str} {t u v p : Tok} {Q : Value → Shared → Prop}
theorem call_replace1 (hu : u ≠ 0) (hv : v ≠ 0) (huv : u ≠ v) (hyz : (y == z) = false) (hb : x.length + z.length ≤ 100000) (hr : (rep1 x y z).length ≤ sizeLine)
    (hq : ∀ t' k, Q (.str (rep1 x y z) t') { s with toks := k }) : wpAny (model prog w) A (call (.builtin "str.replace") [.str x t, .str y u, .str z v, .int 1 p]) Q E s := by
  have hl : tooLong (x.length + (occurrences x y 0 x.length 1).length * z.length) = false := by
    have h1 := StrLaws.occ_length_le x y 0 x.length 1
    have h2 : (occurrences x y 0 x.length 1).length * z.length ≤ 1 * z.length := Nat.mul_le_mul_right _ h1
    unfold tooLong
    rw [sizeLine_eq]
    exact decide_eq_false (by omega)
  refine call_gives F.slot_str_replace (typeIs_str _ _ _) F.entry_str_replace (F.args_str_replace_4 _ _ _ _) (gives_replace1 x y z t u v p ⟨by simp [hu, hv], by simp [huv], hyz, hl⟩) ?_
  have hq' := hq
  unfold rep1 at hq' hr
  cases hc : ((occurrences x y 0 x.length 1).isEmpty || (y.length == 0 && z.length == 0))
  · rw [hc] at hq' hr
    simp only [Bool.false_eq_true, if_false] at hq' hr ⊢
    exact ⟨hr, hq' _ _⟩
  · rw [hc] at hq'
    simp only [if_true] at hq' ⊢
    exact hq' t s.toks
end
section
variable {prog : Program} {w : World} {A : Around} {E : Value → Shared → Prop} {s : Shared} {env : Env}
theorem Call_method3 {o e₁ e₂ e₃ : Expr} {name : Str} {apos pos : Pos} {Q : Value → Shared → Prop}
    (hbase : attributeBase o name env (eval o env) = eval o env) (hs : starEach [e₁, e₂, e₃] env = [(false, eval e₁ env), (false, eval e₂ env), (false, eval e₃ env)]) (hline : (apos.endLine == pos.line) = true)
    (h : wpAny (model prog w) A (eval o env) (fun ov s₁ => MethodOnS prog w A E name ov pos [(false, eval e₁ env), (false, eval e₂ env), (false, eval e₃ env)] Q s₁) E s) :
    wpAny (model prog w) A (eval (.Call (.Attribute o name apos) [e₁, e₂, e₃] [] pos) env) Q E s := by
  refine wpAny_Call_method_lateS hbase (by rw [hs]; rfl) hline ?_
  rw [hs]; exact h
end
end PySem
namespace L2
open PySem PySem.Spec PyProof.Rows CwR
section
variable {X : Cx} {o a b c : Expr} {es rest : List Expr} {to : TE} {ta tb tA tB' : TT} {y z : Str} {i j k : Nat} {c0 c1 c2 apos pos p pos' : Pos}
def tRep1 (to : TE) (y z : Str) : TE := fun σ H Q => to σ H fun v H1 => ∃ x, v = .str x ∧ x.length + z.length ≤ 100000 ∧ (rep1 x y z).length ≤ sizeLine ∧ Q (.str (rep1 x y z)) H1
theorem pet_rep1 (ho : PE X o to) (hyz : (y == z) = false := by decide)
    (hst : starEach [.Constant (.str y) i c0, .Constant (.str z) j c1, .Constant (.int 1) k c2] X.env = [(false, eval (.Constant (.str y) i c0) X.env), (false, eval (.Constant (.str z) j c1) X.env), (false, eval (.Constant (.int 1) k c2) X.env)] := by rfl)
    (hbase : attributeBase o "replace" X.env (eval o X.env) = eval o X.env := by rfl) (hline : (apos.endLine == pos.line) = true := by rfl) :
    PET X (.Call (.Attribute o "replace" apos) [.Constant (.str y) i c0, .Constant (.str z) j c1, .Constant (.int 1) k c2] [] pos) (tRep1 to y z) := by
  intro pins s σ H Q h0 I h
  refine PySem.Call_method3 hbase hst hline (wpAny_mono (PySem.wpAny_toks (ho.run pins s σ H _ I h)) (fun v s1 q => ?_) fun _ _ z => z.2)
  obtain ⟨hk, v', H1, I1, r1, x, e1, hb, hr, q⟩ := q
  subst e1
  obtain ⟨tx, e2⟩ := r1
  subst e2
  refine ⟨"str", _, PySem.F.plainAttrs_str, PySem.F.slot_str_replace, PySem.F.type_str_replace, typeIs_str _ _ _, (fun _ e => nomatch e), Calls.callWith_builtin rfl (Calls.evalArgs_plain (Calls.spliced_cons ?_))⟩
  refine Calls.Constant_str (Calls.spliced_cons (Calls.Constant_str (Calls.spliced_cons (wpAny_Constant_int (Calls.spliced_nil ?_)))))
  exact PySem.call_replace1 (by show s1.toks ≠ 0; omega) (by show s1.toks + 1 ≠ 0; omega) (by show s1.toks ≠ s1.toks + 1; omega) hyz hb hr fun t' k => ⟨.str (rep1 x y z), H1, I1.tok k, ⟨t', rfl⟩, q⟩
/-- f(e), f a built-in function, one token out -/
theorem pet_callB {x : Str} {id : String} {r : List V → Hp → VK → Prop} {t : TA} {e : Expr} (hc : CallR X (.builtin id) r) (hg : Gl X x) (hm : X.mg x = none) (hv : bootBuiltins x = some (.builtin id)) (ha : PAT X (e :: es) t) (hn : x ≠ "__name__" := by decide) (hdb : (x == ("__debug__" : Str)) = false := by decide)
    (he : starEach (e :: es) X.env = (false, eval e X.env) :: starEach es X.env := by rfl) (hpl : (backTo pos (starEach es X.env)).any (·.1) = false := by rfl) : PET X (.Call (.Name x p) (e :: es) [] pos) (tCB r t) := by
  intro pins s σ H Q h0 I h
  refine wpAny_Call_Name_kw (ld_blt I hg hm hv ?_ hn hdb)
  exact PyProof.Rows.callWith_builtin1 (thn (ha pos pins s σ H _ h0 I h) fun us s1 ⟨vs, H1, I1, r1, q1⟩ => hc pins s1 σ H1 vs us Q I1 r1 q1) he hpl
def PTT (X : Cx) (e : Expr) (t : TT) : Prop := ∀ (pins : List (Addr × Obj)) (s : Shared) (σ : St) (H : Hp) (Q : Bool → Hp → Prop), 1 ≤ s.toks → Inv X pins σ H s → t σ H Q → wpAny (model X.prog X.w) X.A (isTrue e X.env (eval e X.env)) (TP X pins σ Q) X.xe s
def PWT (X : Cx) (e : Expr) (t : TT) : Prop := ∀ (whole : Sem Value) (pins : List (Addr × Obj)) (s : Shared) (σ : St) (H : Hp) (Q : Bool → Hp → Prop), 1 ≤ s.toks → Inv X pins σ H s → t σ H Q → wpAny (model X.prog X.w) X.A (isTrue e X.env whole) (TP X pins σ Q) X.xe s
theorem PTT.of (h : PT X a ta) : PTT X a ta := fun pins s σ H Q _ I q => h.run pins s σ H Q I q
theorem PWT.of (h : PW X a ta) : PWT X a ta := fun wh pins s σ H Q _ I q => h.run wh pins s σ H Q I q
theorem ptt_cmpR {op : CmpOp} {r : R2} {te tf : TE} (ho : OpR X (compareOp op) r) (ha : PET X a te) (hb : PE X b tf) (hm : behindInMarks op b = false) : PTT X (.Compare a [op] [b] pos) (tTest (tOp r te tf)) := by
  intro pins s σ H Q h0 I h
  refine wpAny_isTrue_Compare1 (thn (ha pins s σ H _ h0 I h) fun v s1 ⟨x, H1, I1, r1, q1⟩ => thn (hb.run pins s1 σ H1 _ I1 q1) fun u s2 ⟨y, H2, I2, r2, q2⟩ =>
    thn (ho pins s2 σ H2 x y v u _ I2 r1 r2 q2) fun c s3 ⟨z, H3, I3, r3, k, e, q3⟩ => ?_) hm
  subst e
  cases r3
  exact wpAny_truthy_bool ⟨H3, I3, q3⟩
theorem pwt_or (ha : PTT X a tA) (hb : PWT X (.BoolOp .Or (b :: rest) pos) tB') : PWT X (.BoolOp .Or (a :: b :: rest) pos) (tOr tA tB') := by
  intro wh pins s σ H Q h0 I h
  refine isTrue_or (wpAny_mono (PySem.wpAny_toks (ha pins s σ H _ h0 I h)) (fun c s1 q => ?_) fun _ _ z => z.2)
  obtain ⟨hk, H1, I1, q1⟩ := q
  cases c with
  | true => exact ⟨H1, I1, q1⟩
  | false => exact hb wh pins s1 σ H1 Q (Nat.le_trans h0 hk) I1 q1
/-- x == 'text' or ..: the written text gives out a token -/
theorem pw_orT {te : TE} {r : R2} {op : CmpOp} {x : Str} (ho : OpR X (compareOp op) r) (ha : PE X a te) (hb : PWT X (.BoolOp .Or (b :: rest) pos) tB') (hm : behindInMarks op (.Constant (.str x) i c0) = false) : PW X (.BoolOp .Or (.Compare a [op] [.Constant (.str x) i c0] pos' :: b :: rest) pos) (tOr (tTest (tOp r te (tC (.str x)))) tB') := by
  refine ⟨fun wh pins s σ H Q I h => ?_⟩
  refine isTrue_or (wpAny_isTrue_Compare1 (thn (ha.run pins s σ H _ I h) fun v s1 ⟨x', H1, I1, r1, q1⟩ => Calls.Constant_str ?_) hm)
  refine wpAny_mono (PySem.wpAny_toks_of (n := 1) (Nat.le_add_left _ _) (ho pins _ σ H1 x' (.str x) v _ _ (I1.tok _) r1 ⟨_, rfl⟩ q1)) (fun d s3 q => ?_) fun _ _ z => z.2
  obtain ⟨hk, z, H3, I3, r3, k, e, q3⟩ := q
  subst e
  cases r3
  refine wpAny_mono (PySem.wpAny_toks_of hk (wpAny_truthy_bool (Q := TP X pins σ fun c H => if c = true then Q true H else tB' σ H Q) ⟨H3, I3, q3⟩)) (fun c s4 q => ?_) fun _ _ z => z.2
  obtain ⟨hk4, H4, I4, q4⟩ := q
  cases c with
  | true => exact ⟨H4, I4, q4⟩
  | false => exact hb wh pins s4 σ H4 Q hk4 I4 q4
end
end L2
namespace FL
open PySem PySem.Spec L2
def MWt (X : Cx) (W : WX) (e : Expr) (m : Mt) : Prop := PWT X e (rdT X.K X.mg W m)
def MTt (X : Cx) (W : WX) (e : Expr) (m : Mt) : Prop := PTT X e (rdT X.K X.mg W m)
/-- len(x.replace(y, z, 1)) g n -/
def mRep1 (m : Me) (y z : Str) : Me := fun ρ ω => (m ρ ω).bind fun u ω => match strOf u with
  | some x => if x.length + z.length ≤ 100000 ∧ (rep1 x y z).length ≤ 100000 then .ok (.d (.str (rep1 x y z))) ω else .stuck
  | none => .stuck
def mLenRep1 (m : Me) (y z : Str) : Me := fun ρ ω => (mRep1 m y z ρ ω).bind fun u ω => lift (fLen [u]) ω
section
variable {X : Cx} {W : WX} {a b c o : Expr} {rest : List Expr} {ma mb : Me} {ta tb : Mt} {pos pos' apos p c0 c1 c2 q0 : Pos} {i j k : Nat} {y z : Str}
theorem pwt_imp {e : Expr} {t t' : TT} (h : PWT X e t) (i : ∀ σ H Q, t' σ H Q → t σ H Q) : PWT X e t' := fun wh pins s σ H Q h0 I q => h wh pins s σ H Q h0 I (i σ H Q q)
theorem ptt_imp {e : Expr} {t t' : TT} (h : PTT X e t) (i : ∀ σ H Q, t' σ H Q → t σ H Q) : PTT X e t' := fun pins s σ H Q h0 I q => h pins s σ H Q h0 I (i σ H Q q)
theorem MWt.of (h : MW X W a ta) : MWt X W a ta := PWT.of h
theorem MTt.of (h : MT X W a ta) : MTt X W a ta := PTT.of h
theorem mwt_or (ha : MTt X W a ta) (hb : MWt X W (.BoolOp .Or (b :: rest) pos) tb) : MWt X W (.BoolOp .Or (a :: b :: rest) pos) (mOrT ta tb) := pwt_imp (pwt_or ha hb) fun σ H Q ⟨dr, H0, ρ, ω, g, p⟩ => by
  refine seqTT (Q := Q) g p fun u ω1 H1 e1 g1 p1 => ?_
  cases u with
  | false => exact ⟨dr, H0, ρ, ω1, g1, p1⟩
  | true => exact p1 H1 (ExD.refl _ _) g1
theorem mw_orT {op : CmpOp} {r : R2} {f : Vl → Vl → Option Bool} {x : Str} (ho : OpR X (compareOp op) r) (hs : Op2B X.K r f) (ha : ME X W a ma) (hb : MWt X W (.BoolOp .Or (b :: rest) pos) tb) (hm : behindInMarks op (.Constant (.str x) i c0) = false) :
    MW X W (.BoolOp .Or (.Compare a [op] [.Constant (.str x) i c0] pos' :: b :: rest) pos) (mOrT (mCmp f ma (mC (.str x))) tb) := pw_imp (pw_orT ho ha hb hm) fun σ H Q ⟨dr, H0, ρ, ω, g, p⟩ => by
  unfold mOrT mCmp at p
  cases h : ma ρ ω with
  | ok u ω1 =>
    rw [h] at p
    refine ⟨dr, H0, ρ, ω, g, ?_⟩
    rw [h]
    intro v H1 e1 g1 r1
    cases hf : f u (.d (.str x)) with
    | none => simp only [Res.bind, mC, hf, lift] at p; exact False.elim p
    | some kk =>
      simp only [Res.bind, mC, hf, lift] at p
      refine hs dr H1 u (.d (.str x)) v (.str x) kk hf r1 (.str x) _ fun H' e' => ⟨kk, rfl, ?_⟩
      have p' : PostT X.K X.mg W dr H0 ρ σ H Q (if kk = true then .ok true ω1 else tb ρ ω1) := p
      have g' := g1.same e'
      have ee : ExD dr H H' := e1.trans (.of e')
      cases kk with
      | true => exact p' H' ee g'
      | false =>
        refine ⟨dr, H0, ρ, ω1, g', ?_⟩
        have p' : PostT X.K X.mg W dr H0 ρ σ H Q (tb ρ ω1) := p'
        cases h2 : tb ρ ω1 with
        | ok u2 ω2 => rw [h2] at p'; exact fun H2 e2 g2 => p' H2 (ee.trans e2) g2
        | exc x ω2 => rw [h2] at p'; exact fun c od H2 e2 g2 r2 => p' c od H2 (ee.trans e2) g2 r2
        | stuck => rw [h2] at p'; exact p'
  | exc x ω' =>
    rw [h] at p
    refine ⟨dr, H0, ρ, ω, g, ?_⟩
    rw [h]; exact p
  | stuck => rw [h] at p; exact False.elim p
theorem mtt_lenrep {op : CmpOp} {r : R2} {f : Vl → Vl → Option Bool} (hg : Gl X "len") (hm : X.mg "len" = none) (ho : OpR X (compareOp op) r) (hs : Op2B X.K r f) (ha : ME X W o ma) (hb : ME X W b mb) (hmk : behindInMarks op b = false) (hyz : (y == z) = false := by decide)
    (hst : starEach [.Constant (.str y) i c0, .Constant (.str z) j c1, .Constant (.int 1) k c2] X.env = [(false, eval (.Constant (.str y) i c0) X.env), (false, eval (.Constant (.str z) j c1) X.env), (false, eval (.Constant (.int 1) k c2) X.env)] := by rfl)
    (hbase : attributeBase o "replace" X.env (eval o X.env) = eval o X.env := by rfl) (hline : (apos.endLine == pos.line) = true := by rfl)
    (he : starEach [.Call (.Attribute o "replace" apos) [.Constant (.str y) i c0, .Constant (.str z) j c1, .Constant (.int 1) k c2] [] pos] X.env = (false, eval (.Call (.Attribute o "replace" apos) [.Constant (.str y) i c0, .Constant (.str z) j c1, .Constant (.int 1) k c2] [] pos) X.env) :: starEach [] X.env := by rfl)
    (hv : bootBuiltins "len" = some (.builtin "len") := by decide +kernel) (hpl : (backTo pos' (starEach [] X.env)).any (·.1) = false := by rfl) :
    MTt X W (.Compare (.Call (.Name "len" p) [.Call (.Attribute o "replace" apos) [.Constant (.str y) i c0, .Constant (.str z) j c1, .Constant (.int 1) k c2] [] pos] [] pos') [op] [b] q0) (mCmp f (mLenRep1 ma y z) mb) :=
  ptt_imp (ptt_cmpR ho (pet_callB cr_len hg hm hv (pat_cons (pet_rep1 ha hyz hst hbase hline) pat_nil he) (by decide) (by decide) he hpl) hb hmk) fun σ H Q ⟨dr, H0, ρ, ω, g, p⟩ => by
    unfold mCmp mLenRep1 mRep1 at p
    refine ⟨dr, H0, ρ, ω, g, ?_⟩
    cases h : ma ρ ω with
    | exc x ω' => rw [h] at p; exact p
    | stuck => rw [h] at p; exact False.elim p
    | ok u ω1 =>
      rw [h] at p
      intro v H1 e1 g1 r1
      cases hu : strOf u with
      | none => simp only [Res.bind, hu] at p; exact False.elim p
      | some x =>
        by_cases hz : x.length + z.length ≤ 100000 ∧ (rep1 x y z).length ≤ 100000
        · refine ⟨x, str_rv hu r1, hz.1, sz100 hz.2, .inr ⟨_, rfl, sz100 hz.2, ?_⟩⟩
          have hl : fLen [.d (.str (rep1 x y z))] = some (.d (.int (rep1 x y z).length)) := by unfold fLen; simp only; rw [if_pos hz.2]
          simp only [Res.bind, hu, if_pos hz] at p
          simp only [hl, lift] at p
          refine seqET (Q := Q) g1 (m := mb) (f := fun b ω => lift (f (.d (.int (rep1 x y z).length)) b) ω) ?_ fun u2 ω2 v2 H2 e2 g2 r2 p2 => ?_
          · show PostT X.K X.mg W dr H0 ρ σ H1 Q ((mb ρ ω1).bind fun b ω => lift (f (.d (.int (rep1 x y z).length)) b) ω)
            have p' : PostT X.K X.mg W dr H0 ρ σ H Q ((mb ρ ω1).bind fun b ω => lift (f (.d (.int (rep1 x y z).length)) b) ω) := p
            cases h2 : (mb ρ ω1).bind fun b ω => lift (f (.d (.int (rep1 x y z).length)) b) ω with
            | ok u2 ω2 => rw [h2] at p'; exact fun H2 e2 g2 => p' H2 (e1.trans e2) g2
            | exc x ω2 => rw [h2] at p'; exact fun c od H2 e2 g2 r2 => p' c od H2 (e1.trans e2) g2 r2
            | stuck => rw [h2] at p'; exact p'
          · cases hf : f (.d (.int (rep1 x y z).length)) u2 with
            | none => rw [hf] at p2; exact False.elim p2
            | some kk =>
              rw [hf] at p2
              exact hs dr H2 _ u2 _ v2 kk hf (Rp.int _) r2 _ fun H' e' => ⟨kk, rfl, p2 H' (.of e') (g2.same e')⟩
        · simp only [Res.bind, hu, if_neg hz] at p
          exact False.elim p
end
end FL
end
-- FLG
section
set_option maxRecDepth 100000
set_option maxHeartbeats 2000000
/-! FLG: the law's draw is read and written; a loop over a parameter -/
namespace FL
open PySem PySem.Spec L2
def drGet (ω : Dr) (k : Int) : Option PD := if k = 0 then some (.list (ω.cells.map .int)) else if k = 1 then some (.int ω.i) else if k = 2 then some (.int ω.r) else if k = 3 then some (.int ω.s) else none
def drPut (ω : Dr) (k n : Int) : Option Dr := if k = 1 then (if -1 ≤ n then some { ω with i := n } else none) else if k = 2 then (if 0 ≤ n ∧ n < 2147483647 then some { ω with r := n } else none) else if k = 3 then (if 0 ≤ n then some { ω with s := n } else none) else none
def mDrI (i : Nat) (k : Int) : Me := fun ρ ω => match ρ[i]? with
  | some (.par .draw) => match drGet ω k with
    | some d => .ok (.d d) ω
    | none => .stuck
  | _ => .stuck
def mDrSet (i : Nat) (k : Int) (m : Me) : Ms := fun ρ ω => match ρ[i]? with
  | some (.par .draw) => (m ρ ω).st ρ fun u ω => match intOf u with
    | some n => match drPut ω k n with
      | some ω' => .ok .nx (ρ, ω')
      | none => .stuck
    | none => .stuck
  | _ => .stuck
theorem ints_rpl {K : PySem.W.Frag} {H : Hp} : ∀ (ns : List Int), RpL K H (ns.map .int) (ns.map V.int)
  | [] => .nil
  | n :: ns => .cons (.int n) (ints_rpl ns)
section
variable {X : Cx} {W : WX} {pos pos' p p2 : Pos} {e : Expr} {m : Me}
theorem me_drI {x : Str} {j : Nat} (i : Nat) (k : Int) (hN : X.N[i]? = some x := by rfl) (hv : Vis X.env.scope x := by first | exact Or.inl rfl | exact Or.inr (Or.inl rfl) | exact Or.inr (Or.inr rfl)) (hd : (x == ("__debug__" : Str)) = false := by decide)
    (hcd : (x == ("__classdict__" : Str)) = false := by decide) : ME X W (.Subscript (.Name x p) (.Constant (.int k) j p2) pos) (mDrI i k) :=
  pe_imp (pe_ix ix_seq (pe_var hN hv hd hcd) pe_int (fun _ _ => rfl)) fun σ H Q ⟨dr, H0, ρ, ω, g, p⟩ => by
    unfold mDrI at p
    split at p
    · rename_i hρ
      obtain ⟨v, e1, a, ea, ev⟩ := g.sl i _ hρ
      subst ev
      obtain ⟨L, o, h1, h2, _⟩ := g.dw a ea
      refine ⟨.ref a, slot_some e1, ?_⟩
      have fin : ∀ d v, drGet ω k = some d → Rp X.K H d v → Q v H := fun d v hd r => by
        rw [hd] at p
        exact p v H (ExD.refl _ _) g r
      unfold drGet at fin p
      by_cases k0 : k = 0
      · subst k0
        exact .inl ⟨a, _, 0, .ref L, rfl, rfl, SqL.of h1, rfl, fin _ _ rfl (.lst h2 (ints_rpl _))⟩
      by_cases k1 : k = 1
      · subst k1
        exact .inl ⟨a, _, 1, .int ω.i, rfl, rfl, SqL.of h1, rfl, fin _ _ rfl (.int _)⟩
      by_cases k2 : k = 2
      · subst k2
        exact .inl ⟨a, _, 2, .int ω.r, rfl, rfl, SqL.of h1, rfl, fin _ _ rfl (.int _)⟩
      by_cases k3 : k = 3
      · subst k3
        exact .inl ⟨a, _, 3, .int ω.s, rfl, rfl, SqL.of h1, rfl, fin _ _ rfl (.int _)⟩
      rw [if_neg k0, if_neg k1, if_neg k2, if_neg k3] at p
      exact p.elim
    · exact p.elim
theorem ms_drSet {x : Str} {j : Nat} (i : Nat) (k : Int) (he : ME X W e m) (hN : X.N[i]? = some x := by rfl) (hv : Vis X.env.scope x := by first | exact Or.inl rfl | exact Or.inr (Or.inl rfl) | exact Or.inr (Or.inr rfl)) (hd : (x == ("__debug__" : Str)) = false := by decide)
    (hcd : (x == ("__classdict__" : Str)) = false := by decide)
    (ha : ∀ v, assign (.Subscript (.Name x p) (.Constant (.int k) j p2) pos') X.env v = (do
      let ov ← holding [v] (eval (.Name x p) X.env)
      let iv ← holding [v, ov] (eval (.Constant (.int k) j p2) X.env)
      standAt pos'
      holding [v, ov, iv] (setItem ov iv v)
      release [v, ov, iv] []) := by intro _; rfl)
    (hs : swapsWithSole [.Subscript (.Name x p) (.Constant (.int k) j p2) pos'] e pos.line X.env = pure false := by rfl) (hw : swappedStores [.Subscript (.Name x p) (.Constant (.int k) j p2) pos'] e X.env = pure none := by rfl)
    (h1 : (assignEach [.Subscript (.Name x p) (.Constant (.int k) j p2) pos'] X.env).map (·.2) = [assign (.Subscript (.Name x p) (.Constant (.int k) j p2) pos') X.env] := by rfl) :
    MS X W (.Assign [.Subscript (.Name x p) (.Constant (.int k) j p2) pos'] e pos) (mDrSet i k m) :=
  ps_imp (ps_asg he (pg_sub (pe_var hN hv hd hcd) pe_int set_list ha) hs hw h1) fun D σ H ⟨dr, H0, ρ, ω, g, p⟩ => by
    unfold mDrSet at p
    split at p
    · rename_i hρ
      refine seqES (D := D) g p fun u ω' v H' ex g' rv p' => ?_
      obtain ⟨w, e1, a, ea, ev⟩ := g'.sl i _ hρ
      subst ev
      obtain ⟨L, o, q1, q2, b1, b2, b3, b4, b5, b6⟩ := g'.dw a ea
      refine ⟨.ref a, slot_some e1, ?_⟩
      cases hu : intOf u with
      | none => rw [hu] at p'; exact False.elim p'
      | some n =>
        rw [hu] at p'
        dsimp only at p'
        cases int_rv hu rv
        have nL : L ≠ a := fun z => by rw [z, q1] at q2; cases q2
        have fin : ∀ (ω2 : Dr) (xs' : List V), drPut ω' k n = some ω2 → xs' = [.ref L, .int ω2.i, .int ω2.r, .int ω2.s] → ω2.cells = ω'.cells → -1 ≤ ω2.i → 0 ≤ ω2.r → ω2.r < 2147483647 → 0 ≤ ω2.s → D.nx σ (upd H' a (.lst xs')) := fun ω2 xs' hp hx hc c1 c2 c3 c4 => by
          rw [hp] at p'
          dsimp only at p'
          subst hx
          have exx : ExD dr H' (upd H' a (.lst [.ref L, .int ω2.i, .int ω2.r, .int ω2.s])) := fun b u nb e => by rw [upd_ne (fun z => nb (by rw [z, ea]))]; exact e
          refine p' σ _ (exx.fz g'.dw) (g'.grow exx fun a2 e2 => ?_)
          rw [ea] at e2
          cases e2
          refine ⟨L, o, upd_same, by rw [upd_ne nL, hc]; exact q2, c1, c2, c3, c4, by rw [hc]; exact b5, by rw [hc]; exact b6⟩
        unfold drPut at fin p'
        by_cases k1 : k = 1
        · subst k1
          by_cases hz : -1 ≤ n
          · exact ⟨a, _, 1, 1, rfl, rfl, q1, rfl, fin { ω' with i := n } _ (by rw [if_pos rfl, if_pos hz]) rfl rfl hz b2 b3 b4⟩
          · rw [if_pos rfl, if_neg hz] at p'; exact False.elim p'
        by_cases k2 : k = 2
        · subst k2
          by_cases hz : 0 ≤ n ∧ n < 2147483647
          · exact ⟨a, _, 2, 2, rfl, rfl, q1, rfl, fin { ω' with r := n } _ (by rw [if_neg (by decide), if_pos rfl, if_pos hz]) rfl rfl b1 hz.1 hz.2 b4⟩
          · rw [if_neg (by decide), if_pos rfl, if_neg hz] at p'; exact False.elim p'
        by_cases k3 : k = 3
        · subst k3
          by_cases hz : 0 ≤ n
          · exact ⟨a, _, 3, 3, rfl, rfl, q1, rfl, fin { ω' with s := n } _ (by rw [if_neg (by decide), if_neg (by decide), if_pos rfl, if_pos hz]) rfl rfl b1 b2 b3 hz⟩
          · rw [if_neg (by decide), if_neg (by decide), if_pos rfl, if_neg hz] at p'; exact False.elim p'
        rw [if_neg k1, if_neg k2, if_neg k3] at p'
        exact False.elim p'
    · exact False.elim p
/-- for x in p, p a parameter's list -/
def mForP (i : Nat) (tg : Tg) (body : Ms) : Ms := fun ρ ω => match ρ[i]? with
  | some (.par (.brw l)) => forL tg body l ρ ω
  | _ => .stuck
theorem ms_forP {x : Str} {tg : Expr} {body : List Stmt} {is : List Nat} {mg : Tg} {mb : Ms} (i : Nat) (hp : PassesOwn (model X.prog X.w) X.A X.env X.xe) (hc : X.calm = true) (hg : MG X tg is mg) (hb : MSs X W body mb) (hN : X.N[i]? = some x := by rfl) (hv : Vis X.env.scope x := by first | exact Or.inl rfl | exact Or.inr (Or.inl rfl) | exact Or.inr (Or.inr rfl)) (hd : (x == ("__debug__" : Str)) = false := by decide)
    (hcd : (x == ("__classdict__" : Str)) = false := by decide)
    (hs : ∀ y, foldedSetIterable (.Name x p) X.env y = pure y := by intro _; rfl) : MS X W (.For tg (.Name x p) body [] pos) (mForP i mg mb) :=
  ps_imp (ps_for hp hc (pi_bd (pi_list (pe_var hN hv hd hcd))) hg hb hs) fun D σ H ⟨dr, H0, ρ, ω, g, p⟩ => by
    unfold mForP at p
    split at p
    · rename_i items hρ
      obtain ⟨v, e1, a, xs, ev, n, hsq, r⟩ := g.sl i _ hρ
      subst ev
      refine ⟨.ref a, slot_some e1, a, rfl, ⟨xs, sql_ex g.ext n hsq⟩, fun bd => ?_⟩
      obtain ⟨G, Y, wk, hz, hG, hY⟩ := wk_brw (K := X.K) (dr := dr) (H := H0) n hsq r (bd _ _ (.inl (sql_ex g.ext n hsq)))
      refine for_it wk (fun i σ' H' => ∃ ρi ωi, Gd X.K dr H0 ρi σ' H' ωi ∧ Fz H H' ∧ PostS X.K X.mg W dr H0 H' D (forL mg mb (items.drop i) ρi ωi)) ⟨ρ, ω, g, Fz.refl _, p⟩ ?_ ?_ ?_
      · rintro i σ' H' _ ⟨ρi, ωi, gi, zi, _⟩
        exact hG H' gi.fz (.inr gi.ext)
      · rintro i x σ' H2 H3 hi ⟨ρi, ωi, gi, zi, pi⟩ y
        obtain ⟨s3, d, hd, rd⟩ := hY i H2 x H3 gi.fz (.inr gi.ext) y
        have hdrop : items.drop i = d :: items.drop (i + 1) := by
          have hlt := (List.getElem?_eq_some_iff.mp hd).1
          rw [List.drop_eq_getElem_cons hlt]
          rw [(List.getElem?_eq_some_iff.mp hd).2]
        rw [hdrop] at pi
        unfold forL at pi
        cases ht : mg ρi d with
        | none => rw [ht] at pi; exact False.elim pi
        | some ρ1 =>
          rw [ht] at pi
          refine ⟨dr, H0, ρi, ωi, d, gi.same s3, rd, ρ1, ht, fun σ2 H4 s4 g4 _ _ => ⟨dr, H0, ρ1, ωi, g4, ?_⟩⟩
          dsimp only at pi
          have z24 : Fz H2 H4 := (Fz.of s3).trans (.of s4)
          have z4 : Fz H H4 := zi.trans z24
          have pi := PostS.mono pi z24
          cases hb : mb ρ1 ωi with
          | ok f st =>
            obtain ⟨ρ2, ω2⟩ := st
            rw [hb] at pi
            cases f with
            | nx => exact fun σ5 H5 z5 g5 => ⟨ρ2, ω2, g5, z4.trans z5, PostS.mono pi z5⟩
            | ct => exact fun σ5 H5 z5 g5 => ⟨ρ2, ω2, g5, z4.trans z5, PostS.mono pi z5⟩
            | bk => exact pi
            | rt d => exact pi
          | exc x st => rw [hb] at pi; exact pi
          | stuck => rw [hb] at pi; exact pi
      · rintro σ' H' ⟨ρi, ωi, gi, zi, pi⟩
        rw [List.drop_length] at pi
        exact pi σ' H' (Fz.refl _) gi
    · exact False.elim p
end
end FL
end
-- FLH
section
set_option maxRecDepth 100000
set_option maxHeartbeats 2000000
/-! FLH: reckoning with meanings -/
namespace FL
open PySem PySem.Spec L2
theorem whileN_step {c : Mt} {body : Ms} {n : Nat} {ρ ρ2 : Rho} {ω ω1 ω2 : Dr} (hc : c ρ ω = .ok true ω1) (hb : body ρ ω1 = .ok .nx (ρ2, ω2)) : whileN c body (n + 1) ρ ω = whileN c body n ρ2 ω2 := by
  rw [whileN, hc]
  simp only [Res.st, if_true]
  rw [hb]
theorem whileN_end {c : Mt} {body : Ms} {n : Nat} {ρ : Rho} {ω ω1 : Dr} (hc : c ρ ω = .ok false ω1) : whileN c body (n + 1) ρ ω = .ok .nx (ρ, ω1) := by
  rw [whileN, hc]
  rfl
theorem mSeq_nx {a b : Ms} {ρ ρ1 : Rho} {ω ω1 : Dr} (h : a ρ ω = .ok .nx (ρ1, ω1)) : mSeq a b ρ ω = b ρ1 ω1 := by
  unfold mSeq
  rw [h]
theorem mSeq_rt {a b : Ms} {ρ ρ1 : Rho} {ω ω1 : Dr} {d : PD} (h : a ρ ω = .ok (.rt d) (ρ1, ω1)) : mSeq a b ρ ω = .ok (.rt d) (ρ1, ω1) := by
  unfold mSeq
  rw [h]
theorem mSeq_exc {a b : Ms} {ρ ρ1 : Rho} {ω ω1 : Dr} {x : Ex'} (h : a ρ ω = .exc x (ρ1, ω1)) : mSeq a b ρ ω = .exc x (ρ1, ω1) := by
  unfold mSeq
  rw [h]
theorem mDef_rt {nN np : Nat} {m : Ms} {us : List Vl} {ω ω' : Dr} {ρ : Rho} {d : PD} (hl : us.length = np) (h : m (us.map .par ++ List.replicate (nN - np) .none) ω = .ok (.rt d) (ρ, ω')) : mDef nN np m us ω = .ok d ω' := by
  unfold mDef
  rw [if_pos hl, h]
theorem mDef_nx {nN np : Nat} {m : Ms} {us : List Vl} {ω ω' : Dr} {ρ : Rho} (hl : us.length = np) (h : m (us.map .par ++ List.replicate (nN - np) .none) ω = .ok .nx (ρ, ω')) : mDef nN np m us ω = .ok .none ω' := by
  unfold mDef
  rw [if_pos hl, h]
theorem mDef_exc {nN np : Nat} {m : Ms} {us : List Vl} {ω ω' : Dr} {ρ : Rho} {x : Ex'} (hl : us.length = np) (h : m (us.map .par ++ List.replicate (nN - np) .none) ω = .exc x (ρ, ω')) : mDef nN np m us ω = .exc x ω' := by
  unfold mDef
  rw [if_pos hl, h]
theorem mIfS_t {c : Mt} {a b : Ms} {ρ : Rho} {ω ω1 : Dr} (h : c ρ ω = .ok true ω1) : mIfS c a b ρ ω = a ρ ω1 := by
  unfold mIfS
  rw [h]
  rfl
theorem mIfS_f {c : Mt} {a b : Ms} {ρ : Rho} {ω ω1 : Dr} (h : c ρ ω = .ok false ω1) : mIfS c a b ρ ω = b ρ ω1 := by
  unfold mIfS
  rw [h]
  rfl
theorem mOp2_ok {f : Vl → Vl → Option Vl} {a b : Me} {ρ : Rho} {ω ω1 ω2 : Dr} {x y z : Vl} (h1 : a ρ ω = .ok x ω1) (h2 : b ρ ω1 = .ok y ω2) (h3 : f x y = some z) : mOp2 f a b ρ ω = .ok z ω2 := by
  unfold mOp2
  rw [h1]
  show (b ρ ω1).bind _ = _
  rw [h2]
  show lift (f x y) ω2 = _
  rw [h3]
  rfl
theorem mCmp_ok {f : Vl → Vl → Option Bool} {a b : Me} {ρ : Rho} {ω ω1 ω2 : Dr} {x y : Vl} {z : Bool} (h1 : a ρ ω = .ok x ω1) (h2 : b ρ ω1 = .ok y ω2) (h3 : f x y = some z) : mCmp f a b ρ ω = .ok z ω2 := by
  unfold mCmp
  rw [h1]
  show (b ρ ω1).bind _ = _
  rw [h2]
  show lift (f x y) ω2 = _
  rw [h3]
  rfl
theorem mVal_ok {m : Me} {ρ : Rho} {ω ω1 : Dr} {d : PD} (h : m ρ ω = .ok (.d d) ω1) : mVal m ρ ω = .ok (.val d) ω1 := by
  unfold mVal
  rw [h]
  rfl
theorem mAsg_ok {i : Nat} {m : Msl} {ρ : Rho} {ω ω1 : Dr} {s : Sl} (h : m ρ ω = .ok s ω1) : mAsg i m ρ ω = .ok .nx (ρ.set i s, ω1) := by
  unfold mAsg
  rw [h]
  rfl
theorem mPar2_ok {i j : Nat} {a b : Msl} {ρ : Rho} {ω ω1 ω2 : Dr} {s t : Sl} (h1 : a ρ ω = .ok s ω1) (h2 : b ρ ω1 = .ok t ω2) : mPar [i, j] (mConsL a (mConsL b mNilL)) ρ ω = .ok .nx ((ρ.set i s).set j t, ω2) := by
  unfold mPar mConsL
  rw [h1]
  simp only [Res.bind]
  rw [h2]
  rfl
theorem mRet_ok {m : Me} {ρ : Rho} {ω ω1 : Dr} {d : PD} (h : m ρ ω = .ok (.d d) ω1) : mRet m ρ ω = .ok (.rt d) (ρ, ω1) := by
  unfold mRet
  rw [h]
  rfl
theorem mIf_t {c : Mt} {a b : Me} {ρ : Rho} {ω ω1 : Dr} (h : c ρ ω = .ok true ω1) : mIf c a b ρ ω = a ρ ω1 := by
  unfold mIf
  rw [h]
  rfl
theorem mIf_f {c : Mt} {a b : Me} {ρ : Rho} {ω ω1 : Dr} (h : c ρ ω = .ok false ω1) : mIf c a b ρ ω = b ρ ω1 := by
  unfold mIf
  rw [h]
  rfl
theorem mCons_ok {a : Me} {b : Mes} {ρ : Rho} {ω ω1 ω2 : Dr} {x : Vl} {xs : List Vl} (h1 : a ρ ω = .ok x ω1) (h2 : b ρ ω1 = .ok xs ω2) : mCons a b ρ ω = .ok (x :: xs) ω2 := by
  unfold mCons
  rw [h1]
  simp only [Res.bind]
  rw [h2]
theorem mTup2_ok {a b : Me} {ρ : Rho} {ω ω1 ω2 : Dr} {x y : PD} (h1 : a ρ ω = .ok (.d x) ω1) (h2 : b ρ ω1 = .ok (.d y) ω2) : mTup (mCons a (mCons b mNil)) ρ ω = .ok (.d (.tuple [x, y])) ω2 := by
  unfold mTup
  rw [mCons_ok h1 (mCons_ok h2 (xs := []) (ω2 := ω2) rfl)]
  rfl
theorem mCall_ok {F : Mf} {ms : Mes} {ρ : Rho} {ω ω1 ω2 : Dr} {us : List Vl} {d : PD} (h1 : ms ρ ω = .ok us ω1) (h2 : F us ω1 = .ok d ω2) : mCall F ms ρ ω = .ok (.d d) ω2 := by
  unfold mCall
  rw [h1]
  simp only [Res.bind]
  rw [h2]
theorem mCall1_ok {F : Mf} {a : Me} {ρ : Rho} {ω ω1 ω2 : Dr} {x : Vl} {d : PD} (h1 : a ρ ω = .ok x ω1) (h2 : F [x] ω1 = .ok d ω2) : mCall F (mCons a mNil) ρ ω = .ok (.d d) ω2 := mCall_ok (mCons_ok h1 (xs := []) (ω2 := ω1) rfl) h2
theorem mCall2_ok {F : Mf} {a b : Me} {ρ : Rho} {ω ω1 ω2 ω3 : Dr} {x y : Vl} {d : PD} (h1 : a ρ ω = .ok x ω1) (h2 : b ρ ω1 = .ok y ω2) (h3 : F [x, y] ω2 = .ok d ω3) : mCall F (mCons a (mCons b mNil)) ρ ω = .ok (.d d) ω3 := mCall_ok (mCons_ok h1 (mCons_ok h2 (xs := []) (ω2 := ω2) rfl)) h3
theorem mCall1_exc {F : Mf} {a : Me} {ρ : Rho} {ω ω1 ω2 : Dr} {x : Vl} {e : Ex'} (h1 : a ρ ω = .ok x ω1) (h2 : F [x] ω1 = .exc e ω2) : mCall F (mCons a mNil) ρ ω = .exc e ω2 := by
  unfold mCall
  rw [mCons_ok h1 (xs := []) (ω2 := ω1) rfl]
  simp only [Res.bind]
  rw [h2]
theorem mCl1_ok {f : List Vl → Option Vl} {a : Me} {ρ : Rho} {ω ω1 : Dr} {x z : Vl} (h1 : a ρ ω = .ok x ω1) (h2 : f [x] = some z) : mCl f (mCons a mNil) ρ ω = .ok z ω1 := by
  unfold mCl
  rw [mCons_ok h1 (xs := []) (ω2 := ω1) rfl]
  show lift (f [x]) ω1 = _
  rw [h2]
  rfl
theorem mTru_ok {m : Me} {ρ : Rho} {ω ω1 : Dr} {u : Vl} {b : Bool} (h : m ρ ω = .ok u ω1) (t : tru u = some b) : mTru m ρ ω = .ok b ω1 := by
  unfold mTru
  rw [h]
  show lift (tru u) ω1 = _
  rw [t]
  rfl
theorem mAndT_t {a b : Mt} {ρ : Rho} {ω ω1 : Dr} (h : a ρ ω = .ok true ω1) : mAndT a b ρ ω = b ρ ω1 := by
  unfold mAndT
  rw [h]
  rfl
theorem mAndT_f {a b : Mt} {ρ : Rho} {ω ω1 : Dr} (h : a ρ ω = .ok false ω1) : mAndT a b ρ ω = .ok false ω1 := by
  unfold mAndT
  rw [h]
  rfl
theorem mOrT_t {a b : Mt} {ρ : Rho} {ω ω1 : Dr} (h : a ρ ω = .ok true ω1) : mOrT a b ρ ω = .ok true ω1 := by
  unfold mOrT
  rw [h]
  rfl
theorem mOrT_f {a b : Mt} {ρ : Rho} {ω ω1 : Dr} (h : a ρ ω = .ok false ω1) : mOrT a b ρ ω = b ρ ω1 := by
  unfold mOrT
  rw [h]
  rfl
theorem mNotT_ok {a : Mt} {ρ : Rho} {ω ω1 : Dr} {b : Bool} (h : a ρ ω = .ok b ω1) : mNotT a ρ ω = .ok (!b) ω1 := by
  unfold mNotT
  rw [h]
  rfl
theorem mRet_exc {m : Me} {ρ : Rho} {ω ω1 : Dr} {e : Ex'} (h : m ρ ω = .exc e ω1) : mRet m ρ ω = .exc e (ρ, ω1) := by
  unfold mRet
  rw [h]
  rfl
theorem mDrop_ok {m : Me} {ρ : Rho} {ω ω1 : Dr} {u : Vl} (h : m ρ ω = .ok u ω1) : mDrop m ρ ω = .ok .nx (ρ, ω1) := by
  unfold mDrop
  rw [h]
  rfl
theorem forL_nx {tg : Tg} {body : Ms} {x : PD} {r : List PD} {ρ ρ1 ρ2 : Rho} {ω ω2 : Dr} (h1 : tg ρ x = some ρ1) (h2 : body ρ1 ω = .ok .nx (ρ2, ω2)) : forL tg body (x :: r) ρ ω = forL tg body r ρ2 ω2 := by
  rw [forL, h1]
  dsimp only
  rw [h2]
theorem compL_yes {vs : List Nat} {tg : Tg} {mt : Mt} {me : Me} {x y : PD} {r ys : List PD} {ρ ρ1 : Rho} {ω ω1 ω2 ω3 : Dr} (h1 : tg (wipeR ρ vs) x = some ρ1) (h2 : mt ρ1 ω = .ok true ω1) (h3 : me ρ1 ω1 = .ok (.d y) ω2) (h4 : compL vs tg mt me ρ r ω2 = .ok ys ω3) : compL vs tg mt me ρ (x :: r) ω = .ok (y :: ys) ω3 := by
  rw [compL, h1]
  dsimp only
  rw [h2]
  dsimp only
  rw [h3]
  dsimp only
  rw [h4]
theorem compL_no {vs : List Nat} {tg : Tg} {mt : Mt} {me : Me} {x : PD} {r : List PD} {ρ ρ1 : Rho} {ω ω1 : Dr} (h1 : tg (wipeR ρ vs) x = some ρ1) (h2 : mt ρ1 ω = .ok false ω1) : compL vs tg mt me ρ (x :: r) ω = compL vs tg mt me ρ r ω1 := by
  rw [compL, h1]
  dsimp only
  rw [h2]
end FL
end
-- FLI
section
set_option maxRecDepth 100000
set_option maxHeartbeats 2000000
/-! FLI: try .. except X: (no name), one clause or more -/
namespace FL
open PySem PySem.Spec L2
/-- what a clause takes, and its suite -/
abbrev Hds := List ((Str → Option Bool) × Ms)
def goH : Hds → Ex' → Rho → Dr → Res (Rho × Dr) Fl
  | [], e, ρ, ω => .exc e (ρ, ω)
  | (mt, ms) :: r, e, ρ, ω => match mt e.1 with
    | some true => ms ρ ω
    | some false => goH r e ρ ω
    | none => .stuck
def mTryM (l : Hds) (mb : Ms) : Ms := fun ρ ω => match mb ρ ω with
  | .exc e (ρ1, ω1) => goH l e ρ1 ω1
  | r => r
/-- the clause's class takes so -/
def ExM (K : PySem.W.Frag) (mg : Str → Option Value) (c : Value) (mt : Str → Option Bool) : Prop := ∀ x b C, mt x = some b → mg x = some (.ref C) → PySem.W.exmOne K (.ref C) c = some b
inductive MHds (X : Cx) : List ExceptHandler → List (Value × (Addr → Value → Option Addr → TS)) → Hds → Prop
  | nil : MHds X [] [] []
  | cons {x : Str} {c : Value} {mt : Str → Option Bool} {ms : Ms} {b₀ : Stmt} {suite : List Stmt} {np pos' : Pos} {hds : List ExceptHandler} {l : List (Value × (Addr → Value → Option Addr → TS))} {m : Hds} (hc : Names X x c) (hm : ExM X.K X.mg c mt)
      (hsu : ∀ (a : Addr) (oe : Obj) (pn : List (Addr × Obj)), MSs (X.suite a ((a, oe) :: pn)) W0 (b₀ :: suite) ms) (r : MHds X hds l m) :
      MHds X (.ExceptHandler (some (.Name x np)) none (b₀ :: suite) pos' :: hds) ((c, fun _ _ _ => rdS X.K X.mg W0 ms) :: l) ((mt, ms) :: m)
section
variable {X : Cx} {W : WX} {body : List Stmt} {h₀ : ExceptHandler} {hds : List ExceptHandler} {pos : Pos} {mb : Ms} {m : Hds} {l : List (Value × (Addr → Value → Option Addr → TS))}
theorem MHds.ok {hs : List ExceptHandler} (h : MHds X hs l m) : HdsOk X hs l := by
  induction h with
  | nil => exact .nil
  | cons hc hm hsu r ih => exact .cons hc (fun a oe cls d pn _ _ => hsu a oe pn) ih
/-- the suites all return -/
def Rets (m : Hds) : Prop := ∀ z ∈ m, ∀ ρ ω, ∃ d s, z.2 ρ ω = .ok (.rt d) (s, ω)
theorem many_ok {hs : List ExceptHandler} (h : MHds X hs l m) {dr : Option Addr} {H0 H H1 : Hp} {D : Ends} {x : Ex'} {cls : Value} {od : Option Addr} {ρ : Rho} {σ : L2.St} {ω : Dr} (g : Gd X.K dr H0 ρ σ H1 ω) (rx : ExcRp X.mg H1 x cls od) (p : PostS X.K X.mg W dr H0 H D (goH m x ρ ω)) (np : Rets m) :
    wMany X.K W D l cls od σ H1 := by
  induction h with
  | nil => exact p cls od σ H1 g rx
  | cons hc hm hsu r ih =>
    rename_i mt ms _ _ _ _ _ _ _
    unfold goH at p
    obtain ⟨C, gC, ec, _⟩ := id rx
    cases hb : mt x.1 with
    | none => rw [hb] at p; exact p.elim
    | some b =>
      rw [hb] at p
      refine ⟨b, by rw [ec]; exact hm x.1 b C hb gC, fun e a ha => ?_, fun e => ?_⟩
      · subst e
        have p : PostS X.K X.mg W dr H0 H D (ms ρ ω) := p
        obtain ⟨d, s, e⟩ := np _ List.mem_cons_self ρ ω
        refine ⟨dr, H0, ρ, ω, g, ?_⟩
        have e : ms ρ ω = .ok (.rt d) (s, ω) := e
        rw [e] at p ⊢
        exact p
      · subst e
        exact ih p fun z hz => np z (List.mem_cons_of_mem _ hz)
theorem ms_tryM (hs : X.stack = X.env :: X.outer) (hf : X.env.frame = some X.env.locals) (tk : Takes X W)
    (hb : ∀ (W : WX) (pn : List (Addr × Obj)) (xe : Value → Shared → Prop), Takes (X.tr pn xe) W → PassesOwn (model X.prog X.w) X.A X.env xe → MSs (X.tr pn xe) W body mb)
    (hh : MHds X (h₀ :: hds) l m) (np : Rets m) : MS X W (.Try body (h₀ :: hds) [] [] pos) (mTryM m mb) :=
  ps_imp (ps_try_many (tb := fun W => rdS X.K X.mg W mb) hs hf tk (fun W pn xe t po => hb W pn xe t po) hh.ok) fun D σ H ⟨dr, H0, ρ, ω, g, p⟩ => by
    refine ⟨dr, H0, ρ, ω, g, ?_⟩
    unfold mTryM at p
    cases hr : mb ρ ω with
    | ok f s =>
      obtain ⟨ρ1, ω1⟩ := s
      rw [hr] at p
      cases f <;> exact p
    | stuck => rw [hr] at p; exact p.elim
    | exc x s =>
      obtain ⟨ρ1, ω1⟩ := s
      rw [hr] at p
      exact fun cls od σ1 H1 g1 rx => many_ok hh g1 rx p np
end
end FL
end
-- Ka
section
set_option maxRecDepth 100000
set_option maxHeartbeats 4000000
namespace K17
open PySem PySem.Spec L2 FL
abbrev PW : Program := PySem.Challenge.pw_tokensmove_k17_ratios_and_errors
def top (i : Nat) : Stmt := PW.main.body.getD i (.Pass ⟨0, 0, 0, 0⟩)
abbrev s_common : Stmt := top 9
abbrev s_lowest : Stmt := top 10
abbrev s_plus : Stmt := top 11
abbrev s_minus : Stmt := top 12
abbrev s_times : Stmt := top 13
abbrev s_divided : Stmt := top 14
abbrev s_less1 : Stmt := top 15
abbrev s_is_ratio : Stmt := top 17
abbrev s_ratio_text : Stmt := top 18
abbrev s_number_in : Stmt := top 19
abbrev s_read_ratio : Stmt := top 20
abbrev s_is_net : Stmt := top 31
abbrev s_check_net : Stmt := top 32
abbrev s_covers : Stmt := top 35
abbrev s_added : Stmt := top 36
abbrev s_less2 : Stmt := top 37
abbrev s_effect : Stmt := top 40
abbrev s_can_move : Stmt := top 41
abbrev s_moves_of : Stmt := top 42
abbrev s_space_of : Stmt := top 48
abbrev s_least_runs : Stmt := top 49
abbrev s_run_to : Stmt := top 50
abbrev s_check_wall : Stmt := top 60
abbrev s_judge_reach : Stmt := top 61
abbrev s__law_take : Stmt := top 64
abbrev s__law_low : Stmt := top 65
abbrev s__law_plus : Stmt := top 66
abbrev s__law_minus : Stmt := top 67
abbrev s__law_times : Stmt := top 68
abbrev s__law_less : Stmt := top 69
abbrev s__law_due : Stmt := top 71
abbrev s__law_fails : Stmt := top 72
abbrev s__law_read : Stmt := top 70
abbrev s__law_caught : Stmt := top 73
abbrev s__law_draw : Stmt := top 63
abbrev s_law : Stmt := top 74
theorem sc_common : FnScope ["a", "b"] ["a", "b"] (defScope s_common) := ⟨rfl, rfl, rfl, by decide +kernel, rfl, by decide +kernel, by decide +kernel⟩
theorem sc_lowest : FnScope ["a", "b", "divisor", "sign"] ["a", "b"] (defScope s_lowest) := ⟨rfl, rfl, rfl, by decide +kernel, rfl, by decide +kernel, by decide +kernel⟩
theorem sc_plus : FnScope ["p", "q"] ["p", "q"] (defScope s_plus) := ⟨rfl, rfl, rfl, by decide +kernel, rfl, by decide +kernel, by decide +kernel⟩
theorem sc_minus : FnScope ["p", "q"] ["p", "q"] (defScope s_minus) := ⟨rfl, rfl, rfl, by decide +kernel, rfl, by decide +kernel, by decide +kernel⟩
theorem sc_times : FnScope ["p", "q"] ["p", "q"] (defScope s_times) := ⟨rfl, rfl, rfl, by decide +kernel, rfl, by decide +kernel, by decide +kernel⟩
theorem sc_divided : FnScope ["p", "q"] ["p", "q"] (defScope s_divided) := ⟨rfl, rfl, rfl, by decide +kernel, rfl, by decide +kernel, by decide +kernel⟩
theorem sc_less1 : FnScope ["p", "q"] ["p", "q"] (defScope s_less1) := ⟨rfl, rfl, rfl, by decide +kernel, rfl, by decide +kernel, by decide +kernel⟩
theorem sc_is_ratio : FnScope ["value", "one"] ["value"] (defScope s_is_ratio) := ⟨rfl, rfl, rfl, by decide +kernel, rfl, by decide +kernel, by decide +kernel⟩
theorem sc_ratio_text : FnScope ["p"] ["p"] (defScope s_ratio_text) := ⟨rfl, rfl, rfl, by decide +kernel, rfl, by decide +kernel, by decide +kernel⟩
theorem sc_number_in : FnScope ["text", "digits", "sign"] ["text"] (defScope s_number_in) := ⟨rfl, rfl, rfl, by decide +kernel, rfl, by decide +kernel, by decide +kernel⟩
theorem sc_read_ratio : FnScope ["text", "first", "sign", "second", "found"] ["text"] (defScope s_read_ratio) := ⟨rfl, rfl, rfl, by decide +kernel, rfl, by decide +kernel, by decide +kernel⟩
theorem sc_is_net : FnScope ["value", "places", "moves", "one"] ["value"] (defScope s_is_net) := ⟨rfl, rfl, rfl, by decide +kernel, rfl, by decide +kernel, by decide +kernel⟩
theorem sc_check_net : FnScope ["net"] ["net"] (defScope s_check_net) := ⟨rfl, rfl, rfl, by decide +kernel, rfl, by decide +kernel, by decide +kernel⟩
theorem sc_covers : FnScope ["one", "other", "a", "b"] ["one", "other"] (defScope s_covers) := ⟨rfl, rfl, rfl, by decide +kernel, rfl, by decide +kernel, by decide +kernel⟩
theorem sc_added : FnScope ["one", "other", "a", "b"] ["one", "other"] (defScope s_added) := ⟨rfl, rfl, rfl, by decide +kernel, rfl, by decide +kernel, by decide +kernel⟩
theorem sc_less2 : FnScope ["one", "other", "a", "b"] ["one", "other"] (defScope s_less2) := ⟨rfl, rfl, rfl, by decide +kernel, rfl, by decide +kernel, by decide +kernel⟩
theorem sc_effect : FnScope ["net", "t", "_", "takes", "gives"] ["net", "t"] (defScope s_effect) := ⟨rfl, rfl, rfl, by decide +kernel, rfl, by decide +kernel, by decide +kernel⟩
theorem sc_can_move : FnScope ["net", "marking", "t"] ["net", "marking", "t"] (defScope s_can_move) := ⟨rfl, rfl, rfl, by decide +kernel, rfl, by decide +kernel, by decide +kernel⟩
theorem sc_moves_of : FnScope ["net", "marking", "t"] ["net", "marking"] (defScope s_moves_of) := ⟨rfl, rfl, rfl, by decide +kernel, rfl, by decide +kernel, by decide +kernel⟩
theorem sc_space_of : FnScope ["net", "marking", "most", "found", "places", "arcs", "at", "t", "other"] ["net", "marking", "most"] (defScope s_space_of) := ⟨rfl, rfl, rfl, by decide +kernel, rfl, by decide +kernel, by decide +kernel⟩
theorem sc_least_runs : FnScope ["space", "markings", "arcs", "runs", "i", "t", "j", "k"] ["space"] (defScope s_least_runs) := ⟨rfl, rfl, rfl, by decide +kernel, rfl, by decide +kernel, by decide +kernel⟩
theorem sc_run_to : FnScope ["net", "marking", "goal", "most", "space", "one", "run"] ["net", "marking", "goal", "most"] (defScope s_run_to) := ⟨rfl, rfl, rfl, by decide +kernel, rfl, by decide +kernel, by decide +kernel⟩
theorem sc_check_wall : FnScope ["net", "marking", "goal", "wall"] ["net", "marking", "goal", "wall"] (defScope s_check_wall) := ⟨rfl, rfl, rfl, by decide +kernel, rfl, by decide +kernel, by decide +kernel⟩
theorem sc_judge_reach : FnScope ["question", "answer", "paper", "_", "net", "marking", "goal"] ["question", "answer", "paper"] (defScope s_judge_reach) := ⟨rfl, rfl, rfl, by decide +kernel, rfl, by decide +kernel, by decide +kernel⟩
theorem sc__law_take : FnScope ["draw", "many", "found"] ["draw", "many"] (defScope s__law_take) := ⟨rfl, rfl, rfl, by decide +kernel, rfl, by decide +kernel, by decide +kernel⟩
theorem sc__law_low : FnScope ["a", "b", "one", "other"] ["a", "b"] (defScope s__law_low) := ⟨rfl, rfl, rfl, by decide +kernel, rfl, by decide +kernel, by decide +kernel⟩
theorem sc__law_plus : FnScope ["p", "q"] ["p", "q"] (defScope s__law_plus) := ⟨rfl, rfl, rfl, by decide +kernel, rfl, by decide +kernel, by decide +kernel⟩
theorem sc__law_minus : FnScope ["p", "q"] ["p", "q"] (defScope s__law_minus) := ⟨rfl, rfl, rfl, by decide +kernel, rfl, by decide +kernel, by decide +kernel⟩
theorem sc__law_times : FnScope ["p", "q"] ["p", "q"] (defScope s__law_times) := ⟨rfl, rfl, rfl, by decide +kernel, rfl, by decide +kernel, by decide +kernel⟩
theorem sc__law_less : FnScope ["p", "q"] ["p", "q"] (defScope s__law_less) := ⟨rfl, rfl, rfl, by decide +kernel, rfl, by decide +kernel, by decide +kernel⟩
theorem sc__law_due : FnScope ["text", "parts", "found", "part", "s"] ["text"] (defScope s__law_due) := ⟨rfl, rfl, rfl, by decide +kernel, rfl, by decide +kernel, by decide +kernel⟩
theorem sc__law_fails : FnScope ["kind", "net"] ["kind"] (defScope s__law_fails) := ⟨rfl, rfl, rfl, by decide +kernel, rfl, by decide +kernel, by decide +kernel⟩
theorem sc__law_read : FnScope ["text", "error"] ["text"] (defScope s__law_read) := ⟨rfl, rfl, rfl, by decide +kernel, rfl, by decide +kernel, by decide +kernel⟩
theorem sc__law_caught : FnScope ["kind", "wide"] ["kind", "wide"] (defScope s__law_caught) := ⟨rfl, rfl, rfl, by decide +kernel, rfl, by decide +kernel, by decide +kernel⟩
theorem sc__law_draw : FnScope ["script", "seed", "cell"] ["script"] (defScope s__law_draw) := ⟨rfl, rfl, rfl, by decide +kernel, rfl, by decide +kernel, by decide +kernel⟩
theorem sc_law : FnScope ["script", "draw", "turn", "p", "q", "a", "b", "text", "k", "at", "more", "bent", "bad", "kind", "value"] ["script"] (defScope s_law) := ⟨rfl, rfl, rfl, by decide +kernel, rfl, by decide +kernel, by decide +kernel⟩
structure ExT (K : PySem.W.Frag) (mg : Str → Option Value) (x : Str) where
  C : Addr
  q : PySem.W.excIn K C [.type "ValueError", .type "Exception", .type "BaseException", .type "object"] "ValueError.__new__" = true
  g : mg x = some (.ref C)
  k : PySem.W.keepIn K (.ref C) = true
  b : PySem.W.subIn K (.ref C) (.type "BaseException") = some true
  t : PySem.W.typeIn K (.ref C) = some (.type "type")
/-- what the top has written -/
structure Tx (P : Program) (K : PySem.W.Frag) (mg : Str → Option Value) where
  f_common : Addr
  d_common : FuncData
  F_common : Fun K "common" "common" s_common f_common d_common
  f_lowest : Addr
  d_lowest : FuncData
  F_lowest : Fun K "lowest" "lowest" s_lowest f_lowest d_lowest
  f_plus : Addr
  d_plus : FuncData
  F_plus : Fun K "plus" "plus" s_plus f_plus d_plus
  f_minus : Addr
  d_minus : FuncData
  F_minus : Fun K "minus" "minus" s_minus f_minus d_minus
  f_times : Addr
  d_times : FuncData
  F_times : Fun K "times" "times" s_times f_times d_times
  f_divided : Addr
  d_divided : FuncData
  F_divided : Fun K "divided" "divided" s_divided f_divided d_divided
  f_less1 : Addr
  d_less1 : FuncData
  F_less1 : Fun K "less" "less" s_less1 f_less1 d_less1
  f_is_ratio : Addr
  d_is_ratio : FuncData
  F_is_ratio : Fun K "is_ratio" "is_ratio" s_is_ratio f_is_ratio d_is_ratio
  f_ratio_text : Addr
  d_ratio_text : FuncData
  F_ratio_text : Fun K "ratio_text" "ratio_text" s_ratio_text f_ratio_text d_ratio_text
  f_number_in : Addr
  d_number_in : FuncData
  F_number_in : Fun K "number_in" "number_in" s_number_in f_number_in d_number_in
  f_read_ratio : Addr
  d_read_ratio : FuncData
  F_read_ratio : Fun K "read_ratio" "read_ratio" s_read_ratio f_read_ratio d_read_ratio
  f_is_net : Addr
  d_is_net : FuncData
  F_is_net : Fun K "is_net" "is_net" s_is_net f_is_net d_is_net
  f_check_net : Addr
  d_check_net : FuncData
  F_check_net : Fun K "check_net" "check_net" s_check_net f_check_net d_check_net
  f_covers : Addr
  d_covers : FuncData
  F_covers : Fun K "covers" "covers" s_covers f_covers d_covers
  f_added : Addr
  d_added : FuncData
  F_added : Fun K "added" "added" s_added f_added d_added
  f_less2 : Addr
  d_less2 : FuncData
  F_less2 : Fun K "less" "less" s_less2 f_less2 d_less2
  f_effect : Addr
  d_effect : FuncData
  F_effect : Fun K "effect" "effect" s_effect f_effect d_effect
  f_can_move : Addr
  d_can_move : FuncData
  F_can_move : Fun K "can_move" "can_move" s_can_move f_can_move d_can_move
  f_moves_of : Addr
  d_moves_of : FuncData
  F_moves_of : Fun K "moves_of" "moves_of" s_moves_of f_moves_of d_moves_of
  f_space_of : Addr
  d_space_of : FuncData
  F_space_of : Fun K "space_of" "space_of" s_space_of f_space_of d_space_of
  f_least_runs : Addr
  d_least_runs : FuncData
  F_least_runs : Fun K "least_runs" "least_runs" s_least_runs f_least_runs d_least_runs
  f_run_to : Addr
  d_run_to : FuncData
  F_run_to : Fun K "run_to" "run_to" s_run_to f_run_to d_run_to
  f_check_wall : Addr
  d_check_wall : FuncData
  F_check_wall : Fun K "check_wall" "check_wall" s_check_wall f_check_wall d_check_wall
  f_judge_reach : Addr
  d_judge_reach : FuncData
  F_judge_reach : Fun K "judge_reach" "judge_reach" s_judge_reach f_judge_reach d_judge_reach
  f__law_take : Addr
  d__law_take : FuncData
  F__law_take : Fun K "_law_take" "_law_take" s__law_take f__law_take d__law_take
  f__law_low : Addr
  d__law_low : FuncData
  F__law_low : Fun K "_law_low" "_law_low" s__law_low f__law_low d__law_low
  f__law_plus : Addr
  d__law_plus : FuncData
  F__law_plus : Fun K "_law_plus" "_law_plus" s__law_plus f__law_plus d__law_plus
  f__law_minus : Addr
  d__law_minus : FuncData
  F__law_minus : Fun K "_law_minus" "_law_minus" s__law_minus f__law_minus d__law_minus
  f__law_times : Addr
  d__law_times : FuncData
  F__law_times : Fun K "_law_times" "_law_times" s__law_times f__law_times d__law_times
  f__law_less : Addr
  d__law_less : FuncData
  F__law_less : Fun K "_law_less" "_law_less" s__law_less f__law_less d__law_less
  f__law_due : Addr
  d__law_due : FuncData
  F__law_due : Fun K "_law_due" "_law_due" s__law_due f__law_due d__law_due
  f__law_fails : Addr
  d__law_fails : FuncData
  F__law_fails : Fun K "_law_fails" "_law_fails" s__law_fails f__law_fails d__law_fails
  f__law_read : Addr
  d__law_read : FuncData
  F__law_read : Fun K "_law_read" "_law_read" s__law_read f__law_read d__law_read
  f__law_caught : Addr
  d__law_caught : FuncData
  F__law_caught : Fun K "_law_caught" "_law_caught" s__law_caught f__law_caught d__law_caught
  f__law_draw : Addr
  d__law_draw : FuncData
  F__law_draw : Fun K "_law_draw" "_law_draw" s__law_draw f__law_draw d__law_draw
  f_law : Addr
  d_law : FuncData
  F_law : Fun K "law" "law" s_law f_law d_law
  g_common : mg "common" = some (.ref f_common)
  g_lowest : mg "lowest" = some (.ref f_lowest)
  g_plus : mg "plus" = some (.ref f_plus)
  g_minus : mg "minus" = some (.ref f_minus)
  g_times : mg "times" = some (.ref f_times)
  g_divided : mg "divided" = some (.ref f_divided)
  g_is_ratio : mg "is_ratio" = some (.ref f_is_ratio)
  g_ratio_text : mg "ratio_text" = some (.ref f_ratio_text)
  g_number_in : mg "number_in" = some (.ref f_number_in)
  g_read_ratio : mg "read_ratio" = some (.ref f_read_ratio)
  g_is_net : mg "is_net" = some (.ref f_is_net)
  g_check_net : mg "check_net" = some (.ref f_check_net)
  g_covers : mg "covers" = some (.ref f_covers)
  g_added : mg "added" = some (.ref f_added)
  g_effect : mg "effect" = some (.ref f_effect)
  g_can_move : mg "can_move" = some (.ref f_can_move)
  g_moves_of : mg "moves_of" = some (.ref f_moves_of)
  g_space_of : mg "space_of" = some (.ref f_space_of)
  g_least_runs : mg "least_runs" = some (.ref f_least_runs)
  g_run_to : mg "run_to" = some (.ref f_run_to)
  g_check_wall : mg "check_wall" = some (.ref f_check_wall)
  g_judge_reach : mg "judge_reach" = some (.ref f_judge_reach)
  g__law_take : mg "_law_take" = some (.ref f__law_take)
  g__law_low : mg "_law_low" = some (.ref f__law_low)
  g__law_plus : mg "_law_plus" = some (.ref f__law_plus)
  g__law_minus : mg "_law_minus" = some (.ref f__law_minus)
  g__law_times : mg "_law_times" = some (.ref f__law_times)
  g__law_less : mg "_law_less" = some (.ref f__law_less)
  g__law_due : mg "_law_due" = some (.ref f__law_due)
  g__law_fails : mg "_law_fails" = some (.ref f__law_fails)
  g_less_ratios : mg "less_ratios" = some (.ref f_less1)
  g_less_nets : mg "less_nets" = some (.ref f_less2)
  g__law_read : mg "_law_read" = some (.ref f__law_read)
  g__law_caught : mg "_law_caught" = some (.ref f__law_caught)
  g__law_draw : mg "_law_draw" = some (.ref f__law_draw)
  g_law : mg "law" = some (.ref f_law)
  n_abs : mg "abs" = none
  n_all : mg "all" = none
  n_any : mg "any" = none
  n_bool : mg "bool" = none
  n_int : mg "int" = none
  n_isinstance : mg "isinstance" = none
  n_len : mg "len" = none
  n_range : mg "range" = none
  n_str : mg "str" = none
  n_tuple : mg "tuple" = none
  n_zip : mg "zip" = none
  t_DIGITS : Tok
  c_DIGITS : mg "DIGITS" = some (.str "0123456789" t_DIGITS)
  t_MAX_DIGITS : Tok
  c_MAX_DIGITS : mg "MAX_DIGITS" = some (.int 40 t_MAX_DIGITS)
  x_BadPaper : ExT K mg "BadPaper"
  x_Missing : ExT K mg "Missing"
  x_NetError : ExT K mg "NetError"
  x_NotAllowed : ExT K mg "NotAllowed"
  bC : Addr
  bI : Addr
  bcc : Addr
  bcd : Addr
  bf : PySem.BfX.BfTxt P K mg bC bI bcc bcd
  e_BadForm_NetError : PySem.W.exmOne K (.ref bC) (.ref x_NetError.C) = some true
  e_NotAllowed_NetError : PySem.W.exmOne K (.ref x_NotAllowed.C) (.ref x_NetError.C) = some true
  e_Missing_NetError : PySem.W.exmOne K (.ref x_Missing.C) (.ref x_NetError.C) = some true
  e_BadPaper_NetError : PySem.W.exmOne K (.ref x_BadPaper.C) (.ref x_NetError.C) = some true
  e_BadForm_BadForm : PySem.W.exmOne K (.ref bC) (.ref bC) = some true
  e_NotAllowed_BadForm : PySem.W.exmOne K (.ref x_NotAllowed.C) (.ref bC) = some false
  e_NotAllowed_NotAllowed : PySem.W.exmOne K (.ref x_NotAllowed.C) (.ref x_NotAllowed.C) = some true
  e_Missing_BadForm : PySem.W.exmOne K (.ref x_Missing.C) (.ref bC) = some false
  e_Missing_NotAllowed : PySem.W.exmOne K (.ref x_Missing.C) (.ref x_NotAllowed.C) = some false
  e_Missing_Missing : PySem.W.exmOne K (.ref x_Missing.C) (.ref x_Missing.C) = some true
  e_BadPaper_BadForm : PySem.W.exmOne K (.ref x_BadPaper.C) (.ref bC) = some false
  e_BadPaper_NotAllowed : PySem.W.exmOne K (.ref x_BadPaper.C) (.ref x_NotAllowed.C) = some false
  e_BadPaper_Missing : PySem.W.exmOne K (.ref x_BadPaper.C) (.ref x_Missing.C) = some false
  e_BadPaper_BadPaper : PySem.W.exmOne K (.ref x_BadPaper.C) (.ref x_BadPaper.C) = some true
section
variable {P : Program} {w : World} {K : PySem.W.Frag} {mg : Str → Option Value} {base : Heap}
theorem b_common (T : Tx P K mg) : Binds K T.d_common ["a", "b"] [] := T.F_common.binds fun _ _ _ _ _ _ us hl => match us, hl with | [_, _], _ => rfl
theorem b_lowest (T : Tx P K mg) : Binds K T.d_lowest ["a", "b"] [] := T.F_lowest.binds fun _ _ _ _ _ _ us hl => match us, hl with | [_, _], _ => rfl
theorem b_plus (T : Tx P K mg) : Binds K T.d_plus ["p", "q"] [] := T.F_plus.binds fun _ _ _ _ _ _ us hl => match us, hl with | [_, _], _ => rfl
theorem b_minus (T : Tx P K mg) : Binds K T.d_minus ["p", "q"] [] := T.F_minus.binds fun _ _ _ _ _ _ us hl => match us, hl with | [_, _], _ => rfl
theorem b_times (T : Tx P K mg) : Binds K T.d_times ["p", "q"] [] := T.F_times.binds fun _ _ _ _ _ _ us hl => match us, hl with | [_, _], _ => rfl
theorem b_divided (T : Tx P K mg) : Binds K T.d_divided ["p", "q"] [] := T.F_divided.binds fun _ _ _ _ _ _ us hl => match us, hl with | [_, _], _ => rfl
theorem b_less1 (T : Tx P K mg) : Binds K T.d_less1 ["p", "q"] [] := T.F_less1.binds fun _ _ _ _ _ _ us hl => match us, hl with | [_, _], _ => rfl
theorem b_is_ratio (T : Tx P K mg) : Binds K T.d_is_ratio ["value"] [] := T.F_is_ratio.binds fun _ _ _ _ _ _ us hl => match us, hl with | [_], _ => rfl
theorem b_ratio_text (T : Tx P K mg) : Binds K T.d_ratio_text ["p"] [] := T.F_ratio_text.binds fun _ _ _ _ _ _ us hl => match us, hl with | [_], _ => rfl
theorem b_number_in (T : Tx P K mg) : Binds K T.d_number_in ["text"] [] := T.F_number_in.binds fun _ _ _ _ _ _ us hl => match us, hl with | [_], _ => rfl
theorem b_read_ratio (T : Tx P K mg) : Binds K T.d_read_ratio ["text"] [] := T.F_read_ratio.binds fun _ _ _ _ _ _ us hl => match us, hl with | [_], _ => rfl
theorem b_is_net (T : Tx P K mg) : Binds K T.d_is_net ["value"] [] := T.F_is_net.binds fun _ _ _ _ _ _ us hl => match us, hl with | [_], _ => rfl
theorem b_check_net (T : Tx P K mg) : Binds K T.d_check_net ["net"] [] := T.F_check_net.binds fun _ _ _ _ _ _ us hl => match us, hl with | [_], _ => rfl
theorem b_covers (T : Tx P K mg) : Binds K T.d_covers ["one", "other"] [] := T.F_covers.binds fun _ _ _ _ _ _ us hl => match us, hl with | [_, _], _ => rfl
theorem b_added (T : Tx P K mg) : Binds K T.d_added ["one", "other"] [] := T.F_added.binds fun _ _ _ _ _ _ us hl => match us, hl with | [_, _], _ => rfl
theorem b_less2 (T : Tx P K mg) : Binds K T.d_less2 ["one", "other"] [] := T.F_less2.binds fun _ _ _ _ _ _ us hl => match us, hl with | [_, _], _ => rfl
theorem b_effect (T : Tx P K mg) : Binds K T.d_effect ["net", "t"] [] := T.F_effect.binds fun _ _ _ _ _ _ us hl => match us, hl with | [_, _], _ => rfl
theorem b_can_move (T : Tx P K mg) : Binds K T.d_can_move ["net", "marking", "t"] [] := T.F_can_move.binds fun _ _ _ _ _ _ us hl => match us, hl with | [_, _, _], _ => rfl
theorem b_moves_of (T : Tx P K mg) : Binds K T.d_moves_of ["net", "marking"] [] := T.F_moves_of.binds fun _ _ _ _ _ _ us hl => match us, hl with | [_, _], _ => rfl
theorem b_space_of (T : Tx P K mg) : Binds K T.d_space_of ["net", "marking", "most"] [] := T.F_space_of.binds fun _ _ _ _ _ _ us hl => match us, hl with | [_, _, _], _ => rfl
theorem b_least_runs (T : Tx P K mg) : Binds K T.d_least_runs ["space"] [] := T.F_least_runs.binds fun _ _ _ _ _ _ us hl => match us, hl with | [_], _ => rfl
theorem b_run_to (T : Tx P K mg) : Binds K T.d_run_to ["net", "marking", "goal", "most"] [] := T.F_run_to.binds fun _ _ _ _ _ _ us hl => match us, hl with | [_, _, _, _], _ => rfl
theorem b_check_wall (T : Tx P K mg) : Binds K T.d_check_wall ["net", "marking", "goal", "wall"] [] := T.F_check_wall.binds fun _ _ _ _ _ _ us hl => match us, hl with | [_, _, _, _], _ => rfl
theorem b_judge_reach (T : Tx P K mg) : Binds K T.d_judge_reach ["question", "answer", "paper"] [] := T.F_judge_reach.binds fun _ _ _ _ _ _ us hl => match us, hl with | [_, _, _], _ => rfl
theorem b__law_take (T : Tx P K mg) : Binds K T.d__law_take ["draw", "many"] [] := T.F__law_take.binds fun _ _ _ _ _ _ us hl => match us, hl with | [_, _], _ => rfl
theorem b__law_low (T : Tx P K mg) : Binds K T.d__law_low ["a", "b"] [] := T.F__law_low.binds fun _ _ _ _ _ _ us hl => match us, hl with | [_, _], _ => rfl
theorem b__law_plus (T : Tx P K mg) : Binds K T.d__law_plus ["p", "q"] [] := T.F__law_plus.binds fun _ _ _ _ _ _ us hl => match us, hl with | [_, _], _ => rfl
theorem b__law_minus (T : Tx P K mg) : Binds K T.d__law_minus ["p", "q"] [] := T.F__law_minus.binds fun _ _ _ _ _ _ us hl => match us, hl with | [_, _], _ => rfl
theorem b__law_times (T : Tx P K mg) : Binds K T.d__law_times ["p", "q"] [] := T.F__law_times.binds fun _ _ _ _ _ _ us hl => match us, hl with | [_, _], _ => rfl
theorem b__law_less (T : Tx P K mg) : Binds K T.d__law_less ["p", "q"] [] := T.F__law_less.binds fun _ _ _ _ _ _ us hl => match us, hl with | [_, _], _ => rfl
theorem b__law_due (T : Tx P K mg) : Binds K T.d__law_due ["text"] [] := T.F__law_due.binds fun _ _ _ _ _ _ us hl => match us, hl with | [_], _ => rfl
theorem b__law_fails (T : Tx P K mg) : Binds K T.d__law_fails ["kind"] [] := T.F__law_fails.binds fun _ _ _ _ _ _ us hl => match us, hl with | [_], _ => rfl
theorem b__law_read (T : Tx P K mg) : Binds K T.d__law_read ["text"] [] := T.F__law_read.binds fun _ _ _ _ _ _ us hl => match us, hl with | [_], _ => rfl
theorem b__law_caught (T : Tx P K mg) : Binds K T.d__law_caught ["kind", "wide"] [] := T.F__law_caught.binds fun _ _ _ _ _ _ us hl => match us, hl with | [_, _], _ => rfl
theorem b__law_draw (T : Tx P K mg) : Binds K T.d__law_draw ["script"] [] := T.F__law_draw.binds fun _ _ _ _ _ _ us hl => match us, hl with | [_], _ => rfl
theorem b_law (T : Tx P K mg) : Binds K T.d_law ["script"] [] := T.F_law.binds fun _ _ _ _ _ _ us hl => match us, hl with | [_], _ => rfl
end
end K17
end
-- Kb
section
set_option maxRecDepth 100000
set_option maxHeartbeats 4000000
namespace K17
open PySem PySem.Spec L2 FL
def M_common (fuel : Nat) : Ms := (mSeq (mPar [0, 1] (mConsL (mVal (mCl fAbs (mCons (mVar 0) mNil))) (mConsL (mVal (mCl fAbs (mCons (mVar 1) mNil))) mNilL))) (mSeq (mWhile fuel (mTru (mVar 1)) (mPar [0, 1] (mConsL (mVal (mVar 1)) (mConsL (mVal (mOp2 (fInt2 cMod fun i j => i % j) (mVar 0) (mVar 1))) mNilL)))) (mRet (mVar 0))))
def Fn_common (fuel : Nat) : Mf := mDef 2 2 (M_common fuel)
theorem okn_common {P : Program} {w : World} {K : PySem.W.Frag} {mg : Str → Option Value} {base : Heap} (T : Tx P K mg) (fuel : Nat) : FnOk P w K mg base (L2.CX P w) 1 T.f_common T.d_common ["a", "b"] (spF K mg 2 (Fn_common fuel)) := by
  have h := fn_ok (P := P) (w := w) (mg := mg) (base := base) (k := 0) (N := ["a", "b"]) (ps := ["a", "b"]) (m := M_common fuel) T.F_common sc_common fun cdv A outer s H E hr => by
    exact (mss_cons (ms_par2 (i := 0) (j := 1) rfl sc_common.nd (mas_cons (ml_val (me_callB call_abs cl_abs (by rfl) T.n_abs (by decide +kernel) (ma_cons (me_var 0) ma_nil))) (mas_cons (ml_val (me_callB call_abs cl_abs (by rfl) T.n_abs (by decide +kernel) (ma_cons (me_var 1) ma_nil))) mas_nil)))
    (mss_cons (ms_while fuel (passes_of rfl) (mt_tru (me_var 1)) (mss_one (ms_par2 (i := 0) (j := 1) rfl sc_common.nd (mas_cons (ml_val (me_var 1)) (mas_cons (ml_val (me_op op_mod (o2_int cMod_ok) (me_var 0) (me_var 1))) mas_nil)))))
    (mss_one (ms_ret (me_var 0)))))
  exact h
def M_less1 : Ms := (mRet (mOp2 (bV (fCmp fun i j => decide (i < j))) (mOp2 fMul2 (mOp2 fIx (mVar 0) (mC (.int 0))) (mOp2 fIx (mVar 1) (mC (.int 1)))) (mOp2 fMul2 (mOp2 fIx (mVar 1) (mC (.int 0))) (mOp2 fIx (mVar 0) (mC (.int 1))))))
def F_less1 : Mf := mDef 2 2 (M_less1)
theorem ok_less1 {P : Program} {w : World} {K : PySem.W.Frag} {mg : Str → Option Value} {base : Heap} (T : Tx P K mg) : FnOk P w K mg base (L2.CX P w) 1 T.f_less1 T.d_less1 ["p", "q"] (spF K mg 2 (F_less1)) := by
  have h := fn_ok (P := P) (w := w) (mg := mg) (base := base) (k := 0) (N := ["p", "q"]) (ps := ["p", "q"]) (m := M_less1) T.F_less1 sc_less1 fun cdv A outer s H E hr => by
    exact (mss_one (ms_ret (me_cmp op_lt o2_cmp (me_op op_mul2 o2_mul2 (me_ix ix_seq o2_ix (me_var 0) me_int (fun _ _ => rfl)) (me_ix ix_seq o2_ix (me_var 1) me_int (fun _ _ => rfl))) (me_op op_mul2 o2_mul2 (me_ix ix_seq o2_ix (me_var 1) me_int (fun _ _ => rfl)) (me_ix ix_seq o2_ix (me_var 0) me_int (fun _ _ => rfl))) (nomark _))))
  exact h
def M__law_low (fuel : Nat) : Ms := (mSeq (mPar [2, 3] (mConsL (mVal (mCl fAbs (mCons (mVar 0) mNil))) (mConsL (mVal (mCl fAbs (mCons (mVar 1) mNil))) mNilL))) (mSeq (mWhile fuel (mCmp (fCmp fun i j => decide (j < i)) (mVar 3) (mC (.int 0))) (mPar [2, 3] (mConsL (mVal (mVar 3)) (mConsL (mVal (mOp2 (fInt2 cMod fun i j => i % j) (mVar 2) (mVar 3))) mNilL)))) (mRet (mIf (mCmp (fCmp fun i j => decide (j < i)) (mVar 1) (mC (.int 0))) (mTup (mCons (mOp2 (fInt2 cDiv fun i j => i / j) (mVar 0) (mVar 2)) (mCons (mOp2 (fInt2 cDiv fun i j => i / j) (mVar 1) (mVar 2)) mNil))) (mTup (mCons (mOp2 (fInt2 cDiv fun i j => i / j) (mOp1 fNeg (mVar 0)) (mVar 2)) (mCons (mOp2 (fInt2 cDiv fun i j => i / j) (mOp1 fNeg (mVar 1)) (mVar 2)) mNil)))))))
def Fn__law_low (fuel : Nat) : Mf := mDef 4 2 (M__law_low fuel)
theorem okn__law_low {P : Program} {w : World} {K : PySem.W.Frag} {mg : Str → Option Value} {base : Heap} (T : Tx P K mg) (fuel : Nat) : FnOk P w K mg base (L2.CX P w) 1 T.f__law_low T.d__law_low ["a", "b"] (spF K mg 2 (Fn__law_low fuel)) := by
  have h := fn_ok (P := P) (w := w) (mg := mg) (base := base) (k := 0) (N := ["a", "b", "one", "other"]) (ps := ["a", "b"]) (m := M__law_low fuel) T.F__law_low sc__law_low fun cdv A outer s H E hr => by
    exact (mss_cons (ms_par2 (i := 2) (j := 3) rfl sc__law_low.nd (mas_cons (ml_val (me_callB call_abs cl_abs (by rfl) T.n_abs (by decide +kernel) (ma_cons (me_var 0) ma_nil))) (mas_cons (ml_val (me_callB call_abs cl_abs (by rfl) T.n_abs (by decide +kernel) (ma_cons (me_var 1) ma_nil))) mas_nil)))
    (mss_cons (ms_while fuel (passes_of rfl) (mt_cmp op_gt o2_cmp (me_var 3) me_int (nomark _)) (mss_one (ms_par2 (i := 2) (j := 3) rfl sc__law_low.nd (mas_cons (ml_val (me_var 3)) (mas_cons (ml_val (me_op op_mod (o2_int cMod_ok) (me_var 2) (me_var 3))) mas_nil)))))
    (mss_one (ms_ret (me_if (mt_cmp op_gt o2_cmp (me_var 1) me_int (nomark _)) (me_tup (ma_cons (me_op op_fdiv (o2_int cDiv_ok) (me_var 0) (me_var 2)) (ma_cons (me_op op_fdiv (o2_int cDiv_ok) (me_var 1) (me_var 2)) ma_nil))) (me_tup (ma_cons (me_op op_fdiv (o2_int cDiv_ok) (me_un un_neg o1_neg (me_var 0)) (me_var 2)) (ma_cons (me_op op_fdiv (o2_int cDiv_ok) (me_un un_neg o1_neg (me_var 1)) (me_var 2)) ma_nil))))))))
  exact h
end K17
namespace K17
open PySem PySem.Spec L2 FL
theorem abs_nat (a : Int) : (if a < 0 then -a else a) = ((a.natAbs : Nat) : Int) := by omega
theorem gcd_step (a b : Nat) : Nat.gcd a b = Nat.gcd b (a % b) := by rw [Nat.gcd_comm a, Nat.gcd_rec, Nat.gcd_comm]
theorem mod_nat (a b : Nat) : ((a : Int) % (b : Int)) = ((a % b : Nat) : Int) := by simp
theorem fMod_nat (a b : Nat) (h : 0 < b) : (fInt2 cMod fun i j => i % j) (.d (.int a)) (.d (.int b)) = some (.d (.int ((a % b : Nat) : Int))) := by
  have hc : cMod (a : Int) (b : Int) = true := decide_eq_true (by omega)
  show (if cMod a b = true then some (Vl.d (.int ((a : Int) % (b : Int)))) else none) = _
  rw [if_pos hc, mod_nat]
theorem while_common (ω : Dr) : ∀ (n a b : Nat), b < n → whileN (mTru (mVar 1)) (mPar [0, 1] (mConsL (mVal (mVar 1)) (mConsL (mVal (mOp2 (fInt2 cMod fun i j => i % j) (mVar 0) (mVar 1))) mNilL))) n [.val (.int a), .val (.int b)] ω = .ok .nx ([.val (.int (Nat.gcd a b)), .val (.int 0)], ω)
  | 0, _, _, h => absurd h (Nat.not_lt_zero _)
  | n + 1, a, 0, _ => by rw [Nat.gcd_zero_right]; rfl
  | n + 1, a, b + 1, h => by
    have ih := while_common ω n (b + 1) (a % (b + 1)) (by have h1 : a % (b + 1) < b + 1 := Nat.mod_lt a (Nat.succ_pos b); exact Nat.lt_of_lt_of_le h1 (Nat.le_of_lt_succ h))
    rw [gcd_step, ← ih]
    refine whileN_step (ω1 := ω) ?_ ?_
    · show lift (tru (.d (.int ((b + 1 : Nat) : Int)))) ω = _
      show Res.ok (((b + 1 : Nat) : Int) != 0) ω = _
      have : (((b + 1 : Nat) : Int) != 0) = true := by simp; omega
      rw [this]
    · have hm := mOp2_ok (f := fInt2 cMod fun i j => i % j) (a := mVar 0) (b := mVar 1) (ρ := [.val (.int a), .val (.int ((b + 1 : Nat) : Int))]) (ω := ω) (ω1 := ω) (ω2 := ω) rfl rfl (fMod_nat a (b + 1) (Nat.succ_pos b))
      exact mPar2_ok (mVal_ok (d := .int ((b + 1 : Nat) : Int)) rfl) (mVal_ok hm)
def F_common : Mf := fun us ω => match us with
  | [.d (.int a), .d (.int b)] => .ok (.int (Nat.gcd a.natAbs b.natAbs)) ω
  | _ => .stuck
theorem common_is (a b : Int) (ω : Dr) : Fn_common (b.natAbs + 1) [.d (.int a), .d (.int b)] ω = .ok (.int (Nat.gcd a.natAbs b.natAbs)) ω := by
  refine mDef_rt (ρ := [.val (.int (Nat.gcd a.natAbs b.natAbs)), .val (.int 0)]) rfl ?_
  show mSeq _ (mSeq (whileN _ _ (b.natAbs + 1)) _) _ _ = _
  rw [mSeq_nx (ρ1 := [.val (.int a.natAbs), .val (.int b.natAbs)]) (ω1 := ω)]
  · rw [mSeq_nx (while_common ω (b.natAbs + 1) a.natAbs b.natAbs (Nat.lt_succ_self _))]
    rfl
  · rw [← abs_nat a, ← abs_nat b]
    rfl
theorem ok_common {P : Program} {w : World} {K : PySem.W.Frag} {mg : Str → Option Value} {base : Heap} (T : Tx P K mg) : FnOk P w K mg base (L2.CX P w) 1 T.f_common T.d_common ["a", "b"] (spF K mg 2 F_common) :=
  fn_same (fun n => okn_common T n) fun us ω h => by
    unfold F_common at h ⊢
    split at h
    · exact ⟨_, common_is _ _ ω⟩
    · exact (h rfl).elim
/-! _law_low -/
theorem while_low (A B : Sl) (ω : Dr) : ∀ (n a b : Nat), b < n → whileN (mCmp (fCmp fun i j => decide (j < i)) (mVar 3) (mC (.int 0))) (mPar [2, 3] (mConsL (mVal (mVar 3)) (mConsL (mVal (mOp2 (fInt2 cMod fun i j => i % j) (mVar 2) (mVar 3))) mNilL))) n [A, B, .val (.int a), .val (.int b)] ω = .ok .nx ([A, B, .val (.int (Nat.gcd a b)), .val (.int 0)], ω)
  | 0, _, _, h => absurd h (Nat.not_lt_zero _)
  | n + 1, a, 0, _ => by rw [Nat.gcd_zero_right]; rfl
  | n + 1, a, b + 1, h => by
    have ih := while_low A B ω n (b + 1) (a % (b + 1)) (by have h1 : a % (b + 1) < b + 1 := Nat.mod_lt a (Nat.succ_pos b); exact Nat.lt_of_lt_of_le h1 (Nat.le_of_lt_succ h))
    rw [gcd_step, ← ih]
    refine whileN_step (ω1 := ω) ?_ ?_
    · show Res.ok (decide ((0 : Int) < ((b + 1 : Nat) : Int))) ω = _
      rw [decide_eq_true (by omega : (0 : Int) < ((b + 1 : Nat) : Int))]
    · have hm := mOp2_ok (f := fInt2 cMod fun i j => i % j) (a := mVar 2) (b := mVar 3) (ρ := [A, B, .val (.int a), .val (.int ((b + 1 : Nat) : Int))]) (ω := ω) (ω1 := ω) (ω2 := ω) rfl rfl (fMod_nat a (b + 1) (Nat.succ_pos b))
      exact mPar2_ok (mVal_ok (d := .int ((b + 1 : Nat) : Int)) rfl) (mVal_ok hm)
/-- a ratio in lowest terms, its second part above 0 -/
def low (a b : Int) : Int × Int := if 0 < b then (a / (Nat.gcd a.natAbs b.natAbs : Nat), b / (Nat.gcd a.natAbs b.natAbs : Nat)) else (-a / (Nat.gcd a.natAbs b.natAbs : Nat), -b / (Nat.gcd a.natAbs b.natAbs : Nat))
def F__law_low : Mf := fun us ω => match us with
  | [.d (.int a), .d (.int b)] => if cDiv 0 (Nat.gcd a.natAbs b.natAbs : Nat) = true then .ok (.tuple [.int (low a b).1, .int (low a b).2]) ω else .stuck
  | _ => .stuck
theorem fDiv_ok (a : Int) (g : Nat) (h : cDiv 0 (g : Int) = true) : (fInt2 cDiv fun i j => i / j) (.d (.int a)) (.d (.int g)) = some (.d (.int (a / g))) := by
  show (if cDiv a g = true then some (Vl.d (.int (a / (g : Int)))) else none) = _
  rw [if_pos (show cDiv a g = true from h)]
theorem low_is (a b : Int) (ω : Dr) (h : cDiv 0 (Nat.gcd a.natAbs b.natAbs : Nat) = true) : Fn__law_low (b.natAbs + 1) [.d (.int a), .d (.int b)] ω = .ok (.tuple [.int (low a b).1, .int (low a b).2]) ω := by
  refine mDef_rt (ρ := [.par (.d (.int a)), .par (.d (.int b)), .val (.int (Nat.gcd a.natAbs b.natAbs)), .val (.int 0)]) rfl ?_
  show mSeq _ (mSeq (whileN _ _ (b.natAbs + 1)) _) _ _ = _
  rw [mSeq_nx (ρ1 := [.par (.d (.int a)), .par (.d (.int b)), .val (.int a.natAbs), .val (.int b.natAbs)]) (ω1 := ω)]
  · rw [mSeq_nx (while_low _ _ ω (b.natAbs + 1) a.natAbs b.natAbs (Nat.lt_succ_self _))]
    have d1 := fDiv_ok a _ h
    have d2 := fDiv_ok b _ h
    have d3 := fDiv_ok (-a) _ h
    have d4 := fDiv_ok (-b) _ h
    unfold low
    by_cases hb : 0 < b
    · rw [if_pos hb]
      have hc : mCmp (fCmp fun i j => decide (j < i)) (mVar 1) (mC (.int 0)) [.par (.d (.int a)), .par (.d (.int b)), .val (.int (Nat.gcd a.natAbs b.natAbs)), .val (.int 0)] ω = .ok true ω := by
        show Res.ok (decide ((0 : Int) < b)) ω = _
        rw [decide_eq_true hb]
      have e1 := mOp2_ok (f := fInt2 cDiv fun i j => i / j) (a := mVar 0) (b := mVar 2) (ρ := [.par (.d (.int a)), .par (.d (.int b)), .val (.int (Nat.gcd a.natAbs b.natAbs)), .val (.int 0)]) (ω := ω) (ω1 := ω) (ω2 := ω) rfl rfl d1
      have e2 := mOp2_ok (f := fInt2 cDiv fun i j => i / j) (a := mVar 1) (b := mVar 2) (ρ := [.par (.d (.int a)), .par (.d (.int b)), .val (.int (Nat.gcd a.natAbs b.natAbs)), .val (.int 0)]) (ω := ω) (ω1 := ω) (ω2 := ω) rfl rfl d2
      refine mRet_ok ?_
      rw [mIf_t hc]
      exact mTup2_ok e1 e2
    · rw [if_neg hb]
      have hc : mCmp (fCmp fun i j => decide (j < i)) (mVar 1) (mC (.int 0)) [.par (.d (.int a)), .par (.d (.int b)), .val (.int (Nat.gcd a.natAbs b.natAbs)), .val (.int 0)] ω = .ok false ω := by
        show Res.ok (decide ((0 : Int) < b)) ω = _
        rw [decide_eq_false hb]
      have e1 := mOp2_ok (f := fInt2 cDiv fun i j => i / j) (a := mOp1 fNeg (mVar 0)) (b := mVar 2) (ρ := [.par (.d (.int a)), .par (.d (.int b)), .val (.int (Nat.gcd a.natAbs b.natAbs)), .val (.int 0)]) (ω := ω) (ω1 := ω) (ω2 := ω) rfl rfl d3
      have e2 := mOp2_ok (f := fInt2 cDiv fun i j => i / j) (a := mOp1 fNeg (mVar 1)) (b := mVar 2) (ρ := [.par (.d (.int a)), .par (.d (.int b)), .val (.int (Nat.gcd a.natAbs b.natAbs)), .val (.int 0)]) (ω := ω) (ω1 := ω) (ω2 := ω) rfl rfl d4
      refine mRet_ok ?_
      rw [mIf_f hc]
      exact mTup2_ok e1 e2
  · rw [← abs_nat a, ← abs_nat b]
    rfl
theorem ok__law_low {P : Program} {w : World} {K : PySem.W.Frag} {mg : Str → Option Value} {base : Heap} (T : Tx P K mg) : FnOk P w K mg base (L2.CX P w) 1 T.f__law_low T.d__law_low ["a", "b"] (spF K mg 2 F__law_low) :=
  fn_same (fun n => okn__law_low T n) fun us ω h => by
    unfold F__law_low at h ⊢
    split at h
    · split at h
      · rename_i hc
        rw [if_pos hc]
        exact ⟨_, low_is _ _ ω hc⟩
      · exact (h rfl).elim
    · exact (h rfl).elim
end K17
end
-- Kc
section
set_option maxRecDepth 100000
set_option maxHeartbeats 4000000
namespace K17
open PySem PySem.Spec L2 FL
def M_lowest : Ms := (mSeq (mAsg 2 (mVal (mCall F_common (mCons (mVar 0) (mCons (mVar 1) mNil))))) (mSeq (mAsg 3 (mVal (mIf (mCmp (fCmp fun i j => decide (j < i)) (mVar 1) (mC (.int 0))) (mC (.int 1)) (mOp1 fNeg (mC (.int 1)))))) (mRet (mTup (mCons (mOp2 (fInt2 cDiv fun i j => i / j) (mOp2 fMul2 (mVar 3) (mVar 0)) (mVar 2)) (mCons (mOp2 (fInt2 cDiv fun i j => i / j) (mOp2 fMul2 (mVar 3) (mVar 1)) (mVar 2)) mNil))))))
def F_lowest : Mf := mDef 4 2 (M_lowest)
theorem ok_lowest {P : Program} {w : World} {K : PySem.W.Frag} {mg : Str → Option Value} {base : Heap} (T : Tx P K mg) : FnOk P w K mg base (L2.CX P w) 2 T.f_lowest T.d_lowest ["a", "b"] (spF K mg 2 (F_lowest)) := by
  have h := fn_ok (P := P) (w := w) (mg := mg) (base := base) (k := 1) (N := ["a", "b", "divisor", "sign"]) (ps := ["a", "b"]) (m := M_lowest) T.F_lowest sc_lowest fun cdv A outer s H E hr => by
    exact (mss_cons (ms_set (i := 2) sc_lowest.nd (ml_val (me_call (takes_of rfl rfl rfl rfl) (ok_common T) (hr.mono (by decide)) (by rfl) T.g_common T.F_common.kp (b_common T) (ma_cons (me_var 0) (ma_cons (me_var 1) ma_nil)) (by rfl))))
    (mss_cons (ms_set (i := 3) sc_lowest.nd (ml_val (me_if (mt_cmp op_gt o2_cmp (me_var 1) me_int (nomark _)) me_int (me_un un_neg o1_neg me_int))))
    (mss_one (ms_ret (me_tup (ma_cons (me_op op_fdiv (o2_int cDiv_ok) (me_op op_mul2 o2_mul2 (me_var 3) (me_var 0)) (me_var 2)) (ma_cons (me_op op_fdiv (o2_int cDiv_ok) (me_op op_mul2 o2_mul2 (me_var 3) (me_var 1)) (me_var 2)) ma_nil)))))))
  exact h
def M_plus : Ms := (mRet (mCall F_lowest (mCons (mOp2 fAdd (mOp2 fMul2 (mOp2 fIx (mVar 0) (mC (.int 0))) (mOp2 fIx (mVar 1) (mC (.int 1)))) (mOp2 fMul2 (mOp2 fIx (mVar 1) (mC (.int 0))) (mOp2 fIx (mVar 0) (mC (.int 1))))) (mCons (mOp2 fMul2 (mOp2 fIx (mVar 0) (mC (.int 1))) (mOp2 fIx (mVar 1) (mC (.int 1)))) mNil))))
def F_plus : Mf := mDef 2 2 (M_plus)
theorem ok_plus {P : Program} {w : World} {K : PySem.W.Frag} {mg : Str → Option Value} {base : Heap} (T : Tx P K mg) : FnOk P w K mg base (L2.CX P w) 3 T.f_plus T.d_plus ["p", "q"] (spF K mg 2 (F_plus)) := by
  have h := fn_ok (P := P) (w := w) (mg := mg) (base := base) (k := 2) (N := ["p", "q"]) (ps := ["p", "q"]) (m := M_plus) T.F_plus sc_plus fun cdv A outer s H E hr => by
    exact (mss_one (ms_ret (me_call (takes_of rfl rfl rfl rfl) (ok_lowest T) (hr.mono (by decide)) (by rfl) T.g_lowest T.F_lowest.kp (b_lowest T) (ma_cons (me_op op_rAdd o2_add (me_op op_mul2 o2_mul2 (me_ix ix_seq o2_ix (me_var 0) me_int (fun _ _ => rfl)) (me_ix ix_seq o2_ix (me_var 1) me_int (fun _ _ => rfl))) (me_op op_mul2 o2_mul2 (me_ix ix_seq o2_ix (me_var 1) me_int (fun _ _ => rfl)) (me_ix ix_seq o2_ix (me_var 0) me_int (fun _ _ => rfl)))) (ma_cons (me_op op_mul2 o2_mul2 (me_ix ix_seq o2_ix (me_var 0) me_int (fun _ _ => rfl)) (me_ix ix_seq o2_ix (me_var 1) me_int (fun _ _ => rfl))) ma_nil)) (by rfl))))
  exact h
def M_minus : Ms := (mRet (mCall F_lowest (mCons (mOp2 (fInt2 (fun _ _ => true) fun i j => i - j) (mOp2 fMul2 (mOp2 fIx (mVar 0) (mC (.int 0))) (mOp2 fIx (mVar 1) (mC (.int 1)))) (mOp2 fMul2 (mOp2 fIx (mVar 1) (mC (.int 0))) (mOp2 fIx (mVar 0) (mC (.int 1))))) (mCons (mOp2 fMul2 (mOp2 fIx (mVar 0) (mC (.int 1))) (mOp2 fIx (mVar 1) (mC (.int 1)))) mNil))))
def F_minus : Mf := mDef 2 2 (M_minus)
theorem ok_minus {P : Program} {w : World} {K : PySem.W.Frag} {mg : Str → Option Value} {base : Heap} (T : Tx P K mg) : FnOk P w K mg base (L2.CX P w) 3 T.f_minus T.d_minus ["p", "q"] (spF K mg 2 (F_minus)) := by
  have h := fn_ok (P := P) (w := w) (mg := mg) (base := base) (k := 2) (N := ["p", "q"]) (ps := ["p", "q"]) (m := M_minus) T.F_minus sc_minus fun cdv A outer s H E hr => by
    exact (mss_one (ms_ret (me_call (takes_of rfl rfl rfl rfl) (ok_lowest T) (hr.mono (by decide)) (by rfl) T.g_lowest T.F_lowest.kp (b_lowest T) (ma_cons (me_op op_sub o2_int0 (me_op op_mul2 o2_mul2 (me_ix ix_seq o2_ix (me_var 0) me_int (fun _ _ => rfl)) (me_ix ix_seq o2_ix (me_var 1) me_int (fun _ _ => rfl))) (me_op op_mul2 o2_mul2 (me_ix ix_seq o2_ix (me_var 1) me_int (fun _ _ => rfl)) (me_ix ix_seq o2_ix (me_var 0) me_int (fun _ _ => rfl)))) (ma_cons (me_op op_mul2 o2_mul2 (me_ix ix_seq o2_ix (me_var 0) me_int (fun _ _ => rfl)) (me_ix ix_seq o2_ix (me_var 1) me_int (fun _ _ => rfl))) ma_nil)) (by rfl))))
  exact h
def M_times : Ms := (mRet (mCall F_lowest (mCons (mOp2 fMul2 (mOp2 fIx (mVar 0) (mC (.int 0))) (mOp2 fIx (mVar 1) (mC (.int 0)))) (mCons (mOp2 fMul2 (mOp2 fIx (mVar 0) (mC (.int 1))) (mOp2 fIx (mVar 1) (mC (.int 1)))) mNil))))
def F_times : Mf := mDef 2 2 (M_times)
theorem ok_times {P : Program} {w : World} {K : PySem.W.Frag} {mg : Str → Option Value} {base : Heap} (T : Tx P K mg) : FnOk P w K mg base (L2.CX P w) 3 T.f_times T.d_times ["p", "q"] (spF K mg 2 (F_times)) := by
  have h := fn_ok (P := P) (w := w) (mg := mg) (base := base) (k := 2) (N := ["p", "q"]) (ps := ["p", "q"]) (m := M_times) T.F_times sc_times fun cdv A outer s H E hr => by
    exact (mss_one (ms_ret (me_call (takes_of rfl rfl rfl rfl) (ok_lowest T) (hr.mono (by decide)) (by rfl) T.g_lowest T.F_lowest.kp (b_lowest T) (ma_cons (me_op op_mul2 o2_mul2 (me_ix ix_seq o2_ix (me_var 0) me_int (fun _ _ => rfl)) (me_ix ix_seq o2_ix (me_var 1) me_int (fun _ _ => rfl))) (ma_cons (me_op op_mul2 o2_mul2 (me_ix ix_seq o2_ix (me_var 0) me_int (fun _ _ => rfl)) (me_ix ix_seq o2_ix (me_var 1) me_int (fun _ _ => rfl))) ma_nil)) (by rfl))))
  exact h
def M_divided : Ms := (mRet (mCall F_lowest (mCons (mOp2 fMul2 (mOp2 fIx (mVar 0) (mC (.int 0))) (mOp2 fIx (mVar 1) (mC (.int 1)))) (mCons (mOp2 fMul2 (mOp2 fIx (mVar 0) (mC (.int 1))) (mOp2 fIx (mVar 1) (mC (.int 0)))) mNil))))
def F_divided : Mf := mDef 2 2 (M_divided)
theorem ok_divided {P : Program} {w : World} {K : PySem.W.Frag} {mg : Str → Option Value} {base : Heap} (T : Tx P K mg) : FnOk P w K mg base (L2.CX P w) 3 T.f_divided T.d_divided ["p", "q"] (spF K mg 2 (F_divided)) := by
  have h := fn_ok (P := P) (w := w) (mg := mg) (base := base) (k := 2) (N := ["p", "q"]) (ps := ["p", "q"]) (m := M_divided) T.F_divided sc_divided fun cdv A outer s H E hr => by
    exact (mss_one (ms_ret (me_call (takes_of rfl rfl rfl rfl) (ok_lowest T) (hr.mono (by decide)) (by rfl) T.g_lowest T.F_lowest.kp (b_lowest T) (ma_cons (me_op op_mul2 o2_mul2 (me_ix ix_seq o2_ix (me_var 0) me_int (fun _ _ => rfl)) (me_ix ix_seq o2_ix (me_var 1) me_int (fun _ _ => rfl))) (ma_cons (me_op op_mul2 o2_mul2 (me_ix ix_seq o2_ix (me_var 0) me_int (fun _ _ => rfl)) (me_ix ix_seq o2_ix (me_var 1) me_int (fun _ _ => rfl))) ma_nil)) (by rfl))))
  exact h
def M_is_ratio : Ms := (mSeq (mIfS (mOrT (mNotT (mTru (mIsI "tuple" (mVar 0)))) (mCmp (fEq2 true) (mCl fLen (mCons (mVar 0) mNil)) (mC (.int 2)))) (mRet (mC (.bool false))) mNx) (mSeq (mIfS (mNotT (mTru (mCl (fBs fun bs => bs.all id) (mCons (mLk (mComp [1] (mIt (mVar 0)) (tgName 1) mYes (mAnd (mIsI "int" (mVar 1)) (mNot (mIsI "bool" (mVar 1)))))) mNil)))) (mRet (mC (.bool false))) mNx) (mRet (mAnd (mOp2 (bV (fCmp fun i j => decide (j ≤ i))) (mOp2 fIx (mVar 0) (mC (.int 1))) (mC (.int 1))) (mOp2 (bV (fEq2 false)) (mCall F_common (mCons (mOp2 fIx (mVar 0) (mC (.int 0))) (mCons (mOp2 fIx (mVar 0) (mC (.int 1))) mNil))) (mC (.int 1)))))))
def F_is_ratio : Mf := mDef 2 1 (M_is_ratio)
theorem ok_is_ratio {P : Program} {w : World} {K : PySem.W.Frag} {mg : Str → Option Value} {base : Heap} (T : Tx P K mg) : FnOk P w K mg base (L2.CX P w) 2 T.f_is_ratio T.d_is_ratio ["value"] (spF K mg 1 (F_is_ratio)) := by
  have h := fn_ok (P := P) (w := w) (mg := mg) (base := base) (k := 1) (N := ["value", "one"]) (ps := ["value"]) (m := M_is_ratio) T.F_is_ratio sc_is_ratio fun cdv A outer s H E hr => by
    exact (mss_cons (ms_if (mt_w (mw_or (mt_not (mt_tru (me_isi (by rfl) T.n_isinstance (by rfl) T.n_tuple (by decide +kernel) (me_var 0)))) (mw_or1 (mt_cmp (op_ne2 (hu64 hr)) o2_ne2 (me_callB cr_len cl_len (by rfl) T.n_len (by decide +kernel) (ma_cons (me_var 0) ma_nil)) me_int (nomark _))))) (mss_one (ms_ret me_bl)) mss_nil)
    (mss_cons (ms_if (mt_not (mt_tru (me_callB (cr_all rfl) cl_all (by rfl) T.n_all (by decide +kernel) (ma_cons (me_new (mn_comp (own := [(("one" : Str), 1)]) rfl sc_is_ratio.nd (blkOk_by (by kernel_rfl)) (by decide) (mi_it (me_var 0)) (fun _ _ _ _ _ => (mg_name sc_is_ratio.nd)) (fun _ _ _ _ _ => mts_nil) (fun _ _ _ _ _ => (me_and (me_isi (by rfl) T.n_isinstance (by rfl) T.n_int (by decide +kernel) (me_var 1)) (me_one (me_not (me_isi (by rfl) T.n_isinstance (by rfl) T.n_bool (by decide +kernel) (me_var 1)))))))) ma_nil)))) (mss_one (ms_ret me_bl)) mss_nil)
    (mss_one (ms_ret (me_and (me_cmp op_ge o2_cmp (me_ix ix_seq o2_ix (me_var 0) me_int (fun _ _ => rfl)) me_int (nomark _)) (me_one (me_cmp (op_eq2 (hu64 hr)) o2_eq2 (me_call (takes_of rfl rfl rfl rfl) (ok_common T) (hr.mono (by decide)) (by rfl) T.g_common T.F_common.kp (b_common T) (ma_cons (me_ix ix_seq o2_ix (me_var 0) me_int (fun _ _ => rfl)) (ma_cons (me_ix ix_seq o2_ix (me_var 0) me_int (fun _ _ => rfl)) ma_nil)) (by rfl)) me_int (nomark _))))))))
  exact h
def M_ratio_text : Ms := (mRet (mIf (mCmp (fEq2 false) (mOp2 fIx (mVar 0) (mC (.int 1))) (mC (.int 1))) (mFmt (mOp2 fIx (mVar 0) (mC (.int 0)))) (mJoin3 (mFmt (mOp2 fIx (mVar 0) (mC (.int 0)))) (mC (.str "/")) (mFmt (mOp2 fIx (mVar 0) (mC (.int 1)))))))
def F_ratio_text : Mf := mDef 1 1 (M_ratio_text)
theorem ok_ratio_text {P : Program} {w : World} {K : PySem.W.Frag} {mg : Str → Option Value} {base : Heap} (T : Tx P K mg) : FnOk P w K mg base (L2.CX P w) 1 T.f_ratio_text T.d_ratio_text ["p"] (spF K mg 1 (F_ratio_text)) := by
  have h := fn_ok (P := P) (w := w) (mg := mg) (base := base) (k := 0) (N := ["p"]) (ps := ["p"]) (m := M_ratio_text) T.F_ratio_text sc_ratio_text fun cdv A outer s H E hr => by
    exact (mss_one (ms_ret (me_if (mt_cmp (op_eq2 (hu64 hr)) o2_eq2 (me_ix ix_seq o2_ix (me_var 0) me_int (fun _ _ => rfl)) me_int (nomark _)) (me_join1 (me_fmt (me_ix ix_seq o2_ix (me_var 0) me_int (fun _ _ => rfl)))) (me_join3 (me_fmt (me_ix ix_seq o2_ix (me_var 0) me_int (fun _ _ => rfl))) me_str (me_fmt (me_ix ix_seq o2_ix (me_var 0) me_int (fun _ _ => rfl)))))))
  exact h
def M_number_in : Ms := (mSeq (mAsg 1 (mVal (mIf (mCmp (fEq2 false) (mSl (mVar 0) mNoP (mPart (mC (.int 1)))) (mC (.str "-"))) (mSl (mVar 0) (mPart (mC (.int 1))) mNoP) (mVar 0)))) (mSeq (mIfS (mOrT (mCmp (fEq2 false) (mVar 1) (mC (.str ""))) (mOrT (mCmp (fCmp fun i j => decide (j < i)) (mCl fLen (mCons (mVar 1) mNil)) (mC (.int 40))) (mTru (mCl (fBs fun bs => bs.any id) (mCons (mLk (mComp [2] (mIt (mVar 1)) (tgName 2) mYes (mOp2 (bV (fInS true)) (mVar 2) (mC (.str "0123456789"))))) mNil))))) (mRaiseN "BadForm" 0) mNx) (mRet (mCl fInt (mCons (mVar 0) mNil)))))
def F_number_in : Mf := mDef 3 1 (M_number_in)
theorem ok_number_in {P : Program} {w : World} {K : PySem.W.Frag} {mg : Str → Option Value} {base : Heap} (T : Tx P K mg) : FnOk P w K mg base (L2.CX P w) 1 T.f_number_in T.d_number_in ["text"] (spF K mg 1 (F_number_in)) := by
  have h := fn_ok (P := P) (w := w) (mg := mg) (base := base) (k := 0) (N := ["text", "digits", "sign"]) (ps := ["text"]) (m := M_number_in) T.F_number_in sc_number_in fun cdv A outer s H E hr => by
    exact (mss_cons (ms_set (i := 1) sc_number_in.nd (ml_val (me_if (mt_cmp (op_eq2 (hu64 hr)) o2_eq2 (me_slice (me_var 0) mo_none (mo_some me_int)) me_str (nomark _)) (me_slice (me_var 0) (mo_some me_int) mo_none) (me_var 0))))
    (mss_cons (ms_if (mt_w (mw_or (mt_cmp (op_eq2 (hu64 hr)) o2_eq2 (me_var 1) me_str (nomark _)) (mw_or (mt_cmp op_gt o2_cmp (me_callB cr_len cl_len (by rfl) T.n_len (by decide +kernel) (ma_cons (me_var 1) ma_nil)) (me_c (pe_glob (v := .int 40) (by rfl) T.c_MAX_DIGITS ⟨_, rfl⟩) (fun _ => .int _)) (nomark _)) (mw_or1 (mt_tru (me_callB (cr_any rfl) cl_any (by rfl) T.n_any (by decide +kernel) (ma_cons (me_new (mn_comp (own := [(("sign" : Str), 2)]) rfl sc_number_in.nd (blkOk_by (by kernel_rfl)) (by decide) (mi_it (me_var 1)) (fun _ _ _ _ _ => (mg_name sc_number_in.nd)) (fun _ _ _ _ _ => mts_nil) (fun _ _ _ _ _ => (me_cmp op_notIn_sign o2_notInS (me_var 2) (me_c (pe_glob (v := .str "0123456789") (by rfl) T.c_DIGITS ⟨_, rfl⟩) (fun _ => .str _)) (by with_unfolding_all rfl))))) ma_nil))))))) (mss_one (ms_raiseBF rfl T.bf hr (takes_of rfl rfl rfl rfl))) mss_nil)
    (mss_one (ms_ret (me_callTy cr_int cl_int (by rfl) T.n_int (by decide +kernel) (ma_cons (me_var 0) ma_nil))))))
  exact h
def M_read_ratio : Ms := (mSeq (mUnp [1, 2, 3] (mPart3 (mVar 0) (mC (.str "/")))) (mSeq (mAsg 4 (mVal (mTup (mCons (mCall F_number_in (mCons (mVar 1) mNil)) (mCons (mIf (mTru (mVar 2)) (mCall F_number_in (mCons (mVar 3) mNil)) (mC (.int 1))) mNil))))) (mSeq (mIfS (mOrT (mNotT (mTru (mCall F_is_ratio (mCons (mVar 4) mNil)))) (mCmp (fEq2 true) (mCall F_ratio_text (mCons (mVar 4) mNil)) (mVar 0))) (mRaiseN "BadForm" 0) mNx) (mRet (mVar 4)))))
def F_read_ratio : Mf := mDef 5 1 (M_read_ratio)
theorem ok_read_ratio {P : Program} {w : World} {K : PySem.W.Frag} {mg : Str → Option Value} {base : Heap} (T : Tx P K mg) : FnOk P w K mg base (L2.CX P w) 3 T.f_read_ratio T.d_read_ratio ["text"] (spF K mg 1 (F_read_ratio)) := by
  have h := fn_ok (P := P) (w := w) (mg := mg) (base := base) (k := 2) (N := ["text", "first", "sign", "second", "found"]) (ps := ["text"]) (m := M_read_ratio) T.F_read_ratio sc_read_ratio fun cdv A outer s H E hr => by
    exact (mss_cons (ms_unp (is := [1, 2, 3]) rfl (me_partition (me_var 0) me_str) (mgs_cons (i := 1) sc_read_ratio.nd (mgs_cons (i := 2) sc_read_ratio.nd (mgs_cons (i := 3) sc_read_ratio.nd mgs_nil))))
    (mss_cons (ms_set (i := 4) sc_read_ratio.nd (ml_val (me_tup (ma_cons (me_call (takes_of rfl rfl rfl rfl) (ok_number_in T) (hr.mono (by decide)) (by rfl) T.g_number_in T.F_number_in.kp (b_number_in T) (ma_cons (me_var 1) ma_nil) (by rfl)) (ma_cons (me_if (mt_tru (me_var 2)) (me_call (takes_of rfl rfl rfl rfl) (ok_number_in T) (hr.mono (by decide)) (by rfl) T.g_number_in T.F_number_in.kp (b_number_in T) (ma_cons (me_var 3) ma_nil) (by rfl)) me_int) ma_nil)))))
    (mss_cons (ms_if (mt_w (mw_or (mt_not (mt_tru (me_call (takes_of rfl rfl rfl rfl) (ok_is_ratio T) (hr.mono (by decide)) (by rfl) T.g_is_ratio T.F_is_ratio.kp (b_is_ratio T) (ma_cons (me_var 4) ma_nil) (by rfl)))) (mw_or1 (mt_cmp (op_ne2 (hu64 hr)) o2_ne2 (me_call (takes_of rfl rfl rfl rfl) (ok_ratio_text T) (hr.mono (by decide)) (by rfl) T.g_ratio_text T.F_ratio_text.kp (b_ratio_text T) (ma_cons (me_var 4) ma_nil) (by rfl)) (me_var 0) (nomark _))))) (mss_one (ms_raiseBF rfl T.bf hr (takes_of rfl rfl rfl rfl))) mss_nil)
    (mss_one (ms_ret (me_var 4))))))
  exact h
end K17
end
-- Kd
section
set_option maxRecDepth 100000
set_option maxHeartbeats 4000000
namespace K17
open PySem PySem.Spec L2 FL
def M_is_net : Ms := (mSeq (mIfS (mOrT (mNotT (mTru (mIsI "tuple" (mVar 0)))) (mOrT mtNever mtNever)) (mRet (mC (.bool false))) mNx) (mSeq msNever (mSeq msNever (mSeq msNever msNever))))
def F_is_net : Mf := mDef 4 1 (M_is_net)
theorem ok_is_net {P : Program} {w : World} {K : PySem.W.Frag} {mg : Str → Option Value} {base : Heap} (T : Tx P K mg) : FnOk P w K mg base (L2.CX P w) 1 T.f_is_net T.d_is_net ["value"] (spF K mg 1 (F_is_net)) := by
  have h := fn_ok (P := P) (w := w) (mg := mg) (base := base) (k := 0) (N := ["value", "places", "moves", "one"]) (ps := ["value"]) (m := M_is_net) T.F_is_net sc_is_net fun cdv A outer s H E hr => by
    exact (mss_cons (ms_if (mt_w (mw_or (mt_not (mt_tru (me_isi (by rfl) T.n_isinstance (by rfl) T.n_tuple (by decide +kernel) (me_var 0)))) (mw_or mt_never (mw_or1 mt_never)))) (mss_one (ms_ret me_bl)) mss_nil)
    (mss_cons ms_never
    (mss_cons ms_never
    (mss_cons ms_never
    (mss_one ms_never)))))
  exact h
def M_check_net : Ms := (mIfS (mNotT (mTru (mCall F_is_net (mCons (mVar 0) mNil)))) (mRaise "NotAllowed") mNx)
def F_check_net : Mf := mDef 1 1 (M_check_net)
theorem ok_check_net {P : Program} {w : World} {K : PySem.W.Frag} {mg : Str → Option Value} {base : Heap} (T : Tx P K mg) : FnOk P w K mg base (L2.CX P w) 2 T.f_check_net T.d_check_net ["net"] (spF K mg 1 (F_check_net)) := by
  have h := fn_ok (P := P) (w := w) (mg := mg) (base := base) (k := 1) (N := ["net"]) (ps := ["net"]) (m := M_check_net) T.F_check_net sc_check_net fun cdv A outer s H E hr => by
    exact (mss_one (ms_if (mt_not (mt_tru (me_call (takes_of rfl rfl rfl rfl) (ok_is_net T) (hr.mono (by decide)) (by rfl) T.g_is_net T.F_is_net.kp (b_is_net T) (ma_cons (me_var 0) ma_nil) (by rfl)))) (mss_one (ms_raise PySem.F.excBase_ValueError rfl (takes_of rfl rfl rfl rfl) T.x_NotAllowed.q T.x_NotAllowed.g T.x_NotAllowed.k (raises_own T.x_NotAllowed.b T.x_NotAllowed.t) (by rfl))) mss_nil))
  exact h
def M_covers : Ms := (mRet (mCl (fBs fun bs => bs.all id) (mCons (mLk (mComp [2, 3] (mZip (mCons (mVar 0) (mCons (mVar 1) mNil))) (tgTup [2, 3]) mYes (mOp2 (bV (fCmp fun i j => decide (j ≤ i))) (mVar 2) (mVar 3)))) mNil)))
def F_covers : Mf := mDef 4 2 (M_covers)
theorem ok_covers {P : Program} {w : World} {K : PySem.W.Frag} {mg : Str → Option Value} {base : Heap} (T : Tx P K mg) : FnOk P w K mg base (L2.CX P w) 1 T.f_covers T.d_covers ["one", "other"] (spF K mg 2 (F_covers)) := by
  have h := fn_ok (P := P) (w := w) (mg := mg) (base := base) (k := 0) (N := ["one", "other", "a", "b"]) (ps := ["one", "other"]) (m := M_covers) T.F_covers sc_covers fun cdv A outer s H E hr => by
    exact (mss_one (ms_ret (me_callB (cr_all rfl) cl_all (by rfl) T.n_all (by decide +kernel) (ma_cons (me_new (mn_comp (own := [(("a" : Str), 2), (("b" : Str), 3)]) rfl sc_covers.nd (blkOk_by (by kernel_rfl)) (by decide) (mi_zip (by rfl) T.n_zip (ma_cons (me_var 0) (ma_cons (me_var 1) ma_nil))) (fun _ _ _ _ _ => (mg_tup (is := [2, 3]) rfl (mgs_cons (i := 2) sc_covers.nd (mgs_cons (i := 3) sc_covers.nd mgs_nil)))) (fun _ _ _ _ _ => mts_nil) (fun _ _ _ _ _ => (me_cmp op_ge o2_cmp (me_var 2) (me_var 3) (nomark _))))) ma_nil))))
  exact h
def M_added : Ms := (mRet (mCl fTuple (mCons (mLk (mComp [2, 3] (mZip (mCons (mVar 0) (mCons (mVar 1) mNil))) (tgTup [2, 3]) mYes (mOp2 fAdd (mVar 2) (mVar 3)))) mNil)))
def F_added : Mf := mDef 4 2 (M_added)
theorem ok_added {P : Program} {w : World} {K : PySem.W.Frag} {mg : Str → Option Value} {base : Heap} (T : Tx P K mg) : FnOk P w K mg base (L2.CX P w) 1 T.f_added T.d_added ["one", "other"] (spF K mg 2 (F_added)) := by
  have h := fn_ok (P := P) (w := w) (mg := mg) (base := base) (k := 0) (N := ["one", "other", "a", "b"]) (ps := ["one", "other"]) (m := M_added) T.F_added sc_added fun cdv A outer s H E hr => by
    exact (mss_one (ms_ret (me_callTy call_tuple_of cl_tuple (by rfl) T.n_tuple (by decide +kernel) (ma_cons (me_new (mn_comp (own := [(("a" : Str), 2), (("b" : Str), 3)]) rfl sc_added.nd (blkOk_by (by kernel_rfl)) (by decide) (mi_zip (by rfl) T.n_zip (ma_cons (me_var 0) (ma_cons (me_var 1) ma_nil))) (fun _ _ _ _ _ => (mg_tup (is := [2, 3]) rfl (mgs_cons (i := 2) sc_added.nd (mgs_cons (i := 3) sc_added.nd mgs_nil)))) (fun _ _ _ _ _ => mts_nil) (fun _ _ _ _ _ => (me_op op_rAdd o2_add (me_var 2) (me_var 3))))) ma_nil))))
  exact h
def M_less2 : Ms := (mRet (mCl fTuple (mCons (mLk (mComp [2, 3] (mZip (mCons (mVar 0) (mCons (mVar 1) mNil))) (tgTup [2, 3]) mYes (mOp2 (fInt2 (fun _ _ => true) fun i j => i - j) (mVar 2) (mVar 3)))) mNil)))
def F_less2 : Mf := mDef 4 2 (M_less2)
theorem ok_less2 {P : Program} {w : World} {K : PySem.W.Frag} {mg : Str → Option Value} {base : Heap} (T : Tx P K mg) : FnOk P w K mg base (L2.CX P w) 1 T.f_less2 T.d_less2 ["one", "other"] (spF K mg 2 (F_less2)) := by
  have h := fn_ok (P := P) (w := w) (mg := mg) (base := base) (k := 0) (N := ["one", "other", "a", "b"]) (ps := ["one", "other"]) (m := M_less2) T.F_less2 sc_less2 fun cdv A outer s H E hr => by
    exact (mss_one (ms_ret (me_callTy call_tuple_of cl_tuple (by rfl) T.n_tuple (by decide +kernel) (ma_cons (me_new (mn_comp (own := [(("a" : Str), 2), (("b" : Str), 3)]) rfl sc_less2.nd (blkOk_by (by kernel_rfl)) (by decide) (mi_zip (by rfl) T.n_zip (ma_cons (me_var 0) (ma_cons (me_var 1) ma_nil))) (fun _ _ _ _ _ => (mg_tup (is := [2, 3]) rfl (mgs_cons (i := 2) sc_less2.nd (mgs_cons (i := 3) sc_less2.nd mgs_nil)))) (fun _ _ _ _ _ => mts_nil) (fun _ _ _ _ _ => (me_op op_sub o2_int0 (me_var 2) (me_var 3))))) ma_nil))))
  exact h
def M_effect : Ms := (mSeq (mUnp [2, 3, 4] (mOp2 fIx (mOp2 fIx (mVar 0) (mC (.int 1))) (mVar 1))) (mRet (mCall F_less2 (mCons (mVar 4) (mCons (mVar 3) mNil)))))
def F_effect : Mf := mDef 5 2 (M_effect)
theorem ok_effect {P : Program} {w : World} {K : PySem.W.Frag} {mg : Str → Option Value} {base : Heap} (T : Tx P K mg) : FnOk P w K mg base (L2.CX P w) 2 T.f_effect T.d_effect ["net", "t"] (spF K mg 2 (F_effect)) := by
  have h := fn_ok (P := P) (w := w) (mg := mg) (base := base) (k := 1) (N := ["net", "t", "_", "takes", "gives"]) (ps := ["net", "t"]) (m := M_effect) T.F_effect sc_effect fun cdv A outer s H E hr => by
    exact (mss_cons (ms_unp (is := [2, 3, 4]) rfl (me_ix ix_seq o2_ix (me_ix ix_seq o2_ix (me_var 0) me_int (fun _ _ => rfl)) (me_var 1) (fun _ _ => rfl)) (mgs_cons (i := 2) sc_effect.nd (mgs_cons (i := 3) sc_effect.nd (mgs_cons (i := 4) sc_effect.nd mgs_nil))))
    (mss_one (ms_ret (me_call (takes_of rfl rfl rfl rfl) (ok_less2 T) (hr.mono (by decide)) (by rfl) T.g_less_nets T.F_less2.kp (b_less2 T) (ma_cons (me_var 4) (ma_cons (me_var 3) ma_nil)) (by rfl)))))
  exact h
def M_can_move : Ms := (mRet (mCall F_covers (mCons (mVar 1) (mCons (mOp2 fIx (mOp2 fIx (mOp2 fIx (mVar 0) (mC (.int 1))) (mVar 2)) (mC (.int 1))) mNil))))
def F_can_move : Mf := mDef 3 3 (M_can_move)
theorem ok_can_move {P : Program} {w : World} {K : PySem.W.Frag} {mg : Str → Option Value} {base : Heap} (T : Tx P K mg) : FnOk P w K mg base (L2.CX P w) 2 T.f_can_move T.d_can_move ["net", "marking", "t"] (spF K mg 3 (F_can_move)) := by
  have h := fn_ok (P := P) (w := w) (mg := mg) (base := base) (k := 1) (N := ["net", "marking", "t"]) (ps := ["net", "marking", "t"]) (m := M_can_move) T.F_can_move sc_can_move fun cdv A outer s H E hr => by
    exact (mss_one (ms_ret (me_call (takes_of rfl rfl rfl rfl) (ok_covers T) (hr.mono (by decide)) (by rfl) T.g_covers T.F_covers.kp (b_covers T) (ma_cons (me_var 1) (ma_cons (me_ix ix_seq o2_ix (me_ix ix_seq o2_ix (me_ix ix_seq o2_ix (me_var 0) me_int (fun _ _ => rfl)) (me_var 2) (fun _ _ => rfl)) me_int (fun _ _ => rfl)) ma_nil)) (by rfl))))
  exact h
def M_moves_of : Ms := (mRet (mCl fTuple (mCons (mLk (mComp [2] (mRng1 (mCons (mCl fLen (mCons (mOp2 fIx (mVar 0) (mC (.int 1))) mNil)) mNil)) (tgName 2) (mTru (mCall F_can_move (mCons (mVar 0) (mCons (mVar 1) (mCons (mVar 2) mNil))))) (mVar 2))) mNil)))
def F_moves_of : Mf := mDef 3 2 (M_moves_of)
theorem ok_moves_of {P : Program} {w : World} {K : PySem.W.Frag} {mg : Str → Option Value} {base : Heap} (T : Tx P K mg) : FnOk P w K mg base (L2.CX P w) 3 T.f_moves_of T.d_moves_of ["net", "marking"] (spF K mg 2 (F_moves_of)) := by
  have h := fn_ok (P := P) (w := w) (mg := mg) (base := base) (k := 2) (N := ["net", "marking", "t"]) (ps := ["net", "marking"]) (m := M_moves_of) T.F_moves_of sc_moves_of fun cdv A outer s H E hr => by
    exact (mss_one (ms_ret (me_callTy call_tuple_of cl_tuple (by rfl) T.n_tuple (by decide +kernel) (ma_cons (me_new (mn_comp (own := [(("t" : Str), 2)]) rfl sc_moves_of.nd (blkOk_by (by kernel_rfl)) (by decide) (mi_range1 (by rfl) T.n_range (ma_cons (me_callB cr_len cl_len (by rfl) T.n_len (by decide +kernel) (ma_cons (me_ix ix_seq o2_ix (me_var 0) me_int (fun _ _ => rfl)) ma_nil)) ma_nil)) (fun _ _ _ _ _ => (mg_name sc_moves_of.nd)) (fun _ _ _ _ _ => (mts_one (mt_tru (me_call takes0 (ok_can_move T) (hr.mono (by decide)) (by rfl) T.g_can_move T.F_can_move.kp (b_can_move T) (ma_cons (me_var 0) (ma_cons (me_var 1) (ma_cons (me_var 2) ma_nil))) (by rfl))))) (fun _ _ _ _ _ => (me_var 2)))) ma_nil))))
  exact h
def M_space_of : Ms := (mSeq (mPar [3, 4, 5, 6] (mConsL (mOwn (mLst (mCons (mVar 1) mNil))) (mConsL (mD1 true (mVar 1) (mC (.int 0))) (mConsL (mOwn (mLst mNil)) (mConsL (mVal (mC (.int 0))) mNilL))))) (mSeq (mWhile 20 (mCmp (fCmp fun i j => decide (i < j)) (mVar 6) (mCl fLen (mCons (mVar 3) mNil))) (mSeq (mFor (mIt (mCall F_moves_of (mCons (mVar 0) (mCons (mOp2 fIx (mVar 3) (mVar 6)) mNil)))) (tgName 7) (mSeq (mAsg 8 (mVal (mCall F_added (mCons (mOp2 fIx (mVar 3) (mVar 6)) (mCons (mCall F_effect (mCons (mVar 0) (mCons (mVar 7) mNil))) mNil))))) (mSeq (mIfS (mCmp (fDIn true) (mVar 8) (mVar 4)) (mSeq (mIfS (mCmp (fEq2 false) (mCl fLen (mCons (mVar 3) mNil)) (mVar 2)) (mRaise "Missing") mNx) (mSeq (mDPut 4 (mVar 8) (mCl fLen (mCons (mVar 3) mNil))) (mApp 3 (mVar 8)))) mNx) (mApp 5 (mTup (mCons (mVar 6) (mCons (mVar 7) (mCons (mDGet (mVar 4) (mVar 8)) mNil)))))))) (mAug 6 (mC (.int 1))))) (mRet (mTup (mCons (mCl fTuple (mCons (mVar 3) mNil)) (mCons (mCl fTuple (mCons (mVar 5) mNil)) mNil))))))
def F_space_of : Mf := mDef 9 3 (M_space_of)
theorem ok_space_of {P : Program} {w : World} {K : PySem.W.Frag} {mg : Str → Option Value} {base : Heap} (T : Tx P K mg) : FnOk P w K mg base (L2.CX P w) 4 T.f_space_of T.d_space_of ["net", "marking", "most"] (spF K mg 3 (F_space_of)) := by
  have h := fn_ok (P := P) (w := w) (mg := mg) (base := base) (k := 3) (N := ["net", "marking", "most", "found", "places", "arcs", "at", "t", "other"]) (ps := ["net", "marking", "most"]) (m := M_space_of) T.F_space_of sc_space_of fun cdv A outer s H E hr => by
    exact (mss_cons (ms_parN (is := [3, 4, 5, 6]) rfl (mas_cons (ml_own (mn_lst (ma_cons (me_var 1) ma_nil))) (mas_cons (ml_d1 true (hu_of hr) (me_var 1) me_int) (mas_cons (ml_own (mn_lst ma_nil)) (mas_cons (ml_val me_int) mas_nil)))) (mgs_cons (i := 3) sc_space_of.nd (mgs_cons (i := 4) sc_space_of.nd (mgs_cons (i := 5) sc_space_of.nd (mgs_cons (i := 6) sc_space_of.nd mgs_nil)))))
    (mss_cons (ms_while 20 (passes_of rfl) (mt_cmp op_lt o2_cmp (me_var 6) (me_callB cr_len cl_len (by rfl) T.n_len (by decide +kernel) (ma_cons (me_var 3) ma_nil)) (nomark _)) (mss_cons (ms_for (passes_of rfl) rfl (mi_it (me_call (takes_of rfl rfl rfl rfl) (ok_moves_of T) (hr.mono (by decide)) (by rfl) T.g_moves_of T.F_moves_of.kp (b_moves_of T) (ma_cons (me_var 0) (ma_cons (me_ix ix_seq o2_ix (me_var 3) (me_var 6) (fun _ _ => rfl)) ma_nil)) (by rfl))) (mg_name sc_space_of.nd) (mss_cons (ms_set (i := 8) sc_space_of.nd (ml_val (me_call (takes_of rfl rfl rfl rfl) (ok_added T) (hr.mono (by decide)) (by rfl) T.g_added T.F_added.kp (b_added T) (ma_cons (me_ix ix_seq o2_ix (me_var 3) (me_var 6) (fun _ _ => rfl)) (ma_cons (me_call (takes_of rfl rfl rfl rfl) (ok_effect T) (hr.mono (by decide)) (by rfl) T.g_effect T.F_effect.kp (b_effect T) (ma_cons (me_var 0) (ma_cons (me_var 7) ma_nil)) (by rfl)) ma_nil)) (by rfl))))
    (mss_cons (ms_if (mt_dnotin (hu_of hr) (me_var 8) (me_var 4)) (mss_cons (ms_if (mt_cmp (op_eq2 (hu64 hr)) o2_eq2 (me_callB cr_len cl_len (by rfl) T.n_len (by decide +kernel) (ma_cons (me_var 3) ma_nil)) (me_var 2) (nomark _)) (mss_one (ms_raise PySem.F.excBase_ValueError rfl (takes_of rfl rfl rfl rfl) T.x_Missing.q T.x_Missing.g T.x_Missing.k (raises_own T.x_Missing.b T.x_Missing.t) (by rfl))) mss_nil)
    (mss_cons (ms_dput 4 (hu_of hr) (me_var 8) (me_callB cr_len cl_len (by rfl) T.n_len (by decide +kernel) (ma_cons (me_var 3) ma_nil)))
    (mss_one (ms_app 3 (me_var 8))))) mss_nil)
    (mss_one (ms_app 5 (me_tup (ma_cons (me_var 6) (ma_cons (me_var 7) (ma_cons (me_dget (hu_of hr) (me_var 4) (me_var 8) (fun _ _ => rfl)) ma_nil)))))))))
    (mss_one (ms_aug 6 sc_space_of.nd me_int))))
    (mss_one (ms_ret (me_tup (ma_cons (me_callTy call_tuple_of cl_tuple (by rfl) T.n_tuple (by decide +kernel) (ma_cons (me_var 3) ma_nil)) (ma_cons (me_callTy call_tuple_of cl_tuple (by rfl) T.n_tuple (by decide +kernel) (ma_cons (me_var 5) ma_nil)) ma_nil)))))))
  exact h
def M_least_runs : Ms := (mSeq (mUnp [1, 2] (mVar 0)) (mSeq (mAsg 3 (mD1 false (mC (.int 0)) (mTup mNil))) (mSeq (mFor (mIt (mVar 2)) (tgTup [4, 5, 6]) (mIfS (mCmp (fDIn true) (mVar 6) (mVar 3)) (mDPut 3 (mVar 6) (mOp2 fAdd (mDGet (mVar 3) (mVar 4)) (mTup (mCons (mVar 5) mNil)))) mNx)) (mRet (mCl fTuple (mCons (mLk (mComp [7] (mRng1 (mCons (mCl fLen (mCons (mVar 1) mNil)) mNil)) (tgName 7) mYes (mDGet (mVar 3) (mVar 7)))) mNil))))))
def F_least_runs : Mf := mDef 8 1 (M_least_runs)
theorem ok_least_runs {P : Program} {w : World} {K : PySem.W.Frag} {mg : Str → Option Value} {base : Heap} (T : Tx P K mg) : FnOk P w K mg base (L2.CX P w) 1 T.f_least_runs T.d_least_runs ["space"] (spF K mg 1 (F_least_runs)) := by
  have h := fn_ok (P := P) (w := w) (mg := mg) (base := base) (k := 0) (N := ["space", "markings", "arcs", "runs", "i", "t", "j", "k"]) (ps := ["space"]) (m := M_least_runs) T.F_least_runs sc_least_runs fun cdv A outer s H E hr => by
    exact (mss_cons (ms_unp (is := [1, 2]) rfl (me_var 0) (mgs_cons (i := 1) sc_least_runs.nd (mgs_cons (i := 2) sc_least_runs.nd mgs_nil)))
    (mss_cons (ms_set (i := 3) sc_least_runs.nd (ml_d1 false (hu_of hr) me_int (me_tup ma_nil)))
    (mss_cons (ms_for (passes_of rfl) rfl (mi_it (me_var 2)) (mg_tup (is := [4, 5, 6]) rfl (mgs_cons (i := 4) sc_least_runs.nd (mgs_cons (i := 5) sc_least_runs.nd (mgs_cons (i := 6) sc_least_runs.nd mgs_nil)))) (mss_one (ms_if (mt_dnotin (hu_of hr) (me_var 6) (me_var 3)) (mss_one (ms_dput 3 (hu_of hr) (me_var 6) (me_op op_rAdd o2_add (me_dget (hu_of hr) (me_var 3) (me_var 4) (fun _ _ => rfl)) (me_tup (ma_cons (me_var 5) ma_nil))))) mss_nil)))
    (mss_one (ms_ret (me_callTy call_tuple_of cl_tuple (by rfl) T.n_tuple (by decide +kernel) (ma_cons (me_new (mn_comp (own := [(("k" : Str), 7)]) rfl sc_least_runs.nd (blkOk_by (by kernel_rfl)) (by decide) (mi_range1 (by rfl) T.n_range (ma_cons (me_callB cr_len cl_len (by rfl) T.n_len (by decide +kernel) (ma_cons (me_var 1) ma_nil)) ma_nil)) (fun _ _ _ _ _ => (mg_name sc_least_runs.nd)) (fun _ _ _ _ _ => mts_nil) (fun _ _ _ _ _ => (me_dget (hu_of hr) (me_var 3) (me_var 7) (fun _ _ => rfl))))) ma_nil)))))))
  exact h
def M_run_to : Ms := (mSeq (mAsg 4 (mVal (mCall F_space_of (mCons (mVar 0) (mCons (mVar 1) (mCons (mVar 3) mNil)))))) (mSeq (mFor (mZip (mCons (mOp2 fIx (mVar 4) (mC (.int 0))) (mCons (mCall F_least_runs (mCons (mVar 4) mNil)) mNil))) (tgTup [5, 6]) (mIfS (mCmp (fEq2 false) (mVar 5) (mVar 2)) (mRet (mVar 6)) mNx)) (mRaise "Missing")))
def F_run_to : Mf := mDef 7 4 (M_run_to)
theorem ok_run_to {P : Program} {w : World} {K : PySem.W.Frag} {mg : Str → Option Value} {base : Heap} (T : Tx P K mg) : FnOk P w K mg base (L2.CX P w) 5 T.f_run_to T.d_run_to ["net", "marking", "goal", "most"] (spF K mg 4 (F_run_to)) := by
  have h := fn_ok (P := P) (w := w) (mg := mg) (base := base) (k := 4) (N := ["net", "marking", "goal", "most", "space", "one", "run"]) (ps := ["net", "marking", "goal", "most"]) (m := M_run_to) T.F_run_to sc_run_to fun cdv A outer s H E hr => by
    exact (mss_cons (ms_set (i := 4) sc_run_to.nd (ml_val (me_call (takes_of rfl rfl rfl rfl) (ok_space_of T) (hr.mono (by decide)) (by rfl) T.g_space_of T.F_space_of.kp (b_space_of T) (ma_cons (me_var 0) (ma_cons (me_var 1) (ma_cons (me_var 3) ma_nil))) (by rfl))))
    (mss_cons (ms_for (passes_of rfl) rfl (mi_zip (by rfl) T.n_zip (ma_cons (me_ix ix_seq o2_ix (me_var 4) me_int (fun _ _ => rfl)) (ma_cons (me_call (takes_of rfl rfl rfl rfl) (ok_least_runs T) (hr.mono (by decide)) (by rfl) T.g_least_runs T.F_least_runs.kp (b_least_runs T) (ma_cons (me_var 4) ma_nil) (by rfl)) ma_nil))) (mg_tup (is := [5, 6]) rfl (mgs_cons (i := 5) sc_run_to.nd (mgs_cons (i := 6) sc_run_to.nd mgs_nil))) (mss_one (ms_if (mt_cmp (op_eq2 (hu64 hr)) o2_eq2 (me_var 5) (me_var 2) (nomark _)) (mss_one (ms_ret (me_var 6))) mss_nil)))
    (mss_one (ms_raise PySem.F.excBase_ValueError rfl (takes_of rfl rfl rfl rfl) T.x_Missing.q T.x_Missing.g T.x_Missing.k (raises_own T.x_Missing.b T.x_Missing.t) (by rfl)))))
  exact h
def M_check_wall : Ms := (mSeq (mIfS (mOrT (mNotT (mTru (mIsI "tuple" (mVar 3)))) (mOrT mtNever (mOrT mtNever mtNever))) (mRaise "BadPaper") mNx) msNever)
def F_check_wall : Mf := mDef 4 4 (M_check_wall)
theorem ok_check_wall {P : Program} {w : World} {K : PySem.W.Frag} {mg : Str → Option Value} {base : Heap} (T : Tx P K mg) : FnOk P w K mg base (L2.CX P w) 1 T.f_check_wall T.d_check_wall ["net", "marking", "goal", "wall"] (spF K mg 4 (F_check_wall)) := by
  have h := fn_ok (P := P) (w := w) (mg := mg) (base := base) (k := 0) (N := ["net", "marking", "goal", "wall"]) (ps := ["net", "marking", "goal", "wall"]) (m := M_check_wall) T.F_check_wall sc_check_wall fun cdv A outer s H E hr => by
    exact (mss_cons (ms_if (mt_w (mw_or (mt_not (mt_tru (me_isi (by rfl) T.n_isinstance (by rfl) T.n_tuple (by decide +kernel) (me_var 3)))) (mw_or mt_never (mw_or mt_never (mw_or1 mt_never))))) (mss_one (ms_raise PySem.F.excBase_ValueError rfl (takes_of rfl rfl rfl rfl) T.x_BadPaper.q T.x_BadPaper.g T.x_BadPaper.k (raises_own T.x_BadPaper.b T.x_BadPaper.t) (by rfl))) mss_nil)
    (mss_one ms_never))
  exact h
def M_judge_reach : Ms := (mSeq (mIfS (mOrT (mNotT (mTru (mIsI "str" (mVar 1)))) (mCmp (fIn true) (mVar 1) (mTup (mCons (mC (.str "yes")) (mCons (mC (.str "no")) mNil))))) (mRaise "BadPaper") mNx) (mSeq (mUnp [3, 4, 5, 6] (mVar 0)) (mIfS (mCmp (fEq2 false) (mVar 1) (mC (.str "no"))) (mDrop (mCall F_check_wall (mCons (mVar 4) (mCons (mVar 5) (mCons (mVar 6) (mCons (mVar 2) mNil)))))) msNever)))
def F_judge_reach : Mf := mDef 7 3 (M_judge_reach)
theorem ok_judge_reach {P : Program} {w : World} {K : PySem.W.Frag} {mg : Str → Option Value} {base : Heap} (T : Tx P K mg) : FnOk P w K mg base (L2.CX P w) 2 T.f_judge_reach T.d_judge_reach ["question", "answer", "paper"] (spF K mg 3 (F_judge_reach)) := by
  have h := fn_ok (P := P) (w := w) (mg := mg) (base := base) (k := 1) (N := ["question", "answer", "paper", "_", "net", "marking", "goal"]) (ps := ["question", "answer", "paper"]) (m := M_judge_reach) T.F_judge_reach sc_judge_reach fun cdv A outer s H E hr => by
    exact (mss_cons (ms_if (mt_w (mw_or (mt_not (mt_tru (me_isi (by rfl) T.n_isinstance (by rfl) T.n_str (by decide +kernel) (me_var 1)))) (mw_or1 (mt_cmp op_notIn_seq o2_in (me_var 1) (me_tup (ma_cons me_str (ma_cons me_str ma_nil))) (by with_unfolding_all rfl))))) (mss_one (ms_raise PySem.F.excBase_ValueError rfl (takes_of rfl rfl rfl rfl) T.x_BadPaper.q T.x_BadPaper.g T.x_BadPaper.k (raises_own T.x_BadPaper.b T.x_BadPaper.t) (by rfl))) mss_nil)
    (mss_cons (ms_unp (is := [3, 4, 5, 6]) rfl (me_var 0) (mgs_cons (i := 3) sc_judge_reach.nd (mgs_cons (i := 4) sc_judge_reach.nd (mgs_cons (i := 5) sc_judge_reach.nd (mgs_cons (i := 6) sc_judge_reach.nd mgs_nil)))))
    (mss_one (ms_if (mt_cmp (op_eq2 (hu64 hr)) o2_eq2 (me_var 1) me_str (nomark _)) (mss_one (ms_drop (me_call (takes_of rfl rfl rfl rfl) (ok_check_wall T) (hr.mono (by decide)) (by rfl) T.g_check_wall T.F_check_wall.kp (b_check_wall T) (ma_cons (me_var 4) (ma_cons (me_var 5) (ma_cons (me_var 6) (ma_cons (me_var 2) ma_nil)))) (by rfl)))) mss_never))))
  exact h
end K17
end
-- Ke
section
set_option maxRecDepth 100000
set_option maxHeartbeats 4000000
namespace K17
open PySem PySem.Spec L2 FL
def M__law_take : Ms := (mSeq (mIfS (mCmp (fEq2 false) (mDrI 0 2) (mC (.int 0))) (mSeq (mDrSet 0 1 (mOp2 fAdd (mDrI 0 1) (mC (.int 1)))) (mSeq (mIfS (mCmp (fCmp fun i j => decide (i < j)) (mDrI 0 1) (mCl fLen (mCons (mDrI 0 0) mNil))) (mDrSet 0 2 (mOp2 (fInt2 cMod fun i j => i % j) (mOp2 fIx (mDrI 0 0) (mDrI 0 1)) (mC (.int 2147483647)))) mNx) (mIfS (mCmp (fEq2 false) (mDrI 0 2) (mC (.int 0))) (mSeq (mDrSet 0 3 (mOp2 (fInt2 cMod fun i j => i % j) (mCl fInt (mCons (mOp2 fAdd (mOp2 fMul2 (mDrI 0 3) (mC (.int 48271))) (mC (.int 11))) mNil)) (mC (.int 2147483647)))) (mDrSet 0 2 (mDrI 0 3))) mNx))) mNx) (mSeq (mAsg 2 (mVal (mOp2 (fInt2 cMod fun i j => i % j) (mCl fInt (mCons (mDrI 0 2) mNil)) (mVar 1)))) (mSeq (mDrSet 0 2 (mOp2 (fInt2 cDiv fun i j => i / j) (mDrI 0 2) (mVar 1))) (mRet (mVar 2)))))
def F__law_take : Mf := mDef 3 2 (M__law_take)
theorem ok__law_take {P : Program} {w : World} {K : PySem.W.Frag} {mg : Str → Option Value} {base : Heap} (T : Tx P K mg) : FnOk P w K mg base (L2.CX P w) 1 T.f__law_take T.d__law_take ["draw", "many"] (spF K mg 2 (F__law_take)) := by
  have h := fn_ok (P := P) (w := w) (mg := mg) (base := base) (k := 0) (N := ["draw", "many", "found"]) (ps := ["draw", "many"]) (m := M__law_take) T.F__law_take sc__law_take fun cdv A outer s H E hr => by
    exact (mss_cons (ms_if (mt_cmp (op_eq2 (hu64 hr)) o2_eq2 (me_drI 0 2) me_int (nomark _)) (mss_cons (ms_drSet 0 1 (me_op op_rAdd o2_add (me_drI 0 1) me_int))
    (mss_cons (ms_if (mt_cmp op_lt o2_cmp (me_drI 0 1) (me_callB cr_len cl_len (by rfl) T.n_len (by decide +kernel) (ma_cons (me_drI 0 0) ma_nil)) (nomark _)) (mss_one (ms_drSet 0 2 (me_op op_mod (o2_int cMod_ok) (me_ix ix_seq o2_ix (me_drI 0 0) (me_drI 0 1) (fun _ _ => rfl)) me_int))) mss_nil)
    (mss_one (ms_if (mt_cmp (op_eq2 (hu64 hr)) o2_eq2 (me_drI 0 2) me_int (nomark _)) (mss_cons (ms_drSet 0 3 (me_op op_mod (o2_int cMod_ok) (me_callTy cr_int cl_int (by rfl) T.n_int (by decide +kernel) (ma_cons (me_op op_rAdd o2_add (me_op op_mul2 o2_mul2 (me_drI 0 3) me_int) me_int) ma_nil)) me_int))
    (mss_one (ms_drSet 0 2 (me_drI 0 3)))) mss_nil)))) mss_nil)
    (mss_cons (ms_set (i := 2) sc__law_take.nd (ml_val (me_op op_mod (o2_int cMod_ok) (me_callTy cr_int cl_int (by rfl) T.n_int (by decide +kernel) (ma_cons (me_drI 0 2) ma_nil)) (me_var 1))))
    (mss_cons (ms_drSet 0 2 (me_op op_fdiv (o2_int cDiv_ok) (me_drI 0 2) (me_var 1)))
    (mss_one (ms_ret (me_var 2))))))
  exact h
def M__law_plus : Ms := (mRet (mCall F__law_low (mCons (mOp2 fAdd (mOp2 fMul2 (mOp2 fIx (mVar 0) (mC (.int 0))) (mOp2 fIx (mVar 1) (mC (.int 1)))) (mOp2 fMul2 (mOp2 fIx (mVar 1) (mC (.int 0))) (mOp2 fIx (mVar 0) (mC (.int 1))))) (mCons (mOp2 fMul2 (mOp2 fIx (mVar 0) (mC (.int 1))) (mOp2 fIx (mVar 1) (mC (.int 1)))) mNil))))
def F__law_plus : Mf := mDef 2 2 (M__law_plus)
theorem ok__law_plus {P : Program} {w : World} {K : PySem.W.Frag} {mg : Str → Option Value} {base : Heap} (T : Tx P K mg) : FnOk P w K mg base (L2.CX P w) 2 T.f__law_plus T.d__law_plus ["p", "q"] (spF K mg 2 (F__law_plus)) := by
  have h := fn_ok (P := P) (w := w) (mg := mg) (base := base) (k := 1) (N := ["p", "q"]) (ps := ["p", "q"]) (m := M__law_plus) T.F__law_plus sc__law_plus fun cdv A outer s H E hr => by
    exact (mss_one (ms_ret (me_call (takes_of rfl rfl rfl rfl) (ok__law_low T) (hr.mono (by decide)) (by rfl) T.g__law_low T.F__law_low.kp (b__law_low T) (ma_cons (me_op op_rAdd o2_add (me_op op_mul2 o2_mul2 (me_ix ix_seq o2_ix (me_var 0) me_int (fun _ _ => rfl)) (me_ix ix_seq o2_ix (me_var 1) me_int (fun _ _ => rfl))) (me_op op_mul2 o2_mul2 (me_ix ix_seq o2_ix (me_var 1) me_int (fun _ _ => rfl)) (me_ix ix_seq o2_ix (me_var 0) me_int (fun _ _ => rfl)))) (ma_cons (me_op op_mul2 o2_mul2 (me_ix ix_seq o2_ix (me_var 0) me_int (fun _ _ => rfl)) (me_ix ix_seq o2_ix (me_var 1) me_int (fun _ _ => rfl))) ma_nil)) (by rfl))))
  exact h
def M__law_minus : Ms := (mRet (mCall F__law_low (mCons (mOp2 (fInt2 (fun _ _ => true) fun i j => i - j) (mOp2 fMul2 (mOp2 fIx (mVar 0) (mC (.int 0))) (mOp2 fIx (mVar 1) (mC (.int 1)))) (mOp2 fMul2 (mOp2 fIx (mVar 1) (mC (.int 0))) (mOp2 fIx (mVar 0) (mC (.int 1))))) (mCons (mOp2 fMul2 (mOp2 fIx (mVar 0) (mC (.int 1))) (mOp2 fIx (mVar 1) (mC (.int 1)))) mNil))))
def F__law_minus : Mf := mDef 2 2 (M__law_minus)
theorem ok__law_minus {P : Program} {w : World} {K : PySem.W.Frag} {mg : Str → Option Value} {base : Heap} (T : Tx P K mg) : FnOk P w K mg base (L2.CX P w) 2 T.f__law_minus T.d__law_minus ["p", "q"] (spF K mg 2 (F__law_minus)) := by
  have h := fn_ok (P := P) (w := w) (mg := mg) (base := base) (k := 1) (N := ["p", "q"]) (ps := ["p", "q"]) (m := M__law_minus) T.F__law_minus sc__law_minus fun cdv A outer s H E hr => by
    exact (mss_one (ms_ret (me_call (takes_of rfl rfl rfl rfl) (ok__law_low T) (hr.mono (by decide)) (by rfl) T.g__law_low T.F__law_low.kp (b__law_low T) (ma_cons (me_op op_sub o2_int0 (me_op op_mul2 o2_mul2 (me_ix ix_seq o2_ix (me_var 0) me_int (fun _ _ => rfl)) (me_ix ix_seq o2_ix (me_var 1) me_int (fun _ _ => rfl))) (me_op op_mul2 o2_mul2 (me_ix ix_seq o2_ix (me_var 1) me_int (fun _ _ => rfl)) (me_ix ix_seq o2_ix (me_var 0) me_int (fun _ _ => rfl)))) (ma_cons (me_op op_mul2 o2_mul2 (me_ix ix_seq o2_ix (me_var 0) me_int (fun _ _ => rfl)) (me_ix ix_seq o2_ix (me_var 1) me_int (fun _ _ => rfl))) ma_nil)) (by rfl))))
  exact h
def M__law_times : Ms := (mRet (mCall F__law_low (mCons (mOp2 fMul2 (mOp2 fIx (mVar 0) (mC (.int 0))) (mOp2 fIx (mVar 1) (mC (.int 0)))) (mCons (mOp2 fMul2 (mOp2 fIx (mVar 0) (mC (.int 1))) (mOp2 fIx (mVar 1) (mC (.int 1)))) mNil))))
def F__law_times : Mf := mDef 2 2 (M__law_times)
theorem ok__law_times {P : Program} {w : World} {K : PySem.W.Frag} {mg : Str → Option Value} {base : Heap} (T : Tx P K mg) : FnOk P w K mg base (L2.CX P w) 2 T.f__law_times T.d__law_times ["p", "q"] (spF K mg 2 (F__law_times)) := by
  have h := fn_ok (P := P) (w := w) (mg := mg) (base := base) (k := 1) (N := ["p", "q"]) (ps := ["p", "q"]) (m := M__law_times) T.F__law_times sc__law_times fun cdv A outer s H E hr => by
    exact (mss_one (ms_ret (me_call (takes_of rfl rfl rfl rfl) (ok__law_low T) (hr.mono (by decide)) (by rfl) T.g__law_low T.F__law_low.kp (b__law_low T) (ma_cons (me_op op_mul2 o2_mul2 (me_ix ix_seq o2_ix (me_var 0) me_int (fun _ _ => rfl)) (me_ix ix_seq o2_ix (me_var 1) me_int (fun _ _ => rfl))) (ma_cons (me_op op_mul2 o2_mul2 (me_ix ix_seq o2_ix (me_var 0) me_int (fun _ _ => rfl)) (me_ix ix_seq o2_ix (me_var 1) me_int (fun _ _ => rfl))) ma_nil)) (by rfl))))
  exact h
def M__law_less : Ms := (mRet (mOp2 (bV (fCmp fun i j => decide (i < j))) (mOp2 fMul2 (mOp2 fIx (mVar 0) (mC (.int 0))) (mOp2 fIx (mVar 1) (mC (.int 1)))) (mOp2 fMul2 (mOp2 fIx (mVar 1) (mC (.int 0))) (mOp2 fIx (mVar 0) (mC (.int 1))))))
def F__law_less : Mf := mDef 2 2 (M__law_less)
theorem ok__law_less {P : Program} {w : World} {K : PySem.W.Frag} {mg : Str → Option Value} {base : Heap} (T : Tx P K mg) : FnOk P w K mg base (L2.CX P w) 1 T.f__law_less T.d__law_less ["p", "q"] (spF K mg 2 (F__law_less)) := by
  have h := fn_ok (P := P) (w := w) (mg := mg) (base := base) (k := 0) (N := ["p", "q"]) (ps := ["p", "q"]) (m := M__law_less) T.F__law_less sc__law_less fun cdv A outer s H E hr => by
    exact (mss_one (ms_ret (me_cmp op_lt o2_cmp (me_op op_mul2 o2_mul2 (me_ix ix_seq o2_ix (me_var 0) me_int (fun _ _ => rfl)) (me_ix ix_seq o2_ix (me_var 1) me_int (fun _ _ => rfl))) (me_op op_mul2 o2_mul2 (me_ix ix_seq o2_ix (me_var 1) me_int (fun _ _ => rfl)) (me_ix ix_seq o2_ix (me_var 0) me_int (fun _ _ => rfl))) (nomark _))))
  exact h
def M__law_due : Ms := (mSeq (mAsg 1 (mVal (mLk (mSplit (mVar 0) (mC (.str "/")))))) (mSeq (mIfS (mOrT (mCmp (fCmp fun i j => decide (j < i)) (mCl fLen (mCons (mVar 1) mNil)) (mC (.int 2))) (mCmp (fEq2 true) (mLk (mComp [3] (mIt (mVar 1)) (tgName 3) (mOrT (mCmp (fEq2 false) (mVar 3) (mC (.str ""))) (mOrT (mCmp (fEq2 false) (mVar 3) (mC (.str "-"))) (mOrT (mCmp (fCmp fun i j => decide (j < i)) (mLenRep1 (mVar 3) "-" "") (mC (.int 40))) (mCmp (fEq2 true) (mLk (mComp [4] (mIt (mIf (mCmp (fEq2 false) (mOp2 fIx (mVar 3) (mC (.int 0))) (mC (.str "-"))) (mSl (mVar 3) (mPart (mC (.int 1))) mNoP) (mVar 3))) (tgName 4) (mCmp (fInS true) (mVar 4) (mC (.str "0123456789"))) (mVar 4))) (mLk (mLst mNil)))))) (mVar 3))) (mLk (mLst mNil)))) (mRet (mC .none)) mNx) (mSeq (mAsg 2 (mVal (mTup (mCons (mCl fInt (mCons (mOp2 fIx (mVar 1) (mC (.int 0))) mNil)) (mCons (mIf (mCmp (fEq2 false) (mCl fLen (mCons (mVar 1) mNil)) (mC (.int 2))) (mCl fInt (mCons (mOp2 fIx (mVar 1) (mC (.int 1))) mNil)) (mC (.int 1))) mNil))))) (mSeq (mIfS (mOrT (mCmp (fCmp fun i j => decide (i < j)) (mOp2 fIx (mVar 2) (mC (.int 1))) (mC (.int 1))) (mCmp (fEq2 true) (mCall F__law_low (mCons (mOp2 fIx (mVar 2) (mC (.int 0))) (mCons (mOp2 fIx (mVar 2) (mC (.int 1))) mNil))) (mVar 2))) (mRet (mC .none)) mNx) (mRet (mIf (mCmp (fEq2 false) (mIf (mCmp (fEq2 false) (mOp2 fIx (mVar 2) (mC (.int 1))) (mC (.int 1))) (mCl fStr (mCons (mOp2 fIx (mVar 2) (mC (.int 0))) mNil)) (mOp2 fAdd (mOp2 fAdd (mCl fStr (mCons (mOp2 fIx (mVar 2) (mC (.int 0))) mNil)) (mC (.str "/"))) (mCl fStr (mCons (mOp2 fIx (mVar 2) (mC (.int 1))) mNil)))) (mVar 0)) (mVar 2) (mC .none)))))))
def F__law_due : Mf := mDef 5 1 (M__law_due)
theorem ok__law_due {P : Program} {w : World} {K : PySem.W.Frag} {mg : Str → Option Value} {base : Heap} (T : Tx P K mg) : FnOk P w K mg base (L2.CX P w) 2 T.f__law_due T.d__law_due ["text"] (spF K mg 1 (F__law_due)) := by
  have h := fn_ok (P := P) (w := w) (mg := mg) (base := base) (k := 1) (N := ["text", "parts", "found", "part", "s"]) (ps := ["text"]) (m := M__law_due) T.F__law_due sc__law_due fun cdv A outer s H E hr => by
    exact (mss_cons (ms_set (i := 1) sc__law_due.nd (ml_val (me_new (mn_split (me_var 0) me_str))))
    (mss_cons (ms_if (mt_w (mw_or (mt_cmp op_gt o2_cmp (me_callB cr_len cl_len (by rfl) T.n_len (by decide +kernel) (ma_cons (me_var 1) ma_nil)) me_int (nomark _)) (mw_or1 (mt_cmp (op_ne2 (hu64 hr)) o2_ne2 (me_new (mn_comp (own := [(("part" : Str), 3)]) rfl sc__law_due.nd (blkOk_by (by kernel_rfl)) (by decide) (mi_it (me_var 1)) (fun _ _ _ _ _ => (mg_name sc__law_due.nd)) (fun _ _ _ _ _ => (mts_one (mt_w (mw_orT (op_eq2 (hu64 hr)) o2_eq2 (me_var 3) (mwt_or (MTt.of (mt_cmp (op_eq2 (hu64 hr)) o2_eq2 (me_var 3) me_str (nomark _))) (mwt_or (mtt_lenrep (by rfl) T.n_len op_gt o2_cmp (me_var 3) me_int (nomark _)) (MWt.of (mw_or1 (mt_cmp (op_ne2 (hu64 hr)) o2_ne2 (me_new (mn_comp (own := [(("s" : Str), 4)]) rfl sc__law_due.nd (blkOk_by (by kernel_rfl)) (by decide) (mi_it (me_if (mt_cmp (op_eq2 (hu64 hr)) o2_eq2 (me_ix ix_seq o2_ix (me_var 3) me_int (fun _ _ => rfl)) me_str (nomark _)) (me_slice (me_var 3) (mo_some me_int) mo_none) (me_var 3))) (fun _ _ _ _ _ => (mg_name sc__law_due.nd)) (fun _ _ _ _ _ => (mts_one (mt_cmp op_notIn_sign o2_notInS (me_var 4) me_str (by with_unfolding_all rfl)))) (fun _ _ _ _ _ => (me_var 4)))) (me_new (mn_lst ma_nil)) (nomark _)))))) (nomark _))))) (fun _ _ _ _ _ => (me_var 3)))) (me_new (mn_lst ma_nil)) (nomark _))))) (mss_one (ms_ret me_non)) mss_nil)
    (mss_cons (ms_set (i := 2) sc__law_due.nd (ml_val (me_tup (ma_cons (me_callTy cr_int cl_int (by rfl) T.n_int (by decide +kernel) (ma_cons (me_ix ix_seq o2_ix (me_var 1) me_int (fun _ _ => rfl)) ma_nil)) (ma_cons (me_if (mt_cmp (op_eq2 (hu64 hr)) o2_eq2 (me_callB cr_len cl_len (by rfl) T.n_len (by decide +kernel) (ma_cons (me_var 1) ma_nil)) me_int (nomark _)) (me_callTy cr_int cl_int (by rfl) T.n_int (by decide +kernel) (ma_cons (me_ix ix_seq o2_ix (me_var 1) me_int (fun _ _ => rfl)) ma_nil)) me_int) ma_nil)))))
    (mss_cons (ms_if (mt_w (mw_or (mt_cmp op_lt o2_cmp (me_ix ix_seq o2_ix (me_var 2) me_int (fun _ _ => rfl)) me_int (nomark _)) (mw_or1 (mt_cmp (op_ne2 (hu64 hr)) o2_ne2 (me_call (takes_of rfl rfl rfl rfl) (ok__law_low T) (hr.mono (by decide)) (by rfl) T.g__law_low T.F__law_low.kp (b__law_low T) (ma_cons (me_ix ix_seq o2_ix (me_var 2) me_int (fun _ _ => rfl)) (ma_cons (me_ix ix_seq o2_ix (me_var 2) me_int (fun _ _ => rfl)) ma_nil)) (by rfl)) (me_var 2) (nomark _))))) (mss_one (ms_ret me_non)) mss_nil)
    (mss_one (ms_ret (me_if (mt_cmp (op_eq2 (hu64 hr)) o2_eq2 (me_if (mt_cmp (op_eq2 (hu64 hr)) o2_eq2 (me_ix ix_seq o2_ix (me_var 2) me_int (fun _ _ => rfl)) me_int (nomark _)) (me_callTy call_str_int cl_str (by rfl) T.n_str (by decide +kernel) (ma_cons (me_ix ix_seq o2_ix (me_var 2) me_int (fun _ _ => rfl)) ma_nil)) (me_op op_rAdd o2_add (me_op op_rAdd o2_add (me_callTy call_str_int cl_str (by rfl) T.n_str (by decide +kernel) (ma_cons (me_ix ix_seq o2_ix (me_var 2) me_int (fun _ _ => rfl)) ma_nil)) me_str) (me_callTy call_str_int cl_str (by rfl) T.n_str (by decide +kernel) (ma_cons (me_ix ix_seq o2_ix (me_var 2) me_int (fun _ _ => rfl)) ma_nil)))) (me_var 0) (nomark _)) (me_var 2) me_non)))))))
  exact h
def M__law_fails : Ms := (mSeq (mAsg 1 (mVal (mTup (mCons (mTup (mCons (mC (.str "a")) mNil)) (mCons (mTup (mCons (mTup (mCons (mC (.str "p")) (mCons (mTup (mCons (mC (.int 1)) mNil)) (mCons (mTup (mCons (mC (.int 0)) mNil)) mNil)))) mNil)) mNil))))) (mSeq (mIfS (mCmp (fEq2 false) (mVar 0) (mC (.int 0))) (mRet (mCall F_read_ratio (mCons (mC (.str "x")) mNil))) mNx) (mSeq (mIfS (mCmp (fEq2 false) (mVar 0) (mC (.int 1))) (mRet (mCall F_check_net (mCons (mC .none) mNil))) mNx) (mSeq (mIfS (mCmp (fEq2 false) (mVar 0) (mC (.int 2))) (mRet (mCall F_run_to (mCons (mVar 1) (mCons (mTup (mCons (mC (.int 1)) mNil)) (mCons (mTup (mCons (mC (.int 5)) mNil)) (mCons (mC (.int 9)) mNil)))))) mNx) (mRet (mCall F_judge_reach (mCons (mTup (mCons (mC (.str "reaches")) (mCons (mVar 1) (mCons (mTup (mCons (mC (.int 1)) mNil)) (mCons (mTup (mCons (mC (.int 0)) mNil)) mNil))))) (mCons (mC (.str "no")) (mCons (mC .none) mNil)))))))))
def F__law_fails : Mf := mDef 2 1 (M__law_fails)
theorem ok__law_fails {P : Program} {w : World} {K : PySem.W.Frag} {mg : Str → Option Value} {base : Heap} (T : Tx P K mg) : FnOk P w K mg base (L2.CX P w) 6 T.f__law_fails T.d__law_fails ["kind"] (spF K mg 1 (F__law_fails)) := by
  have h := fn_ok (P := P) (w := w) (mg := mg) (base := base) (k := 5) (N := ["kind", "net"]) (ps := ["kind"]) (m := M__law_fails) T.F__law_fails sc__law_fails fun cdv A outer s H E hr => by
    exact (mss_cons (ms_set (i := 1) sc__law_fails.nd (ml_val (me_tup (ma_cons (me_tup (ma_cons me_str ma_nil)) (ma_cons (me_tup (ma_cons (me_tup (ma_cons me_str (ma_cons (me_tup (ma_cons me_int ma_nil)) (ma_cons (me_tup (ma_cons me_int ma_nil)) ma_nil)))) ma_nil)) ma_nil)))))
    (mss_cons (ms_if (mt_cmp (op_eq2 (hu64 hr)) o2_eq2 (me_var 0) me_int (nomark _)) (mss_one (ms_ret (me_call (takes_of rfl rfl rfl rfl) (ok_read_ratio T) (hr.mono (by decide)) (by rfl) T.g_read_ratio T.F_read_ratio.kp (b_read_ratio T) (ma_cons me_str ma_nil) (by rfl)))) mss_nil)
    (mss_cons (ms_if (mt_cmp (op_eq2 (hu64 hr)) o2_eq2 (me_var 0) me_int (nomark _)) (mss_one (ms_ret (me_call (takes_of rfl rfl rfl rfl) (ok_check_net T) (hr.mono (by decide)) (by rfl) T.g_check_net T.F_check_net.kp (b_check_net T) (ma_cons me_non ma_nil) (by rfl)))) mss_nil)
    (mss_cons (ms_if (mt_cmp (op_eq2 (hu64 hr)) o2_eq2 (me_var 0) me_int (nomark _)) (mss_one (ms_ret (me_call (takes_of rfl rfl rfl rfl) (ok_run_to T) (hr.mono (by decide)) (by rfl) T.g_run_to T.F_run_to.kp (b_run_to T) (ma_cons (me_var 1) (ma_cons (me_tup (ma_cons me_int ma_nil)) (ma_cons (me_tup (ma_cons me_int ma_nil)) (ma_cons me_int ma_nil)))) (by rfl)))) mss_nil)
    (mss_one (ms_ret (me_call (takes_of rfl rfl rfl rfl) (ok_judge_reach T) (hr.mono (by decide)) (by rfl) T.g_judge_reach T.F_judge_reach.kp (b_judge_reach T) (ma_cons (me_tup (ma_cons me_str (ma_cons (me_var 1) (ma_cons (me_tup (ma_cons me_int ma_nil)) (ma_cons (me_tup (ma_cons me_int ma_nil)) ma_nil))))) (ma_cons me_str (ma_cons me_non ma_nil))) (by rfl))))))))
  exact h
end K17
end
-- Kf
section
set_option maxRecDepth 100000
set_option maxHeartbeats 4000000
namespace K17
open PySem PySem.Spec L2 FL
def t_BadForm (x : Str) : Option Bool := if x = "BadForm" then some true else if x = "NotAllowed" then some false else if x = "Missing" then some false else if x = "BadPaper" then some false else none
theorem ex_BadForm {P : Program} {K : PySem.W.Frag} {mg : Str → Option Value} (T : Tx P K mg) : ExM K mg (.ref T.bC) t_BadForm := fun x b C hb hg => by
  unfold t_BadForm at hb
  by_cases hBadForm : x = "BadForm"
  · rw [if_pos hBadForm] at hb
    cases hb
    rw [hBadForm, T.bf.gC] at hg
    cases hg
    exact T.e_BadForm_BadForm
  rw [if_neg hBadForm] at hb
  by_cases hNotAllowed : x = "NotAllowed"
  · rw [if_pos hNotAllowed] at hb
    cases hb
    rw [hNotAllowed, T.x_NotAllowed.g] at hg
    cases hg
    exact T.e_NotAllowed_BadForm
  rw [if_neg hNotAllowed] at hb
  by_cases hMissing : x = "Missing"
  · rw [if_pos hMissing] at hb
    cases hb
    rw [hMissing, T.x_Missing.g] at hg
    cases hg
    exact T.e_Missing_BadForm
  rw [if_neg hMissing] at hb
  by_cases hBadPaper : x = "BadPaper"
  · rw [if_pos hBadPaper] at hb
    cases hb
    rw [hBadPaper, T.x_BadPaper.g] at hg
    cases hg
    exact T.e_BadPaper_BadForm
  rw [if_neg hBadPaper] at hb
  cases hb
def t_NotAllowed (x : Str) : Option Bool := if x = "NotAllowed" then some true else if x = "Missing" then some false else if x = "BadPaper" then some false else none
theorem ex_NotAllowed {P : Program} {K : PySem.W.Frag} {mg : Str → Option Value} (T : Tx P K mg) : ExM K mg (.ref T.x_NotAllowed.C) t_NotAllowed := fun x b C hb hg => by
  unfold t_NotAllowed at hb
  by_cases hNotAllowed : x = "NotAllowed"
  · rw [if_pos hNotAllowed] at hb
    cases hb
    rw [hNotAllowed, T.x_NotAllowed.g] at hg
    cases hg
    exact T.e_NotAllowed_NotAllowed
  rw [if_neg hNotAllowed] at hb
  by_cases hMissing : x = "Missing"
  · rw [if_pos hMissing] at hb
    cases hb
    rw [hMissing, T.x_Missing.g] at hg
    cases hg
    exact T.e_Missing_NotAllowed
  rw [if_neg hMissing] at hb
  by_cases hBadPaper : x = "BadPaper"
  · rw [if_pos hBadPaper] at hb
    cases hb
    rw [hBadPaper, T.x_BadPaper.g] at hg
    cases hg
    exact T.e_BadPaper_NotAllowed
  rw [if_neg hBadPaper] at hb
  cases hb
def t_Missing (x : Str) : Option Bool := if x = "Missing" then some true else if x = "BadPaper" then some false else none
theorem ex_Missing {P : Program} {K : PySem.W.Frag} {mg : Str → Option Value} (T : Tx P K mg) : ExM K mg (.ref T.x_Missing.C) t_Missing := fun x b C hb hg => by
  unfold t_Missing at hb
  by_cases hMissing : x = "Missing"
  · rw [if_pos hMissing] at hb
    cases hb
    rw [hMissing, T.x_Missing.g] at hg
    cases hg
    exact T.e_Missing_Missing
  rw [if_neg hMissing] at hb
  by_cases hBadPaper : x = "BadPaper"
  · rw [if_pos hBadPaper] at hb
    cases hb
    rw [hBadPaper, T.x_BadPaper.g] at hg
    cases hg
    exact T.e_BadPaper_Missing
  rw [if_neg hBadPaper] at hb
  cases hb
def t_BadPaper (x : Str) : Option Bool := if x = "BadPaper" then some true else none
theorem ex_BadPaper {P : Program} {K : PySem.W.Frag} {mg : Str → Option Value} (T : Tx P K mg) : ExM K mg (.ref T.x_BadPaper.C) t_BadPaper := fun x b C hb hg => by
  unfold t_BadPaper at hb
  by_cases hBadPaper : x = "BadPaper"
  · rw [if_pos hBadPaper] at hb
    cases hb
    rw [hBadPaper, T.x_BadPaper.g] at hg
    cases hg
    exact T.e_BadPaper_BadPaper
  rw [if_neg hBadPaper] at hb
  cases hb
def t_NetError (x : Str) : Option Bool := if x = "BadForm" then some true else if x = "NotAllowed" then some true else if x = "Missing" then some true else if x = "BadPaper" then some true else none
theorem ex_NetError {P : Program} {K : PySem.W.Frag} {mg : Str → Option Value} (T : Tx P K mg) : ExM K mg (.ref T.x_NetError.C) t_NetError := fun x b C hb hg => by
  unfold t_NetError at hb
  by_cases hBadForm : x = "BadForm"
  · rw [if_pos hBadForm] at hb
    cases hb
    rw [hBadForm, T.bf.gC] at hg
    cases hg
    exact T.e_BadForm_NetError
  rw [if_neg hBadForm] at hb
  by_cases hNotAllowed : x = "NotAllowed"
  · rw [if_pos hNotAllowed] at hb
    cases hb
    rw [hNotAllowed, T.x_NotAllowed.g] at hg
    cases hg
    exact T.e_NotAllowed_NetError
  rw [if_neg hNotAllowed] at hb
  by_cases hMissing : x = "Missing"
  · rw [if_pos hMissing] at hb
    cases hb
    rw [hMissing, T.x_Missing.g] at hg
    cases hg
    exact T.e_Missing_NetError
  rw [if_neg hMissing] at hb
  by_cases hBadPaper : x = "BadPaper"
  · rw [if_pos hBadPaper] at hb
    cases hb
    rw [hBadPaper, T.x_BadPaper.g] at hg
    cases hg
    exact T.e_BadPaper_NetError
  rw [if_neg hBadPaper] at hb
  cases hb
def M_if : Ms := (mIfS (mCmp (fEq2 false) (mVar 1) (mC (.int 0))) (mSeq (mDrop (mCall F__law_fails (mCons (mVar 0) mNil))) (mRet (mC .none))) mNx)
def M_in : Ms := mTryM [(t_NetError, mRet (mC (.str "net")))] (mDrop (mCall F__law_fails (mCons (mVar 0) mNil)))
def M__law_caught : Ms := mSeq (mTryM [(t_BadForm, mRet (mC (.int 0))), (t_NotAllowed, mRet (mC (.int 1))), (t_Missing, mRet (mC (.int 2))), (t_BadPaper, mRet (mC (.int 3)))] (mSeq M_if M_in)) (mRet (mC .none))
def F__law_caught : Mf := mDef 2 2 M__law_caught
theorem ok__law_caught {P : Program} {w : World} {K : PySem.W.Frag} {mg : Str → Option Value} {base : Heap} (T : Tx P K mg) : FnOk P w K mg base (L2.CX P w) 7 T.f__law_caught T.d__law_caught ["kind", "wide"] (spF K mg 2 F__law_caught) := by
  have h := fn_ok (P := P) (w := w) (mg := mg) (base := base) (k := 6) (N := ["kind", "wide"]) (ps := ["kind", "wide"]) (m := M__law_caught) T.F__law_caught sc__law_caught fun cdv A outer s H E hr => by
    refine mss_cons (ms_tryM rfl rfl (takes_of rfl rfl rfl rfl) (fun W pn xe tk po => mss_cons (ms_if (mt_cmp (op_eq2 (hu64 hr)) o2_eq2 (me_var 1) me_int (nomark _)) (mss_cons (ms_drop (me_call tk (ok__law_fails T) (hr.mono (by decide)) (by rfl) T.g__law_fails T.F__law_fails.kp (b__law_fails T) (ma_cons (me_var 0) ma_nil) (by rfl)))
    (mss_one (ms_ret me_non))) mss_nil) (mss_one (ms_tryM (X := Cx.tr _ pn xe) rfl rfl tk (fun W2 pn2 xe2 tk2 po2 => (mss_one (ms_drop (me_call tk2 (ok__law_fails T) (hr.mono (by decide)) (by rfl) T.g__law_fails T.F__law_fails.kp (b__law_fails T) (ma_cons (me_var 0) ma_nil) (by rfl))))) (.cons ⟨rfl, by decide, .inl T.x_NetError.g⟩ (ex_NetError T) (fun a oe pn => mss_one (ms_ret me_str)) .nil) ?_))) (.cons ⟨rfl, by decide, .inl T.bf.gC⟩ (ex_BadForm T) (fun a oe pn => mss_one (ms_ret me_int)) (.cons ⟨rfl, by decide, .inl T.x_NotAllowed.g⟩ (ex_NotAllowed T) (fun a oe pn => mss_one (ms_ret me_int)) (.cons ⟨rfl, by decide, .inl T.x_Missing.g⟩ (ex_Missing T) (fun a oe pn => mss_one (ms_ret me_int)) (.cons ⟨rfl, by decide, .inl T.x_BadPaper.g⟩ (ex_BadPaper T) (fun a oe pn => mss_one (ms_ret me_int)) .nil)))) ?_) (mss_one (ms_ret me_non))
    · intro z hz ρ ω
      rcases List.mem_cons.mp hz with rfl | hz
      · exact ⟨_, _, rfl⟩
      · cases hz
    · intro z hz ρ ω
      rcases List.mem_cons.mp hz with rfl | hz
      · exact ⟨_, _, rfl⟩
      rcases List.mem_cons.mp hz with rfl | hz
      · exact ⟨_, _, rfl⟩
      rcases List.mem_cons.mp hz with rfl | hz
      · exact ⟨_, _, rfl⟩
      rcases List.mem_cons.mp hz with rfl | hz
      · exact ⟨_, _, rfl⟩
      cases hz
  exact h
/-! _law_read -/
def F__law_read : Mf := fun us ω => if us.length = 1 then match F_read_ratio us ω with
  | .ok d ω' => .ok d ω'
  | .exc (x, some n) ω' => if x = "BadForm" ∧ n = 0 then .ok .none ω' else .stuck
  | _ => .stuck else .stuck
def t_suite (C : Addr) : Addr → Value → Option Addr → TS := fun a cls d => tRet (tIf (tTest (tOp rEq (tXf a cls d C "line" (tVar 1)) (tC (.int 0)))) (tC .non) (tC (.int 0)))
theorem ok__law_read {P : Program} {w : World} {K : PySem.W.Frag} {mg : Str → Option Value} {base : Heap} (T : Tx P K mg) : FnOk P w K mg base (L2.CX P w) 4 T.f__law_read T.d__law_read ["text"] (spF K mg 1 F__law_read) := by
  have xf : XfC K T.bC := ⟨T.bf.ga, T.bf.gg, T.bf.exC, T.bf.hdC⟩
  refine T.F__law_read.okX sc__law_read (fun vs H Q E h => by obtain ⟨_, _, _, h, _⟩ := h; exact h) fun cdv A outer s H vs Q E hr h => ?_
  obtain ⟨dr, ω, us, hl, w', r, p⟩ := h
  have hu : us.length = 1 := by rw [Paired.length r, hl]
  refine ⟨_, pss_one (ps_try_as (i := 1) (tb := fun W => rdS K mg W (mRet (mCall F_read_ratio (mCons (mVar 0) mNil)))) (ts := t_suite T.bC) (Wout := fun _ _ _ _ => False) rfl rfl sc__law_read.nd rfl rfl ⟨rfl, by decide, .inl T.bf.gC⟩ takes0
    (fun W pn xe tk _ => mss_one (ms_ret (me_call tk (ok_read_ratio T) hr (by rfl) T.g_read_ratio T.F_read_ratio.kp (b_read_ratio T) (ma_cons (me_var 0) ma_nil) (by rfl))))
    (fun a oe cls d pn hz hf => pss_one (ps_ret (pe_ifExp (pt_cmpR op_eq (pe_xf xf T.bf.noN hz hf (pv 1)) pe_int (nomark _)) pe_non pe_int)))), dr, H, _, ω, gd_start (N := ["text", "error"]) w' r, ?_⟩
  unfold F__law_read at p
  rw [if_pos hu] at p
  match us, hu with
  | [u], _ =>
    cases hF : F_read_ratio [u] ω with
    | ok d ω1 =>
      rw [hF] at p
      have e : mRet (mCall F_read_ratio (mCons (mVar 0) mNil)) [.par u, .none] ω = .ok (.rt d) ([.par u, .none], ω1) := mRet_ok (mCall1_ok rfl hF)
      show PostS K mg _ dr H H _ (mRet (mCall F_read_ratio (mCons (mVar 0) mNil)) [.par u, .none] ω)
      rw [e]
      exact fun v H' ex dw rd => p v H' ex dw rd
    | exc x ω1 =>
      rw [hF] at p
      have e : mRet (mCall F_read_ratio (mCons (mVar 0) mNil)) [.par u, .none] ω = .exc x ([.par u, .none], ω1) := mRet_exc (mCall1_exc rfl hF)
      show PostS K mg _ dr H H _ (mRet (mCall F_read_ratio (mCons (mVar 0) mNil)) [.par u, .none] ω)
      rw [e]
      obtain ⟨x1, x2⟩ := x
      cases x2 with
      | none => exact p.elim
      | some n =>
        dsimp only at p
        by_cases hc : x1 = "BadForm" ∧ n = 0
        · rw [if_pos hc] at p
          obtain ⟨rfl, rfl⟩ := hc
          intro cls od σ1 H1 g1 ⟨C, gC, ec, dd, ed, hd⟩
          have gC : mg "BadForm" = some (.ref C) := gC
          rw [T.bf.gC] at gC
          cases gC
          subst ec
          subst ed
          refine ⟨true, T.e_BadForm_BadForm, fun _ a0 _ => ?_, fun q => Bool.noConfusion q⟩
          have hl : 1 < σ1.length := by rw [← g1.len]; show 1 < 2; decide
          exact ⟨_, by rw [List.getElem?_set_self hl], rfl, rfl, dd, _, .int 0, rfl, hd, rfl, rfl, true, rfl, p .non H1 g1.ext g1.dw .non⟩
        · rw [if_neg hc] at p; exact p.elim
    | stuck => rw [hF] at p; exact p.elim
def M_draw0 : Ms := (mAsg 1 (mVal (mC (.int 7))))
def M_draw1 : Ms := (mForP 0 (tgName 2) (mAsg 1 (mVal (mOp2 (fInt2 cMod fun i j => i % j) (mCl fInt (mCons (mOp2 fAdd (mOp2 fAdd (mOp2 fMul2 (mVar 1) (mC (.int 48271))) (mOp2 (fInt2 cMod fun i j => i % j) (mCl fAbs (mCons (mCl fInt (mCons (mVar 2) mNil)) mNil)) (mC (.int 65521)))) (mC (.int 1))) mNil)) (mC (.int 2147483647))))))
def M_drawE0 : Me := (mLk (mComp [2] (mIt (mVar 0)) (tgName 2) mYes (mCl fAbs (mCons (mCl fInt (mCons (mVar 2) mNil)) mNil))))
def M_drawE1 : Me := (mOp1 fNeg (mC (.int 1)))
def M_drawE2 : Me := (mC (.int 0))
def M_drawE3 : Me := (mVar 1)
end K17
end
-- Kg
section
set_option maxRecDepth 100000
set_option maxHeartbeats 4000000
namespace K17
open PySem PySem.Spec L2 FL
def iabs (i : Int) : Int := if i < 0 then -i else i
theorem iabs_nn (i : Int) : 0 ≤ iabs i := by unfold iabs; split <;> omega
theorem cMul_r (i j : Int) (h : decide (-(2 ^ 64) < j ∧ j < 2 ^ 64) = true) : cMul i j = true := by
  unfold cMul
  rw [h, Bool.or_true]
theorem fMul_ok (i j : Int) (h : cMul i j = true) : fMul2 (.d (.int i)) (.d (.int j)) = some (.d (.int (i * j))) := by
  show (if cMul i j = true then some (Vl.d (.int (i * j))) else none) = _
  rw [if_pos h]
theorem rpl_ints {K : PySem.W.Frag} {H : Hp} : ∀ {ns : List Int} {xs : List V}, RpL K H (ns.map .int) xs → xs = ns.map V.int
  | [], _, .nil => rfl
  | n :: ns, _, .cons a b => by cases a; rw [rpl_ints b]; rfl
def B_draw : Ms := (mAsg 1 (mVal (mOp2 (fInt2 cMod fun i j => i % j) (mCl fInt (mCons (mOp2 fAdd (mOp2 fAdd (mOp2 fMul2 (mVar 1) (mC (.int 48271))) (mOp2 (fInt2 cMod fun i j => i % j) (mCl fAbs (mCons (mCl fInt (mCons (mVar 2) mNil)) mNil)) (mC (.int 65521)))) (mC (.int 1))) mNil)) (mC (.int 2147483647)))))
def nseed (s n : Int) : Int := (s * 48271 + iabs n % 65521 + 1) % 2147483647
theorem body_draw (A : Sl) (s n : Int) (ω : Dr) : B_draw [A, .val (.int s), .val (.int n)] ω = .ok .nx ([A, .val (.int (nseed s n)), .val (.int n)], ω) := by
  have hA : mCl fInt (mCons (mVar 2) mNil) [A, .val (.int s), .val (.int n)] ω = .ok (.d (.int n)) ω := mCl1_ok rfl rfl
  have hB : mCl fAbs (mCons (mCl fInt (mCons (mVar 2) mNil)) mNil) [A, .val (.int s), .val (.int n)] ω = .ok (.d (.int (iabs n))) ω := mCl1_ok hA rfl
  have hC := mOp2_ok (f := fInt2 cMod fun i j => i % j) (b := mC (.int 65521)) (z := .d (.int (iabs n % 65521))) (ω2 := ω) hB rfl rfl
  have hD := mOp2_ok (f := fMul2) (a := mVar 1) (b := mC (.int 48271)) (ρ := [A, .val (.int s), .val (.int n)]) (ω := ω) (ω1 := ω) (ω2 := ω) rfl rfl (fMul_ok s 48271 (cMul_r s 48271 (by decide)))
  have hE := mOp2_ok (f := fAdd) (z := .d (.int (s * 48271 + iabs n % 65521))) hD hC rfl
  have hF := mOp2_ok (f := fAdd) (b := mC (.int 1)) (z := .d (.int (s * 48271 + iabs n % 65521 + 1))) (ω2 := ω) hE rfl rfl
  have hG := mCl1_ok (f := fInt) hF rfl
  have hH := mOp2_ok (f := fInt2 cMod fun i j => i % j) (b := mC (.int 2147483647)) (z := .d (.int (nseed s n))) (ω2 := ω) hG rfl rfl
  exact mAsg_ok (i := 1) (mVal_ok hH)
theorem loop_draw (A : Sl) (ω : Dr) : ∀ (ns : List Int) (X : Sl) (s : Int), 0 ≤ s → ∃ s' X', 0 ≤ s' ∧ forL (tgName 2) B_draw (ns.map .int) [A, .val (.int s), X] ω = .ok .nx ([A, .val (.int s'), X'], ω)
  | [], X, s, h => ⟨s, X, h, rfl⟩
  | n :: ns, X, s, h => by
    obtain ⟨s', X', h1, h2⟩ := loop_draw A ω ns (.val (.int n)) (nseed s n) (Int.emod_nonneg _ (by decide))
    refine ⟨s', X', h1, ?_⟩
    rw [← h2]
    exact forL_nx rfl (body_draw A s n ω)
theorem comp_draw (A B C : Sl) (ω : Dr) : ∀ (ns : List Int), compL [2] (tgName 2) mYes (mCl fAbs (mCons (mCl fInt (mCons (mVar 2) mNil)) mNil)) [A, B, C] (ns.map .int) ω = .ok ((ns.map iabs).map .int) ω
  | [] => rfl
  | n :: ns => by
    have ih := comp_draw A B C ω ns
    have hA : mCl fInt (mCons (mVar 2) mNil) [A, B, .val (.int n)] ω = .ok (.d (.int n)) ω := mCl1_ok rfl rfl
    have hB : mCl fAbs (mCons (mCl fInt (mCons (mVar 2) mNil)) mNil) [A, B, .val (.int n)] ω = .ok (.d (.int (iabs n))) ω := mCl1_ok hA rfl
    exact compL_yes (ρ1 := [A, B, .val (.int n)]) (y := .int (iabs n)) rfl rfl hB ih
def spDraw (K : PySem.W.Frag) : Sp := fun vs H Q _ => ∃ (a : Addr) (ns : List Int), vs = [.ref a] ∧ SqL K H a (ns.map V.int) ∧ ns.length ≤ 63 ∧
  ∀ (p L : Addr) (o : Obj) (s : Int) (H' : Hp), H p = none → ExD none H H' → H' p = some (.lst [.ref L, .int (-1), .int 0, .int s]) → H' L = some (.frz o (.lst ((ns.map iabs).map V.int))) → 0 ≤ s → Q (.ref p) H'
def ω0 : Dr := ⟨[], 0, 0, 0⟩
theorem ok__law_draw {P : Program} {w : World} {K : PySem.W.Frag} {mg : Str → Option Value} {base : Heap} (T : Tx P K mg) : FnOk P w K mg base (L2.CX P w) 1 T.f__law_draw T.d__law_draw ["script"] (spDraw K) := by
  refine T.F__law_draw.okX sc__law_draw (fun vs H Q E h => by obtain ⟨_, _, rfl, _⟩ := h; rfl) fun cdv A outer s H vs Q E hr h => ?_
  obtain ⟨a, ns, rfl, hS, hn, k⟩ := h
  refine ⟨tSeq (rdS K mg (WE0 E) M_draw0) (tSeq (rdS K mg (WE0 E) M_draw1) (tRet (tLst (tCons (rdE K mg (WE0 E) M_drawE0) (tCons (rdE K mg (WE0 E) M_drawE1) (tCons (rdE K mg (WE0 E) M_drawE2) (tCons (rdE K mg (WE0 E) M_drawE3) tNil))))))), pss_cons ?h0 (pss_cons ?h1 (pss_one (ps_ret (pe_lst (pa_cons ?e0 (pa_cons ?e1 (pa_cons ?e2 (pa_cons ?e3 pa_nil)))))))), ?_⟩
  case h0 =>
    refine (?_ : MS _ (WE0 E) _ M_draw0)
    exact (ms_set (i := 1) sc__law_draw.nd (ml_val me_int))
  case h1 =>
    refine (?_ : MS _ (WE0 E) _ M_draw1)
    exact (ms_forP 0 (passes_of rfl) rfl (mg_name sc__law_draw.nd) (mss_one (ms_set (i := 1) sc__law_draw.nd (ml_val (me_op op_mod (o2_int cMod_ok) (me_callTy cr_int cl_int (by rfl) T.n_int (by decide +kernel) (ma_cons (me_op op_rAdd o2_add (me_op op_rAdd o2_add (me_op op_mul2 o2_mul2 (me_var 1) me_int) (me_op op_mod (o2_int cMod_ok) (me_callB call_abs cl_abs (by rfl) T.n_abs (by decide +kernel) (ma_cons (me_callTy cr_int cl_int (by rfl) T.n_int (by decide +kernel) (ma_cons (me_var 2) ma_nil)) ma_nil)) me_int)) me_int) ma_nil)) me_int)))))
  case e0 =>
    refine (?_ : ME _ (WE0 E) _ M_drawE0)
    exact (me_new (mn_comp (own := [(("cell" : Str), 2)]) rfl sc__law_draw.nd (blkOk_by (by kernel_rfl)) (by decide) (mi_it (me_var 0)) (fun _ _ _ _ _ => (mg_name sc__law_draw.nd)) (fun _ _ _ _ _ => mts_nil) (fun _ _ _ _ _ => (me_callB call_abs cl_abs (by rfl) T.n_abs (by decide +kernel) (ma_cons (me_callTy cr_int cl_int (by rfl) T.n_int (by decide +kernel) (ma_cons (me_var 2) ma_nil)) ma_nil)))))
  case e1 =>
    refine (?_ : ME _ (WE0 E) _ M_drawE1)
    exact (me_un un_neg o1_neg me_int)
  case e2 =>
    refine (?_ : ME _ (WE0 E) _ M_drawE2)
    exact me_int
  case e3 =>
    refine (?_ : ME _ (WE0 E) _ M_drawE3)
    exact (me_var 1)
  obtain ⟨s', X', hs', hl⟩ := loop_draw (.par (.brw (ns.map .int))) ω0 ns .none 7 (by decide)
  have w0 : DrAt none H ω0 := fun _ z => nomatch z
  have r0 : Paired (RV K none H) [.brw (ns.map .int)] [.ref a] := .cons ⟨a, _, rfl, nofun, hS, ints_rpl ns⟩ .nil
  refine ⟨none, H, [.par (.brw (ns.map .int)), .none, .none], ω0, gd_start (N := ["script", "seed", "cell"]) w0 r0, ?_⟩
  intro σ1 H1 z1 g1
  refine ⟨none, H, [.par (.brw (ns.map .int)), .val (.int 7), .none], ω0, g1, ?_⟩
  have hm1 : M_draw1 [.par (.brw (ns.map .int)), .val (.int 7), .none] ω0 = .ok .nx ([.par (.brw (ns.map .int)), .val (.int s'), X'], ω0) := hl
  rw [hm1]
  intro σ2 H2 z2 g2
  have c0 : M_drawE0 [.par (.brw (ns.map .int)), .val (.int s'), X'] ω0 = .ok (.d (.list ((ns.map iabs).map .int))) ω0 := by
    show ((compL [2] (tgName 2) mYes (mCl fAbs (mCons (mCl fInt (mCons (mVar 2) mNil)) mNil)) [.par (.brw (ns.map .int)), .val (.int s'), X'] (ns.map .int) ω0).bind fun l ω => Res.ok (Vl.d (.list l)) ω) = _
    rw [comp_draw]
    rfl
  refine ⟨none, H, _, ω0, g2, ?_⟩
  rw [c0]
  intro v3 H3 x3 g3 r3
  refine ⟨none, H, _, ω0, g3, ?_⟩
  intro v4 H4 x4 g4 r4
  refine ⟨none, H, _, ω0, g4, ?_⟩
  intro v5 H5 x5 g5 r5
  refine ⟨none, H, _, ω0, g5, ?_⟩
  intro v6 H6 x6 g6 r6
  cases r4
  cases r5
  cases r6
  refine ⟨by show 4 ≤ sizeLine; decide, fun p hp => ?_⟩
  cases r3 with
  | lst hL rL =>
    rename_i L o xs
    cases rpl_ints rL
    have hL6 := (x4.fz g3.dw |>.trans (x5.fz g4.dw) |>.trans (x6.fz g5.dw)).f _ _ _ hL
    refine k p L o s' _ (none_back g6.ext g6.dw hp) (g6.ext.trans (.of (same_new hp))) upd_same ?_ hs'
    rw [upd_ne (ne_of_none hL6 hp)]
    exact hL6
/-- what is behind the first statement of law -/
def M_law1 : Ms := (mFor (mRng1 (mCons (mC (.int 4)) mNil)) (tgName 2) (mSeq (mUnpL [3, 4] (mLk (mComp [8] (mRng1 (mCons (mC (.int 2)) mNil)) (tgName 8) mYes (mCall F__law_low (mCons (mOp2 (fInt2 (fun _ _ => true) fun i j => i - j) (mCall F__law_take (mCons (mVar 1) (mCons (mC (.int 60)) mNil))) (mC (.int 30))) (mCons (mOp2 fAdd (mC (.int 1)) (mCall F__law_take (mCons (mVar 1) (mCons (mC (.int 12)) mNil)))) mNil)))))) (mSeq (mIfS (mOrT (mCmp (fEq2 true) (mCall F_plus (mCons (mVar 3) (mCons (mVar 4) mNil))) (mCall F__law_plus (mCons (mVar 3) (mCons (mVar 4) mNil)))) (mOrT (mCmp (fEq2 true) (mCall F_minus (mCons (mVar 3) (mCons (mVar 4) mNil))) (mCall F__law_minus (mCons (mVar 3) (mCons (mVar 4) mNil)))) (mOrT (mCmp (fEq2 true) (mCall F_times (mCons (mVar 3) (mCons (mVar 4) mNil))) (mCall F__law_times (mCons (mVar 3) (mCons (mVar 4) mNil)))) (mOrT (mCmp (fEq2 true) (mCall F_less1 (mCons (mVar 3) (mCons (mVar 4) mNil))) (mCall F__law_less (mCons (mVar 3) (mCons (mVar 4) mNil)))) (mNotT (mTru (mIsI "bool" (mCall F_less1 (mCons (mVar 3) (mCons (mVar 4) mNil)))))))))) (mRet (mC (.bool false))) mNx) (mSeq (mPar [5, 6] (mConsL (mVal (mOp2 (fInt2 (fun _ _ => true) fun i j => i - j) (mCall F__law_take (mCons (mVar 1) (mCons (mC (.int 99)) mNil))) (mC (.int 50)))) (mConsL (mVal (mOp2 (fInt2 (fun _ _ => true) fun i j => i - j) (mCall F__law_take (mCons (mVar 1) (mCons (mC (.int 20)) mNil))) (mC (.int 10)))) mNilL))) (mSeq (mIfS (mOrT (mAndT (mCmp (fEq2 true) (mOp2 fIx (mVar 4) (mC (.int 0))) (mC (.int 0))) (mCmp (fEq2 true) (mCall F_divided (mCons (mVar 3) (mCons (mVar 4) mNil))) (mCall F__law_low (mCons (mOp2 fMul2 (mOp2 fIx (mVar 3) (mC (.int 0))) (mOp2 fIx (mVar 4) (mC (.int 1)))) (mCons (mOp2 fMul2 (mOp2 fIx (mVar 3) (mC (.int 1))) (mOp2 fIx (mVar 4) (mC (.int 0)))) mNil))))) (mAndT (mCmp (fEq2 true) (mVar 6) (mC (.int 0))) (mCmp (fEq2 true) (mCall F_lowest (mCons (mVar 5) (mCons (mVar 6) mNil))) (mCall F__law_low (mCons (mVar 5) (mCons (mVar 6) mNil)))))) (mRet (mC (.bool false))) mNx) (mSeq (mAsg 7 (mVal (mIf (mCmp (fEq2 false) (mOp2 fIx (mVar 3) (mC (.int 1))) (mC (.int 1))) (mCl fStr (mCons (mOp2 fIx (mVar 3) (mC (.int 0))) mNil)) (mOp2 fAdd (mOp2 fAdd (mCl fStr (mCons (mOp2 fIx (mVar 3) (mC (.int 0))) mNil)) (mC (.str "/"))) (mCl fStr (mCons (mOp2 fIx (mVar 3) (mC (.int 1))) mNil)))))) (mSeq (mIfS (mOrT (mCmp (fEq2 true) (mCall F_ratio_text (mCons (mVar 3) mNil)) (mVar 7)) (mOrT (mCmp (fEq2 true) (mCall F_read_ratio (mCons (mVar 7) mNil)) (mVar 3)) (mNotT (mTru (mIsI "tuple" (mCall F_read_ratio (mCons (mVar 7) mNil))))))) (mRet (mC (.bool false))) mNx) (mFor (mRng1 (mCons (mC (.int 6)) mNil)) (tgName 8) (mSeq (mPar [9, 10] (mConsL (mVal (mCall F__law_take (mCons (mVar 1) (mCons (mOp2 fAdd (mCl fLen (mCons (mVar 7) mNil)) (mC (.int 1))) mNil)))) (mConsL (mVal (mOp2 fIx (mLk (mLst (mCons (mC (.str "0")) (mCons (mC (.str "1")) (mCons (mC (.str "/")) (mCons (mC (.str "-")) (mCons (mC (.str " ")) (mCons (mC (.str "x")) (mCons (mC (.str "+")) mNil))))))))) (mCall F__law_take (mCons (mVar 1) (mCons (mC (.int 7)) mNil))))) mNilL))) (mSeq (mAsg 11 (mVal (mOp2 fIx (mLk (mLst (mCons (mOp2 fAdd (mOp2 fAdd (mSl (mVar 7) mNoP (mPart (mVar 9))) (mVar 10)) (mSl (mVar 7) (mPart (mVar 9)) mNoP)) (mCons (mOp2 fAdd (mSl (mVar 7) mNoP (mPart (mVar 9))) (mSl (mVar 7) (mPart (mOp2 fAdd (mVar 9) (mC (.int 1)))) mNoP)) (mCons (mOp2 fAdd (mOp2 fAdd (mSl (mVar 7) mNoP (mPart (mVar 9))) (mVar 10)) (mSl (mVar 7) (mPart (mOp2 fAdd (mVar 9) (mC (.int 1)))) mNoP)) mNil))))) (mCall F__law_take (mCons (mVar 1) (mCons (mC (.int 3)) mNil)))))) (mIfS (mCmp (fEq2 true) (mCall F__law_read (mCons (mVar 11) mNil)) (mCall F__law_due (mCons (mVar 11) mNil))) (mRet (mC (.bool false))) mNx)))))))))))
def M_law2 : Ms := (mIfS (mOrT (mCmp (fEq2 true) (mLk (mComp [12] (mIt (mLk (mLst (mCons (mC (.str "")) (mCons (mC (.str "-")) (mCons (mC (.str "/")) (mCons (mC (.str "1/")) (mCons (mC (.str "/2")) (mCons (mC (.str "2/4")) (mCons (mC (.str "1/1")) (mCons (mC (.str "0/3")) (mCons (mC (.str "-0")) (mCons (mC (.str "01")) (mCons (mC (.str "1/0")) (mCons (mC (.str "1/-2")) (mCons (mOp2 fMul2 (mC (.str "1")) (mC (.int 41))) (mCons (mC (.str "1/2/3")) mNil))))))))))))))))) (tgName 12) (mCmp (fIs true) (mCall F__law_read (mCons (mVar 12) mNil)) (mC .none)) (mVar 12))) (mLk (mLst mNil))) (mCmp (fEq2 true) (mCall F__law_read (mCons (mOp2 fMul2 (mC (.str "9")) (mC (.int 40))) mNil)) (mTup (mCons (mCl fInt (mCons (mOp2 fMul2 (mC (.str "9")) (mC (.int 40))) mNil)) (mCons (mC (.int 1)) mNil))))) (mRet (mC (.bool false))) mNx)
def M_law3 : Ms := (mIfS (mCmp (fEq2 true) (mLk (mComp [13] (mRng1 (mCons (mC (.int 4)) mNil)) (tgName 13) (mOrT (mCmp (fEq2 true) (mCall F__law_caught (mCons (mVar 13) (mCons (mC (.int 0)) mNil))) (mVar 13)) (mCmp (fEq2 true) (mCall F__law_caught (mCons (mVar 13) (mCons (mC (.int 1)) mNil))) (mC (.str "net")))) (mVar 13))) (mLk (mLst mNil))) (mRet (mC (.bool false))) mNx)
def M_law4 : Ms := (mRet (mAnd (mOp2 (bV (fEq2 false)) (mLk (mComp [14] (mIt (mLk (mLst (mCons (mC .none) (mCons (mTup mNil) (mCons (mTup (mCons (mC (.int 1)) mNil)) (mCons (mTup (mCons (mC (.int 1)) (mCons (mC (.int 2)) (mCons (mC (.int 3)) mNil)))) (mCons (mTup (mCons (mC (.int 2)) (mCons (mC (.int 4)) mNil))) (mCons (mTup (mCons (mC (.int 1)) (mCons (mC (.int 0)) mNil))) (mCons (mTup (mCons (mC (.int 1)) (mCons (mOp1 fNeg (mC (.int 2))) mNil))) (mCons (mTup (mCons (mC (.bool true)) (mCons (mC (.int 1)) mNil))) (mCons (mTup (mCons (mC (.int 1)) (mCons (mC (.bool true)) mNil))) (mCons (mLk (mLst (mCons (mC (.int 1)) (mCons (mC (.int 2)) mNil)))) (mCons (mTup (mCons (mC (.int 0)) (mCons (mC (.int 2)) mNil))) (mCons (mC (.str "1")) (mCons (mC (.int 1)) mNil)))))))))))))))) (tgName 14) (mTru (mCall F_is_ratio (mCons (mVar 14) mNil))) (mVar 14))) (mLk (mLst mNil))) (mAnd (mCall F_is_ratio (mCons (mTup (mCons (mC (.int 0)) (mCons (mC (.int 1)) mNil))) mNil)) (mCall F_is_ratio (mCons (mTup (mCons (mOp1 fNeg (mC (.int 3))) (mCons (mC (.int 2)) mNil))) mNil)))))
def M_rest : Ms := mSeq M_law1 (mSeq M_law2 (mSeq M_law3 M_law4))
def spLaw (K : PySem.W.Frag) : Sp := fun vs H Q _ => ∃ (a : Addr) (ns : List Int), vs = [.ref a] ∧ SqL K H a (ns.map V.int) ∧ ns.length ≤ 63 ∧ ∀ H', Q (.bl true) H'
/-- what stands in the draw is as it must be -/
def Dok (ω : Dr) : Prop := -1 ≤ ω.i ∧ 0 ≤ ω.r ∧ ω.r < 2147483647 ∧ 0 ≤ ω.s ∧ (∀ c ∈ ω.cells, 0 ≤ c) ∧ ω.cells.length ≤ 63
theorem ok_law {P : Program} {w : World} {K : PySem.W.Frag} {mg : Str → Option Value} {base : Heap} (T : Tx P K mg) (pl : ∀ ω, Dok ω → ∃ ρ' ω', M_rest ([.none, .par .draw] ++ List.replicate 13 .none) ω = .ok (.rt (.bool true)) (ρ', ω')) :
    FnOk P w K mg base (L2.CX P w) 8 T.f_law T.d_law ["script"] (spLaw K) := by
  refine T.F_law.okX sc_law (fun vs H Q E h => by obtain ⟨_, _, rfl, _⟩ := h; rfl) fun cdv A outer s H vs Q E hr h => ?_
  obtain ⟨a, ns, rfl, hS, hn, k⟩ := h
  have hb : MSs (cxOf (L2.CX P w) P w K mg base ["script", "draw", "turn", "p", "q", "a", "b", "text", "k", "at", "more", "bent", "bad", "kind", "value"] "law" (defScope s_law) T.f_law cdv A outer s H E) (WE0 E) (defBody s_law).tail M_rest := by
    exact (mss_cons (ms_for (passes_of rfl) rfl (mi_range1 (by rfl) T.n_range (ma_cons me_int ma_nil)) (mg_name sc_law.nd) (mss_cons (ms_unpL (is := [3, 4]) rfl (me_new (mn_comp (own := [(("k" : Str), 8)]) rfl sc_law.nd (blkOk_by (by kernel_rfl)) (by decide) (mi_range1 (by rfl) T.n_range (ma_cons me_int ma_nil)) (fun _ _ _ _ _ => (mg_name sc_law.nd)) (fun _ _ _ _ _ => mts_nil) (fun _ _ _ _ _ => (me_call takes0 (ok__law_low T) (hr.mono (by decide)) (by rfl) T.g__law_low T.F__law_low.kp (b__law_low T) (ma_cons (me_op op_sub o2_int0 (me_call takes0 (ok__law_take T) (hr.mono (by decide)) (by rfl) T.g__law_take T.F__law_take.kp (b__law_take T) (ma_cons (me_var 1) (ma_cons me_int ma_nil)) (by rfl)) me_int) (ma_cons (me_op op_rAdd o2_add me_int (me_call takes0 (ok__law_take T) (hr.mono (by decide)) (by rfl) T.g__law_take T.F__law_take.kp (b__law_take T) (ma_cons (me_var 1) (ma_cons me_int ma_nil)) (by rfl))) ma_nil)) (by rfl))))) (mgs_cons (i := 3) sc_law.nd (mgs_cons (i := 4) sc_law.nd mgs_nil)))
    (mss_cons (ms_if (mt_w (mw_or (mt_cmp (op_ne2 (hu64 hr)) o2_ne2 (me_call (takes_of rfl rfl rfl rfl) (ok_plus T) (hr.mono (by decide)) (by rfl) T.g_plus T.F_plus.kp (b_plus T) (ma_cons (me_var 3) (ma_cons (me_var 4) ma_nil)) (by rfl)) (me_call (takes_of rfl rfl rfl rfl) (ok__law_plus T) (hr.mono (by decide)) (by rfl) T.g__law_plus T.F__law_plus.kp (b__law_plus T) (ma_cons (me_var 3) (ma_cons (me_var 4) ma_nil)) (by rfl)) (nomark _)) (mw_or (mt_cmp (op_ne2 (hu64 hr)) o2_ne2 (me_call (takes_of rfl rfl rfl rfl) (ok_minus T) (hr.mono (by decide)) (by rfl) T.g_minus T.F_minus.kp (b_minus T) (ma_cons (me_var 3) (ma_cons (me_var 4) ma_nil)) (by rfl)) (me_call (takes_of rfl rfl rfl rfl) (ok__law_minus T) (hr.mono (by decide)) (by rfl) T.g__law_minus T.F__law_minus.kp (b__law_minus T) (ma_cons (me_var 3) (ma_cons (me_var 4) ma_nil)) (by rfl)) (nomark _)) (mw_or (mt_cmp (op_ne2 (hu64 hr)) o2_ne2 (me_call (takes_of rfl rfl rfl rfl) (ok_times T) (hr.mono (by decide)) (by rfl) T.g_times T.F_times.kp (b_times T) (ma_cons (me_var 3) (ma_cons (me_var 4) ma_nil)) (by rfl)) (me_call (takes_of rfl rfl rfl rfl) (ok__law_times T) (hr.mono (by decide)) (by rfl) T.g__law_times T.F__law_times.kp (b__law_times T) (ma_cons (me_var 3) (ma_cons (me_var 4) ma_nil)) (by rfl)) (nomark _)) (mw_or (mt_cmp (op_ne2 (hu64 hr)) o2_ne2 (me_call (takes_of rfl rfl rfl rfl) (ok_less1 T) (hr.mono (by decide)) (by rfl) T.g_less_ratios T.F_less1.kp (b_less1 T) (ma_cons (me_var 3) (ma_cons (me_var 4) ma_nil)) (by rfl)) (me_call (takes_of rfl rfl rfl rfl) (ok__law_less T) (hr.mono (by decide)) (by rfl) T.g__law_less T.F__law_less.kp (b__law_less T) (ma_cons (me_var 3) (ma_cons (me_var 4) ma_nil)) (by rfl)) (nomark _)) (mw_or1 (mt_not (mt_tru (me_isi (by rfl) T.n_isinstance (by rfl) T.n_bool (by decide +kernel) (me_call (takes_of rfl rfl rfl rfl) (ok_less1 T) (hr.mono (by decide)) (by rfl) T.g_less_ratios T.F_less1.kp (b_less1 T) (ma_cons (me_var 3) (ma_cons (me_var 4) ma_nil)) (by rfl))))))))))) (mss_one (ms_ret me_bl)) mss_nil)
    (mss_cons (ms_par2 (i := 5) (j := 6) rfl sc_law.nd (mas_cons (ml_val (me_op op_sub o2_int0 (me_call (takes_of rfl rfl rfl rfl) (ok__law_take T) (hr.mono (by decide)) (by rfl) T.g__law_take T.F__law_take.kp (b__law_take T) (ma_cons (me_var 1) (ma_cons me_int ma_nil)) (by rfl)) me_int)) (mas_cons (ml_val (me_op op_sub o2_int0 (me_call (takes_of rfl rfl rfl rfl) (ok__law_take T) (hr.mono (by decide)) (by rfl) T.g__law_take T.F__law_take.kp (b__law_take T) (ma_cons (me_var 1) (ma_cons me_int ma_nil)) (by rfl)) me_int)) mas_nil)))
    (mss_cons (ms_if (mt_w (mw_or (mt_w (mw_and (mt_cmp (op_ne2 (hu64 hr)) o2_ne2 (me_ix ix_seq o2_ix (me_var 4) me_int (fun _ _ => rfl)) me_int (nomark _)) (mw_and1 (mt_cmp (op_ne2 (hu64 hr)) o2_ne2 (me_call (takes_of rfl rfl rfl rfl) (ok_divided T) (hr.mono (by decide)) (by rfl) T.g_divided T.F_divided.kp (b_divided T) (ma_cons (me_var 3) (ma_cons (me_var 4) ma_nil)) (by rfl)) (me_call (takes_of rfl rfl rfl rfl) (ok__law_low T) (hr.mono (by decide)) (by rfl) T.g__law_low T.F__law_low.kp (b__law_low T) (ma_cons (me_op op_mul2 o2_mul2 (me_ix ix_seq o2_ix (me_var 3) me_int (fun _ _ => rfl)) (me_ix ix_seq o2_ix (me_var 4) me_int (fun _ _ => rfl))) (ma_cons (me_op op_mul2 o2_mul2 (me_ix ix_seq o2_ix (me_var 3) me_int (fun _ _ => rfl)) (me_ix ix_seq o2_ix (me_var 4) me_int (fun _ _ => rfl))) ma_nil)) (by rfl)) (nomark _))))) (mw_or1 (mt_w (mw_and (mt_cmp (op_ne2 (hu64 hr)) o2_ne2 (me_var 6) me_int (nomark _)) (mw_and1 (mt_cmp (op_ne2 (hu64 hr)) o2_ne2 (me_call (takes_of rfl rfl rfl rfl) (ok_lowest T) (hr.mono (by decide)) (by rfl) T.g_lowest T.F_lowest.kp (b_lowest T) (ma_cons (me_var 5) (ma_cons (me_var 6) ma_nil)) (by rfl)) (me_call (takes_of rfl rfl rfl rfl) (ok__law_low T) (hr.mono (by decide)) (by rfl) T.g__law_low T.F__law_low.kp (b__law_low T) (ma_cons (me_var 5) (ma_cons (me_var 6) ma_nil)) (by rfl)) (nomark _)))))))) (mss_one (ms_ret me_bl)) mss_nil)
    (mss_cons (ms_set (i := 7) sc_law.nd (ml_val (me_if (mt_cmp (op_eq2 (hu64 hr)) o2_eq2 (me_ix ix_seq o2_ix (me_var 3) me_int (fun _ _ => rfl)) me_int (nomark _)) (me_callTy call_str_int cl_str (by rfl) T.n_str (by decide +kernel) (ma_cons (me_ix ix_seq o2_ix (me_var 3) me_int (fun _ _ => rfl)) ma_nil)) (me_op op_rAdd o2_add (me_op op_rAdd o2_add (me_callTy call_str_int cl_str (by rfl) T.n_str (by decide +kernel) (ma_cons (me_ix ix_seq o2_ix (me_var 3) me_int (fun _ _ => rfl)) ma_nil)) me_str) (me_callTy call_str_int cl_str (by rfl) T.n_str (by decide +kernel) (ma_cons (me_ix ix_seq o2_ix (me_var 3) me_int (fun _ _ => rfl)) ma_nil))))))
    (mss_cons (ms_if (mt_w (mw_or (mt_cmp (op_ne2 (hu64 hr)) o2_ne2 (me_call (takes_of rfl rfl rfl rfl) (ok_ratio_text T) (hr.mono (by decide)) (by rfl) T.g_ratio_text T.F_ratio_text.kp (b_ratio_text T) (ma_cons (me_var 3) ma_nil) (by rfl)) (me_var 7) (nomark _)) (mw_or (mt_cmp (op_ne2 (hu64 hr)) o2_ne2 (me_call (takes_of rfl rfl rfl rfl) (ok_read_ratio T) (hr.mono (by decide)) (by rfl) T.g_read_ratio T.F_read_ratio.kp (b_read_ratio T) (ma_cons (me_var 7) ma_nil) (by rfl)) (me_var 3) (nomark _)) (mw_or1 (mt_not (mt_tru (me_isi (by rfl) T.n_isinstance (by rfl) T.n_tuple (by decide +kernel) (me_call (takes_of rfl rfl rfl rfl) (ok_read_ratio T) (hr.mono (by decide)) (by rfl) T.g_read_ratio T.F_read_ratio.kp (b_read_ratio T) (ma_cons (me_var 7) ma_nil) (by rfl))))))))) (mss_one (ms_ret me_bl)) mss_nil)
    (mss_one (ms_for (passes_of rfl) rfl (mi_range1 (by rfl) T.n_range (ma_cons me_int ma_nil)) (mg_name sc_law.nd) (mss_cons (ms_par2 (i := 9) (j := 10) rfl sc_law.nd (mas_cons (ml_val (me_call (takes_of rfl rfl rfl rfl) (ok__law_take T) (hr.mono (by decide)) (by rfl) T.g__law_take T.F__law_take.kp (b__law_take T) (ma_cons (me_var 1) (ma_cons (me_op op_rAdd o2_add (me_callB cr_len cl_len (by rfl) T.n_len (by decide +kernel) (ma_cons (me_var 7) ma_nil)) me_int) ma_nil)) (by rfl))) (mas_cons (ml_val (me_ix ix_seq o2_ix (me_new (mn_lst (ma_cons me_str (ma_cons me_str (ma_cons me_str (ma_cons me_str (ma_cons me_str (ma_cons me_str (ma_cons me_str ma_nil))))))))) (me_call (takes_of rfl rfl rfl rfl) (ok__law_take T) (hr.mono (by decide)) (by rfl) T.g__law_take T.F__law_take.kp (b__law_take T) (ma_cons (me_var 1) (ma_cons me_int ma_nil)) (by rfl)) (fun _ _ => rfl))) mas_nil)))
    (mss_cons (ms_set (i := 11) sc_law.nd (ml_val (me_ix ix_seq o2_ix (me_new (mn_lst (ma_cons (me_op op_rAdd o2_add (me_op op_rAdd o2_add (me_slice (me_var 7) mo_none (mo_some (me_var 9))) (me_var 10)) (me_slice (me_var 7) (mo_some (me_var 9)) mo_none)) (ma_cons (me_op op_rAdd o2_add (me_slice (me_var 7) mo_none (mo_some (me_var 9))) (me_slice (me_var 7) (mo_some (me_op op_rAdd o2_add (me_var 9) me_int)) mo_none)) (ma_cons (me_op op_rAdd o2_add (me_op op_rAdd o2_add (me_slice (me_var 7) mo_none (mo_some (me_var 9))) (me_var 10)) (me_slice (me_var 7) (mo_some (me_op op_rAdd o2_add (me_var 9) me_int)) mo_none)) ma_nil))))) (me_call (takes_of rfl rfl rfl rfl) (ok__law_take T) (hr.mono (by decide)) (by rfl) T.g__law_take T.F__law_take.kp (b__law_take T) (ma_cons (me_var 1) (ma_cons me_int ma_nil)) (by rfl)) (fun _ _ => rfl))))
    (mss_one (ms_if (mt_cmp (op_ne2 (hu64 hr)) o2_ne2 (me_call (takes_of rfl rfl rfl rfl) (ok__law_read T) (hr.mono (by decide)) (by rfl) T.g__law_read T.F__law_read.kp (b__law_read T) (ma_cons (me_var 11) ma_nil) (by rfl)) (me_call (takes_of rfl rfl rfl rfl) (ok__law_due T) (hr.mono (by decide)) (by rfl) T.g__law_due T.F__law_due.kp (b__law_due T) (ma_cons (me_var 11) ma_nil) (by rfl)) (nomark _)) (mss_one (ms_ret me_bl)) mss_nil)))))))))))))
    (mss_cons (ms_if (mt_w (mw_or (mt_cmp (op_ne2 (hu64 hr)) o2_ne2 (me_new (mn_comp (own := [(("bad" : Str), 12)]) rfl sc_law.nd (blkOk_by (by kernel_rfl)) (by decide) (mi_it (me_new (mn_lst (ma_cons me_str (ma_cons me_str (ma_cons me_str (ma_cons me_str (ma_cons me_str (ma_cons me_str (ma_cons me_str (ma_cons me_str (ma_cons me_str (ma_cons me_str (ma_cons me_str (ma_cons me_str (ma_cons (me_op op_mul2 o2_mul2 me_str me_int) (ma_cons me_str ma_nil))))))))))))))))) (fun _ _ _ _ _ => (mg_name sc_law.nd)) (fun _ _ _ _ _ => (mts_one (mt_cmp op_notN o2_isnot (me_call takes0 (ok__law_read T) (hr.mono (by decide)) (by rfl) T.g__law_read T.F__law_read.kp (b__law_read T) (ma_cons (me_var 12) ma_nil) (by rfl)) me_non (nomark _)))) (fun _ _ _ _ _ => (me_var 12)))) (me_new (mn_lst ma_nil)) (nomark _)) (mw_or1 (mt_cmp (op_ne2 (hu64 hr)) o2_ne2 (me_call (takes_of rfl rfl rfl rfl) (ok__law_read T) (hr.mono (by decide)) (by rfl) T.g__law_read T.F__law_read.kp (b__law_read T) (ma_cons (me_op op_mul2 o2_mul2 me_str me_int) ma_nil) (by rfl)) (me_tup (ma_cons (me_callTy cr_int cl_int (by rfl) T.n_int (by decide +kernel) (ma_cons (me_op op_mul2 o2_mul2 me_str me_int) ma_nil)) (ma_cons me_int ma_nil))) (nomark _))))) (mss_one (ms_ret me_bl)) mss_nil)
    (mss_cons (ms_if (mt_cmp (op_ne2 (hu64 hr)) o2_ne2 (me_new (mn_comp (own := [(("kind" : Str), 13)]) rfl sc_law.nd (blkOk_by (by kernel_rfl)) (by decide) (mi_range1 (by rfl) T.n_range (ma_cons me_int ma_nil)) (fun _ _ _ _ _ => (mg_name sc_law.nd)) (fun _ _ _ _ _ => (mts_one (mt_w (mw_or (mt_cmp (op_ne2 (hu64 hr)) o2_ne2 (me_call takes0 (ok__law_caught T) (hr.mono (by decide)) (by rfl) T.g__law_caught T.F__law_caught.kp (b__law_caught T) (ma_cons (me_var 13) (ma_cons me_int ma_nil)) (by rfl)) (me_var 13) (nomark _)) (mw_or1 (mt_cmp (op_ne2 (hu64 hr)) o2_ne2 (me_call takes0 (ok__law_caught T) (hr.mono (by decide)) (by rfl) T.g__law_caught T.F__law_caught.kp (b__law_caught T) (ma_cons (me_var 13) (ma_cons me_int ma_nil)) (by rfl)) me_str (nomark _))))))) (fun _ _ _ _ _ => (me_var 13)))) (me_new (mn_lst ma_nil)) (nomark _)) (mss_one (ms_ret me_bl)) mss_nil)
    (mss_one (ms_ret (me_and (me_cmp (op_eq2 (hu64 hr)) o2_eq2 (me_new (mn_comp (own := [(("value" : Str), 14)]) rfl sc_law.nd (blkOk_by (by kernel_rfl)) (by decide) (mi_it (me_new (mn_lst (ma_cons me_non (ma_cons (me_tup ma_nil) (ma_cons (me_tup (ma_cons me_int ma_nil)) (ma_cons (me_tup (ma_cons me_int (ma_cons me_int (ma_cons me_int ma_nil)))) (ma_cons (me_tup (ma_cons me_int (ma_cons me_int ma_nil))) (ma_cons (me_tup (ma_cons me_int (ma_cons me_int ma_nil))) (ma_cons (me_tup (ma_cons me_int (ma_cons (me_un un_neg o1_neg me_int) ma_nil))) (ma_cons (me_tup (ma_cons me_bl (ma_cons me_int ma_nil))) (ma_cons (me_tup (ma_cons me_int (ma_cons me_bl ma_nil))) (ma_cons (me_new (mn_lst (ma_cons me_int (ma_cons me_int ma_nil)))) (ma_cons (me_tup (ma_cons me_int (ma_cons me_int ma_nil))) (ma_cons me_str (ma_cons me_int ma_nil)))))))))))))))) (fun _ _ _ _ _ => (mg_name sc_law.nd)) (fun _ _ _ _ _ => (mts_one (mt_tru (me_call takes0 (ok_is_ratio T) (hr.mono (by decide)) (by rfl) T.g_is_ratio T.F_is_ratio.kp (b_is_ratio T) (ma_cons (me_var 14) ma_nil) (by rfl))))) (fun _ _ _ _ _ => (me_var 14)))) (me_new (mn_lst ma_nil)) (nomark _)) (me_and (me_call (takes_of rfl rfl rfl rfl) (ok_is_ratio T) (hr.mono (by decide)) (by rfl) T.g_is_ratio T.F_is_ratio.kp (b_is_ratio T) (ma_cons (me_tup (ma_cons me_int (ma_cons me_int ma_nil))) ma_nil) (by rfl)) (me_one (me_call (takes_of rfl rfl rfl rfl) (ok_is_ratio T) (hr.mono (by decide)) (by rfl) T.g_is_ratio T.F_is_ratio.kp (b_is_ratio T) (ma_cons (me_tup (ma_cons (me_un un_neg o1_neg me_int) (ma_cons me_int ma_nil))) ma_nil) (by rfl))))))))))
  refine ⟨_, pss_cons (ps_set (i := 1) sc_law.nd rfl (by first | exact Or.inl rfl | exact Or.inr rfl) (by exact (pe_callS (ok__law_draw T) (hr.mono (by decide)) rfl T.g__law_draw T.F__law_draw.kp (b__law_draw T) (fun σ => passAt (takes_of rfl rfl rfl rfl) σ) (by exact (pa_cons (pv 0) pa_nil))))) hb, ?_⟩
  refine ⟨.ref a, rfl, a, ns, rfl, hS, hn, fun p L o s' H' hp hx h1 h2 hs' => ?_⟩
  have hok : Dok ⟨ns.map iabs, -1, 0, s'⟩ := ⟨by show (-1 : Int) ≤ -1; decide, by show (0 : Int) ≤ 0; decide, by show (0 : Int) < 2147483647; decide, hs', fun c hc => by
    obtain ⟨n, _, rfl⟩ := List.mem_map.mp hc
    exact iabs_nn n, by simpa using hn⟩
  obtain ⟨ρ', ω', e⟩ := pl _ hok
  refine ⟨some p, H', [.none, .par .draw] ++ List.replicate 13 .none, ⟨ns.map iabs, -1, 0, s'⟩, ⟨ExD.refl _ _, fun b hb => ?_, Fz.refl _, rfl, fun i t ht => ?_, fun i j t u b hi hj ot => ?_, fun b hb => ?_⟩, ?_⟩
  · cases hb; exact ⟨_, h1⟩
  · match i, ht with
    | 0, ht => cases ht; trivial
    | 1, ht => cases ht; exact ⟨.ref p, rfl, p, rfl, rfl⟩
    | i + 2, ht =>
      have ht : (List.replicate 13 Sl.none)[i]? = some t := ht
      rw [List.getElem?_replicate] at ht
      split at ht
      · cases ht; trivial
      · cases ht
  · exfalso
    match i, hi with
    | 0, hi => cases hi; cases ot
    | 1, hi => cases hi; cases ot
    | i + 2, hi =>
      have hi : (List.replicate 13 Sl.none)[i]? = some t := hi
      rw [List.getElem?_replicate] at hi
      split at hi
      · cases hi; cases ot
      · cases hi
  · cases hb
    exact ⟨L, o, h1, h2, hok⟩
  · rw [e]
    intro v H2 _ _ rv
    cases rv
    exact k H2
end K17
end
-- Kh
section
set_option maxRecDepth 100000
set_option maxHeartbeats 4000000
namespace K17
open PySem PySem.Spec L2 FL
theorem law2_is (s0 s1 s2 s3 s4 s5 s6 s7 s8 s9 s10 s11 s12 s13 s14 : Sl) (ω : Dr) : M_law2 [s0, s1, s2, s3, s4, s5, s6, s7, s8, s9, s10, s11, s12, s13, s14] ω = .ok .nx ([s0, s1, s2, s3, s4, s5, s6, s7, s8, s9, s10, s11, s12, s13, s14], ω) := by kernel_rfl
theorem law3_is (s0 s1 s2 s3 s4 s5 s6 s7 s8 s9 s10 s11 s12 s13 s14 : Sl) (ω : Dr) : M_law3 [s0, s1, s2, s3, s4, s5, s6, s7, s8, s9, s10, s11, s12, s13, s14] ω = .ok .nx ([s0, s1, s2, s3, s4, s5, s6, s7, s8, s9, s10, s11, s12, s13, s14], ω) := by kernel_rfl
theorem law4_is (s0 s1 s2 s3 s4 s5 s6 s7 s8 s9 s10 s11 s12 s13 s14 : Sl) (ω : Dr) : M_law4 [s0, s1, s2, s3, s4, s5, s6, s7, s8, s9, s10, s11, s12, s13, s14] ω = .ok (.rt (.bool true)) ([s0, s1, s2, s3, s4, s5, s6, s7, s8, s9, s10, s11, s12, s13, s14], ω) := by kernel_rfl
end K17
end
-- Kj
section
set_option maxRecDepth 100000
set_option maxHeartbeats 4000000
namespace K17
open PySem PySem.Spec L2 FL
theorem cMul_l (i j : Int) (h : decide (-(2 ^ 64) < i ∧ i < 2 ^ 64) = true) : cMul i j = true := by
  unfold cMul
  rw [h, Bool.true_or]
theorem cMul_s (i j : Int) (h : -(2 ^ 64) < i ∧ i < 2 ^ 64) : cMul i j = true := cMul_l i j (decide_eq_true h)
theorem mDrSet_ok {i : Nat} {k n : Int} {m : Me} {ρ : Rho} {ω ω1 ω2 : Dr} (hρ : ρ[i]? = some (.par .draw)) (h : m ρ ω = .ok (.d (.int n)) ω1) (hp : drPut ω1 k n = some ω2) : mDrSet i k m ρ ω = .ok .nx (ρ, ω2) := by
  unfold mDrSet
  rw [hρ]
  dsimp only
  rw [h]
  simp only [Res.st, intOf]
  rw [hp]
theorem take_is (ω : Dr) (m : Int) (hm : 0 < m ∧ m < 1073741824) (h : Dok ω) : ∃ n ω', F__law_take [.draw, .d (.int m)] ω = .ok (.int n) ω' ∧ 0 ≤ n ∧ n < m ∧ Dok ω' := by
  have hD : ∀ (ω : Dr) (X : Sl), mDrI 0 2 [.par .draw, .par (.d (.int m)), X] ω = .ok (.d (.int ω.r)) ω := fun _ _ => rfl
  have eqz : ∀ (ω : Dr) (X : Sl), mCmp (fEq2 false) (mDrI 0 2) (mC (.int 0)) [.par .draw, .par (.d (.int m)), X] ω = .ok (ω.r == 0) ω := fun _ _ => rfl
  -- the first statement
  have A : ∃ ω1, mIfS (mCmp (fEq2 false) (mDrI 0 2) (mC (.int 0))) (mSeq (mDrSet 0 1 (mOp2 fAdd (mDrI 0 1) (mC (.int 1)))) (mSeq (mIfS (mCmp (fCmp fun i j => decide (i < j)) (mDrI 0 1) (mCl fLen (mCons (mDrI 0 0) mNil))) (mDrSet 0 2 (mOp2 (fInt2 cMod fun i j => i % j) (mOp2 fIx (mDrI 0 0) (mDrI 0 1)) (mC (.int 2147483647)))) mNx) (mIfS (mCmp (fEq2 false) (mDrI 0 2) (mC (.int 0))) (mSeq (mDrSet 0 3 (mOp2 (fInt2 cMod fun i j => i % j) (mCl fInt (mCons (mOp2 fAdd (mOp2 fMul2 (mDrI 0 3) (mC (.int 48271))) (mC (.int 11))) mNil)) (mC (.int 2147483647)))) (mDrSet 0 2 (mDrI 0 3))) mNx))) mNx [.par .draw, .par (.d (.int m)), .none] ω = .ok .nx ([.par .draw, .par (.d (.int m)), .none], ω1) ∧ Dok ω1 := by
    obtain ⟨b1, b2, b3, b4, b5, b6⟩ := h
    by_cases hr : ω.r = 0
    · have e0 := eqz ω .none
      rw [hr] at e0
      rw [mIfS_t e0]
      have s1 : mDrSet 0 1 (mOp2 fAdd (mDrI 0 1) (mC (.int 1))) [.par .draw, .par (.d (.int m)), .none] ω = .ok .nx ([.par .draw, .par (.d (.int m)), .none], { ω with i := ω.i + 1 }) := mDrSet_ok (n := ω.i + 1) (ω1 := ω) rfl rfl (by
        unfold drPut
        rw [if_pos rfl, if_pos (by omega)])
      rw [mSeq_nx s1]
      -- the second
      have B : ∃ ω2, mIfS (mCmp (fCmp fun i j => decide (i < j)) (mDrI 0 1) (mCl fLen (mCons (mDrI 0 0) mNil))) (mDrSet 0 2 (mOp2 (fInt2 cMod fun i j => i % j) (mOp2 fIx (mDrI 0 0) (mDrI 0 1)) (mC (.int 2147483647)))) mNx [.par .draw, .par (.d (.int m)), .none] { ω with i := ω.i + 1 } = .ok .nx ([.par .draw, .par (.d (.int m)), .none], ω2) ∧ Dok ω2 := by
        have hl : mCmp (fCmp fun i j => decide (i < j)) (mDrI 0 1) (mCl fLen (mCons (mDrI 0 0) mNil)) [.par .draw, .par (.d (.int m)), .none] { ω with i := ω.i + 1 } = .ok (decide (ω.i + 1 < ((ω.cells.map PyData.int).length : Int))) { ω with i := ω.i + 1 } := rfl
        by_cases hi : ω.i + 1 < ((ω.cells.map PyData.int).length : Int)
        · rw [decide_eq_true hi] at hl
          rw [mIfS_t hl]
          have hlt : (ω.i + 1).toNat < ω.cells.length := by rw [List.length_map] at hi; omega
          have hat : atI (ω.cells.map PyData.int) (ω.i + 1) = some (.int ω.cells[(ω.i + 1).toNat]) := by
            unfold atI ixN
            rw [if_pos (by omega), if_pos hi]
            simp [hlt]
          have hix : fIx (.d (.list (ω.cells.map .int))) (.d (.int (ω.i + 1))) = some (.d (.int ω.cells[(ω.i + 1).toNat])) := by
            show (atI (ω.cells.map PyData.int) (ω.i + 1)).map Vl.d = _
            rw [hat]
            rfl
          have h1 := mOp2_ok (f := fIx) (a := mDrI 0 0) (b := mDrI 0 1) (ρ := [.par .draw, .par (.d (.int m)), .none]) (ω := { ω with i := ω.i + 1 }) (ω1 := { ω with i := ω.i + 1 }) (ω2 := { ω with i := ω.i + 1 }) rfl rfl hix
          have h2 := mOp2_ok (f := fInt2 cMod fun i j => i % j) (b := mC (.int 2147483647)) (z := .d (.int (ω.cells[(ω.i + 1).toNat] % 2147483647))) (ω2 := { ω with i := ω.i + 1 }) h1 rfl rfl
          have q1 : 0 ≤ ω.cells[(ω.i + 1).toNat] % 2147483647 := Int.emod_nonneg _ (by decide)
          have q2 : ω.cells[(ω.i + 1).toNat] % 2147483647 < 2147483647 := Int.emod_lt_of_pos _ (by decide)
          exact ⟨{ ω with i := ω.i + 1, r := ω.cells[(ω.i + 1).toNat] % 2147483647 }, mDrSet_ok rfl h2 (by
            unfold drPut
            rw [if_neg (by decide), if_pos rfl, if_pos ⟨q1, q2⟩]), by show -1 ≤ ω.i + 1; omega, q1, q2, b4, b5, b6⟩
        · rw [decide_eq_false hi] at hl
          rw [mIfS_f hl]
          exact ⟨{ ω with i := ω.i + 1 }, rfl, by show -1 ≤ ω.i + 1; omega, b2, b3, b4, b5, b6⟩
      obtain ⟨ω2, e2, d2⟩ := B
      rw [mSeq_nx e2]
      have e3 := eqz ω2 .none
      by_cases hr2 : ω2.r = 0
      · rw [hr2] at e3
        rw [mIfS_t e3]
        have h1 := mOp2_ok (f := fMul2) (a := mDrI 0 3) (b := mC (.int 48271)) (ρ := [.par .draw, .par (.d (.int m)), .none]) (ω := ω2) (ω1 := ω2) (ω2 := ω2) rfl rfl (fMul_ok ω2.s 48271 (cMul_r ω2.s 48271 (by decide)))
        have h2 := mOp2_ok (f := fAdd) (b := mC (.int 11)) (z := .d (.int (ω2.s * 48271 + 11))) (ω2 := ω2) h1 rfl rfl
        have h3 := mCl1_ok (f := fInt) h2 rfl
        have h4 := mOp2_ok (f := fInt2 cMod fun i j => i % j) (b := mC (.int 2147483647)) (z := .d (.int ((ω2.s * 48271 + 11) % 2147483647))) (ω2 := ω2) h3 rfl rfl
        have q1 : 0 ≤ (ω2.s * 48271 + 11) % 2147483647 := Int.emod_nonneg _ (by decide)
        have q2 : (ω2.s * 48271 + 11) % 2147483647 < 2147483647 := Int.emod_lt_of_pos _ (by decide)
        rw [mSeq_nx (mDrSet_ok (k := 3) (ω2 := { ω2 with s := (ω2.s * 48271 + 11) % 2147483647 }) rfl h4 (by
          unfold drPut
          rw [if_neg (by decide), if_neg (by decide), if_pos rfl, if_pos q1]))]
        exact ⟨{ ω2 with s := (ω2.s * 48271 + 11) % 2147483647, r := (ω2.s * 48271 + 11) % 2147483647 }, mDrSet_ok (n := (ω2.s * 48271 + 11) % 2147483647) (ω1 := { ω2 with s := (ω2.s * 48271 + 11) % 2147483647 }) rfl rfl (by
          unfold drPut
          rw [if_neg (by decide), if_pos rfl, if_pos ⟨q1, q2⟩]), d2.1, q1, q2, q1, d2.2.2.2.2.1, d2.2.2.2.2.2⟩
      · have : (ω2.r == 0) = false := by simp [hr2]
        rw [this] at e3
        rw [mIfS_f e3]
        exact ⟨ω2, rfl, d2⟩
    · have e0 := eqz ω .none
      have : (ω.r == 0) = false := by simp [hr]
      rw [this] at e0
      rw [mIfS_f e0]
      exact ⟨ω, rfl, b1, b2, b3, b4, b5, b6⟩
  obtain ⟨ω1, e1, d1⟩ := A
  obtain ⟨b1, b2, b3, b4, b5, b6⟩ := d1
  have q1 : 0 ≤ ω1.r % m := Int.emod_nonneg _ (by omega)
  have q2 : ω1.r % m < m := Int.emod_lt_of_pos _ hm.1
  have q3 : 0 ≤ ω1.r / m := Int.ediv_nonneg b2 (by omega)
  have q4 : ω1.r / m < 2147483647 := Int.lt_of_le_of_lt (Int.ediv_le_self _ b2) b3
  have g1 : mOp2 (fInt2 cMod fun i j => i % j) (mCl fInt (mCons (mDrI 0 2) mNil)) (mVar 1) [.par .draw, .par (.d (.int m)), .none] ω1 = .ok (.d (.int (ω1.r % m))) ω1 := mOp2_ok (mCl1_ok (hD ω1 .none) rfl) rfl (by
    show (if cMod ω1.r m = true then some (Vl.d (.int (ω1.r % m))) else none) = _
    rw [if_pos (show cMod ω1.r m = true from decide_eq_true hm.1)])
  have g2 : mOp2 (fInt2 cDiv fun i j => i / j) (mDrI 0 2) (mVar 1) [.par .draw, .par (.d (.int m)), .val (.int (ω1.r % m))] ω1 = .ok (.d (.int (ω1.r / m))) ω1 := mOp2_ok (hD ω1 _) rfl (by
    show (if cDiv ω1.r m = true then some (Vl.d (.int (ω1.r / m))) else none) = _
    rw [if_pos (show cDiv ω1.r m = true from decide_eq_true hm)])
  refine ⟨ω1.r % m, { ω1 with r := ω1.r / m }, mDef_rt (ρ := [.par .draw, .par (.d (.int m)), .val (.int (ω1.r % m))]) rfl ?_, q1, q2, b1, q3, q4, b4, b5, b6⟩
  show mSeq _ (mSeq _ (mSeq _ _)) [.par .draw, .par (.d (.int m)), .none] ω = _
  rw [mSeq_nx e1, mSeq_nx (mAsg_ok (i := 2) (mVal_ok g1))]
  show mSeq _ _ [.par .draw, .par (.d (.int m)), .val (.int (ω1.r % m))] ω1 = _
  rw [mSeq_nx (mDrSet_ok (i := 0) (k := 2) (ω2 := { ω1 with r := ω1.r / m }) rfl g2 (by
    unfold drPut
    rw [if_neg (by decide), if_pos rfl, if_pos ⟨q3, q4⟩]))]
  rfl
/-! lowest -/
theorem lowest_is (a b : Int) (ω : Dr) (hb : b ≠ 0) (h : cDiv 0 (Nat.gcd a.natAbs b.natAbs : Nat) = true) : F_lowest [.d (.int a), .d (.int b)] ω = .ok (.tuple [.int (low a b).1, .int (low a b).2]) ω := by
  have c1 : mAsg 2 (mVal (mCall F_common (mCons (mVar 0) (mCons (mVar 1) mNil)))) [.par (.d (.int a)), .par (.d (.int b)), .none, .none] ω = .ok .nx ([.par (.d (.int a)), .par (.d (.int b)), .val (.int (Nat.gcd a.natAbs b.natAbs : Nat)), .none], ω) := mAsg_ok (i := 2) (mVal_ok (mCall2_ok rfl rfl rfl))
  unfold low
  by_cases hp : 0 < b
  · rw [if_pos hp]
    have hc : mCmp (fCmp fun i j => decide (j < i)) (mVar 1) (mC (.int 0)) [.par (.d (.int a)), .par (.d (.int b)), .val (.int (Nat.gcd a.natAbs b.natAbs : Nat)), .none] ω = .ok true ω := by
      show Res.ok (decide ((0 : Int) < b)) ω = _
      rw [decide_eq_true hp]
    have hs : mIf (mCmp (fCmp fun i j => decide (j < i)) (mVar 1) (mC (.int 0))) (mC (.int 1)) (mOp1 fNeg (mC (.int 1))) [.par (.d (.int a)), .par (.d (.int b)), .val (.int (Nat.gcd a.natAbs b.natAbs : Nat)), .none] ω = .ok (.d (.int 1)) ω := by
      rw [mIf_t hc]; rfl
    have m1 := mOp2_ok (f := fMul2) (a := mVar 3) (b := mVar 0) (ρ := [.par (.d (.int a)), .par (.d (.int b)), .val (.int (Nat.gcd a.natAbs b.natAbs : Nat)), .val (.int 1)]) (ω := ω) (ω1 := ω) (ω2 := ω) rfl rfl (fMul_ok 1 a (cMul_l 1 a (by decide)))
    have m2 := mOp2_ok (f := fMul2) (a := mVar 3) (b := mVar 1) (ρ := [.par (.d (.int a)), .par (.d (.int b)), .val (.int (Nat.gcd a.natAbs b.natAbs : Nat)), .val (.int 1)]) (ω := ω) (ω1 := ω) (ω2 := ω) rfl rfl (fMul_ok 1 b (cMul_l 1 b (by decide)))
    rw [Int.one_mul] at m1 m2
    have e1 := mOp2_ok (f := fInt2 cDiv fun i j => i / j) (b := mVar 2) (ω2 := ω) m1 rfl (fDiv_ok a _ h)
    have e2 := mOp2_ok (f := fInt2 cDiv fun i j => i / j) (b := mVar 2) (ω2 := ω) m2 rfl (fDiv_ok b _ h)
    refine mDef_rt (ρ := [.par (.d (.int a)), .par (.d (.int b)), .val (.int (Nat.gcd a.natAbs b.natAbs : Nat)), .val (.int 1)]) rfl ?_
    show mSeq _ (mSeq _ _) [.par (.d (.int a)), .par (.d (.int b)), .none, .none] ω = _
    rw [mSeq_nx c1, mSeq_nx (mAsg_ok (i := 3) (mVal_ok hs))]
    exact mRet_ok (mTup2_ok e1 e2)
  · rw [if_neg hp]
    have hc : mCmp (fCmp fun i j => decide (j < i)) (mVar 1) (mC (.int 0)) [.par (.d (.int a)), .par (.d (.int b)), .val (.int (Nat.gcd a.natAbs b.natAbs : Nat)), .none] ω = .ok false ω := by
      show Res.ok (decide ((0 : Int) < b)) ω = _
      rw [decide_eq_false hp]
    have hs : mIf (mCmp (fCmp fun i j => decide (j < i)) (mVar 1) (mC (.int 0))) (mC (.int 1)) (mOp1 fNeg (mC (.int 1))) [.par (.d (.int a)), .par (.d (.int b)), .val (.int (Nat.gcd a.natAbs b.natAbs : Nat)), .none] ω = .ok (.d (.int (-1))) ω := by
      rw [mIf_f hc]; rfl
    have m1 := mOp2_ok (f := fMul2) (a := mVar 3) (b := mVar 0) (ρ := [.par (.d (.int a)), .par (.d (.int b)), .val (.int (Nat.gcd a.natAbs b.natAbs : Nat)), .val (.int (-1))]) (ω := ω) (ω1 := ω) (ω2 := ω) rfl rfl (fMul_ok (-1) a (cMul_l (-1) a (by decide)))
    have m2 := mOp2_ok (f := fMul2) (a := mVar 3) (b := mVar 1) (ρ := [.par (.d (.int a)), .par (.d (.int b)), .val (.int (Nat.gcd a.natAbs b.natAbs : Nat)), .val (.int (-1))]) (ω := ω) (ω1 := ω) (ω2 := ω) rfl rfl (fMul_ok (-1) b (cMul_l (-1) b (by decide)))
    rw [Int.neg_one_mul] at m1 m2
    have e1 := mOp2_ok (f := fInt2 cDiv fun i j => i / j) (b := mVar 2) (ω2 := ω) m1 rfl (fDiv_ok (-a) _ h)
    have e2 := mOp2_ok (f := fInt2 cDiv fun i j => i / j) (b := mVar 2) (ω2 := ω) m2 rfl (fDiv_ok (-b) _ h)
    refine mDef_rt (ρ := [.par (.d (.int a)), .par (.d (.int b)), .val (.int (Nat.gcd a.natAbs b.natAbs : Nat)), .val (.int (-1))]) rfl ?_
    show mSeq _ (mSeq _ _) [.par (.d (.int a)), .par (.d (.int b)), .none, .none] ω = _
    rw [mSeq_nx c1, mSeq_nx (mAsg_ok (i := 3) (mVal_ok hs))]
    exact mRet_ok (mTup2_ok e1 e2)
theorem low_ok (a b : Int) (ω : Dr) (h : cDiv 0 (Nat.gcd a.natAbs b.natAbs : Nat) = true) : F__law_low [.d (.int a), .d (.int b)] ω = .ok (.tuple [.int (low a b).1, .int (low a b).2]) ω := by
  unfold F__law_low
  exact if_pos h
end K17
end
-- Kk
section
set_option maxRecDepth 100000
set_option maxHeartbeats 4000000
namespace K17
open PySem PySem.Spec L2 FL
theorem gcd_small (x y : Int) (h0 : y ≠ 0) (h1 : y.natAbs < 1073741824) : cDiv 0 (Nat.gcd x.natAbs y.natAbs : Nat) = true := by
  have hp : 0 < y.natAbs := Int.natAbs_pos.mpr h0
  have h2 : Nat.gcd x.natAbs y.natAbs ≤ y.natAbs := Nat.le_of_dvd hp (Nat.gcd_dvd_right _ _)
  have h3 : 0 < Nat.gcd x.natAbs y.natAbs := Nat.gcd_pos_of_pos_right _ hp
  refine decide_eq_true ⟨by omega, by omega⟩
/-- a ratio small enough -/
def Sm (a b : Int) : Prop := -100 ≤ a ∧ a ≤ 100 ∧ 0 < b ∧ b ≤ 100
abbrev tu (a b : Int) : PD := .tuple [.int a, .int b]
abbrev lowT (x y : Int) : PD := .tuple [.int (low x y).1, .int (low x y).2]
theorem mul_small {a b : Int} (h1 : -100 ≤ a ∧ a ≤ 100) (h2 : -100 ≤ b ∧ b ≤ 100) : -10000 ≤ a * b ∧ a * b ≤ 10000 := by
  have key : (a * b).natAbs ≤ 100 * 100 := by
    rw [Int.natAbs_mul]
    exact Nat.mul_le_mul (by omega) (by omega)
  omega
theorem cM {a b : Int} (h : -100 ≤ a ∧ a ≤ 100) : cMul a b = true := cMul_s a b ⟨by omega, by omega⟩
section
variable {a b c d : Int} {ω : Dr}
theorem ix00 : mOp2 fIx (mVar 0) (mC (.int 0)) [.par (.d (tu a b)), .par (.d (tu c d))] ω = .ok (.d (.int a)) ω := rfl
theorem ix01 : mOp2 fIx (mVar 0) (mC (.int 1)) [.par (.d (tu a b)), .par (.d (tu c d))] ω = .ok (.d (.int b)) ω := rfl
theorem ix10 : mOp2 fIx (mVar 1) (mC (.int 0)) [.par (.d (tu a b)), .par (.d (tu c d))] ω = .ok (.d (.int c)) ω := rfl
theorem ix11 : mOp2 fIx (mVar 1) (mC (.int 1)) [.par (.d (tu a b)), .par (.d (tu c d))] ω = .ok (.d (.int d)) ω := rfl

theorem plus_is (h1 : Sm a b) (h2 : Sm c d) : F_plus [.d (tu a b), .d (tu c d)] ω = .ok (lowT (a * d + c * b) (b * d)) ω := by
  have hne : b * d ≠ 0 := Int.mul_ne_zero (by have := h1.2.2.1; omega) (by have := h2.2.2.1; omega)
  have hbd := mul_small (a := b) (b := d) ⟨by have := h1.2.2.1; omega, h1.2.2.2⟩ ⟨by have := h2.2.2.1; omega, h2.2.2.2⟩
  have hg := gcd_small (a * d + c * b) (b * d) hne (by omega)
  have p1 := mOp2_ok (f := fMul2) ix00 (ix11 (a := a) (b := b) (c := c) (d := d) (ω := ω)) (fMul_ok a d (cM ⟨h1.1, h1.2.1⟩))
  have p2 := mOp2_ok (f := fMul2) ix10 (ix01 (a := a) (b := b) (c := c) (d := d) (ω := ω)) (fMul_ok c b (cM ⟨h2.1, h2.2.1⟩))
  have x1 := mOp2_ok (f := fAdd) (z := .d (.int (a * d + c * b))) p1 p2 rfl
  have y1 := mOp2_ok (f := fMul2) ix01 (ix11 (a := a) (b := b) (c := c) (d := d) (ω := ω)) (fMul_ok b d (cM ⟨by have := h1.2.2.1; omega, h1.2.2.2⟩))
  exact mDef_rt (ρ := [.par (.d (tu a b)), .par (.d (tu c d))]) rfl (mRet_ok (mCall2_ok x1 y1 (lowest_is (a * d + c * b) (b * d) ω hne hg)))
theorem law_plus_is (h1 : Sm a b) (h2 : Sm c d) : F__law_plus [.d (tu a b), .d (tu c d)] ω = .ok (lowT (a * d + c * b) (b * d)) ω := by
  have hne : b * d ≠ 0 := Int.mul_ne_zero (by have := h1.2.2.1; omega) (by have := h2.2.2.1; omega)
  have hbd := mul_small (a := b) (b := d) ⟨by have := h1.2.2.1; omega, h1.2.2.2⟩ ⟨by have := h2.2.2.1; omega, h2.2.2.2⟩
  have hg := gcd_small (a * d + c * b) (b * d) hne (by omega)
  have p1 := mOp2_ok (f := fMul2) ix00 (ix11 (a := a) (b := b) (c := c) (d := d) (ω := ω)) (fMul_ok a d (cM ⟨h1.1, h1.2.1⟩))
  have p2 := mOp2_ok (f := fMul2) ix10 (ix01 (a := a) (b := b) (c := c) (d := d) (ω := ω)) (fMul_ok c b (cM ⟨h2.1, h2.2.1⟩))
  have x1 := mOp2_ok (f := fAdd) (z := .d (.int (a * d + c * b))) p1 p2 rfl
  have y1 := mOp2_ok (f := fMul2) ix01 (ix11 (a := a) (b := b) (c := c) (d := d) (ω := ω)) (fMul_ok b d (cM ⟨by have := h1.2.2.1; omega, h1.2.2.2⟩))
  exact mDef_rt (ρ := [.par (.d (tu a b)), .par (.d (tu c d))]) rfl (mRet_ok (mCall2_ok x1 y1 (low_ok (a * d + c * b) (b * d) ω hg)))
theorem minus_is (h1 : Sm a b) (h2 : Sm c d) : F_minus [.d (tu a b), .d (tu c d)] ω = .ok (lowT (a * d - c * b) (b * d)) ω := by
  have hne : b * d ≠ 0 := Int.mul_ne_zero (by have := h1.2.2.1; omega) (by have := h2.2.2.1; omega)
  have hbd := mul_small (a := b) (b := d) ⟨by have := h1.2.2.1; omega, h1.2.2.2⟩ ⟨by have := h2.2.2.1; omega, h2.2.2.2⟩
  have hg := gcd_small (a * d - c * b) (b * d) hne (by omega)
  have p1 := mOp2_ok (f := fMul2) ix00 (ix11 (a := a) (b := b) (c := c) (d := d) (ω := ω)) (fMul_ok a d (cM ⟨h1.1, h1.2.1⟩))
  have p2 := mOp2_ok (f := fMul2) ix10 (ix01 (a := a) (b := b) (c := c) (d := d) (ω := ω)) (fMul_ok c b (cM ⟨h2.1, h2.2.1⟩))
  have x1 := mOp2_ok (f := fInt2 (fun _ _ => true) fun i j => i - j) (z := .d (.int (a * d - c * b))) p1 p2 rfl
  have y1 := mOp2_ok (f := fMul2) ix01 (ix11 (a := a) (b := b) (c := c) (d := d) (ω := ω)) (fMul_ok b d (cM ⟨by have := h1.2.2.1; omega, h1.2.2.2⟩))
  exact mDef_rt (ρ := [.par (.d (tu a b)), .par (.d (tu c d))]) rfl (mRet_ok (mCall2_ok x1 y1 (lowest_is (a * d - c * b) (b * d) ω hne hg)))
theorem law_minus_is (h1 : Sm a b) (h2 : Sm c d) : F__law_minus [.d (tu a b), .d (tu c d)] ω = .ok (lowT (a * d - c * b) (b * d)) ω := by
  have hne : b * d ≠ 0 := Int.mul_ne_zero (by have := h1.2.2.1; omega) (by have := h2.2.2.1; omega)
  have hbd := mul_small (a := b) (b := d) ⟨by have := h1.2.2.1; omega, h1.2.2.2⟩ ⟨by have := h2.2.2.1; omega, h2.2.2.2⟩
  have hg := gcd_small (a * d - c * b) (b * d) hne (by omega)
  have p1 := mOp2_ok (f := fMul2) ix00 (ix11 (a := a) (b := b) (c := c) (d := d) (ω := ω)) (fMul_ok a d (cM ⟨h1.1, h1.2.1⟩))
  have p2 := mOp2_ok (f := fMul2) ix10 (ix01 (a := a) (b := b) (c := c) (d := d) (ω := ω)) (fMul_ok c b (cM ⟨h2.1, h2.2.1⟩))
  have x1 := mOp2_ok (f := fInt2 (fun _ _ => true) fun i j => i - j) (z := .d (.int (a * d - c * b))) p1 p2 rfl
  have y1 := mOp2_ok (f := fMul2) ix01 (ix11 (a := a) (b := b) (c := c) (d := d) (ω := ω)) (fMul_ok b d (cM ⟨by have := h1.2.2.1; omega, h1.2.2.2⟩))
  exact mDef_rt (ρ := [.par (.d (tu a b)), .par (.d (tu c d))]) rfl (mRet_ok (mCall2_ok x1 y1 (low_ok (a * d - c * b) (b * d) ω hg)))
theorem times_is (h1 : Sm a b) (h2 : Sm c d) : F_times [.d (tu a b), .d (tu c d)] ω = .ok (lowT (a * c) (b * d)) ω := by
  have hne : b * d ≠ 0 := Int.mul_ne_zero (by have := h1.2.2.1; omega) (by have := h2.2.2.1; omega)
  have hbd := mul_small (a := b) (b := d) ⟨by have := h1.2.2.1; omega, h1.2.2.2⟩ ⟨by have := h2.2.2.1; omega, h2.2.2.2⟩
  have hg := gcd_small (a * c) (b * d) hne (by omega)
  have x1 := mOp2_ok (f := fMul2) ix00 (ix10 (a := a) (b := b) (c := c) (d := d) (ω := ω)) (fMul_ok a c (cM ⟨h1.1, h1.2.1⟩))
  have y1 := mOp2_ok (f := fMul2) ix01 (ix11 (a := a) (b := b) (c := c) (d := d) (ω := ω)) (fMul_ok b d (cM ⟨by have := h1.2.2.1; omega, h1.2.2.2⟩))
  exact mDef_rt (ρ := [.par (.d (tu a b)), .par (.d (tu c d))]) rfl (mRet_ok (mCall2_ok x1 y1 (lowest_is (a * c) (b * d) ω hne hg)))
theorem law_times_is (h1 : Sm a b) (h2 : Sm c d) : F__law_times [.d (tu a b), .d (tu c d)] ω = .ok (lowT (a * c) (b * d)) ω := by
  have hne : b * d ≠ 0 := Int.mul_ne_zero (by have := h1.2.2.1; omega) (by have := h2.2.2.1; omega)
  have hbd := mul_small (a := b) (b := d) ⟨by have := h1.2.2.1; omega, h1.2.2.2⟩ ⟨by have := h2.2.2.1; omega, h2.2.2.2⟩
  have hg := gcd_small (a * c) (b * d) hne (by omega)
  have x1 := mOp2_ok (f := fMul2) ix00 (ix10 (a := a) (b := b) (c := c) (d := d) (ω := ω)) (fMul_ok a c (cM ⟨h1.1, h1.2.1⟩))
  have y1 := mOp2_ok (f := fMul2) ix01 (ix11 (a := a) (b := b) (c := c) (d := d) (ω := ω)) (fMul_ok b d (cM ⟨by have := h1.2.2.1; omega, h1.2.2.2⟩))
  exact mDef_rt (ρ := [.par (.d (tu a b)), .par (.d (tu c d))]) rfl (mRet_ok (mCall2_ok x1 y1 (low_ok (a * c) (b * d) ω hg)))
theorem divided_is (h1 : Sm a b) (h2 : Sm c d) (hc : c ≠ 0) : F_divided [.d (tu a b), .d (tu c d)] ω = .ok (lowT (a * d) (b * c)) ω := by
  have hne : b * c ≠ 0 := Int.mul_ne_zero (by have := h1.2.2.1; omega) hc
  have hbd := mul_small (a := b) (b := c) ⟨by have := h1.2.2.1; omega, h1.2.2.2⟩ ⟨h2.1, h2.2.1⟩
  have hg := gcd_small (a * d) (b * c) hne (by omega)
  have x1 := mOp2_ok (f := fMul2) ix00 (ix11 (a := a) (b := b) (c := c) (d := d) (ω := ω)) (fMul_ok a d (cM ⟨h1.1, h1.2.1⟩))
  have y1 := mOp2_ok (f := fMul2) ix01 (ix10 (a := a) (b := b) (c := c) (d := d) (ω := ω)) (fMul_ok b c (cM ⟨by have := h1.2.2.1; omega, h1.2.2.2⟩))
  exact mDef_rt (ρ := [.par (.d (tu a b)), .par (.d (tu c d))]) rfl (mRet_ok (mCall2_ok x1 y1 (lowest_is (a * d) (b * c) ω hne hg)))
theorem less1_is (h1 : Sm a b) (h2 : Sm c d) : F_less1 [.d (tu a b), .d (tu c d)] ω = .ok (.bool (decide (a * d < c * b))) ω := by
  have p1 := mOp2_ok (f := fMul2) ix00 (ix11 (a := a) (b := b) (c := c) (d := d) (ω := ω)) (fMul_ok a d (cM ⟨h1.1, h1.2.1⟩))
  have p2 := mOp2_ok (f := fMul2) ix10 (ix01 (a := a) (b := b) (c := c) (d := d) (ω := ω)) (fMul_ok c b (cM ⟨h2.1, h2.2.1⟩))
  have x1 := mOp2_ok (f := bV (fCmp fun i j => decide (i < j))) (z := .d (.bool (decide (a * d < c * b)))) p1 p2 rfl
  exact mDef_rt (ρ := [.par (.d (tu a b)), .par (.d (tu c d))]) rfl (mRet_ok x1)
theorem law_less_is (h1 : Sm a b) (h2 : Sm c d) : F__law_less [.d (tu a b), .d (tu c d)] ω = .ok (.bool (decide (a * d < c * b))) ω := by
  have p1 := mOp2_ok (f := fMul2) ix00 (ix11 (a := a) (b := b) (c := c) (d := d) (ω := ω)) (fMul_ok a d (cM ⟨h1.1, h1.2.1⟩))
  have p2 := mOp2_ok (f := fMul2) ix10 (ix01 (a := a) (b := b) (c := c) (d := d) (ω := ω)) (fMul_ok c b (cM ⟨h2.1, h2.2.1⟩))
  have x1 := mOp2_ok (f := bV (fCmp fun i j => decide (i < j))) (z := .d (.bool (decide (a * d < c * b)))) p1 p2 rfl
  exact mDef_rt (ρ := [.par (.d (tu a b)), .par (.d (tu c d))]) rfl (mRet_ok x1)
end
end K17
end
-- Kl
section
set_option maxRecDepth 100000
set_option maxHeartbeats 4000000
namespace K17
open PySem PySem.Spec L2 FL SX
theorem mSl_ok {m : Me} {lo hi : Mo} {ρ : Rho} {ω ω1 ω2 ω3 : Dr} {u v : Vl} {a b : Option Int} (h1 : m ρ ω = .ok u ω1) (h2 : lo ρ ω1 = .ok a ω2) (h3 : hi ρ ω2 = .ok b ω3) (h4 : fSl u a b = some v) : mSl m lo hi ρ ω = .ok v ω3 := by
  unfold mSl
  rw [h1]
  simp only [Res.bind]
  rw [h2]
  simp only
  rw [h3]
  simp only
  rw [h4]
  rfl
theorem fSl_str (l : List Nat) (lo hi : Option Int) (h : l.length ≤ 100000) : fSl (.d (.str (S l))) lo hi = some (.d (.str (cutS (S l) lo hi))) := by
  unfold fSl
  simp only
  rw [if_pos (by rw [S_len]; exact h)]
theorem cut_to1 (l : List Nat) : cutS (S l) none (some 1) = S (l.take 1) := by
  unfold cutS
  rw [S_len]
  have e : HT.sIx l.length l.length (some 1) = min 1 l.length := HT.sIx_nat l.length l.length 1
  rw [e, HT.sIx_none]
  simp only [Nat.sub_zero, List.drop_zero]
  congr 2
  cases l with
  | nil => rfl
  | cons c l => simp
theorem cut_from1 (l : List Nat) : cutS (S l) (some 1) none = S (l.drop 1) := by
  unfold cutS
  rw [S_len]
  have e : HT.sIx l.length 0 (some 1) = min 1 l.length := HT.sIx_nat l.length 0 1
  rw [e, HT.sIx_none]
  congr 2
  cases l with
  | nil => rfl
  | cons c l => simp
/-- without its sign -/
def dg (l : List Nat) : List Nat := if l.take 1 = [45] then l.drop 1 else l
def isD (c : Nat) : Bool := decide (c ∈ (Str.ofString "0123456789").cps.toList)
theorem isD_iff (c : Nat) : isD c = true ↔ 48 ≤ c ∧ c ≤ 57 := by
  have e : (Str.ofString "0123456789").cps.toList = [48, 49, 50, 51, 52, 53, 54, 55, 56, 57] := by decide +kernel
  unfold isD
  rw [e, decide_eq_true_iff]
  simp only [List.mem_cons, List.not_mem_nil, or_false]
  omega
def good (l : List Nat) : Bool := !(dg l).isEmpty && (decide ((dg l).length ≤ 40) && (dg l).all isD)
def vl (l : List Nat) : Int := if good l = true then (intText? (S l)).getD 0 else 0
theorem dg_len (l : List Nat) : (dg l).length ≤ l.length := by
  unfold dg
  split
  · simp
  · exact Nat.le_refl _
theorem int_good {l : List Nat} (h : good l = true) (hl : l.length ≤ 100) : intText? (S l) = some (vl l) := by
  have h' := h
  unfold good at h
  rw [Bool.and_eq_true, Bool.and_eq_true] at h
  obtain ⟨h1, h2, h3⟩ := h
  have ad : NumText.AllDigits (dg l) := fun c hc => (isD_iff c).mp (List.all_eq_true.mp h3 c hc)
  have ne : dg l ≠ [] := by
    intro z
    rw [z] at h1
    cases h1
  have hs : ∃ v, intText? (S l) = some v := by
    unfold dg at ad ne
    by_cases ht : l.take 1 = [45]
    · rw [if_pos ht] at ad ne
      have el : l = 45 :: l.drop 1 := by
        cases l with
        | nil => cases ht
        | cons c r => simp at ht; subst ht; rfl
      exact ⟨_, PySem.intText_neg (x := S l) (cs := l.drop 1) el ad ne (by rw [S_len]; omega)⟩
    · rw [if_neg ht] at ad ne
      exact ⟨_, PySem.intText_digits (x := S l) ad ne (by rw [S_len]; omega)⟩
  obtain ⟨v, hv⟩ := hs
  unfold vl
  rw [if_pos h', hv]
  rfl
theorem dv_lt : ∀ (l : List Nat) (a : Nat), NumText.AllDigits l → l.foldl (fun acc c => acc * 10 + (c - 48)) a < (a + 1) * 10 ^ l.length
  | [], a, _ => by simp
  | c :: l, a, h => by
    have hc := h c List.mem_cons_self
    have ih := dv_lt l (a * 10 + (c - 48)) fun d hd => h d (List.mem_cons_of_mem _ hd)
    rw [List.foldl_cons, List.length_cons, Nat.pow_succ]
    refine Nat.lt_of_lt_of_le ih ?_
    have : a * 10 + (c - 48) + 1 ≤ (a + 1) * 10 := by omega
    calc (a * 10 + (c - 48) + 1) * 10 ^ l.length ≤ ((a + 1) * 10) * 10 ^ l.length := Nat.mul_le_mul_right _ this
      _ = (a + 1) * (10 ^ l.length * 10) := by rw [Nat.mul_assoc, Nat.mul_comm 10]
theorem vl_small {l : List Nat} (hl : l.length ≤ 8) : (vl l).natAbs < 10 ^ 8 := by
  unfold vl
  by_cases hg : good l = true
  · rw [if_pos hg]
    have h := hg
    unfold good at h
    rw [Bool.and_eq_true, Bool.and_eq_true] at h
    obtain ⟨h1, h2, h3⟩ := h
    have ad : NumText.AllDigits (dg l) := fun c hc => (isD_iff c).mp (List.all_eq_true.mp h3 c hc)
    have ne : dg l ≠ [] := by
      intro z
      rw [z] at h1
      cases h1
    have b1 := dv_lt (dg l) 0 ad
    have b2 : 10 ^ (dg l).length ≤ 10 ^ 8 := Nat.pow_le_pow_right (by decide) (Nat.le_trans (dg_len l) hl)
    have b3 : NumText.digitsVal (dg l) < 10 ^ 8 := by
      unfold NumText.digitsVal
      omega
    unfold dg at ad ne b3
    by_cases ht : l.take 1 = [45]
    · rw [if_pos ht] at ad ne b3
      have el : l = 45 :: l.drop 1 := by
        cases l with
        | nil => cases ht
        | cons c r => simp at ht; subst ht; rfl
      rw [PySem.intText_neg (x := S l) (cs := l.drop 1) el ad ne (by rw [S_len]; omega)]
      simp only [Option.getD_some]
      omega
    · rw [if_neg ht] at ad ne b3
      rw [PySem.intText_digits (x := S l) ad ne (by rw [S_len]; omega)]
      simp only [Option.getD_some]
      exact b3
  · rw [if_neg hg]
    decide
theorem S_empty (l : List Nat) : (S l == ("" : Str)) = l.isEmpty := by
  have e : ("" : Str) = S [] := by decide +kernel
  rw [e, S_beq]
  cases l <;> rfl
theorem S_minus (l : List Nat) : (S l == ("-" : Str)) = decide (l = [45]) := by
  have e : ("-" : Str) = S [45] := by decide +kernel
  rw [e, S_beq_eq]
/-- [c in digits for c in d] -/
theorem comp_dig (A B : Sl) (X : Sl) (ω : Dr) : ∀ (d : List Nat), compL [2] (tgName 2) mYes (mOp2 (bV (fInS true)) (mVar 2) (mC (.str "0123456789"))) [A, B, X] (d.map fun c => PyData.str ⟨#[c]⟩) ω = .ok (d.map fun c => PyData.bool (!isD c)) ω
  | [] => rfl
  | c :: d => compL_yes (ρ1 := [A, B, .val (.str ⟨#[c]⟩)]) (y := .bool (!isD c)) (ω1 := ω) (ω2 := ω) rfl rfl rfl (comp_dig A B X ω d)
theorem bools_map (f : Nat → Bool) : ∀ (d : List Nat), boolsOf (d.map fun c => PyData.bool (f c)) = some (d.map f)
  | [] => rfl
  | c :: d => by
    show (boolsOf (d.map fun c => PyData.bool (f c))).map (f c :: ·) = _
    rw [bools_map f d]
    rfl
theorem any_not (d : List Nat) : ((d.map fun c => !isD c).any id) = !(d.all isD) := by
  induction d with
  | nil => rfl
  | cons c d ih => simp only [List.map_cons, List.any_cons, List.all_cons, ih, id]; cases isD c <;> rfl
theorem num_in (l : List Nat) (hl : l.length ≤ 100) (ω : Dr) : F_number_in [.d (.str (S l))] ω = if good l = true then .ok (.int (vl l)) ω else .exc ("BadForm", some 0) ω := by
  have hd := dg_len l
  have c0 : mCmp (fEq2 false) (mSl (mVar 0) mNoP (mPart (mC (.int 1)))) (mC (.str "-")) [.par (.d (.str (S l))), .none, .none] ω = .ok (decide (l.take 1 = [45])) ω := by
    refine mCmp_ok (x := .d (.str (S (l.take 1)))) (y := .d (.str "-")) (ω1 := ω) (mSl_ok (a := none) (b := some 1) (u := .d (.str (S l))) (ω1 := ω) (ω2 := ω) rfl rfl rfl ?_) rfl ?_
    · rw [fSl_str l _ _ (by omega), cut_to1]
    · show some (S (l.take 1) == ("-" : Str)) = _
      rw [S_minus]
  have c1 : mIf (mCmp (fEq2 false) (mSl (mVar 0) mNoP (mPart (mC (.int 1)))) (mC (.str "-"))) (mSl (mVar 0) (mPart (mC (.int 1))) mNoP) (mVar 0) [.par (.d (.str (S l))), .none, .none] ω = .ok (.d (.str (S (dg l)))) ω := by
    unfold dg
    by_cases ht : l.take 1 = [45]
    · rw [decide_eq_true ht] at c0
      rw [mIf_t c0, if_pos ht]
      refine mSl_ok (a := some 1) (b := none) (u := .d (.str (S l))) (ω1 := ω) (ω2 := ω) rfl rfl rfl ?_
      rw [fSl_str l _ _ (by omega), cut_from1]
    · rw [decide_eq_false ht] at c0
      rw [mIf_f c0, if_neg ht]
      rfl
  have t1 : mCmp (fEq2 false) (mVar 1) (mC (.str "")) [.par (.d (.str (S l))), .val (.str (S (dg l))), .none] ω = .ok (dg l).isEmpty ω := by
    refine mCmp_ok (x := .d (.str (S (dg l)))) (y := .d (.str "")) (ω1 := ω) rfl rfl ?_
    show some (S (dg l) == ("" : Str)) = _
    rw [S_empty]
  have t2 : mCmp (fCmp fun i j => decide (j < i)) (mCl fLen (mCons (mVar 1) mNil)) (mC (.int 40)) [.par (.d (.str (S l))), .val (.str (S (dg l))), .none] ω = .ok (decide (40 < (((dg l).length : Nat) : Int))) ω := by
    refine mCmp_ok (x := .d (.int ((dg l).length : Nat))) (y := .d (.int 40)) (ω1 := ω) (mCl1_ok (x := .d (.str (S (dg l)))) rfl ?_) rfl rfl
    show (if (S (dg l)).length ≤ 100000 then some (Vl.d (.int ((S (dg l)).length : Nat))) else none) = _
    rw [S_len, if_pos (by omega)]
  have t3 : mTru (mCl (fBs fun bs => bs.any id) (mCons (mLk (mComp [2] (mIt (mVar 1)) (tgName 2) mYes (mOp2 (bV (fInS true)) (mVar 2) (mC (.str "0123456789"))))) mNil)) [.par (.d (.str (S l))), .val (.str (S (dg l))), .none] ω = .ok (!(dg l).all isD) ω := by
    have k1 : mIt (mVar 1) [.par (.d (.str (S l))), .val (.str (S (dg l))), .none] ω = .ok (true, (dg l).map fun c => PyData.str ⟨#[c]⟩) ω := by
      show lift (if (S (dg l)).length ≤ 100000 then some (true, signs (S (dg l))) else none) ω = _
      rw [if_pos (by rw [S_len]; omega)]
      rfl
    have k2 : mLk (mComp [2] (mIt (mVar 1)) (tgName 2) mYes (mOp2 (bV (fInS true)) (mVar 2) (mC (.str "0123456789")))) [.par (.d (.str (S l))), .val (.str (S (dg l))), .none] ω = .ok (.d (.list ((dg l).map fun c => PyData.bool (!isD c)))) ω := by
      unfold mLk mComp
      rw [k1]
      simp only [Res.bind]
      rw [comp_dig]
    refine mTru_ok (u := .d (.bool (!(dg l).all isD))) (mCl1_ok k2 ?_) rfl
    show (boolsOf ((dg l).map fun c => PyData.bool (!isD c))).map (fun bs => Vl.d (.bool (bs.any id))) = _
    rw [bools_map fun c => !isD c]
    show some (Vl.d (.bool (((dg l).map fun c => !isD c).any id))) = _
    rw [any_not]
  have tt : mOrT (mCmp (fEq2 false) (mVar 1) (mC (.str ""))) (mOrT (mCmp (fCmp fun i j => decide (j < i)) (mCl fLen (mCons (mVar 1) mNil)) (mC (.int 40))) (mTru (mCl (fBs fun bs => bs.any id) (mCons (mLk (mComp [2] (mIt (mVar 1)) (tgName 2) mYes (mOp2 (bV (fInS true)) (mVar 2) (mC (.str "0123456789"))))) mNil)))) [.par (.d (.str (S l))), .val (.str (S (dg l))), .none] ω = .ok (!good l) ω := by
    unfold good
    cases he : (dg l).isEmpty with
    | true => rw [he] at t1; rw [mOrT_t t1]; rfl
    | false =>
      rw [he] at t1
      rw [mOrT_f t1]
      by_cases h4 : (40 : Int) < (((dg l).length : Nat) : Int)
      · rw [decide_eq_true h4] at t2
        rw [mOrT_t t2, decide_eq_false (show ¬ (dg l).length ≤ 40 by omega)]
        rfl
      · rw [decide_eq_false h4] at t2
        rw [mOrT_f t2, t3, decide_eq_true (show (dg l).length ≤ 40 by omega)]
        simp
  by_cases hg : good l = true
  · rw [if_pos hg]
    rw [hg] at tt
    refine mDef_rt (ρ := [.par (.d (.str (S l))), .val (.str (S (dg l))), .none]) rfl ?_
    show mSeq _ (mSeq _ _) [.par (.d (.str (S l))), .none, .none] ω = _
    rw [mSeq_nx (mAsg_ok (i := 1) (mVal_ok c1))]
    show mSeq _ _ [.par (.d (.str (S l))), .val (.str (S (dg l))), .none] ω = _
    rw [mSeq_nx (ρ1 := [.par (.d (.str (S l))), .val (.str (S (dg l))), .none]) (ω1 := ω) (by rw [mIfS_f tt]; rfl)]
    refine mRet_ok (mCl1_ok (x := .d (.str (S l))) rfl ?_)
    show (if (S l).length ≤ 640 then (intText? (S l)).map (fun n => Vl.d (.int n)) else none) = _
    rw [if_pos (by rw [S_len]; omega), int_good hg hl]
    rfl
  · rw [if_neg hg]
    have hg' : good l = false := by simpa using hg
    rw [hg'] at tt
    refine mDef_exc (ρ := [.par (.d (.str (S l))), .val (.str (S (dg l))), .none]) rfl ?_
    show mSeq _ (mSeq _ _) [.par (.d (.str (S l))), .none, .none] ω = _
    rw [mSeq_nx (mAsg_ok (i := 1) (mVal_ok c1))]
    show mSeq _ _ [.par (.d (.str (S l))), .val (.str (S (dg l))), .none] ω = _
    exact mSeq_exc (by rw [mIfS_t tt]; rfl)
end K17
end
-- Km
section
set_option maxRecDepth 100000
set_option maxHeartbeats 4000000
namespace K17
open PySem PySem.Spec L2 FL SX
def txt (p : Int × Int) : Str := if p.2 = 1 then Str.ofString (toString p.1) else Str.ofString (toString p.1) ++ Str.ofString "/" ++ Str.ofString (toString p.2)
/-- small enough to be told as a text -/
def Lg (a : Int) : Prop := a.natAbs.log2 < 1920
theorem lg_len {a : Int} (h : Lg a) : (Str.ofString (toString a)).length ≤ 2000 := by
  have := PySem.int_text_length_le (k := 1920) (by decide) h
  rw [PySem.ofString_length]
  omega
def isrB (a b : Int) : Bool := decide (1 ≤ b) && (((Nat.gcd a.natAbs b.natAbs : Nat) : Int) == 1)
theorem isr_is (a b : Int) (ω : Dr) : F_is_ratio [.d (tu a b)] ω = .ok (.bool (isrB a b)) ω := by
  have e : mAnd (mOp2 (bV (fCmp fun i j => decide (j ≤ i))) (mOp2 fIx (mVar 0) (mC (.int 1))) (mC (.int 1))) (mOp2 (bV (fEq2 false)) (mCall F_common (mCons (mOp2 fIx (mVar 0) (mC (.int 0))) (mCons (mOp2 fIx (mVar 0) (mC (.int 1))) mNil))) (mC (.int 1))) [.par (.d (tu a b)), .none] ω = .ok (.d (.bool (isrB a b))) ω := by
    have e1 : mOp2 (bV (fCmp fun i j => decide (j ≤ i))) (mOp2 fIx (mVar 0) (mC (.int 1))) (mC (.int 1)) [.par (.d (tu a b)), .none] ω = .ok (.d (.bool (decide (1 ≤ b)))) ω := rfl
    have e2 : mOp2 (bV (fEq2 false)) (mCall F_common (mCons (mOp2 fIx (mVar 0) (mC (.int 0))) (mCons (mOp2 fIx (mVar 0) (mC (.int 1))) mNil))) (mC (.int 1)) [.par (.d (tu a b)), .none] ω = .ok (.d (.bool (((Nat.gcd a.natAbs b.natAbs : Nat) : Int) == 1))) ω := rfl
    unfold mAnd isrB
    rw [e1]
    by_cases hb : 1 ≤ b
    · rw [decide_eq_true hb]
      simp only [Res.bind, tru, Bool.true_and]
      exact e2
    · rw [decide_eq_false hb]
      rfl
  have c1 : mIfS (mOrT (mNotT (mTru (mIsI "tuple" (mVar 0)))) (mCmp (fEq2 true) (mCl fLen (mCons (mVar 0) mNil)) (mC (.int 2)))) (mRet (mC (.bool false))) mNx [.par (.d (tu a b)), .none] ω = .ok .nx ([.par (.d (tu a b)), .none], ω) := rfl
  have c2 : mIfS (mNotT (mTru (mCl (fBs fun bs => bs.all id) (mCons (mLk (mComp [1] (mIt (mVar 0)) (tgName 1) mYes (mAnd (mIsI "int" (mVar 1)) (mNot (mIsI "bool" (mVar 1)))))) mNil)))) (mRet (mC (.bool false))) mNx [.par (.d (tu a b)), .none] ω = .ok .nx ([.par (.d (tu a b)), .none], ω) := rfl
  refine mDef_rt (ρ := [.par (.d (tu a b)), .none]) rfl ?_
  show mSeq _ (mSeq _ _) [.par (.d (tu a b)), .none] ω = _
  rw [mSeq_nx c1, mSeq_nx c2]
  exact mRet_ok e
theorem fmt_ok {m : Me} {ρ : Rho} {ω ω1 : Dr} {a : Int} (h : m ρ ω = .ok (.d (.int a)) ω1) (ha : Lg a) : mFmt m ρ ω = .ok (.d (.str (Str.ofString (toString a)))) ω1 := by
  unfold mFmt
  rw [h]
  simp only [Res.bind, intOf]
  exact if_pos (show a.natAbs.log2 < 1920 from ha)
theorem join3_ok {p q r : Me} {ρ : Rho} {ω ω1 ω2 ω3 : Dr} {x y z : Str} (h1 : p ρ ω = .ok (.d (.str x)) ω1) (h2 : q ρ ω1 = .ok (.d (.str y)) ω2) (h3 : r ρ ω2 = .ok (.d (.str z)) ω3) (lx : x.length ≤ 30000) (ly : y.length ≤ 30000) (lz : z.length ≤ 30000) : mJoin3 p q r ρ ω = .ok (.d (.str (x ++ y ++ z))) ω3 := by
  have sx : ∀ {x : Str}, x.length ≤ 30000 → sStr (.d (.str x)) = some x := fun h => by
    unfold sStr strOf
    simp only
    rw [if_pos h]
  unfold mJoin3
  rw [h1]
  simp only [Res.bind]
  rw [sx lx]
  simp only
  rw [h2]
  simp only
  rw [sx ly]
  simp only
  rw [h3]
  simp only
  rw [sx lz]
theorem rt_is (a b : Int) (ω : Dr) (ha : Lg a) (hb : Lg b) : F_ratio_text [.d (tu a b)] ω = .ok (.str (txt (a, b))) ω := by
  have hc : mCmp (fEq2 false) (mOp2 fIx (mVar 0) (mC (.int 1))) (mC (.int 1)) [.par (.d (tu a b))] ω = .ok (b == 1) ω := rfl
  have i0 : mOp2 fIx (mVar 0) (mC (.int 0)) [.par (.d (tu a b))] ω = .ok (.d (.int a)) ω := rfl
  have i1 : mOp2 fIx (mVar 0) (mC (.int 1)) [.par (.d (tu a b))] ω = .ok (.d (.int b)) ω := rfl
  refine mDef_rt (ρ := [.par (.d (tu a b))]) rfl (mRet_ok ?_)
  show mIf _ _ _ [.par (.d (tu a b))] ω = _
  unfold txt
  by_cases h : b = 1
  · have e : (b == 1) = true := by simp [h]
    rw [e] at hc
    rw [mIf_t hc, if_pos h]
    exact fmt_ok i0 ha
  · have e : (b == 1) = false := by simp [h]
    rw [e] at hc
    rw [mIf_f hc, if_neg h]
    have l1 := lg_len ha
    have l2 := lg_len hb
    exact join3_ok (fmt_ok i0 ha) (y := Str.ofString "/") (ω2 := ω) rfl (fmt_ok i1 hb) (Nat.le_trans l1 (by decide)) (by decide +kernel) (Nat.le_trans l2 (by decide))
/-- the pair is the ratio that the text tells -/
def fin (t : Str) (a b : Int) : Bool := isrB a b && (txt (a, b) == t)
def exB : Ex' := ("BadForm", some 0)
theorem tail_read (t : Str) (X Y Z : Sl) (a b : Int) (ω : Dr) (ha : Lg a) (hb : Lg b) : mSeq (mIfS (mOrT (mNotT (mTru (mCall F_is_ratio (mCons (mVar 4) mNil)))) (mCmp (fEq2 true) (mCall F_ratio_text (mCons (mVar 4) mNil)) (mVar 0))) (mRaiseN "BadForm" 0) mNx) (mRet (mVar 4)) [.par (.d (.str t)), X, Y, Z, .val (tu a b)] ω
    = if fin t a b = true then .ok (.rt (tu a b)) ([.par (.d (.str t)), X, Y, Z, .val (tu a b)], ω) else .exc exB ([.par (.d (.str t)), X, Y, Z, .val (tu a b)], ω) := by
  have h1 : mNotT (mTru (mCall F_is_ratio (mCons (mVar 4) mNil))) [.par (.d (.str t)), X, Y, Z, .val (tu a b)] ω = .ok (!isrB a b) ω := mNotT_ok (mTru_ok (mCall1_ok rfl (isr_is a b ω)) rfl)
  have h2 : mCmp (fEq2 true) (mCall F_ratio_text (mCons (mVar 4) mNil)) (mVar 0) [.par (.d (.str t)), X, Y, Z, .val (tu a b)] ω = .ok (!(txt (a, b) == t)) ω := mCmp_ok (y := .d (.str t)) (ω2 := ω) (mCall1_ok rfl (rt_is a b ω ha hb)) rfl rfl
  unfold fin
  cases hi : isrB a b with
  | false =>
    rw [hi] at h1
    simp only [Bool.false_and, Bool.false_eq_true, if_false]
    exact mSeq_exc (by rw [mIfS_t (mOrT_t h1)]; rfl)
  | true =>
    rw [hi] at h1
    have ho := mOrT_f h1 (b := mCmp (fEq2 true) (mCall F_ratio_text (mCons (mVar 4) mNil)) (mVar 0))
    rw [h2] at ho
    cases ht : (txt (a, b) == t) with
    | false =>
      rw [ht] at ho
      simp only [Bool.true_and, Bool.false_eq_true, if_false]
      exact mSeq_exc (by rw [mIfS_t ho]; rfl)
    | true =>
      rw [ht] at ho
      simp only [Bool.true_and, if_true]
      rw [mSeq_nx (ρ1 := [.par (.d (.str t)), X, Y, Z, .val (tu a b)]) (ω1 := ω) (by rw [mIfS_f ho]; rfl)]
      rfl
theorem mTup2_e1 {a : Me} {b : Me} {ρ : Rho} {ω ω1 : Dr} {e : Ex'} (h1 : a ρ ω = .exc e ω1) : mTup (mCons a (mCons b mNil)) ρ ω = .exc e ω1 := by
  unfold mTup mCons
  rw [h1]
  rfl
theorem mTup2_e2 {a : Me} {b : Me} {ρ : Rho} {ω ω1 ω2 : Dr} {x : PD} {e : Ex'} (h1 : a ρ ω = .ok (.d x) ω1) (h2 : b ρ ω1 = .exc e ω2) : mTup (mCons a (mCons b mNil)) ρ ω = .exc e ω2 := by
  have hb : mCons b mNil ρ ω1 = .exc e ω2 := by
    unfold mCons
    rw [h2]
    rfl
  unfold mTup
  rw [mCons, h1]
  simp only [Res.bind]
  rw [hb]
theorem mAsg_e {i : Nat} {m : Me} {ρ : Rho} {ω ω1 : Dr} {e : Ex'} (h : m ρ ω = .exc e ω1) : mAsg i (mVal m) ρ ω = .exc e (ρ, ω1) := by
  unfold mAsg mVal
  rw [h]
  rfl
theorem unp_ok {l : List Nat} {x y z : Str} {ω : Dr} (hl : l.length ≤ 100) (h : Txt.partition (S l) (S [47]) = (x, y, z)) : mUnp [1, 2, 3] (mPart3 (mVar 0) (mC (.str "/"))) [.par (.d (.str (S l))), .none, .none, .none, .none] ω = .ok .nx ([.par (.d (.str (S l))), .val (.str x), .val (.str y), .val (.str z), .none], ω) := by
  have es : ("/" : Str) = S [47] := by decide +kernel
  have hp : fPart (S l) ("/" : Str) = some (.tuple [.str x, .str y, .str z]) := by
    unfold fPart
    rw [es, h, if_pos ⟨rfl, by rw [S_len]; omega⟩]
  have h3 : mPart3 (mVar 0) (mC (.str "/")) [.par (.d (.str (S l))), .none, .none, .none, .none] ω = .ok (.d (.tuple [.str x, .str y, .str z])) ω := by
    unfold mPart3 mM1 mVar mC
    simp only [Res.bind, strOf, List.getElem?_cons_zero]
    rw [hp]
  unfold mUnp
  rw [h3]
  rfl
theorem call_num {l : List Nat} {i : Nat} {ρ : Rho} {ω : Dr} (hl : l.length ≤ 100) (h : mVar i ρ ω = .ok (.d (.str (S l))) ω) : mCall F_number_in (mCons (mVar i) mNil) ρ ω = if good l = true then .ok (.d (.int (vl l))) ω else .exc exB ω := by
  have e := num_in l hl ω
  by_cases hg : good l = true
  · rw [if_pos hg] at e ⊢
    exact mCall1_ok h e
  · rw [if_neg hg] at e ⊢
    exact mCall1_exc h e
/-- no / in it -/
theorem read_no (l : List Nat) (hl : l.length ≤ 100) (h47 : 47 ∉ l) (hv : Lg (vl l)) (ω : Dr) : F_read_ratio [.d (.str (S l))] ω = if good l = true ∧ fin (S l) (vl l) 1 = true then .ok (tu (vl l) 1) ω else .exc exB ω := by
  have hp : Txt.partition (S l) (S [47]) = (S l, S [], S []) := partition_none (by decide) (TL.par_none1 h47)
  have hs := unp_ok (ω := ω) hl hp
  have hn := call_num (ρ := [.par (.d (.str (S l))), .val (.str (S l)), .val (.str (S [])), .val (.str (S [])), .none]) (i := 1) (ω := ω) hl rfl
  by_cases hg : good l = true
  · rw [if_pos hg] at hn
    have h2 : mAsg 4 (mVal (mTup (mCons (mCall F_number_in (mCons (mVar 1) mNil)) (mCons (mIf (mTru (mVar 2)) (mCall F_number_in (mCons (mVar 3) mNil)) (mC (.int 1))) mNil)))) [.par (.d (.str (S l))), .val (.str (S l)), .val (.str (S [])), .val (.str (S [])), .none] ω = .ok .nx ([.par (.d (.str (S l))), .val (.str (S l)), .val (.str (S [])), .val (.str (S [])), .val (tu (vl l) 1)], ω) :=
      mAsg_ok (i := 4) (mVal_ok (mTup2_ok hn (y := .int 1) (ω2 := ω) rfl))
    have ht := tail_read (S l) (.val (.str (S l))) (.val (.str (S []))) (.val (.str (S []))) (vl l) 1 ω hv (by show (1 : Nat).log2 < 1920; decide)
    by_cases hf : fin (S l) (vl l) 1 = true
    · rw [if_pos hf] at ht
      rw [if_pos ⟨hg, hf⟩]
      refine mDef_rt (ρ := [.par (.d (.str (S l))), .val (.str (S l)), .val (.str (S [])), .val (.str (S [])), .val (tu (vl l) 1)]) rfl ?_
      show mSeq _ (mSeq _ (mSeq _ _)) [.par (.d (.str (S l))), .none, .none, .none, .none] ω = _
      rw [mSeq_nx hs, mSeq_nx h2]
      exact ht
    · rw [if_neg hf] at ht
      rw [if_neg (fun z => hf z.2)]
      refine mDef_exc (ρ := [.par (.d (.str (S l))), .val (.str (S l)), .val (.str (S [])), .val (.str (S [])), .val (tu (vl l) 1)]) rfl ?_
      show mSeq _ (mSeq _ (mSeq _ _)) [.par (.d (.str (S l))), .none, .none, .none, .none] ω = _
      rw [mSeq_nx hs, mSeq_nx h2]
      exact ht
  · rw [if_neg hg] at hn
    rw [if_neg (fun z => hg z.1)]
    refine mDef_exc (ρ := [.par (.d (.str (S l))), .val (.str (S l)), .val (.str (S [])), .val (.str (S [])), .none]) rfl ?_
    show mSeq _ (mSeq _ (mSeq _ _)) [.par (.d (.str (S l))), .none, .none, .none, .none] ω = _
    rw [mSeq_nx hs]
    exact mSeq_exc (mAsg_e (mTup2_e1 hn))
/-- p / q, no / in p -/
theorem read_yes (p q : List Nat) (hl : (p ++ 47 :: q).length ≤ 100) (h47 : 47 ∉ p) (hv : Lg (vl p)) (hw : Lg (vl q)) (ω : Dr) : F_read_ratio [.d (.str (S (p ++ 47 :: q)))] ω = if good p = true ∧ good q = true ∧ fin (S (p ++ 47 :: q)) (vl p) (vl q) = true then .ok (tu (vl p) (vl q)) ω else .exc exB ω := by
  have hp : Txt.partition (S (p ++ 47 :: q)) (S [47]) = (S p, S [47], S q) := partition_some (by decide) (par_head (sep := []) q h47)
  have hs := unp_ok (ω := ω) hl hp
  have lp : p.length ≤ 100 := by simp at hl; omega
  have lq : q.length ≤ 100 := by simp at hl; omega
  have hn := call_num (ρ := [.par (.d (.str (S (p ++ 47 :: q)))), .val (.str (S p)), .val (.str (S [47])), .val (.str (S q)), .none]) (i := 1) (ω := ω) lp rfl
  have hm := call_num (ρ := [.par (.d (.str (S (p ++ 47 :: q)))), .val (.str (S p)), .val (.str (S [47])), .val (.str (S q)), .none]) (i := 3) (ω := ω) lq rfl
  have hi : mIf (mTru (mVar 2)) (mCall F_number_in (mCons (mVar 3) mNil)) (mC (.int 1)) [.par (.d (.str (S (p ++ 47 :: q)))), .val (.str (S p)), .val (.str (S [47])), .val (.str (S q)), .none] ω = mCall F_number_in (mCons (mVar 3) mNil) [.par (.d (.str (S (p ++ 47 :: q)))), .val (.str (S p)), .val (.str (S [47])), .val (.str (S q)), .none] ω := mIf_t rfl
  by_cases hg : good p = true
  · rw [if_pos hg] at hn
    by_cases hq : good q = true
    · rw [if_pos hq] at hm
      rw [hm] at hi
      have h2 : mAsg 4 (mVal (mTup (mCons (mCall F_number_in (mCons (mVar 1) mNil)) (mCons (mIf (mTru (mVar 2)) (mCall F_number_in (mCons (mVar 3) mNil)) (mC (.int 1))) mNil)))) [.par (.d (.str (S (p ++ 47 :: q)))), .val (.str (S p)), .val (.str (S [47])), .val (.str (S q)), .none] ω = .ok .nx ([.par (.d (.str (S (p ++ 47 :: q)))), .val (.str (S p)), .val (.str (S [47])), .val (.str (S q)), .val (tu (vl p) (vl q))], ω) :=
        mAsg_ok (i := 4) (mVal_ok (mTup2_ok hn hi))
      have ht := tail_read (S (p ++ 47 :: q)) (.val (.str (S p))) (.val (.str (S [47]))) (.val (.str (S q))) (vl p) (vl q) ω hv hw
      by_cases hf : fin (S (p ++ 47 :: q)) (vl p) (vl q) = true
      · rw [if_pos hf] at ht
        rw [if_pos ⟨hg, hq, hf⟩]
        refine mDef_rt (ρ := [.par (.d (.str (S (p ++ 47 :: q)))), .val (.str (S p)), .val (.str (S [47])), .val (.str (S q)), .val (tu (vl p) (vl q))]) rfl ?_
        show mSeq _ (mSeq _ (mSeq _ _)) [.par (.d (.str (S (p ++ 47 :: q)))), .none, .none, .none, .none] ω = _
        rw [mSeq_nx hs, mSeq_nx h2]
        exact ht
      · rw [if_neg hf] at ht
        rw [if_neg (fun z => hf z.2.2)]
        refine mDef_exc (ρ := [.par (.d (.str (S (p ++ 47 :: q)))), .val (.str (S p)), .val (.str (S [47])), .val (.str (S q)), .val (tu (vl p) (vl q))]) rfl ?_
        show mSeq _ (mSeq _ (mSeq _ _)) [.par (.d (.str (S (p ++ 47 :: q)))), .none, .none, .none, .none] ω = _
        rw [mSeq_nx hs, mSeq_nx h2]
        exact ht
    · rw [if_neg hq] at hm
      rw [hm] at hi
      rw [if_neg (fun z => hq z.2.1)]
      refine mDef_exc (ρ := [.par (.d (.str (S (p ++ 47 :: q)))), .val (.str (S p)), .val (.str (S [47])), .val (.str (S q)), .none]) rfl ?_
      show mSeq _ (mSeq _ (mSeq _ _)) [.par (.d (.str (S (p ++ 47 :: q)))), .none, .none, .none, .none] ω = _
      rw [mSeq_nx hs]
      exact mSeq_exc (mAsg_e (mTup2_e2 hn hi))
  · rw [if_neg hg] at hn
    rw [if_neg (fun z => hg z.1)]
    refine mDef_exc (ρ := [.par (.d (.str (S (p ++ 47 :: q)))), .val (.str (S p)), .val (.str (S [47])), .val (.str (S q)), .none]) rfl ?_
    show mSeq _ (mSeq _ (mSeq _ _)) [.par (.d (.str (S (p ++ 47 :: q)))), .none, .none, .none, .none] ω = _
    rw [mSeq_nx hs]
    exact mSeq_exc (mAsg_e (mTup2_e1 hn))
end K17
end
-- Kn
section
set_option maxRecDepth 100000
set_option maxHeartbeats 4000000
namespace K17
open PySem PySem.Spec L2 FL SX
def cond : Mt := (mOrT (mCmp (fEq2 false) (mVar 3) (mC (.str ""))) (mOrT (mCmp (fEq2 false) (mVar 3) (mC (.str "-"))) (mOrT (mCmp (fCmp fun i j => decide (j < i)) (mLenRep1 (mVar 3) "-" "") (mC (.int 40))) (mCmp (fEq2 true) (mLk (mComp [4] (mIt (mIf (mCmp (fEq2 false) (mOp2 fIx (mVar 3) (mC (.int 0))) (mC (.str "-"))) (mSl (mVar 3) (mPart (mC (.int 1))) mNoP) (mVar 3))) (tgName 4) (mCmp (fInS true) (mVar 4) (mC (.str "0123456789"))) (mVar 4))) (mLk (mLst mNil))))))
def lastC : Mt := (mCmp (fEq2 true) (mLk (mComp [4] (mIt (mIf (mCmp (fEq2 false) (mOp2 fIx (mVar 3) (mC (.int 0))) (mC (.str "-"))) (mSl (mVar 3) (mPart (mC (.int 1))) mNoP) (mVar 3))) (tgName 4) (mCmp (fInS true) (mVar 4) (mC (.str "0123456789"))) (mVar 4))) (mLk (mLst mNil)))
theorem comp_bad (A B C D E : Sl) (ω : Dr) : ∀ (d : List Nat), compL [4] (tgName 4) (mCmp (fInS true) (mVar 4) (mC (.str "0123456789"))) (mVar 4) [A, B, C, D, E] (d.map fun c => PyData.str ⟨#[c]⟩) ω = .ok ((d.filter fun c => !isD c).map fun c => PyData.str ⟨#[c]⟩) ω
  | [] => rfl
  | c :: d => by
    have ih := comp_bad A B C D E ω d
    have hc : (mCmp (fInS true) (mVar 4) (mC (.str "0123456789"))) [A, B, C, D, .val (.str ⟨#[c]⟩)] ω = .ok (!isD c) ω := rfl
    cases hd : isD c with
    | true =>
      rw [hd] at hc
      rw [List.filter_cons_of_neg (by rw [hd]; decide)]
      exact (compL_no (ρ1 := [A, B, C, D, .val (.str ⟨#[c]⟩)]) (ω1 := ω) rfl hc).trans ih
    | false =>
      rw [hd] at hc
      rw [List.filter_cons_of_pos (by rw [hd]; decide)]
      exact compL_yes (ρ1 := [A, B, C, D, .val (.str ⟨#[c]⟩)]) (y := .str ⟨#[c]⟩) (ω1 := ω) (ω2 := ω) rfl hc rfl ih
def vS (x : List Nat) : Bool := x.all (· < 0x110000)
theorem shaped_strs : ∀ (L : List (List Nat)), (∀ x ∈ L, vS x = true) → SeqAt.shaped (.list (L.map fun x => PyData.str (S x))) = true := by
  intro L h
  have h1 : ∀ (L : List (List Nat)), (∀ x ∈ L, vS x = true) → PyData.canLayAll0 (L.map fun x => PyData.str (S x)) = true ∧ PyData.depthAll (L.map fun x => PyData.str (S x)) = 0 := by
    intro L
    induction L with
    | nil => intro _; exact ⟨rfl, rfl⟩
    | cons x L ih =>
      intro h
      obtain ⟨a, b⟩ := ih fun y hy => h y (List.mem_cons_of_mem _ hy)
      have hx : PyData.strOk (S x) = true := by
        have := h x List.mem_cons_self
        unfold vS at this
        unfold PyData.strOk
        rw [← Array.all_toList]
        exact this
      refine ⟨?_, ?_⟩
      · show (PyData.canLay0 (.str (S x)) && PyData.canLayAll0 (L.map fun x => PyData.str (S x))) = true
        rw [a]
        show (PyData.strOk (S x) && true) = true
        rw [hx]
        rfl
      · show max 0 (PyData.depthAll (L.map fun x => PyData.str (S x))) = 0
        rw [b]
        rfl
  obtain ⟨a, b⟩ := h1 L h
  unfold SeqAt.shaped
  have e1 : PyData.canLay0 (.list (L.map fun x => PyData.str (S x))) = true := by
    show PyData.canLayAll0 _ = true
    exact a
  have e2 : PyData.depth (.list (L.map fun x => PyData.str (S x))) = 1 := by
    show PyData.depthAll _ + 1 = 1
    rw [b]
  rw [e1, e2]
  rfl
theorem ne_nil {L : List PD} (h : SeqAt.shaped (.list L) = true) : fEq2 true (.d (.list L)) (.d (.list [])) = some (!L.isEmpty) := by
  show fEq true (.d (.list L)) (.d (.list [])) = _
  unfold fEq datOf
  simp only
  rw [if_pos ⟨h, rfl⟩]
  cases L <;> rfl
theorem rep_len (x : List Nat) : (rep1 (S x) ("-" : Str) ("" : Str)).length = if 45 ∈ x then x.length - 1 else x.length := by
  have e1 : ("-" : Str) = S [45] := by decide +kernel
  have e2 : ("" : Str) = S [] := by decide +kernel
  rw [e1, e2]
  unfold rep1
  have hf := in_one x 45
  have hz : ((S [45]).length == 0 && (S []).length == 0) = false := rfl
  rw [hz, Bool.or_false]
  by_cases hm : 45 ∈ x
  · rw [decide_eq_true hm] at hf
    have he : (Builtin.Str.occurrences (S x) (S [45]) 0 (S x).length 1).isEmpty = false := by
      cases hh : (Builtin.Str.occurrences (S x) (S [45]) 0 (S x).length 1).isEmpty with
      | false => rfl
      | true => rw [hh] at hf; cases hf
    rw [if_neg (by rw [he]; decide), if_pos hm]
    have hs := StrLaws.glued_between_self (S x) (S [45]) 1
    have hl := StrLaws.occ_length_le (S x) (S [45]) 0 (S x).length 1
    have hp := length_partsBetween (S x) (Builtin.Str.occurrences (S x) (S [45]) 0 (S x).length 1) (S [45]).length
    have hpos : 1 ≤ (Builtin.Str.occurrences (S x) (S [45]) 0 (S x).length 1).length := by
      cases ho : Builtin.Str.occurrences (S x) (S [45]) 0 (S x).length 1 with
      | nil => rw [ho] at he; cases he
      | cons a b => simp
    have h1 := congrArg Str.length hs
    rw [size_glued, hp] at h1
    rw [size_glued, hp]
    have s1 : (S [45]).length = 1 := rfl
    have s0 : (S []).length = 0 := rfl
    rw [s1] at h1 ⊢
    rw [s0]
    have ex := S_len x
    omega
  · rw [decide_eq_false hm] at hf
    have he : (Builtin.Str.occurrences (S x) (S [45]) 0 (S x).length 1).isEmpty = true := by
      cases hh : (Builtin.Str.occurrences (S x) (S [45]) 0 (S x).length 1).isEmpty with
      | true => rfl
      | false => rw [hh] at hf; cases hf
    rw [if_pos he, if_neg hm, S_len]
theorem vS_dg {x : List Nat} (h : vS x = true) : vS (dg x) = true := by
  unfold dg
  split
  · exact List.all_eq_true.mpr fun c hc => List.all_eq_true.mp h c (List.mem_of_mem_drop hc)
  · exact h
theorem vS_one {x : List Nat} (h : vS x = true) : ∀ y ∈ (x.filter fun c => !isD c).map fun c => [c], vS y = true := fun y hy => by
  obtain ⟨c, hc, rfl⟩ := List.mem_map.mp hy
  have := List.all_eq_true.mp h c (List.mem_filter.mp hc).1
  unfold vS
  simp at this ⊢
  exact this
theorem last_is (A B C E : Sl) (x : List Nat) (ω : Dr) (hl : x.length ≤ 100) (hv : vS x = true) (hx : x ≠ []) : lastC [A, B, C, .val (.str (S x)), E] ω = .ok (!(dg x).all isD) ω := by
  have i0 : mOp2 fIx (mVar 3) (mC (.int 0)) [A, B, C, .val (.str (S x)), E] ω = .ok (.d (.str (S (x.take 1)))) ω := by
    refine mOp2_ok (x := .d (.str (S x))) (y := .d (.int 0)) (ω1 := ω) rfl rfl ?_
    show (if (S x).length ≤ 100000 then (atI (S x).cps.toList 0).map (fun c => Vl.d (.str ⟨#[c]⟩)) else none) = _
    rw [if_pos (by rw [S_len]; omega)]
    cases x with
    | nil => exact (hx rfl).elim
    | cons c r =>
      have ha : atI (S (c :: r)).cps.toList 0 = some c := by
        unfold atI ixN
        rw [if_pos (by decide), if_pos (by simp <;> omega)]
        rfl
      rw [ha]
      rfl
  have c0 : mCmp (fEq2 false) (mOp2 fIx (mVar 3) (mC (.int 0))) (mC (.str "-")) [A, B, C, .val (.str (S x)), E] ω = .ok (decide (x.take 1 = [45])) ω := by
    refine mCmp_ok (y := .d (.str "-")) (ω2 := ω) i0 rfl ?_
    show some (S (x.take 1) == ("-" : Str)) = _
    rw [S_minus]
  have c1 : (mIf (mCmp (fEq2 false) (mOp2 fIx (mVar 3) (mC (.int 0))) (mC (.str "-"))) (mSl (mVar 3) (mPart (mC (.int 1))) mNoP) (mVar 3)) [A, B, C, .val (.str (S x)), E] ω = .ok (.d (.str (S (dg x)))) ω := by
    unfold dg
    by_cases ht : x.take 1 = [45]
    · rw [decide_eq_true ht] at c0
      rw [mIf_t c0, if_pos ht]
      refine mSl_ok (a := some 1) (b := none) (u := .d (.str (S x))) (ω1 := ω) (ω2 := ω) rfl rfl rfl ?_
      rw [fSl_str x _ _ (by omega), cut_from1]
    · rw [decide_eq_false ht] at c0
      rw [mIf_f c0, if_neg ht]
      rfl
  have hd := dg_len x
  have k1 : (mIt (mIf (mCmp (fEq2 false) (mOp2 fIx (mVar 3) (mC (.int 0))) (mC (.str "-"))) (mSl (mVar 3) (mPart (mC (.int 1))) mNoP) (mVar 3))) [A, B, C, .val (.str (S x)), E] ω = .ok (true, (dg x).map fun c => PyData.str ⟨#[c]⟩) ω := by
    unfold mIt
    rw [c1]
    show lift (if (S (dg x)).length ≤ 100000 then some (true, signs (S (dg x))) else none) ω = _
    rw [if_pos (by rw [S_len]; omega)]
    rfl
  have k2 : mLk (mComp [4] (mIt (mIf (mCmp (fEq2 false) (mOp2 fIx (mVar 3) (mC (.int 0))) (mC (.str "-"))) (mSl (mVar 3) (mPart (mC (.int 1))) mNoP) (mVar 3))) (tgName 4) (mCmp (fInS true) (mVar 4) (mC (.str "0123456789"))) (mVar 4)) [A, B, C, .val (.str (S x)), E] ω = .ok (.d (.list (((dg x).filter fun c => !isD c).map fun c => PyData.str ⟨#[c]⟩))) ω := by
    unfold mLk mComp
    rw [k1]
    simp only [Res.bind]
    rw [comp_bad]
  have sh : SeqAt.shaped (.list (((dg x).filter fun c => !isD c).map fun c => PyData.str ⟨#[c]⟩)) = true := by
    have := shaped_strs (((dg x).filter fun c => !isD c).map fun c => [c]) (vS_one (vS_dg hv))
    rw [List.map_map] at this
    exact this
  refine mCmp_ok (y := .d (.list [])) (ω2 := ω) k2 rfl ?_
  rw [ne_nil sh]
  congr 2
  generalize dg x = d
  induction d with
  | nil => rfl
  | cons c d ih =>
    cases hc : isD c with
    | true => rw [List.filter_cons_of_neg (by rw [hc]; decide), List.all_cons, hc, Bool.true_and]; exact ih
    | false => rw [List.filter_cons_of_pos (by rw [hc]; decide), List.all_cons, hc]; rfl
theorem cond_is (A B C E : Sl) (x : List Nat) (ω : Dr) (hl : x.length ≤ 100) (hv : vS x = true) : cond [A, B, C, .val (.str (S x)), E] ω = .ok (!good x) ω := by
  have t1 : mCmp (fEq2 false) (mVar 3) (mC (.str "")) [A, B, C, .val (.str (S x)), E] ω = .ok x.isEmpty ω := by
    refine mCmp_ok (x := .d (.str (S x))) (y := .d (.str "")) (ω1 := ω) rfl rfl ?_
    show some (S x == ("" : Str)) = _
    rw [S_empty]
  have t2 : mCmp (fEq2 false) (mVar 3) (mC (.str "-")) [A, B, C, .val (.str (S x)), E] ω = .ok (decide (x = [45])) ω := by
    refine mCmp_ok (x := .d (.str (S x))) (y := .d (.str "-")) (ω1 := ω) rfl rfl ?_
    show some (S x == ("-" : Str)) = _
    rw [S_minus]
  have t3 : mCmp (fCmp fun i j => decide (j < i)) (mLenRep1 (mVar 3) "-" "") (mC (.int 40)) [A, B, C, .val (.str (S x)), E] ω = .ok (decide (40 < ((if 45 ∈ x then x.length - 1 else x.length : Nat) : Int))) ω := by
    have hr := rep_len x
    have hle : (if 45 ∈ x then x.length - 1 else x.length) ≤ x.length := by split <;> omega
    have hL : mLenRep1 (mVar 3) "-" "" [A, B, C, .val (.str (S x)), E] ω = .ok (.d (.int ((if 45 ∈ x then x.length - 1 else x.length : Nat) : Int))) ω := by
      have h1 : mRep1 (mVar 3) "-" "" [A, B, C, .val (.str (S x)), E] ω = .ok (.d (.str (rep1 (S x) "-" ""))) ω := by
        have z0 : ("" : Str).length = 0 := by decide +kernel
        show (if (S x).length + ("" : Str).length ≤ 100000 ∧ (rep1 (S x) "-" "").length ≤ 100000 then Res.ok (Vl.d (.str (rep1 (S x) "-" ""))) ω else .stuck) = _
        rw [if_pos ⟨by rw [S_len, z0]; omega, by rw [hr]; omega⟩]
      unfold mLenRep1
      rw [h1]
      show lift (if (rep1 (S x) "-" "").length ≤ 100000 then some (Vl.d (.int ((rep1 (S x) "-" "").length : Nat))) else none) ω = _
      rw [hr, if_pos (by omega)]
      rfl
    exact mCmp_ok (y := .d (.int 40)) (ω2 := ω) hL rfl rfl
  show mOrT _ (mOrT _ (mOrT _ lastC)) [A, B, C, .val (.str (S x)), E] ω = _
  by_cases hx : x = []
  · subst hx
    rw [mOrT_t t1]
    rfl
  · have e1 : x.isEmpty = false := by cases x with
      | nil => exact (hx rfl).elim
      | cons => rfl
    rw [e1] at t1
    rw [mOrT_f t1]
    by_cases h2 : x = [45]
    · subst h2
      rw [mOrT_t t2]
      rfl
    · rw [decide_eq_false h2] at t2
      rw [mOrT_f t2]
      have t4 := last_is A B C E x ω hl hv hx
      have dne : dg x ≠ [] := by
        unfold dg
        split
        · rename_i ht
          cases x with
          | nil => exact (hx rfl).elim
          | cons c r =>
            simp at ht
            subst ht
            intro z
            have z : r = [] := z
            exact h2 (by rw [z])
        · exact hx
      have de : (dg x).isEmpty = false := by
        cases hh : dg x with
        | nil => exact (dne hh).elim
        | cons => rfl
      unfold good
      rw [de]
      by_cases hall : (dg x).all isD = true
      · have hlen : (if 45 ∈ x then x.length - 1 else x.length) = (dg x).length := by
          have nd : 45 ∉ dg x := fun hm => by
            have := (isD_iff 45).mp (List.all_eq_true.mp hall 45 hm)
            omega
          unfold dg at nd ⊢
          by_cases ht : x.take 1 = [45]
          · rw [if_pos ht] at nd ⊢
            have hm : 45 ∈ x := by
              have : 45 ∈ x.take 1 := by rw [ht]; exact List.mem_singleton.mpr rfl
              exact List.mem_of_mem_take this
            rw [if_pos hm, List.length_drop]
          · rw [if_neg ht] at nd ⊢
            rw [if_neg nd]
        rw [hlen] at t3
        by_cases h4 : (40 : Int) < (((dg x).length : Nat) : Int)
        · rw [decide_eq_true h4] at t3
          rw [mOrT_t t3, decide_eq_false (show ¬ (dg x).length ≤ 40 by omega)]
          rfl
        · rw [decide_eq_false h4] at t3
          rw [mOrT_f t3, t4, decide_eq_true (show (dg x).length ≤ 40 by omega)]
          simp
      · have hall' : (dg x).all isD = false := by simpa using hall
        rw [hall'] at t4 ⊢
        cases hh : decide (40 < ((if 45 ∈ x then x.length - 1 else x.length : Nat) : Int)) with
        | true => rw [hh] at t3; rw [mOrT_t t3]; simp
        | false => rw [hh] at t3; rw [mOrT_f t3, t4]; simp
theorem comp_parts (A B C D E : Sl) (ω : Dr) : ∀ (ps : List (List Nat)), (∀ x ∈ ps, x.length ≤ 100 ∧ vS x = true) → compL [3] (tgName 3) cond (mVar 3) [A, B, C, D, E] (ps.map fun x => PyData.str (S x)) ω = .ok ((ps.filter fun x => !good x).map fun x => PyData.str (S x)) ω
  | [], _ => rfl
  | x :: ps, h => by
    have ih := comp_parts A B C D E ω ps fun y hy => h y (List.mem_cons_of_mem _ hy)
    have hx := h x List.mem_cons_self
    have hc := cond_is A B C E x ω hx.1 hx.2
    cases hd : good x with
    | true =>
      rw [hd] at hc
      rw [List.filter_cons_of_neg (by rw [hd]; decide)]
      exact (compL_no (ρ1 := [A, B, C, .val (.str (S x)), E]) (ω1 := ω) rfl hc).trans ih
    | false =>
      rw [hd] at hc
      rw [List.filter_cons_of_pos (by rw [hd]; decide)]
      exact compL_yes (ρ1 := [A, B, C, .val (.str (S x)), E]) (y := .str (S x)) (ω1 := ω) (ω2 := ω) rfl hc rfl ih
end K17
end
-- Ko
section
set_option maxRecDepth 100000
set_option maxHeartbeats 4000000
namespace K17
open PySem PySem.Spec L2 FL SX
theorem str_ok {m : Me} {ρ : Rho} {ω ω1 : Dr} {a : Int} (h : m ρ ω = .ok (.d (.int a)) ω1) (ha : Lg a) : mCl fStr (mCons m mNil) ρ ω = .ok (.d (.str (Str.ofString (toString a)))) ω1 := mCl1_ok h (by
  show (if a.natAbs.log2 < 1920 then some (Vl.d (.str (Str.ofString (toString a)))) else none) = _
  exact if_pos (show a.natAbs.log2 < 1920 from ha))
theorem add_ok {p q : Me} {ρ : Rho} {ω ω1 ω2 : Dr} {x y : Str} (h1 : p ρ ω = .ok (.d (.str x)) ω1) (h2 : q ρ ω1 = .ok (.d (.str y)) ω2) (hl : x.length + y.length ≤ 100000) : mOp2 fAdd p q ρ ω = .ok (.d (.str (x ++ y))) ω2 := mOp2_ok h1 h2 (by
  show (if x.length + y.length ≤ 100000 then some (Vl.d (.str (x ++ y))) else none) = _
  exact if_pos hl)
theorem low_eq (a b : Int) (hb : 1 ≤ b) : (decide ((low a b).1 = a) && decide ((low a b).2 = b)) = (((Nat.gcd a.natAbs b.natAbs : Nat) : Int) == 1) := by
  have hg : 0 < Nat.gcd a.natAbs b.natAbs := Nat.gcd_pos_of_pos_right _ (by omega)
  unfold low
  rw [if_pos (by omega)]
  generalize Nat.gcd a.natAbs b.natAbs = g at hg
  by_cases h1 : g = 1
  · subst h1
    simp
  · have hlt : b / (g : Int) < b := by
      rw [Int.ediv_lt_iff_lt_mul (by omega)]
      have : b * 2 ≤ b * (g : Int) := Int.mul_le_mul_of_nonneg_left (by omega) (by omega)
      omega
    have e2 : decide (b / (g : Int) = b) = false := decide_eq_false (by omega)
    have e3 : (((g : Nat) : Int) == 1) = false := by
      simp
      omega
    show (decide (a / (g : Int) = a) && decide (b / (g : Int) = b)) = _
    rw [e2, e3, Bool.and_false]
theorem tail_due (t : Str) (P X Y : Sl) (a b : Int) (ω : Dr) (ha : Lg a) (hb : Lg b) (hs : b.natAbs < 1073741824) : ∃ ρ', mSeq (mIfS (mOrT (mCmp (fCmp fun i j => decide (i < j)) (mOp2 fIx (mVar 2) (mC (.int 1))) (mC (.int 1))) (mCmp (fEq2 true) (mCall F__law_low (mCons (mOp2 fIx (mVar 2) (mC (.int 0))) (mCons (mOp2 fIx (mVar 2) (mC (.int 1))) mNil))) (mVar 2))) (mRet (mC .none)) mNx) (mRet (mIf (mCmp (fEq2 false) (mIf (mCmp (fEq2 false) (mOp2 fIx (mVar 2) (mC (.int 1))) (mC (.int 1))) (mCl fStr (mCons (mOp2 fIx (mVar 2) (mC (.int 0))) mNil)) (mOp2 fAdd (mOp2 fAdd (mCl fStr (mCons (mOp2 fIx (mVar 2) (mC (.int 0))) mNil)) (mC (.str "/"))) (mCl fStr (mCons (mOp2 fIx (mVar 2) (mC (.int 1))) mNil)))) (mVar 0)) (mVar 2) (mC .none))) [.par (.d (.str t)), P, .val (tu a b), X, Y] ω
    = .ok (.rt (if fin t a b = true then tu a b else .none)) (ρ', ω) := by
  have i0 : mOp2 fIx (mVar 2) (mC (.int 0)) [.par (.d (.str t)), P, .val (tu a b), X, Y] ω = .ok (.d (.int a)) ω := rfl
  have i1 : mOp2 fIx (mVar 2) (mC (.int 1)) [.par (.d (.str t)), P, .val (tu a b), X, Y] ω = .ok (.d (.int b)) ω := rfl
  have h1 : mCmp (fCmp fun i j => decide (i < j)) (mOp2 fIx (mVar 2) (mC (.int 1))) (mC (.int 1)) [.par (.d (.str t)), P, .val (tu a b), X, Y] ω = .ok (decide (b < 1)) ω := rfl
  unfold fin isrB
  by_cases hlt : b < 1
  · rw [decide_eq_true hlt] at h1
    rw [decide_eq_false (show ¬ 1 ≤ b by omega)]
    exact ⟨_, mSeq_rt (by rw [mIfS_t (mOrT_t h1)]; rfl)⟩
  · rw [decide_eq_false hlt] at h1
    rw [decide_eq_true (show 1 ≤ b by omega)]
    have hl := low_ok a b ω (gcd_small a b (by omega) hs)
    have h2 : mCmp (fEq2 true) (mCall F__law_low (mCons (mOp2 fIx (mVar 2) (mC (.int 0))) (mCons (mOp2 fIx (mVar 2) (mC (.int 1))) mNil))) (mVar 2) [.par (.d (.str t)), P, .val (tu a b), X, Y] ω = .ok (!(((Nat.gcd a.natAbs b.natAbs : Nat) : Int) == 1)) ω := by
      refine mCmp_ok (y := .d (tu a b)) (ω2 := ω) (mCall2_ok i0 i1 hl) rfl ?_
      rw [← low_eq a b (by omega)]
      show some (!(((low a b).1 == a) && (((low a b).2 == b) && true))) = _
      rw [Bool.and_true]
      congr 2
    have ho := mOrT_f h1 (b := mCmp (fEq2 true) (mCall F__law_low (mCons (mOp2 fIx (mVar 2) (mC (.int 0))) (mCons (mOp2 fIx (mVar 2) (mC (.int 1))) mNil))) (mVar 2))
    rw [h2] at ho
    cases hg : (((Nat.gcd a.natAbs b.natAbs : Nat) : Int) == 1) with
    | false =>
      rw [hg] at ho
      exact ⟨_, mSeq_rt (by rw [mIfS_t ho]; rfl)⟩
    | true =>
      rw [hg] at ho
      refine ⟨[.par (.d (.str t)), P, .val (tu a b), X, Y], ?_⟩
      rw [mSeq_nx (ρ1 := [.par (.d (.str t)), P, .val (tu a b), X, Y]) (ω1 := ω) (by rw [mIfS_f ho]; rfl)]
      have hc : mCmp (fEq2 false) (mOp2 fIx (mVar 2) (mC (.int 1))) (mC (.int 1)) [.par (.d (.str t)), P, .val (tu a b), X, Y] ω = .ok (b == 1) ω := rfl
      have ht : (mIf (mCmp (fEq2 false) (mOp2 fIx (mVar 2) (mC (.int 1))) (mC (.int 1))) (mCl fStr (mCons (mOp2 fIx (mVar 2) (mC (.int 0))) mNil)) (mOp2 fAdd (mOp2 fAdd (mCl fStr (mCons (mOp2 fIx (mVar 2) (mC (.int 0))) mNil)) (mC (.str "/"))) (mCl fStr (mCons (mOp2 fIx (mVar 2) (mC (.int 1))) mNil)))) [.par (.d (.str t)), P, .val (tu a b), X, Y] ω = .ok (.d (.str (txt (a, b)))) ω := by
        unfold txt
        by_cases h : b = 1
        · have e : (b == 1) = true := by simp [h]
          rw [e] at hc
          rw [mIf_t hc, if_pos h]
          exact str_ok i0 ha
        · have e : (b == 1) = false := by simp [h]
          rw [e] at hc
          rw [mIf_f hc, if_neg h]
          have l1 := lg_len ha
          have l2 := lg_len hb
          have l3 : (Str.ofString "/").length = 1 := by decide +kernel
          refine add_ok (add_ok (str_ok i0 ha) (y := Str.ofString "/") (ω2 := ω) rfl ?_) (str_ok i1 hb) ?_
          · rw [l3]; exact Nat.le_trans (Nat.add_le_add_right l1 1) (by decide)
          · rw [PySem.Str.length_append, l3]
            exact Nat.le_trans (Nat.add_le_add (Nat.add_le_add_right l1 1) l2) (by decide)
      have hq : mCmp (fEq2 false) (mIf (mCmp (fEq2 false) (mOp2 fIx (mVar 2) (mC (.int 1))) (mC (.int 1))) (mCl fStr (mCons (mOp2 fIx (mVar 2) (mC (.int 0))) mNil)) (mOp2 fAdd (mOp2 fAdd (mCl fStr (mCons (mOp2 fIx (mVar 2) (mC (.int 0))) mNil)) (mC (.str "/"))) (mCl fStr (mCons (mOp2 fIx (mVar 2) (mC (.int 1))) mNil)))) (mVar 0) [.par (.d (.str t)), P, .val (tu a b), X, Y] ω = .ok (txt (a, b) == t) ω := mCmp_ok (y := .d (.str t)) (ω2 := ω) ht rfl rfl
      simp only [Bool.true_and]
      refine mRet_ok ?_
      cases he : (txt (a, b) == t) with
      | true => rw [he] at hq; rw [mIf_t hq]; rfl
      | false => rw [he] at hq; rw [mIf_f hq]; rfl
/-- the parts, then what is found -/
theorem s1_ok (l : List Nat) (ω : Dr) (hl : l.length ≤ 100) : (mAsg 1 (mVal (mLk (mSplit (mVar 0) (mC (.str "/")))))) [.par (.d (.str (S l))), .none, .none, .none, .none] ω = .ok .nx ([.par (.d (.str (S l))), .val (.list ((TL.spl [47] 0 [] l).map fun x => PyData.str (S x))), .none, .none, .none], ω) := by
  have es : ("/" : Str) = S [47] := by decide +kernel
  have hp : fSplit (S l) ("/" : Str) = some ((TL.spl [47] 0 [] l).map fun x => PyData.str (S x)) := by
    unfold fSplit
    rw [es, split_S (by decide) (by decide), if_pos ⟨rfl, by rw [S_len]; omega⟩, List.map_map]
    rfl
  have h3 : mSplit (mVar 0) (mC (.str "/")) [.par (.d (.str (S l))), .none, .none, .none, .none] ω = .ok ((TL.spl [47] 0 [] l).map fun x => PyData.str (S x)) ω := by
    unfold mSplit mM1 mVar mC
    simp only [Res.bind, strOf, List.getElem?_cons_zero]
    rw [hp]
  refine mAsg_ok (i := 1) (mVal_ok ?_)
  unfold mLk
  rw [h3]
  rfl
theorem s2_ok (t : Str) (ps : List (List Nat)) (ω : Dr) (h : ∀ x ∈ ps, x.length ≤ 100 ∧ vS x = true) : (mIfS (mOrT (mCmp (fCmp fun i j => decide (j < i)) (mCl fLen (mCons (mVar 1) mNil)) (mC (.int 2))) (mCmp (fEq2 true) (mLk (mComp [3] (mIt (mVar 1)) (tgName 3) (mOrT (mCmp (fEq2 false) (mVar 3) (mC (.str ""))) (mOrT (mCmp (fEq2 false) (mVar 3) (mC (.str "-"))) (mOrT (mCmp (fCmp fun i j => decide (j < i)) (mLenRep1 (mVar 3) "-" "") (mC (.int 40))) (mCmp (fEq2 true) (mLk (mComp [4] (mIt (mIf (mCmp (fEq2 false) (mOp2 fIx (mVar 3) (mC (.int 0))) (mC (.str "-"))) (mSl (mVar 3) (mPart (mC (.int 1))) mNoP) (mVar 3))) (tgName 4) (mCmp (fInS true) (mVar 4) (mC (.str "0123456789"))) (mVar 4))) (mLk (mLst mNil)))))) (mVar 3))) (mLk (mLst mNil)))) (mRet (mC .none)) mNx) [.par (.d (.str t)), .val (.list (ps.map fun x => PyData.str (S x))), .none, .none, .none] ω
    = if ps.length > 2 ∨ ps.any (fun x => !good x) = true then .ok (.rt .none) ([.par (.d (.str t)), .val (.list (ps.map fun x => PyData.str (S x))), .none, .none, .none], ω) else .ok .nx ([.par (.d (.str t)), .val (.list (ps.map fun x => PyData.str (S x))), .none, .none, .none], ω) := by
  have h1 : mCmp (fCmp fun i j => decide (j < i)) (mCl fLen (mCons (mVar 1) mNil)) (mC (.int 2)) [.par (.d (.str t)), .val (.list (ps.map fun x => PyData.str (S x))), .none, .none, .none] ω = .ok (decide ((2 : Int) < ((ps.map fun x => PyData.str (S x)).length : Nat))) ω := rfl
  rw [List.length_map] at h1
  have k2 : mLk (mComp [3] (mIt (mVar 1)) (tgName 3) cond (mVar 3)) [.par (.d (.str t)), .val (.list (ps.map fun x => PyData.str (S x))), .none, .none, .none] ω = .ok (.d (.list ((ps.filter fun x => !good x).map fun x => PyData.str (S x)))) ω := by
    show ((compL [3] (tgName 3) cond (mVar 3) [.par (.d (.str t)), .val (.list (ps.map fun x => PyData.str (S x))), .none, .none, .none] (ps.map fun x => PyData.str (S x)) ω).bind fun l ω => Res.ok (Vl.d (.list l)) ω) = _
    rw [comp_parts _ _ _ _ _ ω ps h]
    rfl
  have sh : SeqAt.shaped (.list ((ps.filter fun x => !good x).map fun x => PyData.str (S x))) = true := shaped_strs _ fun x hx => (h x (List.mem_filter.mp hx).1).2
  have h2 : mCmp (fEq2 true) (mLk (mComp [3] (mIt (mVar 1)) (tgName 3) cond (mVar 3))) (mLk (mLst mNil)) [.par (.d (.str t)), .val (.list (ps.map fun x => PyData.str (S x))), .none, .none, .none] ω = .ok (ps.any fun x => !good x) ω := by
    refine mCmp_ok (y := .d (.list [])) (ω2 := ω) k2 rfl ?_
    rw [ne_nil sh]
    congr 1
    clear h h1 k2 sh
    induction ps with
    | nil => rfl
    | cons x ps ih =>
      cases hc : good x with
      | true => rw [List.filter_cons_of_neg (by rw [hc]; decide), List.any_cons, hc, ih]; rfl
      | false => rw [List.filter_cons_of_pos (by rw [hc]; decide), List.any_cons, hc]; rfl
  show mIfS (mOrT _ (mCmp (fEq2 true) (mLk (mComp [3] (mIt (mVar 1)) (tgName 3) cond (mVar 3))) (mLk (mLst mNil)))) _ _ _ ω = _
  by_cases hlen : ps.length > 2
  · rw [if_pos (.inl hlen)]
    rw [decide_eq_true (show (2 : Int) < (ps.length : Nat) by omega)] at h1
    rw [mIfS_t (mOrT_t h1)]
    rfl
  · rw [decide_eq_false (show ¬ (2 : Int) < (ps.length : Nat) by omega)] at h1
    have ho := mOrT_f h1 (b := mCmp (fEq2 true) (mLk (mComp [3] (mIt (mVar 1)) (tgName 3) cond (mVar 3))) (mLk (mLst mNil)))
    rw [h2] at ho
    cases ha : ps.any fun x => !good x with
    | true =>
      rw [ha] at ho
      rw [if_pos (.inr rfl), mIfS_t ho]
      rfl
    | false =>
      rw [ha] at ho
      rw [if_neg (fun z => z.elim hlen (by intro w; cases w)), mIfS_f ho]
      rfl
theorem int_ok {m : Me} {ρ : Rho} {ω ω1 : Dr} {x : List Nat} (h : m ρ ω = .ok (.d (.str (S x))) ω1) (hg : good x = true) (hl : x.length ≤ 100) : mCl fInt (mCons m mNil) ρ ω = .ok (.d (.int (vl x))) ω1 := mCl1_ok h (by
  show (if (S x).length ≤ 640 then (intText? (S x)).map (fun n => Vl.d (.int n)) else none) = _
  rw [if_pos (by rw [S_len]; omega), int_good hg hl]
  rfl)
theorem lg_small {a : Int} (h : a.natAbs < 10 ^ 8) : Lg a := by
  unfold Lg
  by_cases h0 : a.natAbs = 0
  · rw [h0]; decide
  · exact Nat.lt_trans ((Nat.log2_lt h0).mpr (Nat.lt_of_lt_of_le h (by decide : 10 ^ 8 ≤ 2 ^ 27))) (by decide)
def dueV (l : List Nat) : PD := match TL.spl [47] 0 [] l with
  | [p] => if good p = true ∧ fin (S l) (vl p) 1 = true then tu (vl p) 1 else .none
  | [p, q] => if good p = true ∧ good q = true ∧ fin (S l) (vl p) (vl q) = true then tu (vl p) (vl q) else .none
  | _ => .none
theorem due_is (l : List Nat) (ω : Dr) (hl : l.length ≤ 8) (hv : ∀ x ∈ TL.spl [47] 0 [] l, x.length ≤ 8 ∧ vS x = true) (hne : TL.spl [47] 0 [] l ≠ []) : F__law_due [.d (.str (S l))] ω = .ok (dueV l) ω := by
  have h1 := s1_ok l ω (by omega)
  have h2 := s2_ok (S l) (TL.spl [47] 0 [] l) ω fun x hx => ⟨Nat.le_trans (hv x hx).1 (by decide), (hv x hx).2⟩
  unfold dueV
  generalize TL.spl [47] 0 [] l = ps at *
  have fini : ∀ (d : PD) (ρ' : Rho), mSeq (mAsg 1 (mVal (mLk (mSplit (mVar 0) (mC (.str "/")))))) (mSeq (mIfS (mOrT (mCmp (fCmp fun i j => decide (j < i)) (mCl fLen (mCons (mVar 1) mNil)) (mC (.int 2))) (mCmp (fEq2 true) (mLk (mComp [3] (mIt (mVar 1)) (tgName 3) (mOrT (mCmp (fEq2 false) (mVar 3) (mC (.str ""))) (mOrT (mCmp (fEq2 false) (mVar 3) (mC (.str "-"))) (mOrT (mCmp (fCmp fun i j => decide (j < i)) (mLenRep1 (mVar 3) "-" "") (mC (.int 40))) (mCmp (fEq2 true) (mLk (mComp [4] (mIt (mIf (mCmp (fEq2 false) (mOp2 fIx (mVar 3) (mC (.int 0))) (mC (.str "-"))) (mSl (mVar 3) (mPart (mC (.int 1))) mNoP) (mVar 3))) (tgName 4) (mCmp (fInS true) (mVar 4) (mC (.str "0123456789"))) (mVar 4))) (mLk (mLst mNil)))))) (mVar 3))) (mLk (mLst mNil)))) (mRet (mC .none)) mNx) (mSeq (mAsg 2 (mVal (mTup (mCons (mCl fInt (mCons (mOp2 fIx (mVar 1) (mC (.int 0))) mNil)) (mCons (mIf (mCmp (fEq2 false) (mCl fLen (mCons (mVar 1) mNil)) (mC (.int 2))) (mCl fInt (mCons (mOp2 fIx (mVar 1) (mC (.int 1))) mNil)) (mC (.int 1))) mNil))))) (mSeq (mIfS (mOrT (mCmp (fCmp fun i j => decide (i < j)) (mOp2 fIx (mVar 2) (mC (.int 1))) (mC (.int 1))) (mCmp (fEq2 true) (mCall F__law_low (mCons (mOp2 fIx (mVar 2) (mC (.int 0))) (mCons (mOp2 fIx (mVar 2) (mC (.int 1))) mNil))) (mVar 2))) (mRet (mC .none)) mNx) (mRet (mIf (mCmp (fEq2 false) (mIf (mCmp (fEq2 false) (mOp2 fIx (mVar 2) (mC (.int 1))) (mC (.int 1))) (mCl fStr (mCons (mOp2 fIx (mVar 2) (mC (.int 0))) mNil)) (mOp2 fAdd (mOp2 fAdd (mCl fStr (mCons (mOp2 fIx (mVar 2) (mC (.int 0))) mNil)) (mC (.str "/"))) (mCl fStr (mCons (mOp2 fIx (mVar 2) (mC (.int 1))) mNil)))) (mVar 0)) (mVar 2) (mC .none)))))) [.par (.d (.str (S l))), .none, .none, .none, .none] ω = .ok (.rt d) (ρ', ω) → F__law_due [.d (.str (S l))] ω = .ok d ω := fun d ρ' h => mDef_rt (ρ := ρ') rfl h
  match ps, hne with
  | [p], _ =>
    have vp := hv p (by simp)
    by_cases hg : good p = true
    · rw [if_neg (by simp [hg])] at h2
      have f : (mAsg 2 (mVal (mTup (mCons (mCl fInt (mCons (mOp2 fIx (mVar 1) (mC (.int 0))) mNil)) (mCons (mIf (mCmp (fEq2 false) (mCl fLen (mCons (mVar 1) mNil)) (mC (.int 2))) (mCl fInt (mCons (mOp2 fIx (mVar 1) (mC (.int 1))) mNil)) (mC (.int 1))) mNil))))) [.par (.d (.str (S l))), .val (.list ([p].map fun x => PyData.str (S x))), .none, .none, .none] ω = .ok .nx ([.par (.d (.str (S l))), .val (.list ([p].map fun x => PyData.str (S x))), .val (tu (vl p) 1), .none, .none], ω) :=
        mAsg_ok (i := 2) (mVal_ok (mTup2_ok (int_ok (x := p) (ω1 := ω) rfl hg (by omega)) (y := .int 1) (ω2 := ω) rfl))
      obtain ⟨ρ', ht⟩ := tail_due (S l) (.val (.list ([p].map fun x => PyData.str (S x)))) .none .none (vl p) 1 ω (lg_small (vl_small vp.1)) (by show (1 : Nat).log2 < 1920; decide) (by decide)
      refine fini _ ρ' ?_
      rw [mSeq_nx h1, mSeq_nx h2, mSeq_nx f, ht]
      simp only [hg, true_and]
    · rw [if_pos (by simp [hg])] at h2
      dsimp only
      rw [if_neg (fun z => hg z.1)]
      refine fini _ [.par (.d (.str (S l))), .val (.list (([p]).map fun x => PyData.str (S x))), .none, .none, .none] ?_
      rw [mSeq_nx h1]
      exact mSeq_rt h2
  | [p, q], _ =>
    have vp := hv p (by simp)
    have vq := hv q (by simp)
    by_cases hg : good p = true ∧ good q = true
    · rw [if_neg (by simp [hg.1, hg.2])] at h2
      have f : (mAsg 2 (mVal (mTup (mCons (mCl fInt (mCons (mOp2 fIx (mVar 1) (mC (.int 0))) mNil)) (mCons (mIf (mCmp (fEq2 false) (mCl fLen (mCons (mVar 1) mNil)) (mC (.int 2))) (mCl fInt (mCons (mOp2 fIx (mVar 1) (mC (.int 1))) mNil)) (mC (.int 1))) mNil))))) [.par (.d (.str (S l))), .val (.list ([p, q].map fun x => PyData.str (S x))), .none, .none, .none] ω = .ok .nx ([.par (.d (.str (S l))), .val (.list ([p, q].map fun x => PyData.str (S x))), .val (tu (vl p) (vl q)), .none, .none], ω) := by
        refine mAsg_ok (i := 2) (mVal_ok (mTup2_ok (int_ok (x := p) (ω1 := ω) rfl hg.1 (by omega)) (y := .int (vl q)) (ω2 := ω) ?_))
        rw [mIf_t (ω1 := ω) rfl]
        exact int_ok (x := q) (ω1 := ω) rfl hg.2 (by omega)
      obtain ⟨ρ', ht⟩ := tail_due (S l) (.val (.list ([p, q].map fun x => PyData.str (S x)))) .none .none (vl p) (vl q) ω (lg_small (vl_small vp.1)) (lg_small (vl_small vq.1)) (Nat.lt_trans (vl_small vq.1) (by decide))
      refine fini _ ρ' ?_
      rw [mSeq_nx h1, mSeq_nx h2, mSeq_nx f, ht]
      simp only [hg.1, hg.2, true_and]
    · rw [if_pos (by
        refine .inr ?_
        rcases Classical.not_and_iff_not_or_not.mp hg with z | z <;> simp [z])] at h2
      dsimp only
      rw [if_neg (fun z => hg ⟨z.1, z.2.1⟩)]
      refine fini _ [.par (.d (.str (S l))), .val (.list (([p, q]).map fun x => PyData.str (S x))), .none, .none, .none] ?_
      rw [mSeq_nx h1]
      exact mSeq_rt h2
  | p :: q :: r :: ps, _ =>
    rw [if_pos (.inl (by simp))] at h2
    refine fini _ [.par (.d (.str (S l))), .val (.list ((p :: q :: r :: ps).map fun x => PyData.str (S x))), .none, .none, .none] ?_
    rw [mSeq_nx h1]
    exact mSeq_rt h2
end K17
end
-- Kp
section
set_option maxRecDepth 100000
set_option maxHeartbeats 4000000
namespace K17
open PySem PySem.Spec L2 FL SX
theorem first_slash : ∀ (l : List Nat), 47 ∈ l → ∃ p q, l = p ++ 47 :: q ∧ 47 ∉ p
  | [], h => by cases h
  | c :: l, h => by
    by_cases hc : c = 47
    · exact ⟨[], l, by rw [hc]; rfl, by simp⟩
    · obtain ⟨p, q, e, hp⟩ := first_slash l (by
        rcases List.mem_cons.mp h with z | z
        · exact (hc z.symm).elim
        · exact z)
      exact ⟨c :: p, q, by rw [e]; rfl, fun z => by
        rcases List.mem_cons.mp z with z | z
        · exact hc z.symm
        · exact hp z⟩
theorem spl_no {l : List Nat} (h : 47 ∉ l) : TL.spl [47] 0 [] l = [l] := by
  have e := SX.spl_join (c := 47) (sep := []) (parts := [l]) (by simp) (by simpa using h)
  have j : TL.joinL [47] [l] = l := by simp [TL.joinL]
  rw [j] at e
  exact e
theorem spl_yes {p : List Nat} (q : List Nat) (h : 47 ∉ p) : TL.spl [47] 0 [] (p ++ 47 :: q) = p :: TL.spl [47] 0 [] q := SX.spl_free (sep := [47]) q (by simp) (SX.free_head h)
theorem spl_all : ∀ (n : Nat) (l : List Nat), l.length ≤ n → TL.spl [47] 0 [] l ≠ [] ∧ ∀ x ∈ TL.spl [47] 0 [] l, x.length ≤ l.length ∧ ∀ c ∈ x, c ∈ l
  | 0, l, h => by
    have e : l = [] := List.length_eq_zero_iff.mp (by omega)
    subst e
    exact ⟨by rw [TL.spl_nil]; simp, fun x hx => by rw [TL.spl_nil] at hx; rcases List.mem_singleton.mp hx with rfl; simp⟩
  | n + 1, l, h => by
    by_cases hm : 47 ∈ l
    · obtain ⟨p, q, e, hp⟩ := first_slash l hm
      subst e
      have ih := spl_all n q (by simp at h; omega)
      rw [spl_yes q hp]
      refine ⟨by simp, fun x hx => ?_⟩
      rcases List.mem_cons.mp hx with rfl | hx
      · exact ⟨by simp, fun c hc => by simp [hc]⟩
      · obtain ⟨h1, h2⟩ := ih.2 x hx
        exact ⟨by simp; omega, fun c hc => by simp [h2 c hc]⟩
    · rw [spl_no hm]
      exact ⟨by simp, fun x hx => by rcases List.mem_singleton.mp hx with rfl; exact ⟨Nat.le_refl _, fun c hc => hc⟩⟩
theorem good_slash {q : List Nat} (h : 47 ∈ q) : good q = false := by
  have hd : 47 ∈ dg q := by
    unfold dg
    split
    · rename_i ht
      cases q with
      | nil => cases h
      | cons c r =>
        simp at ht
        subst ht
        rcases List.mem_cons.mp h with z | z
        · cases z
        · exact z
    · exact h
  unfold good
  have : (dg q).all isD = false := by
    cases hh : (dg q).all isD with
    | false => rfl
    | true =>
      have := (isD_iff 47).mp (List.all_eq_true.mp hh 47 hd)
      omega
  rw [this, Bool.and_false, Bool.and_false]
theorem read_none {t : Str} {ω : Dr} (h : F_read_ratio [.d (.str t)] ω = .exc exB ω) : F__law_read [.d (.str t)] ω = .ok .none ω := by
  unfold F__law_read
  rw [if_pos (show [Vl.d (PyData.str t)].length = 1 from rfl), h]
  exact if_pos ⟨rfl, rfl⟩
theorem read_some {t : Str} {ω : Dr} {d : PD} (h : F_read_ratio [.d (.str t)] ω = .ok d ω) : F__law_read [.d (.str t)] ω = .ok d ω := by
  unfold F__law_read
  rw [if_pos (show [Vl.d (PyData.str t)].length = 1 from rfl), h]
theorem self_none : fEq2 true (.d .none) (.d .none) = some false := rfl
theorem self_tu (a b : Int) : fEq2 true (.d (tu a b)) (.d (tu a b)) = some false := by
  show some (!((a == a) && ((b == b) && true))) = _
  simp
theorem read_due (l : List Nat) (ω : Dr) (hl : l.length ≤ 8) (hv : vS l = true) : ∃ d, F__law_read [.d (.str (S l))] ω = .ok d ω ∧ F__law_due [.d (.str (S l))] ω = .ok d ω ∧ fEq2 true (.d d) (.d d) = some false := by
  have hs := spl_all l.length l (Nat.le_refl _)
  have hd := due_is l ω hl (fun x hx => ⟨Nat.le_trans (hs.2 x hx).1 hl, List.all_eq_true.mpr fun c hc => List.all_eq_true.mp hv c ((hs.2 x hx).2 c hc)⟩) hs.1
  refine ⟨dueV l, ?_, hd, ?_⟩
  · by_cases hm : 47 ∈ l
    · obtain ⟨p, q, e, hp⟩ := first_slash l hm
      subst e
      have lp : p.length ≤ 8 := by simp at hl; omega
      have lq : q.length ≤ 8 := by simp at hl; omega
      have hr := read_yes p q (by omega) hp (lg_small (vl_small lp)) (lg_small (vl_small lq)) ω
      unfold dueV
      rw [spl_yes q hp]
      by_cases hq : 47 ∈ q
      · rw [good_slash hq] at hr
        rw [if_neg (by simp)] at hr
        obtain ⟨p2, q2, e2, hp2⟩ := first_slash q hq
        have e3 : TL.spl [47] 0 [] q = p2 :: TL.spl [47] 0 [] q2 := by rw [e2, spl_yes q2 hp2]
        rw [e3]
        have hne := (spl_all q2.length q2 (Nat.le_refl _)).1
        cases hq2 : TL.spl [47] 0 [] q2 with
        | nil => exact (hne hq2).elim
        | cons x r => exact read_none hr
      · rw [spl_no hq]
        dsimp only
        by_cases hc : good p = true ∧ good q = true ∧ fin (S (p ++ 47 :: q)) (vl p) (vl q) = true
        · rw [if_pos hc] at hr ⊢
          exact read_some hr
        · rw [if_neg hc] at hr ⊢
          exact read_none hr
    · have hr := read_no l (by omega) hm (lg_small (vl_small hl)) ω
      unfold dueV
      rw [spl_no hm]
      dsimp only
      by_cases hc : good l = true ∧ fin (S l) (vl l) 1 = true
      · rw [if_pos hc] at hr ⊢
        exact read_some hr
      · rw [if_neg hc] at hr ⊢
        exact read_none hr
  · unfold dueV
    split
    · split
      · exact self_tu _ _
      · exact self_none
    · split
      · exact self_tu _ _
      · exact self_none
    · exact self_none
end K17
end
-- Kq
section
set_option maxRecDepth 100000
set_option maxHeartbeats 4000000
namespace K17
open PySem PySem.Spec L2 FL SX
def T0 : Ms := (mUnpL [3, 4] (mLk (mComp [8] (mRng1 (mCons (mC (.int 2)) mNil)) (tgName 8) mYes (mCall F__law_low (mCons (mOp2 (fInt2 (fun _ _ => true) fun i j => i - j) (mCall F__law_take (mCons (mVar 1) (mCons (mC (.int 60)) mNil))) (mC (.int 30))) (mCons (mOp2 fAdd (mC (.int 1)) (mCall F__law_take (mCons (mVar 1) (mCons (mC (.int 12)) mNil)))) mNil))))))
def T1 : Ms := (mIfS (mOrT (mCmp (fEq2 true) (mCall F_plus (mCons (mVar 3) (mCons (mVar 4) mNil))) (mCall F__law_plus (mCons (mVar 3) (mCons (mVar 4) mNil)))) (mOrT (mCmp (fEq2 true) (mCall F_minus (mCons (mVar 3) (mCons (mVar 4) mNil))) (mCall F__law_minus (mCons (mVar 3) (mCons (mVar 4) mNil)))) (mOrT (mCmp (fEq2 true) (mCall F_times (mCons (mVar 3) (mCons (mVar 4) mNil))) (mCall F__law_times (mCons (mVar 3) (mCons (mVar 4) mNil)))) (mOrT (mCmp (fEq2 true) (mCall F_less1 (mCons (mVar 3) (mCons (mVar 4) mNil))) (mCall F__law_less (mCons (mVar 3) (mCons (mVar 4) mNil)))) (mNotT (mTru (mIsI "bool" (mCall F_less1 (mCons (mVar 3) (mCons (mVar 4) mNil)))))))))) (mRet (mC (.bool false))) mNx)
def T2 : Ms := (mPar [5, 6] (mConsL (mVal (mOp2 (fInt2 (fun _ _ => true) fun i j => i - j) (mCall F__law_take (mCons (mVar 1) (mCons (mC (.int 99)) mNil))) (mC (.int 50)))) (mConsL (mVal (mOp2 (fInt2 (fun _ _ => true) fun i j => i - j) (mCall F__law_take (mCons (mVar 1) (mCons (mC (.int 20)) mNil))) (mC (.int 10)))) mNilL)))
def T3 : Ms := (mIfS (mOrT (mAndT (mCmp (fEq2 true) (mOp2 fIx (mVar 4) (mC (.int 0))) (mC (.int 0))) (mCmp (fEq2 true) (mCall F_divided (mCons (mVar 3) (mCons (mVar 4) mNil))) (mCall F__law_low (mCons (mOp2 fMul2 (mOp2 fIx (mVar 3) (mC (.int 0))) (mOp2 fIx (mVar 4) (mC (.int 1)))) (mCons (mOp2 fMul2 (mOp2 fIx (mVar 3) (mC (.int 1))) (mOp2 fIx (mVar 4) (mC (.int 0)))) mNil))))) (mAndT (mCmp (fEq2 true) (mVar 6) (mC (.int 0))) (mCmp (fEq2 true) (mCall F_lowest (mCons (mVar 5) (mCons (mVar 6) mNil))) (mCall F__law_low (mCons (mVar 5) (mCons (mVar 6) mNil)))))) (mRet (mC (.bool false))) mNx)
def T4 : Ms := (mAsg 7 (mVal (mIf (mCmp (fEq2 false) (mOp2 fIx (mVar 3) (mC (.int 1))) (mC (.int 1))) (mCl fStr (mCons (mOp2 fIx (mVar 3) (mC (.int 0))) mNil)) (mOp2 fAdd (mOp2 fAdd (mCl fStr (mCons (mOp2 fIx (mVar 3) (mC (.int 0))) mNil)) (mC (.str "/"))) (mCl fStr (mCons (mOp2 fIx (mVar 3) (mC (.int 1))) mNil))))))
def T5 : Ms := (mIfS (mOrT (mCmp (fEq2 true) (mCall F_ratio_text (mCons (mVar 3) mNil)) (mVar 7)) (mOrT (mCmp (fEq2 true) (mCall F_read_ratio (mCons (mVar 7) mNil)) (mVar 3)) (mNotT (mTru (mIsI "tuple" (mCall F_read_ratio (mCons (mVar 7) mNil))))))) (mRet (mC (.bool false))) mNx)
def T6 : Ms := (mFor (mRng1 (mCons (mC (.int 6)) mNil)) (tgName 8) (mSeq (mPar [9, 10] (mConsL (mVal (mCall F__law_take (mCons (mVar 1) (mCons (mOp2 fAdd (mCl fLen (mCons (mVar 7) mNil)) (mC (.int 1))) mNil)))) (mConsL (mVal (mOp2 fIx (mLk (mLst (mCons (mC (.str "0")) (mCons (mC (.str "1")) (mCons (mC (.str "/")) (mCons (mC (.str "-")) (mCons (mC (.str " ")) (mCons (mC (.str "x")) (mCons (mC (.str "+")) mNil))))))))) (mCall F__law_take (mCons (mVar 1) (mCons (mC (.int 7)) mNil))))) mNilL))) (mSeq (mAsg 11 (mVal (mOp2 fIx (mLk (mLst (mCons (mOp2 fAdd (mOp2 fAdd (mSl (mVar 7) mNoP (mPart (mVar 9))) (mVar 10)) (mSl (mVar 7) (mPart (mVar 9)) mNoP)) (mCons (mOp2 fAdd (mSl (mVar 7) mNoP (mPart (mVar 9))) (mSl (mVar 7) (mPart (mOp2 fAdd (mVar 9) (mC (.int 1)))) mNoP)) (mCons (mOp2 fAdd (mOp2 fAdd (mSl (mVar 7) mNoP (mPart (mVar 9))) (mVar 10)) (mSl (mVar 7) (mPart (mOp2 fAdd (mVar 9) (mC (.int 1)))) mNoP)) mNil))))) (mCall F__law_take (mCons (mVar 1) (mCons (mC (.int 3)) mNil)))))) (mIfS (mCmp (fEq2 true) (mCall F__law_read (mCons (mVar 11) mNil)) (mCall F__law_due (mCons (mVar 11) mNil))) (mRet (mC (.bool false))) mNx))))
def U0 : Ms := (mPar [9, 10] (mConsL (mVal (mCall F__law_take (mCons (mVar 1) (mCons (mOp2 fAdd (mCl fLen (mCons (mVar 7) mNil)) (mC (.int 1))) mNil)))) (mConsL (mVal (mOp2 fIx (mLk (mLst (mCons (mC (.str "0")) (mCons (mC (.str "1")) (mCons (mC (.str "/")) (mCons (mC (.str "-")) (mCons (mC (.str " ")) (mCons (mC (.str "x")) (mCons (mC (.str "+")) mNil))))))))) (mCall F__law_take (mCons (mVar 1) (mCons (mC (.int 7)) mNil))))) mNilL)))
def U1 : Ms := (mAsg 11 (mVal (mOp2 fIx (mLk (mLst (mCons (mOp2 fAdd (mOp2 fAdd (mSl (mVar 7) mNoP (mPart (mVar 9))) (mVar 10)) (mSl (mVar 7) (mPart (mVar 9)) mNoP)) (mCons (mOp2 fAdd (mSl (mVar 7) mNoP (mPart (mVar 9))) (mSl (mVar 7) (mPart (mOp2 fAdd (mVar 9) (mC (.int 1)))) mNoP)) (mCons (mOp2 fAdd (mOp2 fAdd (mSl (mVar 7) mNoP (mPart (mVar 9))) (mVar 10)) (mSl (mVar 7) (mPart (mOp2 fAdd (mVar 9) (mC (.int 1)))) mNoP)) mNil))))) (mCall F__law_take (mCons (mVar 1) (mCons (mC (.int 3)) mNil))))))
def U2 : Ms := (mIfS (mCmp (fEq2 true) (mCall F__law_read (mCons (mVar 11) mNil)) (mCall F__law_due (mCons (mVar 11) mNil))) (mRet (mC (.bool false))) mNx)
def ELT : Me := (mCall F__law_low (mCons (mOp2 (fInt2 (fun _ _ => true) fun i j => i - j) (mCall F__law_take (mCons (mVar 1) (mCons (mC (.int 60)) mNil))) (mC (.int 30))) (mCons (mOp2 fAdd (mC (.int 1)) (mCall F__law_take (mCons (mVar 1) (mCons (mC (.int 12)) mNil)))) mNil)))
theorem law1_parts : M_law1 = mFor (mRng1 (mCons (mC (.int 4)) mNil)) (tgName 2) (mSeq T0 (mSeq T1 (mSeq T2 (mSeq T3 (mSeq T4 (mSeq T5 T6)))))) := rfl
theorem T6_parts : T6 = mFor (mRng1 (mCons (mC (.int 6)) mNil)) (tgName 8) (mSeq U0 (mSeq U1 U2)) := rfl
theorem take_m (c : Int) (ρ : Rho) (ω : Dr) (hρ : ρ[1]? = some (.par .draw)) (hm : 0 < c ∧ c < 1073741824) (h : Dok ω) : ∃ n ω', mCall F__law_take (mCons (mVar 1) (mCons (mC (.int c)) mNil)) ρ ω = .ok (.d (.int n)) ω' ∧ 0 ≤ n ∧ n < c ∧ Dok ω' := by
  obtain ⟨n, ω', e, h1, h2, h3⟩ := take_is ω c hm h
  refine ⟨n, ω', mCall2_ok (x := .draw) (y := .d (.int c)) (ω1 := ω) (ω2 := ω) ?_ rfl e, h1, h2, h3⟩
  unfold mVar
  rw [hρ]
def rats : List (Int × Int) := (List.range 60).flatMap fun (i : Nat) => (List.range 12).map fun (j : Nat) => low ((i : Int) - 30) (1 + (j : Int))
def okP (p : Int × Int) : Bool := decide (-100 ≤ p.1 ∧ p.1 ≤ 100 ∧ 0 < p.2 ∧ p.2 ≤ 100) && (decide ((txt p).length ≤ 7) && vS (txt p).cps.toList)
theorem rats_ok : rats.all okP = true := by kernel_rfl
theorem rats_mem (n m : Int) (hn : 0 ≤ n ∧ n < 60) (hm : 0 ≤ m ∧ m < 12) : low (n - 30) (1 + m) ∈ rats := by
  unfold rats
  refine List.mem_flatMap.mpr ⟨n.toNat, List.mem_range.mpr (by omega), List.mem_map.mpr ⟨m.toNat, List.mem_range.mpr (by omega), ?_⟩⟩
  rw [Int.toNat_of_nonneg hn.1, Int.toNat_of_nonneg hm.1]
/-- what is known of a drawn ratio -/
structure Rt (p : Int × Int) : Prop where
  mem : p ∈ rats
  sm : Sm p.1 p.2
  len : (txt p).length ≤ 7
  ok : vS (txt p).cps.toList = true
theorem rt_of {p : Int × Int} (h : p ∈ rats) : Rt p := by
  have := List.all_eq_true.mp rats_ok p h
  unfold okP at this
  rw [Bool.and_eq_true, Bool.and_eq_true] at this
  have h1 : -100 ≤ p.1 ∧ p.1 ≤ 100 ∧ 0 < p.2 ∧ p.2 ≤ 100 := of_decide_eq_true this.1
  exact ⟨h, h1, of_decide_eq_true this.2.1, this.2.2⟩
abbrev tp (p : Int × Int) : PD := tu p.1 p.2
theorem low_small (n m : Int) (hn : 0 ≤ n ∧ n < 60) (hm : 0 ≤ m ∧ m < 12) (ω : Dr) : F__law_low [.d (.int (n - 30)), .d (.int (1 + m))] ω = .ok (tp (low (n - 30) (1 + m))) ω := low_ok _ _ ω (gcd_small _ _ (by omega) (by omega))
section
variable {s2 s3 s4 s5 s6 s7 s8 s9 s10 s11 s12 s13 s14 : Sl}
theorem elt_is (ω : Dr) (h : Dok ω) : ∃ p ω', ELT [.none, .par .draw, s2, s3, s4, s5, s6, s7, s8, s9, s10, s11, s12, s13, s14] ω = .ok (.d (tp p)) ω' ∧ Rt p ∧ Dok ω' := by
  obtain ⟨n, ω1, e1, n0, n1, d1⟩ := take_m 60 [.none, .par .draw, s2, s3, s4, s5, s6, s7, s8, s9, s10, s11, s12, s13, s14] ω rfl (by decide) h
  obtain ⟨m, ω2, e2, m0, m1, d2⟩ := take_m 12 [.none, .par .draw, s2, s3, s4, s5, s6, s7, s8, s9, s10, s11, s12, s13, s14] ω1 rfl (by decide) d1
  have a1 := mOp2_ok (f := fInt2 (fun _ _ => true) fun i j => i - j) (b := mC (.int 30)) (z := .d (.int (n - 30))) (ω2 := ω1) e1 rfl rfl
  have a2 := mOp2_ok (f := fAdd) (a := mC (.int 1)) (ρ := [.none, .par .draw, s2, s3, s4, s5, s6, s7, s8, s9, s10, s11, s12, s13, s14]) (ω := ω1) (z := .d (.int (1 + m))) rfl e2 rfl
  exact ⟨_, ω2, mCall2_ok a1 a2 (low_small n m ⟨n0, n1⟩ ⟨m0, m1⟩ ω2), rt_of (rats_mem n m ⟨n0, n1⟩ ⟨m0, m1⟩), d2⟩
theorem T0_is (ω : Dr) (h : Dok ω) : ∃ p q ω', T0 [.none, .par .draw, s2, s3, s4, s5, s6, s7, s8, s9, s10, s11, s12, s13, s14] ω = .ok .nx ([.none, .par .draw, s2, .val (tp p), .val (tp q), s5, s6, s7, s8, s9, s10, s11, s12, s13, s14], ω') ∧ Rt p ∧ Rt q ∧ Dok ω' := by
  obtain ⟨p, ω1, e1, r1, d1⟩ := elt_is (s2 := s2) (s3 := s3) (s4 := s4) (s5 := s5) (s6 := s6) (s7 := s7) (s8 := .val (.int (0 + (0 : Nat)))) (s9 := s9) (s10 := s10) (s11 := s11) (s12 := s12) (s13 := s13) (s14 := s14) ω h
  obtain ⟨q, ω2, e2, r2, d2⟩ := elt_is (s2 := s2) (s3 := s3) (s4 := s4) (s5 := s5) (s6 := s6) (s7 := s7) (s8 := .val (.int (0 + (1 : Nat)))) (s9 := s9) (s10 := s10) (s11 := s11) (s12 := s12) (s13 := s13) (s14 := s14) ω1 d1
  have hc : compL [8] (tgName 8) mYes ELT [.none, .par .draw, s2, s3, s4, s5, s6, s7, s8, s9, s10, s11, s12, s13, s14] (rngP 0 2) ω = .ok [tp p, tp q] ω2 := by
    refine compL_yes (ρ1 := [.none, .par .draw, s2, s3, s4, s5, s6, s7, .val (.int (0 + (0 : Nat))), s9, s10, s11, s12, s13, s14]) (ω1 := ω) rfl rfl e1 ?_
    exact compL_yes (ρ1 := [.none, .par .draw, s2, s3, s4, s5, s6, s7, .val (.int (0 + (1 : Nat))), s9, s10, s11, s12, s13, s14]) (ω1 := ω1) rfl rfl e2 rfl
  have hl : mLk (mComp [8] (mRng1 (mCons (mC (.int 2)) mNil)) (tgName 8) mYes ELT) [.none, .par .draw, s2, s3, s4, s5, s6, s7, s8, s9, s10, s11, s12, s13, s14] ω = .ok (.d (.list [tp p, tp q])) ω2 := by
    show ((compL [8] (tgName 8) mYes ELT [.none, .par .draw, s2, s3, s4, s5, s6, s7, s8, s9, s10, s11, s12, s13, s14] (rngP 0 2) ω).bind fun l ω => Res.ok (Vl.d (.list l)) ω) = _
    rw [hc]
    rfl
  refine ⟨p, q, ω2, ?_, r1, r2, d2⟩
  show mUnpL [3, 4] (mLk (mComp [8] (mRng1 (mCons (mC (.int 2)) mNil)) (tgName 8) mYes ELT)) [.none, .par .draw, s2, s3, s4, s5, s6, s7, s8, s9, s10, s11, s12, s13, s14] ω = _
  unfold mUnpL
  rw [hl]
  rfl
theorem self_bool (b : Bool) : fEq2 true (.d (.bool b)) (.d (.bool b)) = some false := by cases b <;> rfl

theorem T1_is (p q : Int × Int) (ω : Dr) (hp : Rt p) (hq : Rt q) : T1 [.none, .par .draw, s2, .val (tp p), .val (tp q), s5, s6, s7, s8, s9, s10, s11, s12, s13, s14] ω = .ok .nx ([.none, .par .draw, s2, .val (tp p), .val (tp q), s5, s6, s7, s8, s9, s10, s11, s12, s13, s14], ω) := by
  have c1 : mCmp (fEq2 true) (mCall F_plus (mCons (mVar 3) (mCons (mVar 4) mNil))) (mCall F__law_plus (mCons (mVar 3) (mCons (mVar 4) mNil))) [.none, .par .draw, s2, .val (tp p), .val (tp q), s5, s6, s7, s8, s9, s10, s11, s12, s13, s14] ω = .ok false ω := mCmp_ok (mCall2_ok (x := .d (tp p)) (y := .d (tp q)) (ω1 := ω) (ω2 := ω) rfl rfl (plus_is hp.sm hq.sm)) (mCall2_ok (x := .d (tp p)) (y := .d (tp q)) (ω1 := ω) (ω2 := ω) rfl rfl (law_plus_is hp.sm hq.sm)) (self_tu _ _)
  have c2 : mCmp (fEq2 true) (mCall F_minus (mCons (mVar 3) (mCons (mVar 4) mNil))) (mCall F__law_minus (mCons (mVar 3) (mCons (mVar 4) mNil))) [.none, .par .draw, s2, .val (tp p), .val (tp q), s5, s6, s7, s8, s9, s10, s11, s12, s13, s14] ω = .ok false ω := mCmp_ok (mCall2_ok (x := .d (tp p)) (y := .d (tp q)) (ω1 := ω) (ω2 := ω) rfl rfl (minus_is hp.sm hq.sm)) (mCall2_ok (x := .d (tp p)) (y := .d (tp q)) (ω1 := ω) (ω2 := ω) rfl rfl (law_minus_is hp.sm hq.sm)) (self_tu _ _)
  have c3 : mCmp (fEq2 true) (mCall F_times (mCons (mVar 3) (mCons (mVar 4) mNil))) (mCall F__law_times (mCons (mVar 3) (mCons (mVar 4) mNil))) [.none, .par .draw, s2, .val (tp p), .val (tp q), s5, s6, s7, s8, s9, s10, s11, s12, s13, s14] ω = .ok false ω := mCmp_ok (mCall2_ok (x := .d (tp p)) (y := .d (tp q)) (ω1 := ω) (ω2 := ω) rfl rfl (times_is hp.sm hq.sm)) (mCall2_ok (x := .d (tp p)) (y := .d (tp q)) (ω1 := ω) (ω2 := ω) rfl rfl (law_times_is hp.sm hq.sm)) (self_tu _ _)
  have c4 : mCmp (fEq2 true) (mCall F_less1 (mCons (mVar 3) (mCons (mVar 4) mNil))) (mCall F__law_less (mCons (mVar 3) (mCons (mVar 4) mNil))) [.none, .par .draw, s2, .val (tp p), .val (tp q), s5, s6, s7, s8, s9, s10, s11, s12, s13, s14] ω = .ok false ω := mCmp_ok (mCall2_ok (x := .d (tp p)) (y := .d (tp q)) (ω1 := ω) (ω2 := ω) rfl rfl (less1_is hp.sm hq.sm)) (mCall2_ok (x := .d (tp p)) (y := .d (tp q)) (ω1 := ω) (ω2 := ω) rfl rfl (law_less_is hp.sm hq.sm)) (self_bool _)
  have c5 : mNotT (mTru (mIsI "bool" (mCall F_less1 (mCons (mVar 3) (mCons (mVar 4) mNil))))) [.none, .par .draw, s2, .val (tp p), .val (tp q), s5, s6, s7, s8, s9, s10, s11, s12, s13, s14] ω = .ok false ω := by
    have e : mIsI "bool" (mCall F_less1 (mCons (mVar 3) (mCons (mVar 4) mNil))) [.none, .par .draw, s2, .val (tp p), .val (tp q), s5, s6, s7, s8, s9, s10, s11, s12, s13, s14] ω = .ok (.d (.bool true)) ω := by
      unfold mIsI
      rw [mCall2_ok (x := .d (tp p)) (y := .d (tp q)) (ω1 := ω) (ω2 := ω) rfl rfl (less1_is hp.sm hq.sm)]
      rfl
    exact mNotT_ok (b := true) (mTru_ok e rfl)
  unfold T1
  rw [mIfS_f ((mOrT_f c1).trans ((mOrT_f c2).trans ((mOrT_f c3).trans ((mOrT_f c4).trans c5))))]
  rfl
theorem T2_is (p q : Int × Int) (ω : Dr) (h : Dok ω) : ∃ a b ω', T2 [.none, .par .draw, s2, .val (tp p), .val (tp q), s5, s6, s7, s8, s9, s10, s11, s12, s13, s14] ω = .ok .nx ([.none, .par .draw, s2, .val (tp p), .val (tp q), .val (.int a), .val (.int b), s7, s8, s9, s10, s11, s12, s13, s14], ω') ∧ (-50 ≤ a ∧ a < 49) ∧ (-10 ≤ b ∧ b < 10) ∧ Dok ω' := by
  obtain ⟨n, ω1, e1, n0, n1, d1⟩ := take_m 99 [.none, .par .draw, s2, .val (tp p), .val (tp q), s5, s6, s7, s8, s9, s10, s11, s12, s13, s14] ω rfl (by decide) h
  obtain ⟨m, ω2, e2, m0, m1, d2⟩ := take_m 20 [.none, .par .draw, s2, .val (tp p), .val (tp q), s5, s6, s7, s8, s9, s10, s11, s12, s13, s14] ω1 rfl (by decide) d1
  have a1 := mOp2_ok (f := fInt2 (fun _ _ => true) fun i j => i - j) (b := mC (.int 50)) (z := .d (.int (n - 50))) (ω2 := ω1) e1 rfl rfl
  have a2 := mOp2_ok (f := fInt2 (fun _ _ => true) fun i j => i - j) (b := mC (.int 10)) (z := .d (.int (m - 10))) (ω2 := ω2) e2 rfl rfl
  exact ⟨n - 50, m - 10, ω2, mPar2_ok (i := 5) (j := 6) (mVal_ok a1) (mVal_ok a2), by omega, by omega, d2⟩
theorem T3_is (p q : Int × Int) (a b : Int) (ω : Dr) (hp : Rt p) (hq : Rt q) (ha : -50 ≤ a ∧ a < 49) (hb : -10 ≤ b ∧ b < 10) : T3 [.none, .par .draw, s2, .val (tp p), .val (tp q), .val (.int a), .val (.int b), s7, s8, s9, s10, s11, s12, s13, s14] ω = .ok .nx ([.none, .par .draw, s2, .val (tp p), .val (tp q), .val (.int a), .val (.int b), s7, s8, s9, s10, s11, s12, s13, s14], ω) := by
  have i30 : mOp2 fIx (mVar 3) (mC (.int 0)) [.none, .par .draw, s2, .val (tp p), .val (tp q), .val (.int a), .val (.int b), s7, s8, s9, s10, s11, s12, s13, s14] ω = .ok (.d (.int p.1)) ω := rfl
  have i31 : mOp2 fIx (mVar 3) (mC (.int 1)) [.none, .par .draw, s2, .val (tp p), .val (tp q), .val (.int a), .val (.int b), s7, s8, s9, s10, s11, s12, s13, s14] ω = .ok (.d (.int p.2)) ω := rfl
  have i40 : mOp2 fIx (mVar 4) (mC (.int 0)) [.none, .par .draw, s2, .val (tp p), .val (tp q), .val (.int a), .val (.int b), s7, s8, s9, s10, s11, s12, s13, s14] ω = .ok (.d (.int q.1)) ω := rfl
  have i41 : mOp2 fIx (mVar 4) (mC (.int 1)) [.none, .par .draw, s2, .val (tp p), .val (tp q), .val (.int a), .val (.int b), s7, s8, s9, s10, s11, s12, s13, s14] ω = .ok (.d (.int q.2)) ω := rfl
  have z1 : mCmp (fEq2 true) (mOp2 fIx (mVar 4) (mC (.int 0))) (mC (.int 0)) [.none, .par .draw, s2, .val (tp p), .val (tp q), .val (.int a), .val (.int b), s7, s8, s9, s10, s11, s12, s13, s14] ω = .ok (!(q.1 == 0)) ω := rfl
  have z2 : mCmp (fEq2 true) (mVar 6) (mC (.int 0)) [.none, .par .draw, s2, .val (tp p), .val (tp q), .val (.int a), .val (.int b), s7, s8, s9, s10, s11, s12, s13, s14] ω = .ok (!(b == 0)) ω := rfl
  have A1 : ∀ (X : Mt), (q.1 ≠ 0 → X [.none, .par .draw, s2, .val (tp p), .val (tp q), .val (.int a), .val (.int b), s7, s8, s9, s10, s11, s12, s13, s14] ω = .ok false ω) → mAndT (mCmp (fEq2 true) (mOp2 fIx (mVar 4) (mC (.int 0))) (mC (.int 0))) X [.none, .par .draw, s2, .val (tp p), .val (tp q), .val (.int a), .val (.int b), s7, s8, s9, s10, s11, s12, s13, s14] ω = .ok false ω := fun X hX => by
    by_cases h : q.1 = 0
    · have e : (!(q.1 == 0)) = false := by simp [h]
      rw [e] at z1
      exact mAndT_f z1
    · have e : (!(q.1 == 0)) = true := by simp [h]
      rw [e] at z1
      rw [mAndT_t z1]
      exact hX h
  have A2 : ∀ (X : Mt), (b ≠ 0 → X [.none, .par .draw, s2, .val (tp p), .val (tp q), .val (.int a), .val (.int b), s7, s8, s9, s10, s11, s12, s13, s14] ω = .ok false ω) → mAndT (mCmp (fEq2 true) (mVar 6) (mC (.int 0))) X [.none, .par .draw, s2, .val (tp p), .val (tp q), .val (.int a), .val (.int b), s7, s8, s9, s10, s11, s12, s13, s14] ω = .ok false ω := fun X hX => by
    by_cases h : b = 0
    · have e : (!(b == 0)) = false := by simp [h]
      rw [e] at z2
      exact mAndT_f z2
    · have e : (!(b == 0)) = true := by simp [h]
      rw [e] at z2
      rw [mAndT_t z2]
      exact hX h
  unfold T3
  rw [mIfS_f ((mOrT_f (A1 _ fun hne => ?_)).trans (A2 _ fun hne => ?_))]
  · rfl
  · have hp1 := hp.sm
    have hq1 := hq.sm
    have m1 := mOp2_ok (f := fMul2) i30 i41 (fMul_ok p.1 q.2 (cM ⟨hp1.1, hp1.2.1⟩))
    have m2 := mOp2_ok (f := fMul2) i31 i40 (fMul_ok p.2 q.1 (cM ⟨by have := hp1.2.2.1; omega, hp1.2.2.2⟩))
    have hbd := mul_small (a := p.2) (b := q.1) ⟨by have := hp1.2.2.1; omega, hp1.2.2.2⟩ ⟨hq1.1, hq1.2.1⟩
    have hy : p.2 * q.1 ≠ 0 := Int.mul_ne_zero (by have := hp1.2.2.1; omega) hne
    exact mCmp_ok (mCall2_ok (x := .d (tp p)) (y := .d (tp q)) (ω1 := ω) (ω2 := ω) rfl rfl (divided_is hp.sm hq.sm hne)) (mCall2_ok m1 m2 (low_ok _ _ ω (gcd_small _ _ hy (by omega)))) (self_tu _ _)
  · exact mCmp_ok (mCall2_ok (x := .d (.int a)) (y := .d (.int b)) (ω1 := ω) (ω2 := ω) rfl rfl (lowest_is a b ω hne (gcd_small _ _ hne (by omega)))) (mCall2_ok (x := .d (.int a)) (y := .d (.int b)) (ω1 := ω) (ω2 := ω) rfl rfl (low_ok a b ω (gcd_small _ _ hne (by omega)))) (self_tu _ _)
end
end K17
end
-- Ki
section
set_option maxRecDepth 100000
set_option maxHeartbeats 4000000
namespace K17
open PySem PySem.Spec L2 FL
theorem rats_read (ω : Dr) : (rats.map fun p => F_read_ratio [.d (.str (txt p))] ω) = rats.map fun p => .ok (.tuple [.int p.1, .int p.2]) ω := by kernel_rfl
end K17
end
-- Kr
section
set_option maxRecDepth 100000
set_option maxHeartbeats 4000000
namespace K17
open PySem PySem.Spec L2 FL SX
theorem self_str (t : Str) : fEq2 true (.d (.str t)) (.d (.str t)) = some false := by
  show some (!(t == t)) = _
  simp
theorem len_cut (t : Str) (lo hi : Option Int) : (cutS t lo hi).length ≤ t.length := by
  unfold cutS
  simp only [Str.length, List.size_toArray, List.length_take, List.length_drop, Array.length_toList]
  omega
theorem len_to (t : Str) (a : Int) (h : 0 ≤ a) : (cutS t none (some a)).length = min a.toNat t.length := by
  unfold cutS
  have e : HT.sIx t.length t.length (some a) = min a.toNat t.length := by
    have := HT.sIx_nat t.length t.length a.toNat
    rw [Int.toNat_of_nonneg h] at this
    exact this
  rw [e, HT.sIx_none]
  simp only [Str.length, List.size_toArray, List.length_take, List.length_drop, Array.length_toList]
  omega
theorem len_from (t : Str) (a : Int) (h : 0 ≤ a) : (cutS t (some a) none).length = t.length - min a.toNat t.length := by
  unfold cutS
  have e : HT.sIx t.length 0 (some a) = min a.toNat t.length := by
    have := HT.sIx_nat t.length 0 a.toNat
    rw [Int.toNat_of_nonneg h] at this
    exact this
  rw [e, HT.sIx_none]
  simp only [Str.length, List.size_toArray, List.length_take, List.length_drop, Array.length_toList]
  omega
theorem vS_cut {t : Str} (h : vS t.cps.toList = true) (lo hi : Option Int) : vS (cutS t lo hi).cps.toList = true := by
  unfold cutS
  exact List.all_eq_true.mpr fun c hc => List.all_eq_true.mp h c (List.mem_of_mem_drop (List.mem_of_mem_take (by simpa using hc)))
theorem vS_app {x y : Str} (hx : vS x.cps.toList = true) (hy : vS y.cps.toList = true) : vS (x ++ y).cps.toList = true := by
  have e : (x ++ y).cps.toList = x.cps.toList ++ y.cps.toList := TL.tl_append x y
  rw [e]
  unfold vS at *
  rw [List.all_append, hx, hy]
  rfl
theorem sl_ok {m : Me} {lo hi : Mo} {ρ : Rho} {ω ω1 ω2 ω3 : Dr} {t : Str} {a b : Option Int} (h1 : m ρ ω = .ok (.d (.str t)) ω1) (h2 : lo ρ ω1 = .ok a ω2) (h3 : hi ρ ω2 = .ok b ω3) (hl : t.length ≤ 7) : mSl m lo hi ρ ω = .ok (.d (.str (cutS t a b))) ω3 := mSl_ok h1 h2 h3 (by
  show (if t.length ≤ 100000 then some (Vl.d (.str (cutS t a b))) else none) = _
  rw [if_pos (by omega)])
section
variable {s2 s3 s4 s5 s6 s7 s8 s9 s10 s11 s12 s13 s14 : Sl}
theorem T4_is (p q : Int × Int) (ω : Dr) (hp : Rt p) : T4 [.none, .par .draw, s2, .val (tp p), s4, s5, s6, s7, s8, s9, s10, s11, s12, s13, s14] ω = .ok .nx ([.none, .par .draw, s2, .val (tp p), s4, s5, s6, .val (.str (txt p)), s8, s9, s10, s11, s12, s13, s14], ω) := by
  have i0 : mOp2 fIx (mVar 3) (mC (.int 0)) [.none, .par .draw, s2, .val (tp p), s4, s5, s6, s7, s8, s9, s10, s11, s12, s13, s14] ω = .ok (.d (.int p.1)) ω := rfl
  have i1 : mOp2 fIx (mVar 3) (mC (.int 1)) [.none, .par .draw, s2, .val (tp p), s4, s5, s6, s7, s8, s9, s10, s11, s12, s13, s14] ω = .ok (.d (.int p.2)) ω := rfl
  have hc : mCmp (fEq2 false) (mOp2 fIx (mVar 3) (mC (.int 1))) (mC (.int 1)) [.none, .par .draw, s2, .val (tp p), s4, s5, s6, s7, s8, s9, s10, s11, s12, s13, s14] ω = .ok (p.2 == 1) ω := rfl
  obtain ⟨h1, h2, h3, h4⟩ := hp.sm
  have ha : Lg p.1 := lg_small (by omega)
  have hb : Lg p.2 := lg_small (by omega)
  refine mAsg_ok (i := 7) (mVal_ok ?_)
  unfold txt
  by_cases h : p.2 = 1
  · have e : (p.2 == 1) = true := by simp [h]
    rw [e] at hc
    rw [mIf_t hc, if_pos h]
    exact str_ok i0 ha
  · have e : (p.2 == 1) = false := by simp [h]
    rw [e] at hc
    rw [mIf_f hc, if_neg h]
    have l1 := lg_len ha
    have l2 := lg_len hb
    have l3 : (Str.ofString "/").length = 1 := by decide +kernel
    refine add_ok (add_ok (str_ok i0 ha) (y := Str.ofString "/") (ω2 := ω) rfl ?_) (str_ok i1 hb) ?_
    · rw [l3]; exact Nat.le_trans (Nat.add_le_add_right l1 1) (by decide)
    · rw [PySem.Str.length_append, l3]
      exact Nat.le_trans (Nat.add_le_add (Nat.add_le_add_right l1 1) l2) (by decide)
theorem T5_is (p : Int × Int) (ω : Dr) (hp : Rt p) : T5 [.none, .par .draw, s2, .val (tp p), s4, s5, s6, .val (.str (txt p)), s8, s9, s10, s11, s12, s13, s14] ω = .ok .nx ([.none, .par .draw, s2, .val (tp p), s4, s5, s6, .val (.str (txt p)), s8, s9, s10, s11, s12, s13, s14], ω) := by
  obtain ⟨h1, h2, h3, h4⟩ := hp.sm
  have ha : Lg p.1 := lg_small (by omega)
  have hb : Lg p.2 := lg_small (by omega)
  have hr : F_read_ratio [.d (.str (txt p))] ω = .ok (tp p) ω := List.map_inj_left.mp (rats_read ω) p hp.mem
  have er := mCall1_ok (F := F_read_ratio) (a := mVar 7) (ρ := [.none, .par .draw, s2, .val (tp p), s4, s5, s6, .val (.str (txt p)), s8, s9, s10, s11, s12, s13, s14]) (ω := ω) (ω1 := ω) rfl hr
  have c1 : mCmp (fEq2 true) (mCall F_ratio_text (mCons (mVar 3) mNil)) (mVar 7) [.none, .par .draw, s2, .val (tp p), s4, s5, s6, .val (.str (txt p)), s8, s9, s10, s11, s12, s13, s14] ω = .ok false ω := mCmp_ok (y := .d (.str (txt p))) (ω2 := ω) (mCall1_ok (x := .d (tp p)) (ω1 := ω) rfl (rt_is p.1 p.2 ω ha hb)) rfl (self_str _)
  have c2 : mCmp (fEq2 true) (mCall F_read_ratio (mCons (mVar 7) mNil)) (mVar 3) [.none, .par .draw, s2, .val (tp p), s4, s5, s6, .val (.str (txt p)), s8, s9, s10, s11, s12, s13, s14] ω = .ok false ω := mCmp_ok (y := .d (tp p)) (ω2 := ω) er rfl (self_tu _ _)
  have c3 : mNotT (mTru (mIsI "tuple" (mCall F_read_ratio (mCons (mVar 7) mNil)))) [.none, .par .draw, s2, .val (tp p), s4, s5, s6, .val (.str (txt p)), s8, s9, s10, s11, s12, s13, s14] ω = .ok false ω := by
    have e : mIsI "tuple" (mCall F_read_ratio (mCons (mVar 7) mNil)) [.none, .par .draw, s2, .val (tp p), s4, s5, s6, .val (.str (txt p)), s8, s9, s10, s11, s12, s13, s14] ω = .ok (.d (.bool true)) ω := by
      unfold mIsI
      rw [er]
      rfl
    exact mNotT_ok (b := true) (mTru_ok e rfl)
  unfold T5
  rw [mIfS_f ((mOrT_f c1).trans ((mOrT_f c2).trans c3))]
  rfl
theorem U0_is (t : Str) (ω : Dr) (h : Dok ω) (ht : t.length ≤ 7) : ∃ at_ mo ω', U0 [.none, .par .draw, s2, s3, s4, s5, s6, .val (.str t), s8, s9, s10, s11, s12, s13, s14] ω = .ok .nx ([.none, .par .draw, s2, s3, s4, s5, s6, .val (.str t), s8, .val (.int at_), .val (.str mo), s11, s12, s13, s14], ω') ∧ 0 ≤ at_ ∧ mo.length = 1 ∧ vS mo.cps.toList = true ∧ Dok ω' := by
  have l1 : (mOp2 fAdd (mCl fLen (mCons (mVar 7) mNil)) (mC (.int 1))) [.none, .par .draw, s2, s3, s4, s5, s6, .val (.str t), s8, s9, s10, s11, s12, s13, s14] ω = .ok (.d (.int ((t.length : Nat) + 1))) ω := by
    refine mOp2_ok (x := .d (.int (t.length : Nat))) (y := .d (.int 1)) (ω1 := ω) (mCl1_ok (x := .d (.str t)) rfl ?_) rfl rfl
    show (if t.length ≤ 100000 then some (Vl.d (.int (t.length : Nat))) else none) = _
    rw [if_pos (by omega)]
  obtain ⟨n, ω1, e1, n0, n1, d1⟩ := take_is ω ((t.length : Nat) + 1) (by omega) h
  have a1 := mCall2_ok (F := F__law_take) (a := mVar 1) (x := .draw) (ω1 := ω) rfl l1 e1
  obtain ⟨m, ω2, e2, m0, m1, d2⟩ := take_m 7 [.none, .par .draw, s2, s3, s4, s5, s6, .val (.str t), s8, s9, s10, s11, s12, s13, s14] ω1 rfl (by decide) d1
  have hx : ∃ x : Str, fIx (.d (.list [.str "0", .str "1", .str "/", .str "-", .str " ", .str "x", .str "+"])) (.d (.int m)) = some (.d (.str x)) ∧ x.length = 1 ∧ vS x.cps.toList = true := by
    have hm : m = 0 ∨ m = 1 ∨ m = 2 ∨ m = 3 ∨ m = 4 ∨ m = 5 ∨ m = 6 := by omega
    rcases hm with rfl | rfl | rfl | rfl | rfl | rfl | rfl <;> exact ⟨_, rfl, by decide +kernel, by decide +kernel⟩
  obtain ⟨x, ex, lx, vx⟩ := hx
  have a2 := mOp2_ok (f := fIx) (a := (mLk (mLst (mCons (mC (.str "0")) (mCons (mC (.str "1")) (mCons (mC (.str "/")) (mCons (mC (.str "-")) (mCons (mC (.str " ")) (mCons (mC (.str "x")) (mCons (mC (.str "+")) mNil)))))))))) (ρ := [.none, .par .draw, s2, s3, s4, s5, s6, .val (.str t), s8, s9, s10, s11, s12, s13, s14]) (ω := ω1) (ω1 := ω1) rfl e2 ex
  exact ⟨n, x, ω2, mPar2_ok (i := 9) (j := 10) (mVal_ok a1) (mVal_ok a2), n0, lx, vx, d2⟩
theorem U1_is (t mo : Str) (at_ : Int) (ω : Dr) (h : Dok ω) (ht : t.length ≤ 7) (vt : vS t.cps.toList = true) (ha : 0 ≤ at_) (lm : mo.length = 1) (vm : vS mo.cps.toList = true) :
    ∃ x ω', U1 [.none, .par .draw, s2, s3, s4, s5, s6, .val (.str t), s8, .val (.int at_), .val (.str mo), s11, s12, s13, s14] ω = .ok .nx ([.none, .par .draw, s2, s3, s4, s5, s6, .val (.str t), s8, .val (.int at_), .val (.str mo), .val (.str x), s12, s13, s14], ω') ∧ x.length ≤ 8 ∧ vS x.cps.toList = true ∧ Dok ω' := by
  have p1 : (mSl (mVar 7) mNoP (mPart (mVar 9))) [.none, .par .draw, s2, s3, s4, s5, s6, .val (.str t), s8, .val (.int at_), .val (.str mo), s11, s12, s13, s14] ω = .ok (.d (.str (cutS t none (some at_)))) ω := sl_ok (ω1 := ω) (ω2 := ω) rfl rfl rfl ht
  have p2 : (mSl (mVar 7) (mPart (mVar 9)) mNoP) [.none, .par .draw, s2, s3, s4, s5, s6, .val (.str t), s8, .val (.int at_), .val (.str mo), s11, s12, s13, s14] ω = .ok (.d (.str (cutS t (some at_) none))) ω := sl_ok (ω1 := ω) (ω2 := ω) rfl rfl rfl ht
  have p3 : (mSl (mVar 7) (mPart (mOp2 fAdd (mVar 9) (mC (.int 1)))) mNoP) [.none, .par .draw, s2, s3, s4, s5, s6, .val (.str t), s8, .val (.int at_), .val (.str mo), s11, s12, s13, s14] ω = .ok (.d (.str (cutS t (some (at_ + 1)) none))) ω := sl_ok (ω1 := ω) (ω2 := ω) rfl rfl rfl ht
  have l1 := len_to t at_ ha
  have l2 := len_from t at_ ha
  have l3 := len_from t (at_ + 1) (by omega)
  have q1 := add_ok p1 (y := mo) (q := mVar 10) (ω2 := ω) rfl (by omega)
  have lq : (cutS t none (some at_) ++ mo).length = min at_.toNat t.length + 1 := by rw [PySem.Str.length_append]; omega
  have e0 := add_ok q1 p2 (by omega)
  have e1 := add_ok p1 p3 (by omega)
  have e2 := add_ok q1 p3 (by omega)
  have hl := mCons_ok e0 (mCons_ok e1 (mCons_ok e2 (xs := []) (ω2 := ω) (b := mNil) rfl))
  have hL : (mLk (mLst (mCons (mOp2 fAdd (mOp2 fAdd (mSl (mVar 7) mNoP (mPart (mVar 9))) (mVar 10)) (mSl (mVar 7) (mPart (mVar 9)) mNoP)) (mCons (mOp2 fAdd (mSl (mVar 7) mNoP (mPart (mVar 9))) (mSl (mVar 7) (mPart (mOp2 fAdd (mVar 9) (mC (.int 1)))) mNoP)) (mCons (mOp2 fAdd (mOp2 fAdd (mSl (mVar 7) mNoP (mPart (mVar 9))) (mVar 10)) (mSl (mVar 7) (mPart (mOp2 fAdd (mVar 9) (mC (.int 1)))) mNoP)) mNil))))) [.none, .par .draw, s2, s3, s4, s5, s6, .val (.str t), s8, .val (.int at_), .val (.str mo), s11, s12, s13, s14] ω = .ok (.d (.list [.str (cutS t none (some at_) ++ mo ++ cutS t (some at_) none), .str (cutS t none (some at_) ++ cutS t (some (at_ + 1)) none), .str (cutS t none (some at_) ++ mo ++ cutS t (some (at_ + 1)) none)])) ω := by
    unfold mLk mLst
    rw [hl]
    rfl
  obtain ⟨m, ω2, em, m0, m1, d2⟩ := take_m 3 [.none, .par .draw, s2, s3, s4, s5, s6, .val (.str t), s8, .val (.int at_), .val (.str mo), s11, s12, s13, s14] ω rfl (by decide) h
  have v1 := vS_cut vt none (some at_)
  have v2 := vS_cut vt (some at_) none
  have v3 := vS_cut vt (some (at_ + 1)) none
  have hx : ∃ x : Str, fIx (.d (.list [.str (cutS t none (some at_) ++ mo ++ cutS t (some at_) none), .str (cutS t none (some at_) ++ cutS t (some (at_ + 1)) none), .str (cutS t none (some at_) ++ mo ++ cutS t (some (at_ + 1)) none)])) (.d (.int m)) = some (.d (.str x)) ∧ x.length ≤ 8 ∧ vS x.cps.toList = true := by
    have hm : m = 0 ∨ m = 1 ∨ m = 2 := by omega
    rcases hm with rfl | rfl | rfl
    · exact ⟨_, rfl, by rw [PySem.Str.length_append]; omega, vS_app (vS_app v1 vm) v2⟩
    · exact ⟨_, rfl, by rw [PySem.Str.length_append]; omega, vS_app v1 v3⟩
    · exact ⟨_, rfl, by rw [PySem.Str.length_append]; omega, vS_app (vS_app v1 vm) v3⟩
  obtain ⟨x, ex, lx, vx⟩ := hx
  exact ⟨x, ω2, mAsg_ok (i := 11) (mVal_ok (mOp2_ok hL em ex)), lx, vx, d2⟩
theorem U2_is (t x : Str) (ω : Dr) (hx : x.length ≤ 8) (hv : vS x.cps.toList = true) : U2 [.none, .par .draw, s2, s3, s4, s5, s6, .val (.str t), s8, s9, s10, .val (.str x), s12, s13, s14] ω = .ok .nx ([.none, .par .draw, s2, s3, s4, s5, s6, .val (.str t), s8, s9, s10, .val (.str x), s12, s13, s14], ω) := by
  obtain ⟨d, h1, h2, h3⟩ := read_due x.cps.toList ω (by simpa [Str.length] using hx) hv
  rw [S_tl] at h1 h2
  have c : mCmp (fEq2 true) (mCall F__law_read (mCons (mVar 11) mNil)) (mCall F__law_due (mCons (mVar 11) mNil)) [.none, .par .draw, s2, s3, s4, s5, s6, .val (.str t), s8, s9, s10, .val (.str x), s12, s13, s14] ω = .ok false ω := mCmp_ok (mCall1_ok (x := .d (.str x)) (ω1 := ω) rfl h1) (mCall1_ok (x := .d (.str x)) (ω1 := ω) rfl h2) h3
  unfold U2
  rw [mIfS_f c]
  rfl
end
theorem inner {s2 s3 s4 s5 s6 s12 s13 s14 : Sl} (t : Str) (ht : t.length ≤ 7) (vt : vS t.cps.toList = true) : ∀ (items : List PD) (s8 s9 s10 s11 : Sl) (ω : Dr), Dok ω → ∃ s8' s9' s10' s11' ω', forL (tgName 8) (mSeq U0 (mSeq U1 U2)) items [.none, .par .draw, s2, s3, s4, s5, s6, .val (.str t), s8, s9, s10, s11, s12, s13, s14] ω = .ok .nx ([.none, .par .draw, s2, s3, s4, s5, s6, .val (.str t), s8', s9', s10', s11', s12, s13, s14], ω') ∧ Dok ω'
  | [], s8, s9, s10, s11, ω, h => ⟨s8, s9, s10, s11, ω, rfl, h⟩
  | y :: items, s8, s9, s10, s11, ω, h => by
    obtain ⟨at_, mo, ω1, e1, a0, lm, vm, d1⟩ := U0_is (s2 := s2) (s3 := s3) (s4 := s4) (s5 := s5) (s6 := s6) (s8 := .val y) (s9 := s9) (s10 := s10) (s11 := s11) (s12 := s12) (s13 := s13) (s14 := s14) t ω h ht
    obtain ⟨x, ω2, e2, lx, vx, d2⟩ := U1_is (s2 := s2) (s3 := s3) (s4 := s4) (s5 := s5) (s6 := s6) (s8 := .val y) (s11 := s11) (s12 := s12) (s13 := s13) (s14 := s14) t mo at_ ω1 d1 ht vt a0 lm vm
    have e3 := U2_is (s2 := s2) (s3 := s3) (s4 := s4) (s5 := s5) (s6 := s6) (s8 := .val y) (s9 := .val (.int at_)) (s10 := .val (.str mo)) (s12 := s12) (s13 := s13) (s14 := s14) t x ω2 lx vx
    obtain ⟨s8', s9', s10', s11', ω', ih, d'⟩ := inner (s2 := s2) (s3 := s3) (s4 := s4) (s5 := s5) (s6 := s6) (s12 := s12) (s13 := s13) (s14 := s14) t ht vt items (.val y) (.val (.int at_)) (.val (.str mo)) (.val (.str x)) ω2 d2
    refine ⟨s8', s9', s10', s11', ω', ?_, d'⟩
    rw [← ih]
    refine forL_nx (ρ1 := [.none, .par .draw, s2, s3, s4, s5, s6, .val (.str t), .val y, s9, s10, s11, s12, s13, s14]) rfl ?_
    rw [mSeq_nx e1, mSeq_nx e2, e3]
theorem turn {s2 s3 s4 s5 s6 s7 s8 s9 s10 s11 s12 s13 s14 : Sl} (ω : Dr) (h : Dok ω) : ∃ s2' s3' s4' s5' s6' s7' s8' s9' s10' s11' s12' s13' s14' ω', mSeq T0 (mSeq T1 (mSeq T2 (mSeq T3 (mSeq T4 (mSeq T5 T6))))) [.none, .par .draw, s2, s3, s4, s5, s6, s7, s8, s9, s10, s11, s12, s13, s14] ω = .ok .nx ([.none, .par .draw, s2', s3', s4', s5', s6', s7', s8', s9', s10', s11', s12', s13', s14'], ω') ∧ Dok ω' := by
  obtain ⟨p, q, ω1, e0, hp, hq, d1⟩ := T0_is (s2 := s2) (s3 := s3) (s4 := s4) (s5 := s5) (s6 := s6) (s7 := s7) (s8 := s8) (s9 := s9) (s10 := s10) (s11 := s11) (s12 := s12) (s13 := s13) (s14 := s14) ω h
  have e1 := T1_is (s2 := s2) (s5 := s5) (s6 := s6) (s7 := s7) (s8 := s8) (s9 := s9) (s10 := s10) (s11 := s11) (s12 := s12) (s13 := s13) (s14 := s14) p q ω1 hp hq
  obtain ⟨a, b, ω2, e2, ha, hb, d2⟩ := T2_is (s2 := s2) (s5 := s5) (s6 := s6) (s7 := s7) (s8 := s8) (s9 := s9) (s10 := s10) (s11 := s11) (s12 := s12) (s13 := s13) (s14 := s14) p q ω1 d1
  have e3 := T3_is (s2 := s2) (s7 := s7) (s8 := s8) (s9 := s9) (s10 := s10) (s11 := s11) (s12 := s12) (s13 := s13) (s14 := s14) p q a b ω2 hp hq ha hb
  have e4 := T4_is (s2 := s2) (s4 := .val (tp q)) (s5 := .val (.int a)) (s6 := .val (.int b)) (s7 := s7) (s8 := s8) (s9 := s9) (s10 := s10) (s11 := s11) (s12 := s12) (s13 := s13) (s14 := s14) p q ω2 hp
  have e5 := T5_is (s2 := s2) (s4 := .val (tp q)) (s5 := .val (.int a)) (s6 := .val (.int b)) (s8 := s8) (s9 := s9) (s10 := s10) (s11 := s11) (s12 := s12) (s13 := s13) (s14 := s14) p ω2 hp
  obtain ⟨s8', s9', s10', s11', ω3, e6, d3⟩ := inner (s2 := s2) (s3 := .val (tp p)) (s4 := .val (tp q)) (s5 := .val (.int a)) (s6 := .val (.int b)) (s12 := s12) (s13 := s13) (s14 := s14) (txt p) hp.len hp.ok (rngP 0 6) s8 s9 s10 s11 ω2 d2
  refine ⟨s2, .val (tp p), .val (tp q), .val (.int a), .val (.int b), .val (.str (txt p)), s8', s9', s10', s11', s12, s13, s14, ω3, ?_, d3⟩
  rw [mSeq_nx e0, mSeq_nx e1, mSeq_nx e2, mSeq_nx e3, mSeq_nx e4, mSeq_nx e5, T6_parts]
  exact e6
theorem turns : ∀ (items : List PD) (s2 s3 s4 s5 s6 s7 s8 s9 s10 s11 s12 s13 s14 : Sl) (ω : Dr), Dok ω → ∃ s2' s3' s4' s5' s6' s7' s8' s9' s10' s11' s12' s13' s14' ω', forL (tgName 2) (mSeq T0 (mSeq T1 (mSeq T2 (mSeq T3 (mSeq T4 (mSeq T5 T6)))))) items [.none, .par .draw, s2, s3, s4, s5, s6, s7, s8, s9, s10, s11, s12, s13, s14] ω = .ok .nx ([.none, .par .draw, s2', s3', s4', s5', s6', s7', s8', s9', s10', s11', s12', s13', s14'], ω') ∧ Dok ω'
  | [], s2, s3, s4, s5, s6, s7, s8, s9, s10, s11, s12, s13, s14, ω, h => ⟨s2, s3, s4, s5, s6, s7, s8, s9, s10, s11, s12, s13, s14, ω, rfl, h⟩
  | y :: items, s2, s3, s4, s5, s6, s7, s8, s9, s10, s11, s12, s13, s14, ω, h => by
    obtain ⟨t2, t3, t4, t5, t6, t7, t8, t9, t10, t11, t12, t13, t14, ω1, e1, d1⟩ := turn (s2 := .val y) (s3 := s3) (s4 := s4) (s5 := s5) (s6 := s6) (s7 := s7) (s8 := s8) (s9 := s9) (s10 := s10) (s11 := s11) (s12 := s12) (s13 := s13) (s14 := s14) ω h
    obtain ⟨s2', s3', s4', s5', s6', s7', s8', s9', s10', s11', s12', s13', s14', ω', ih, d'⟩ := turns items t2 t3 t4 t5 t6 t7 t8 t9 t10 t11 t12 t13 t14 ω1 d1
    refine ⟨s2', s3', s4', s5', s6', s7', s8', s9', s10', s11', s12', s13', s14', ω', ?_, d'⟩
    rw [← ih]
    exact forL_nx rfl e1
theorem plain (ω : Dr) (h : Dok ω) : ∃ ρ' ω', M_rest ([.none, .par .draw] ++ List.replicate 13 .none) ω = .ok (.rt (.bool true)) (ρ', ω') := by
  obtain ⟨s2', s3', s4', s5', s6', s7', s8', s9', s10', s11', s12', s13', s14', ω1, e1, d1⟩ := turns (rngP 0 4) .none .none .none .none .none .none .none .none .none .none .none .none .none ω h
  have e : M_law1 [.none, .par .draw, .none, .none, .none, .none, .none, .none, .none, .none, .none, .none, .none, .none, .none] ω = .ok .nx ([.none, .par .draw, s2', s3', s4', s5', s6', s7', s8', s9', s10', s11', s12', s13', s14'], ω1) := by
    rw [law1_parts]
    exact e1
  refine ⟨[.none, .par .draw, s2', s3', s4', s5', s6', s7', s8', s9', s10', s11', s12', s13', s14'], ω1, ?_⟩
  show mSeq M_law1 (mSeq M_law2 (mSeq M_law3 M_law4)) [.none, .par .draw, .none, .none, .none, .none, .none, .none, .none, .none, .none, .none, .none, .none, .none] ω = _
  rw [mSeq_nx e, mSeq_nx (law2_is _ _ _ _ _ _ _ _ _ _ _ _ _ _ _ ω1), mSeq_nx (law3_is _ _ _ _ _ _ _ _ _ _ _ _ _ _ _ ω1)]
  exact law4_is _ _ _ _ _ _ _ _ _ _ _ _ _ _ _ ω1
end K17
end
-- Ks
section
set_option maxRecDepth 100000
set_option maxHeartbeats 8000000
namespace K17
open PySem PySem.Spec L2 FL PyProof.Rows
abbrev s_BF : Stmt := inClass (top 3) 0
theorem all_mk {l : PySem.W.OpenLaw} {w : World} {K : PySem.W.Frag} {h : Heap} {mg : Str → Option Value} {fa f_common f_lowest f_plus f_minus f_times f_divided f_less1 f_is_ratio f_ratio_text f_number_in f_read_ratio f_is_net f_check_net f_covers f_added f_less2 f_effect f_can_move f_moves_of f_space_of f_least_runs f_run_to f_check_wall f_judge_reach f__law_take f__law_low f__law_plus f__law_minus f__law_times f__law_less f__law_due f__law_fails f__law_read f__law_caught f__law_draw f_law Cb fI bcda bcc bN C_BadPaper C_Missing C_NetError C_NotAllowed : Addr} (X : K.In h) (G : h.Ns mainGlobals mg) (hfa : mg "law" = some (.ref fa))
    {od_common an_common od_lowest an_lowest od_plus an_plus od_minus an_minus od_times an_times od_divided an_divided od_less1 an_less1 od_is_ratio an_is_ratio od_ratio_text an_ratio_text od_number_in an_number_in od_read_ratio an_read_ratio od_is_net an_is_net od_check_net an_check_net od_covers an_covers od_added an_added od_less2 an_less2 od_effect an_effect od_can_move an_can_move od_moves_of an_moves_of od_space_of an_space_of od_least_runs an_least_runs od_run_to an_run_to od_check_wall an_check_wall od_judge_reach an_judge_reach od__law_take an__law_take od__law_low an__law_low od__law_plus an__law_plus od__law_minus an__law_minus od__law_times an__law_times od__law_less an__law_less od__law_due an__law_due od__law_fails an__law_fails od__law_read an__law_read od__law_caught an__law_caught od__law_draw an__law_draw od_law an_law bod ban bdd bcdd bcld : Option Addr} {sl_common sl_lowest sl_plus sl_minus sl_times sl_divided sl_less1 sl_is_ratio sl_ratio_text sl_number_in sl_read_ratio sl_is_net sl_check_net sl_covers sl_added sl_less2 sl_effect sl_can_move sl_moves_of sl_space_of sl_least_runs sl_run_to sl_check_wall sl_judge_reach sl__law_take sl__law_low sl__law_plus sl__law_minus sl__law_times sl__law_less sl__law_due sl__law_fails sl__law_read sl__law_caught sl__law_draw sl_law bosl bccs bcsl : Array (Option Value)} {oc_common kV_common dc_common pm_common cd_common ct_common oc_lowest kV_lowest dc_lowest pm_lowest cd_lowest ct_lowest oc_plus kV_plus dc_plus pm_plus cd_plus ct_plus oc_minus kV_minus dc_minus pm_minus cd_minus ct_minus oc_times kV_times dc_times pm_times cd_times ct_times oc_divided kV_divided dc_divided pm_divided cd_divided ct_divided oc_less1 kV_less1 dc_less1 pm_less1 cd_less1 ct_less1 oc_is_ratio kV_is_ratio dc_is_ratio pm_is_ratio cd_is_ratio ct_is_ratio oc_ratio_text kV_ratio_text dc_ratio_text pm_ratio_text cd_ratio_text ct_ratio_text oc_number_in kV_number_in dc_number_in pm_number_in cd_number_in ct_number_in oc_read_ratio kV_read_ratio dc_read_ratio pm_read_ratio cd_read_ratio ct_read_ratio oc_is_net kV_is_net dc_is_net pm_is_net cd_is_net ct_is_net oc_check_net kV_check_net dc_check_net pm_check_net cd_check_net ct_check_net oc_covers kV_covers dc_covers pm_covers cd_covers ct_covers oc_added kV_added dc_added pm_added cd_added ct_added oc_less2 kV_less2 dc_less2 pm_less2 cd_less2 ct_less2 oc_effect kV_effect dc_effect pm_effect cd_effect ct_effect oc_can_move kV_can_move dc_can_move pm_can_move cd_can_move ct_can_move oc_moves_of kV_moves_of dc_moves_of pm_moves_of cd_moves_of ct_moves_of oc_space_of kV_space_of dc_space_of pm_space_of cd_space_of ct_space_of oc_least_runs kV_least_runs dc_least_runs pm_least_runs cd_least_runs ct_least_runs oc_run_to kV_run_to dc_run_to pm_run_to cd_run_to ct_run_to oc_check_wall kV_check_wall dc_check_wall pm_check_wall cd_check_wall ct_check_wall oc_judge_reach kV_judge_reach dc_judge_reach pm_judge_reach cd_judge_reach ct_judge_reach oc__law_take kV__law_take dc__law_take pm__law_take cd__law_take ct__law_take oc__law_low kV__law_low dc__law_low pm__law_low cd__law_low ct__law_low oc__law_plus kV__law_plus dc__law_plus pm__law_plus cd__law_plus ct__law_plus oc__law_minus kV__law_minus dc__law_minus pm__law_minus cd__law_minus ct__law_minus oc__law_times kV__law_times dc__law_times pm__law_times cd__law_times ct__law_times oc__law_less kV__law_less dc__law_less pm__law_less cd__law_less ct__law_less oc__law_due kV__law_due dc__law_due pm__law_due cd__law_due ct__law_due oc__law_fails kV__law_fails dc__law_fails pm__law_fails cd__law_fails ct__law_fails oc__law_read kV__law_read dc__law_read pm__law_read cd__law_read ct__law_read oc__law_caught kV__law_caught dc__law_caught pm__law_caught cd__law_caught ct__law_caught oc__law_draw kV__law_draw dc__law_draw pm__law_draw cd__law_draw ct__law_draw oc_law kV_law dc_law pm_law cd_law ct_law boc bdoc bpm bct bccl bcl : Value} {t_DIGITS t_MAX_DIGITS btf : Tok}
    {bnm bq bfile : Str} {bbs bbm bsub : List Value} {bsn : List Str} {bab : Bool} {bcol : Option Bool} {bk0 bk1 bk2 bk3 bk5 : Option Value} {bvs : Array Value}
    (a_common : PySem.W.nsIn K mainGlobals "common" = some (some (.ref f_common)))
    (l_common : K.lookup f_common = some ⟨oc_common, od_common, .func (PySem.W.fnOf "common" "common" (defArgs s_common) (defBody s_common) (defScope s_common) .none kV_common dc_common pm_common an_common cd_common ct_common), sl_common⟩)
    (c_common : PySem.W.codeIn K cd_common "common" = true)
    (k_common : PySem.W.keepIn K (.ref f_common) = true)
    (a_lowest : PySem.W.nsIn K mainGlobals "lowest" = some (some (.ref f_lowest)))
    (l_lowest : K.lookup f_lowest = some ⟨oc_lowest, od_lowest, .func (PySem.W.fnOf "lowest" "lowest" (defArgs s_lowest) (defBody s_lowest) (defScope s_lowest) .none kV_lowest dc_lowest pm_lowest an_lowest cd_lowest ct_lowest), sl_lowest⟩)
    (c_lowest : PySem.W.codeIn K cd_lowest "lowest" = true)
    (k_lowest : PySem.W.keepIn K (.ref f_lowest) = true)
    (a_plus : PySem.W.nsIn K mainGlobals "plus" = some (some (.ref f_plus)))
    (l_plus : K.lookup f_plus = some ⟨oc_plus, od_plus, .func (PySem.W.fnOf "plus" "plus" (defArgs s_plus) (defBody s_plus) (defScope s_plus) .none kV_plus dc_plus pm_plus an_plus cd_plus ct_plus), sl_plus⟩)
    (c_plus : PySem.W.codeIn K cd_plus "plus" = true)
    (k_plus : PySem.W.keepIn K (.ref f_plus) = true)
    (a_minus : PySem.W.nsIn K mainGlobals "minus" = some (some (.ref f_minus)))
    (l_minus : K.lookup f_minus = some ⟨oc_minus, od_minus, .func (PySem.W.fnOf "minus" "minus" (defArgs s_minus) (defBody s_minus) (defScope s_minus) .none kV_minus dc_minus pm_minus an_minus cd_minus ct_minus), sl_minus⟩)
    (c_minus : PySem.W.codeIn K cd_minus "minus" = true)
    (k_minus : PySem.W.keepIn K (.ref f_minus) = true)
    (a_times : PySem.W.nsIn K mainGlobals "times" = some (some (.ref f_times)))
    (l_times : K.lookup f_times = some ⟨oc_times, od_times, .func (PySem.W.fnOf "times" "times" (defArgs s_times) (defBody s_times) (defScope s_times) .none kV_times dc_times pm_times an_times cd_times ct_times), sl_times⟩)
    (c_times : PySem.W.codeIn K cd_times "times" = true)
    (k_times : PySem.W.keepIn K (.ref f_times) = true)
    (a_divided : PySem.W.nsIn K mainGlobals "divided" = some (some (.ref f_divided)))
    (l_divided : K.lookup f_divided = some ⟨oc_divided, od_divided, .func (PySem.W.fnOf "divided" "divided" (defArgs s_divided) (defBody s_divided) (defScope s_divided) .none kV_divided dc_divided pm_divided an_divided cd_divided ct_divided), sl_divided⟩)
    (c_divided : PySem.W.codeIn K cd_divided "divided" = true)
    (k_divided : PySem.W.keepIn K (.ref f_divided) = true)
    (a_less_ratios : PySem.W.nsIn K mainGlobals "less_ratios" = some (some (.ref f_less1)))
    (l_less1 : K.lookup f_less1 = some ⟨oc_less1, od_less1, .func (PySem.W.fnOf "less" "less" (defArgs s_less1) (defBody s_less1) (defScope s_less1) .none kV_less1 dc_less1 pm_less1 an_less1 cd_less1 ct_less1), sl_less1⟩)
    (c_less1 : PySem.W.codeIn K cd_less1 "less" = true)
    (k_less1 : PySem.W.keepIn K (.ref f_less1) = true)
    (a_is_ratio : PySem.W.nsIn K mainGlobals "is_ratio" = some (some (.ref f_is_ratio)))
    (l_is_ratio : K.lookup f_is_ratio = some ⟨oc_is_ratio, od_is_ratio, .func (PySem.W.fnOf "is_ratio" "is_ratio" (defArgs s_is_ratio) (defBody s_is_ratio) (defScope s_is_ratio) .none kV_is_ratio dc_is_ratio pm_is_ratio an_is_ratio cd_is_ratio ct_is_ratio), sl_is_ratio⟩)
    (c_is_ratio : PySem.W.codeIn K cd_is_ratio "is_ratio" = true)
    (k_is_ratio : PySem.W.keepIn K (.ref f_is_ratio) = true)
    (a_ratio_text : PySem.W.nsIn K mainGlobals "ratio_text" = some (some (.ref f_ratio_text)))
    (l_ratio_text : K.lookup f_ratio_text = some ⟨oc_ratio_text, od_ratio_text, .func (PySem.W.fnOf "ratio_text" "ratio_text" (defArgs s_ratio_text) (defBody s_ratio_text) (defScope s_ratio_text) .none kV_ratio_text dc_ratio_text pm_ratio_text an_ratio_text cd_ratio_text ct_ratio_text), sl_ratio_text⟩)
    (c_ratio_text : PySem.W.codeIn K cd_ratio_text "ratio_text" = true)
    (k_ratio_text : PySem.W.keepIn K (.ref f_ratio_text) = true)
    (a_number_in : PySem.W.nsIn K mainGlobals "number_in" = some (some (.ref f_number_in)))
    (l_number_in : K.lookup f_number_in = some ⟨oc_number_in, od_number_in, .func (PySem.W.fnOf "number_in" "number_in" (defArgs s_number_in) (defBody s_number_in) (defScope s_number_in) .none kV_number_in dc_number_in pm_number_in an_number_in cd_number_in ct_number_in), sl_number_in⟩)
    (c_number_in : PySem.W.codeIn K cd_number_in "number_in" = true)
    (k_number_in : PySem.W.keepIn K (.ref f_number_in) = true)
    (a_read_ratio : PySem.W.nsIn K mainGlobals "read_ratio" = some (some (.ref f_read_ratio)))
    (l_read_ratio : K.lookup f_read_ratio = some ⟨oc_read_ratio, od_read_ratio, .func (PySem.W.fnOf "read_ratio" "read_ratio" (defArgs s_read_ratio) (defBody s_read_ratio) (defScope s_read_ratio) .none kV_read_ratio dc_read_ratio pm_read_ratio an_read_ratio cd_read_ratio ct_read_ratio), sl_read_ratio⟩)
    (c_read_ratio : PySem.W.codeIn K cd_read_ratio "read_ratio" = true)
    (k_read_ratio : PySem.W.keepIn K (.ref f_read_ratio) = true)
    (a_is_net : PySem.W.nsIn K mainGlobals "is_net" = some (some (.ref f_is_net)))
    (l_is_net : K.lookup f_is_net = some ⟨oc_is_net, od_is_net, .func (PySem.W.fnOf "is_net" "is_net" (defArgs s_is_net) (defBody s_is_net) (defScope s_is_net) .none kV_is_net dc_is_net pm_is_net an_is_net cd_is_net ct_is_net), sl_is_net⟩)
    (c_is_net : PySem.W.codeIn K cd_is_net "is_net" = true)
    (k_is_net : PySem.W.keepIn K (.ref f_is_net) = true)
    (a_check_net : PySem.W.nsIn K mainGlobals "check_net" = some (some (.ref f_check_net)))
    (l_check_net : K.lookup f_check_net = some ⟨oc_check_net, od_check_net, .func (PySem.W.fnOf "check_net" "check_net" (defArgs s_check_net) (defBody s_check_net) (defScope s_check_net) .none kV_check_net dc_check_net pm_check_net an_check_net cd_check_net ct_check_net), sl_check_net⟩)
    (c_check_net : PySem.W.codeIn K cd_check_net "check_net" = true)
    (k_check_net : PySem.W.keepIn K (.ref f_check_net) = true)
    (a_covers : PySem.W.nsIn K mainGlobals "covers" = some (some (.ref f_covers)))
    (l_covers : K.lookup f_covers = some ⟨oc_covers, od_covers, .func (PySem.W.fnOf "covers" "covers" (defArgs s_covers) (defBody s_covers) (defScope s_covers) .none kV_covers dc_covers pm_covers an_covers cd_covers ct_covers), sl_covers⟩)
    (c_covers : PySem.W.codeIn K cd_covers "covers" = true)
    (k_covers : PySem.W.keepIn K (.ref f_covers) = true)
    (a_added : PySem.W.nsIn K mainGlobals "added" = some (some (.ref f_added)))
    (l_added : K.lookup f_added = some ⟨oc_added, od_added, .func (PySem.W.fnOf "added" "added" (defArgs s_added) (defBody s_added) (defScope s_added) .none kV_added dc_added pm_added an_added cd_added ct_added), sl_added⟩)
    (c_added : PySem.W.codeIn K cd_added "added" = true)
    (k_added : PySem.W.keepIn K (.ref f_added) = true)
    (a_less_nets : PySem.W.nsIn K mainGlobals "less_nets" = some (some (.ref f_less2)))
    (l_less2 : K.lookup f_less2 = some ⟨oc_less2, od_less2, .func (PySem.W.fnOf "less" "less" (defArgs s_less2) (defBody s_less2) (defScope s_less2) .none kV_less2 dc_less2 pm_less2 an_less2 cd_less2 ct_less2), sl_less2⟩)
    (c_less2 : PySem.W.codeIn K cd_less2 "less" = true)
    (k_less2 : PySem.W.keepIn K (.ref f_less2) = true)
    (a_effect : PySem.W.nsIn K mainGlobals "effect" = some (some (.ref f_effect)))
    (l_effect : K.lookup f_effect = some ⟨oc_effect, od_effect, .func (PySem.W.fnOf "effect" "effect" (defArgs s_effect) (defBody s_effect) (defScope s_effect) .none kV_effect dc_effect pm_effect an_effect cd_effect ct_effect), sl_effect⟩)
    (c_effect : PySem.W.codeIn K cd_effect "effect" = true)
    (k_effect : PySem.W.keepIn K (.ref f_effect) = true)
    (a_can_move : PySem.W.nsIn K mainGlobals "can_move" = some (some (.ref f_can_move)))
    (l_can_move : K.lookup f_can_move = some ⟨oc_can_move, od_can_move, .func (PySem.W.fnOf "can_move" "can_move" (defArgs s_can_move) (defBody s_can_move) (defScope s_can_move) .none kV_can_move dc_can_move pm_can_move an_can_move cd_can_move ct_can_move), sl_can_move⟩)
    (c_can_move : PySem.W.codeIn K cd_can_move "can_move" = true)
    (k_can_move : PySem.W.keepIn K (.ref f_can_move) = true)
    (a_moves_of : PySem.W.nsIn K mainGlobals "moves_of" = some (some (.ref f_moves_of)))
    (l_moves_of : K.lookup f_moves_of = some ⟨oc_moves_of, od_moves_of, .func (PySem.W.fnOf "moves_of" "moves_of" (defArgs s_moves_of) (defBody s_moves_of) (defScope s_moves_of) .none kV_moves_of dc_moves_of pm_moves_of an_moves_of cd_moves_of ct_moves_of), sl_moves_of⟩)
    (c_moves_of : PySem.W.codeIn K cd_moves_of "moves_of" = true)
    (k_moves_of : PySem.W.keepIn K (.ref f_moves_of) = true)
    (a_space_of : PySem.W.nsIn K mainGlobals "space_of" = some (some (.ref f_space_of)))
    (l_space_of : K.lookup f_space_of = some ⟨oc_space_of, od_space_of, .func (PySem.W.fnOf "space_of" "space_of" (defArgs s_space_of) (defBody s_space_of) (defScope s_space_of) .none kV_space_of dc_space_of pm_space_of an_space_of cd_space_of ct_space_of), sl_space_of⟩)
    (c_space_of : PySem.W.codeIn K cd_space_of "space_of" = true)
    (k_space_of : PySem.W.keepIn K (.ref f_space_of) = true)
    (a_least_runs : PySem.W.nsIn K mainGlobals "least_runs" = some (some (.ref f_least_runs)))
    (l_least_runs : K.lookup f_least_runs = some ⟨oc_least_runs, od_least_runs, .func (PySem.W.fnOf "least_runs" "least_runs" (defArgs s_least_runs) (defBody s_least_runs) (defScope s_least_runs) .none kV_least_runs dc_least_runs pm_least_runs an_least_runs cd_least_runs ct_least_runs), sl_least_runs⟩)
    (c_least_runs : PySem.W.codeIn K cd_least_runs "least_runs" = true)
    (k_least_runs : PySem.W.keepIn K (.ref f_least_runs) = true)
    (a_run_to : PySem.W.nsIn K mainGlobals "run_to" = some (some (.ref f_run_to)))
    (l_run_to : K.lookup f_run_to = some ⟨oc_run_to, od_run_to, .func (PySem.W.fnOf "run_to" "run_to" (defArgs s_run_to) (defBody s_run_to) (defScope s_run_to) .none kV_run_to dc_run_to pm_run_to an_run_to cd_run_to ct_run_to), sl_run_to⟩)
    (c_run_to : PySem.W.codeIn K cd_run_to "run_to" = true)
    (k_run_to : PySem.W.keepIn K (.ref f_run_to) = true)
    (a_check_wall : PySem.W.nsIn K mainGlobals "check_wall" = some (some (.ref f_check_wall)))
    (l_check_wall : K.lookup f_check_wall = some ⟨oc_check_wall, od_check_wall, .func (PySem.W.fnOf "check_wall" "check_wall" (defArgs s_check_wall) (defBody s_check_wall) (defScope s_check_wall) .none kV_check_wall dc_check_wall pm_check_wall an_check_wall cd_check_wall ct_check_wall), sl_check_wall⟩)
    (c_check_wall : PySem.W.codeIn K cd_check_wall "check_wall" = true)
    (k_check_wall : PySem.W.keepIn K (.ref f_check_wall) = true)
    (a_judge_reach : PySem.W.nsIn K mainGlobals "judge_reach" = some (some (.ref f_judge_reach)))
    (l_judge_reach : K.lookup f_judge_reach = some ⟨oc_judge_reach, od_judge_reach, .func (PySem.W.fnOf "judge_reach" "judge_reach" (defArgs s_judge_reach) (defBody s_judge_reach) (defScope s_judge_reach) .none kV_judge_reach dc_judge_reach pm_judge_reach an_judge_reach cd_judge_reach ct_judge_reach), sl_judge_reach⟩)
    (c_judge_reach : PySem.W.codeIn K cd_judge_reach "judge_reach" = true)
    (k_judge_reach : PySem.W.keepIn K (.ref f_judge_reach) = true)
    (a__law_take : PySem.W.nsIn K mainGlobals "_law_take" = some (some (.ref f__law_take)))
    (l__law_take : K.lookup f__law_take = some ⟨oc__law_take, od__law_take, .func (PySem.W.fnOf "_law_take" "_law_take" (defArgs s__law_take) (defBody s__law_take) (defScope s__law_take) .none kV__law_take dc__law_take pm__law_take an__law_take cd__law_take ct__law_take), sl__law_take⟩)
    (c__law_take : PySem.W.codeIn K cd__law_take "_law_take" = true)
    (k__law_take : PySem.W.keepIn K (.ref f__law_take) = true)
    (a__law_low : PySem.W.nsIn K mainGlobals "_law_low" = some (some (.ref f__law_low)))
    (l__law_low : K.lookup f__law_low = some ⟨oc__law_low, od__law_low, .func (PySem.W.fnOf "_law_low" "_law_low" (defArgs s__law_low) (defBody s__law_low) (defScope s__law_low) .none kV__law_low dc__law_low pm__law_low an__law_low cd__law_low ct__law_low), sl__law_low⟩)
    (c__law_low : PySem.W.codeIn K cd__law_low "_law_low" = true)
    (k__law_low : PySem.W.keepIn K (.ref f__law_low) = true)
    (a__law_plus : PySem.W.nsIn K mainGlobals "_law_plus" = some (some (.ref f__law_plus)))
    (l__law_plus : K.lookup f__law_plus = some ⟨oc__law_plus, od__law_plus, .func (PySem.W.fnOf "_law_plus" "_law_plus" (defArgs s__law_plus) (defBody s__law_plus) (defScope s__law_plus) .none kV__law_plus dc__law_plus pm__law_plus an__law_plus cd__law_plus ct__law_plus), sl__law_plus⟩)
    (c__law_plus : PySem.W.codeIn K cd__law_plus "_law_plus" = true)
    (k__law_plus : PySem.W.keepIn K (.ref f__law_plus) = true)
    (a__law_minus : PySem.W.nsIn K mainGlobals "_law_minus" = some (some (.ref f__law_minus)))
    (l__law_minus : K.lookup f__law_minus = some ⟨oc__law_minus, od__law_minus, .func (PySem.W.fnOf "_law_minus" "_law_minus" (defArgs s__law_minus) (defBody s__law_minus) (defScope s__law_minus) .none kV__law_minus dc__law_minus pm__law_minus an__law_minus cd__law_minus ct__law_minus), sl__law_minus⟩)
    (c__law_minus : PySem.W.codeIn K cd__law_minus "_law_minus" = true)
    (k__law_minus : PySem.W.keepIn K (.ref f__law_minus) = true)
    (a__law_times : PySem.W.nsIn K mainGlobals "_law_times" = some (some (.ref f__law_times)))
    (l__law_times : K.lookup f__law_times = some ⟨oc__law_times, od__law_times, .func (PySem.W.fnOf "_law_times" "_law_times" (defArgs s__law_times) (defBody s__law_times) (defScope s__law_times) .none kV__law_times dc__law_times pm__law_times an__law_times cd__law_times ct__law_times), sl__law_times⟩)
    (c__law_times : PySem.W.codeIn K cd__law_times "_law_times" = true)
    (k__law_times : PySem.W.keepIn K (.ref f__law_times) = true)
    (a__law_less : PySem.W.nsIn K mainGlobals "_law_less" = some (some (.ref f__law_less)))
    (l__law_less : K.lookup f__law_less = some ⟨oc__law_less, od__law_less, .func (PySem.W.fnOf "_law_less" "_law_less" (defArgs s__law_less) (defBody s__law_less) (defScope s__law_less) .none kV__law_less dc__law_less pm__law_less an__law_less cd__law_less ct__law_less), sl__law_less⟩)
    (c__law_less : PySem.W.codeIn K cd__law_less "_law_less" = true)
    (k__law_less : PySem.W.keepIn K (.ref f__law_less) = true)
    (a__law_due : PySem.W.nsIn K mainGlobals "_law_due" = some (some (.ref f__law_due)))
    (l__law_due : K.lookup f__law_due = some ⟨oc__law_due, od__law_due, .func (PySem.W.fnOf "_law_due" "_law_due" (defArgs s__law_due) (defBody s__law_due) (defScope s__law_due) .none kV__law_due dc__law_due pm__law_due an__law_due cd__law_due ct__law_due), sl__law_due⟩)
    (c__law_due : PySem.W.codeIn K cd__law_due "_law_due" = true)
    (k__law_due : PySem.W.keepIn K (.ref f__law_due) = true)
    (a__law_fails : PySem.W.nsIn K mainGlobals "_law_fails" = some (some (.ref f__law_fails)))
    (l__law_fails : K.lookup f__law_fails = some ⟨oc__law_fails, od__law_fails, .func (PySem.W.fnOf "_law_fails" "_law_fails" (defArgs s__law_fails) (defBody s__law_fails) (defScope s__law_fails) .none kV__law_fails dc__law_fails pm__law_fails an__law_fails cd__law_fails ct__law_fails), sl__law_fails⟩)
    (c__law_fails : PySem.W.codeIn K cd__law_fails "_law_fails" = true)
    (k__law_fails : PySem.W.keepIn K (.ref f__law_fails) = true)
    (a__law_read : PySem.W.nsIn K mainGlobals "_law_read" = some (some (.ref f__law_read)))
    (l__law_read : K.lookup f__law_read = some ⟨oc__law_read, od__law_read, .func (PySem.W.fnOf "_law_read" "_law_read" (defArgs s__law_read) (defBody s__law_read) (defScope s__law_read) .none kV__law_read dc__law_read pm__law_read an__law_read cd__law_read ct__law_read), sl__law_read⟩)
    (c__law_read : PySem.W.codeIn K cd__law_read "_law_read" = true)
    (k__law_read : PySem.W.keepIn K (.ref f__law_read) = true)
    (a__law_caught : PySem.W.nsIn K mainGlobals "_law_caught" = some (some (.ref f__law_caught)))
    (l__law_caught : K.lookup f__law_caught = some ⟨oc__law_caught, od__law_caught, .func (PySem.W.fnOf "_law_caught" "_law_caught" (defArgs s__law_caught) (defBody s__law_caught) (defScope s__law_caught) .none kV__law_caught dc__law_caught pm__law_caught an__law_caught cd__law_caught ct__law_caught), sl__law_caught⟩)
    (c__law_caught : PySem.W.codeIn K cd__law_caught "_law_caught" = true)
    (k__law_caught : PySem.W.keepIn K (.ref f__law_caught) = true)
    (a__law_draw : PySem.W.nsIn K mainGlobals "_law_draw" = some (some (.ref f__law_draw)))
    (l__law_draw : K.lookup f__law_draw = some ⟨oc__law_draw, od__law_draw, .func (PySem.W.fnOf "_law_draw" "_law_draw" (defArgs s__law_draw) (defBody s__law_draw) (defScope s__law_draw) .none kV__law_draw dc__law_draw pm__law_draw an__law_draw cd__law_draw ct__law_draw), sl__law_draw⟩)
    (c__law_draw : PySem.W.codeIn K cd__law_draw "_law_draw" = true)
    (k__law_draw : PySem.W.keepIn K (.ref f__law_draw) = true)
    (a_law : PySem.W.nsIn K mainGlobals "law" = some (some (.ref f_law)))
    (l_law : K.lookup f_law = some ⟨oc_law, od_law, .func (PySem.W.fnOf "law" "law" (defArgs s_law) (defBody s_law) (defScope s_law) .none kV_law dc_law pm_law an_law cd_law ct_law), sl_law⟩)
    (c_law : PySem.W.codeIn K cd_law "law" = true)
    (k_law : PySem.W.keepIn K (.ref f_law) = true)
    (z_abs : PySem.W.nsIn K mainGlobals "abs" = some none)
    (z_all : PySem.W.nsIn K mainGlobals "all" = some none)
    (z_any : PySem.W.nsIn K mainGlobals "any" = some none)
    (z_bool : PySem.W.nsIn K mainGlobals "bool" = some none)
    (z_int : PySem.W.nsIn K mainGlobals "int" = some none)
    (z_isinstance : PySem.W.nsIn K mainGlobals "isinstance" = some none)
    (z_len : PySem.W.nsIn K mainGlobals "len" = some none)
    (z_range : PySem.W.nsIn K mainGlobals "range" = some none)
    (z_str : PySem.W.nsIn K mainGlobals "str" = some none)
    (z_tuple : PySem.W.nsIn K mainGlobals "tuple" = some none)
    (z_zip : PySem.W.nsIn K mainGlobals "zip" = some none)
    (cc_DIGITS : PySem.W.nsIn K mainGlobals "DIGITS" = some (some (.str "0123456789" t_DIGITS)))
    (cc_MAX_DIGITS : PySem.W.nsIn K mainGlobals "MAX_DIGITS" = some (some (.int 40 t_MAX_DIGITS)))
    (xa_BadPaper : PySem.W.nsIn K mainGlobals "BadPaper" = some (some (.ref C_BadPaper)))
    (xq_BadPaper : PySem.W.excIn K C_BadPaper [.type "ValueError", .type "Exception", .type "BaseException", .type "object"] "ValueError.__new__" = true)
    (xk_BadPaper : PySem.W.keepIn K (.ref C_BadPaper) = true)
    (xb_BadPaper : PySem.W.subIn K (.ref C_BadPaper) (.type "BaseException") = some true)
    (xt_BadPaper : PySem.W.typeIn K (.ref C_BadPaper) = some (.type "type"))
    (xa_Missing : PySem.W.nsIn K mainGlobals "Missing" = some (some (.ref C_Missing)))
    (xq_Missing : PySem.W.excIn K C_Missing [.type "ValueError", .type "Exception", .type "BaseException", .type "object"] "ValueError.__new__" = true)
    (xk_Missing : PySem.W.keepIn K (.ref C_Missing) = true)
    (xb_Missing : PySem.W.subIn K (.ref C_Missing) (.type "BaseException") = some true)
    (xt_Missing : PySem.W.typeIn K (.ref C_Missing) = some (.type "type"))
    (xa_NetError : PySem.W.nsIn K mainGlobals "NetError" = some (some (.ref C_NetError)))
    (xq_NetError : PySem.W.excIn K C_NetError [.type "ValueError", .type "Exception", .type "BaseException", .type "object"] "ValueError.__new__" = true)
    (xk_NetError : PySem.W.keepIn K (.ref C_NetError) = true)
    (xb_NetError : PySem.W.subIn K (.ref C_NetError) (.type "BaseException") = some true)
    (xt_NetError : PySem.W.typeIn K (.ref C_NetError) = some (.type "type"))
    (xa_NotAllowed : PySem.W.nsIn K mainGlobals "NotAllowed" = some (some (.ref C_NotAllowed)))
    (xq_NotAllowed : PySem.W.excIn K C_NotAllowed [.type "ValueError", .type "Exception", .type "BaseException", .type "object"] "ValueError.__new__" = true)
    (xk_NotAllowed : PySem.W.keepIn K (.ref C_NotAllowed) = true)
    (xb_NotAllowed : PySem.W.subIn K (.ref C_NotAllowed) (.type "BaseException") = some true)
    (xt_NotAllowed : PySem.W.typeIn K (.ref C_NotAllowed) = some (.type "type"))
    (ba : PySem.W.nsIn K mainGlobals "BadForm" = some (some (.ref Cb)))
    (bl : K.lookup Cb = some (excClassObj bnm bq Cb bN bbs bbm true bsn bsub bab bcol bdd bk0 bk1 bk2 bk3 bk5 "ValueError.__new__"))
    (bm : PySem.HandSPX.refsVE bbm = true)
    (bsa : PySem.W.findIn K (.ref Cb) "__setattr__" = some (some (.builtin "object.__setattr__")))
    (bga : PySem.W.findIn K (.ref Cb) "__getattribute__" = some (some (.builtin "BaseException.__getattribute__")))
    (bgg : PySem.W.findIn K (.ref Cb) "__getattr__" = some none)
    (bno : PySem.W.findIn K (.ref Cb) "line" = some none)
    (bi : PySem.W.findIn K (.ref Cb) "__init__" = some (some (.ref fI)))
    (bt : PySem.W.typeIn K (.ref fI) = some (.type "function"))
    (bkC : PySem.W.keepIn K (.ref Cb) = true)
    (bex : PySem.W.subIn K (.ref Cb) (.type "BaseException") = some true)
    (bva : PySem.W.subIn K (.ref Cb) (.type "ValueError") = some true)
    (bty : PySem.W.typeIn K (.ref Cb) = some (.type "type"))
    (bhd : PySem.W.hasDictIn K Cb = true)
    (bf : K.lookup fI = some ⟨boc, bod, .func (PySem.W.ksFn "__init__" "BadForm.__init__" (defArgs s_BF) (defBody s_BF) (defScope s_BF) .none .none bdoc bpm ban (.ref bcda) bct bcc), bosl⟩)
    (bfc : PySem.W.codeIn K (.ref bcda) "BadForm.__init__" = true)
    (bco : K.lookup bcda = some ⟨bccl, bcdd, .fields bvs, bccs⟩)
    (bcv : bvs[2]? = some (.str bfile btf))
    (bcf : ((l.prog.main.file : Str) == bfile) = true)
    (bce : K.lookup bcc = some ⟨bcl, bcld, .cell (some (.ref Cb)), bcsl⟩)
    (bmr : PySem.W.mroIn K Cb (.ref Cb) = some true)
    (bsu : PySem.W.nsIn K mainGlobals "super" = some none)
    (bto : (l.prog.main.scope.names.lookup ("super" : Str)).isSome = false)
    (bop : PySem.W.nsIn K cStatics "thirdparty.any" = some none)
    (bsi : PySem.W.ks_superIn K Cb Cb "__init__" = some (some (.builtin "ValueError.__init__")))
    (e_BadForm_NetError : PySem.W.exmOne K (.ref Cb) (.ref C_NetError) = some true)
    (e_NotAllowed_NetError : PySem.W.exmOne K (.ref C_NotAllowed) (.ref C_NetError) = some true)
    (e_Missing_NetError : PySem.W.exmOne K (.ref C_Missing) (.ref C_NetError) = some true)
    (e_BadPaper_NetError : PySem.W.exmOne K (.ref C_BadPaper) (.ref C_NetError) = some true)
    (e_BadForm_BadForm : PySem.W.exmOne K (.ref Cb) (.ref Cb) = some true)
    (e_NotAllowed_BadForm : PySem.W.exmOne K (.ref C_NotAllowed) (.ref Cb) = some false)
    (e_NotAllowed_NotAllowed : PySem.W.exmOne K (.ref C_NotAllowed) (.ref C_NotAllowed) = some true)
    (e_Missing_BadForm : PySem.W.exmOne K (.ref C_Missing) (.ref Cb) = some false)
    (e_Missing_NotAllowed : PySem.W.exmOne K (.ref C_Missing) (.ref C_NotAllowed) = some false)
    (e_Missing_Missing : PySem.W.exmOne K (.ref C_Missing) (.ref C_Missing) = some true)
    (e_BadPaper_BadForm : PySem.W.exmOne K (.ref C_BadPaper) (.ref Cb) = some false)
    (e_BadPaper_NotAllowed : PySem.W.exmOne K (.ref C_BadPaper) (.ref C_NotAllowed) = some false)
    (e_BadPaper_Missing : PySem.W.exmOne K (.ref C_BadPaper) (.ref C_Missing) = some false)
    (e_BadPaper_BadPaper : PySem.W.exmOne K (.ref C_BadPaper) (.ref C_BadPaper) = some true) :
    ∃ fd : FuncData, (∀ (s : Shared) (v : Value), BindsTo s fd ⟨[v], []⟩ [("script", v)]) ∧ ∀ base : Heap, K.In base → base.Ns mainGlobals mg → FnOk l.prog w K mg base (L2.CX l.prog w) 8 fa fd ["script"] (spLaw K) := by
  have e := hfa.symm.trans (PySem.W.mg_of X G a_law)
  cases e
  have BF : PySem.BfX.BfTxt l.prog K mg Cb fI bcc bcda :=
    { gC := PySem.W.mg_of X G ba, cls := ⟨bnm, bq, bN, bbs, bbm, bsn, bsub, bab, bcol, bdd, bk0, bk1, bk2, bk3, bk5, bl, bm⟩, sa := bsa, ga := bga, gg := bgg, noN := bno, iC := bi, tC := bt, kC := bkC, exC := bex, vaC := bva, tyC := bty, hdC := bhd,
      fn := ⟨_, _, _, _, _, _, _, _, _, _, _, _, _, _, _, _, _, _, _, _, _, _, _, bf, bfc, rfl⟩,
      code := ⟨_, _, _, _, _, _, bco, bcv, bcf⟩, cell := ⟨_, _, _, bce⟩, mro := bmr, sup := PySem.W.mg_none_of X G bsu, top := bto, ops := bop, sin := bsi }
  refine ⟨PySem.W.fnOf "law" "law" (defArgs s_law) (defBody s_law) (defScope s_law) .none kV_law dc_law pm_law an_law cd_law ct_law, fun s v => .of_eq rfl, fun base _ _ => ?_⟩
  exact ok_law (P := l.prog) (w := w) (base := base) (T := { f_common := f_common, d_common := _, F_common := fun_mk (st := s_common) l_common c_common k_common, f_lowest := f_lowest, d_lowest := _, F_lowest := fun_mk (st := s_lowest) l_lowest c_lowest k_lowest, f_plus := f_plus, d_plus := _, F_plus := fun_mk (st := s_plus) l_plus c_plus k_plus, f_minus := f_minus, d_minus := _, F_minus := fun_mk (st := s_minus) l_minus c_minus k_minus, f_times := f_times, d_times := _, F_times := fun_mk (st := s_times) l_times c_times k_times, f_divided := f_divided, d_divided := _, F_divided := fun_mk (st := s_divided) l_divided c_divided k_divided, f_less1 := f_less1, d_less1 := _, F_less1 := fun_mk (st := s_less1) l_less1 c_less1 k_less1, f_is_ratio := f_is_ratio, d_is_ratio := _, F_is_ratio := fun_mk (st := s_is_ratio) l_is_ratio c_is_ratio k_is_ratio, f_ratio_text := f_ratio_text, d_ratio_text := _, F_ratio_text := fun_mk (st := s_ratio_text) l_ratio_text c_ratio_text k_ratio_text, f_number_in := f_number_in, d_number_in := _, F_number_in := fun_mk (st := s_number_in) l_number_in c_number_in k_number_in, f_read_ratio := f_read_ratio, d_read_ratio := _, F_read_ratio := fun_mk (st := s_read_ratio) l_read_ratio c_read_ratio k_read_ratio, f_is_net := f_is_net, d_is_net := _, F_is_net := fun_mk (st := s_is_net) l_is_net c_is_net k_is_net, f_check_net := f_check_net, d_check_net := _, F_check_net := fun_mk (st := s_check_net) l_check_net c_check_net k_check_net, f_covers := f_covers, d_covers := _, F_covers := fun_mk (st := s_covers) l_covers c_covers k_covers, f_added := f_added, d_added := _, F_added := fun_mk (st := s_added) l_added c_added k_added, f_less2 := f_less2, d_less2 := _, F_less2 := fun_mk (st := s_less2) l_less2 c_less2 k_less2, f_effect := f_effect, d_effect := _, F_effect := fun_mk (st := s_effect) l_effect c_effect k_effect, f_can_move := f_can_move, d_can_move := _, F_can_move := fun_mk (st := s_can_move) l_can_move c_can_move k_can_move, f_moves_of := f_moves_of, d_moves_of := _, F_moves_of := fun_mk (st := s_moves_of) l_moves_of c_moves_of k_moves_of, f_space_of := f_space_of, d_space_of := _, F_space_of := fun_mk (st := s_space_of) l_space_of c_space_of k_space_of, f_least_runs := f_least_runs, d_least_runs := _, F_least_runs := fun_mk (st := s_least_runs) l_least_runs c_least_runs k_least_runs, f_run_to := f_run_to, d_run_to := _, F_run_to := fun_mk (st := s_run_to) l_run_to c_run_to k_run_to, f_check_wall := f_check_wall, d_check_wall := _, F_check_wall := fun_mk (st := s_check_wall) l_check_wall c_check_wall k_check_wall, f_judge_reach := f_judge_reach, d_judge_reach := _, F_judge_reach := fun_mk (st := s_judge_reach) l_judge_reach c_judge_reach k_judge_reach, f__law_take := f__law_take, d__law_take := _, F__law_take := fun_mk (st := s__law_take) l__law_take c__law_take k__law_take, f__law_low := f__law_low, d__law_low := _, F__law_low := fun_mk (st := s__law_low) l__law_low c__law_low k__law_low, f__law_plus := f__law_plus, d__law_plus := _, F__law_plus := fun_mk (st := s__law_plus) l__law_plus c__law_plus k__law_plus, f__law_minus := f__law_minus, d__law_minus := _, F__law_minus := fun_mk (st := s__law_minus) l__law_minus c__law_minus k__law_minus, f__law_times := f__law_times, d__law_times := _, F__law_times := fun_mk (st := s__law_times) l__law_times c__law_times k__law_times, f__law_less := f__law_less, d__law_less := _, F__law_less := fun_mk (st := s__law_less) l__law_less c__law_less k__law_less, f__law_due := f__law_due, d__law_due := _, F__law_due := fun_mk (st := s__law_due) l__law_due c__law_due k__law_due, f__law_fails := f__law_fails, d__law_fails := _, F__law_fails := fun_mk (st := s__law_fails) l__law_fails c__law_fails k__law_fails, f__law_read := f__law_read, d__law_read := _, F__law_read := fun_mk (st := s__law_read) l__law_read c__law_read k__law_read, f__law_caught := f__law_caught, d__law_caught := _, F__law_caught := fun_mk (st := s__law_caught) l__law_caught c__law_caught k__law_caught, f__law_draw := f__law_draw, d__law_draw := _, F__law_draw := fun_mk (st := s__law_draw) l__law_draw c__law_draw k__law_draw, f_law := fa, d_law := _, F_law := fun_mk (st := s_law) l_law c_law k_law, g_common := PySem.W.mg_of X G a_common, g_lowest := PySem.W.mg_of X G a_lowest, g_plus := PySem.W.mg_of X G a_plus, g_minus := PySem.W.mg_of X G a_minus, g_times := PySem.W.mg_of X G a_times, g_divided := PySem.W.mg_of X G a_divided, g_is_ratio := PySem.W.mg_of X G a_is_ratio, g_ratio_text := PySem.W.mg_of X G a_ratio_text, g_number_in := PySem.W.mg_of X G a_number_in, g_read_ratio := PySem.W.mg_of X G a_read_ratio, g_is_net := PySem.W.mg_of X G a_is_net, g_check_net := PySem.W.mg_of X G a_check_net, g_covers := PySem.W.mg_of X G a_covers, g_added := PySem.W.mg_of X G a_added, g_effect := PySem.W.mg_of X G a_effect, g_can_move := PySem.W.mg_of X G a_can_move, g_moves_of := PySem.W.mg_of X G a_moves_of, g_space_of := PySem.W.mg_of X G a_space_of, g_least_runs := PySem.W.mg_of X G a_least_runs, g_run_to := PySem.W.mg_of X G a_run_to, g_check_wall := PySem.W.mg_of X G a_check_wall, g_judge_reach := PySem.W.mg_of X G a_judge_reach, g__law_take := PySem.W.mg_of X G a__law_take, g__law_low := PySem.W.mg_of X G a__law_low, g__law_plus := PySem.W.mg_of X G a__law_plus, g__law_minus := PySem.W.mg_of X G a__law_minus, g__law_times := PySem.W.mg_of X G a__law_times, g__law_less := PySem.W.mg_of X G a__law_less, g__law_due := PySem.W.mg_of X G a__law_due, g__law_fails := PySem.W.mg_of X G a__law_fails, g_less_ratios := PySem.W.mg_of X G a_less_ratios, g_less_nets := PySem.W.mg_of X G a_less_nets, g__law_read := PySem.W.mg_of X G a__law_read, g__law_caught := PySem.W.mg_of X G a__law_caught, g__law_draw := PySem.W.mg_of X G a__law_draw, g_law := PySem.W.mg_of X G a_law, n_abs := PySem.W.mg_none_of X G z_abs, n_all := PySem.W.mg_none_of X G z_all, n_any := PySem.W.mg_none_of X G z_any, n_bool := PySem.W.mg_none_of X G z_bool, n_int := PySem.W.mg_none_of X G z_int, n_isinstance := PySem.W.mg_none_of X G z_isinstance, n_len := PySem.W.mg_none_of X G z_len, n_range := PySem.W.mg_none_of X G z_range, n_str := PySem.W.mg_none_of X G z_str, n_tuple := PySem.W.mg_none_of X G z_tuple, n_zip := PySem.W.mg_none_of X G z_zip, t_DIGITS := t_DIGITS, c_DIGITS := PySem.W.mg_of X G cc_DIGITS, t_MAX_DIGITS := t_MAX_DIGITS, c_MAX_DIGITS := PySem.W.mg_of X G cc_MAX_DIGITS, x_BadPaper := ⟨C_BadPaper, xq_BadPaper, PySem.W.mg_of X G xa_BadPaper, xk_BadPaper, xb_BadPaper, xt_BadPaper⟩, x_Missing := ⟨C_Missing, xq_Missing, PySem.W.mg_of X G xa_Missing, xk_Missing, xb_Missing, xt_Missing⟩, x_NetError := ⟨C_NetError, xq_NetError, PySem.W.mg_of X G xa_NetError, xk_NetError, xb_NetError, xt_NetError⟩, x_NotAllowed := ⟨C_NotAllowed, xq_NotAllowed, PySem.W.mg_of X G xa_NotAllowed, xk_NotAllowed, xb_NotAllowed, xt_NotAllowed⟩, bC := Cb, bI := fI, bcc := bcc, bcd := bcda, bf := BF, e_BadForm_NetError := e_BadForm_NetError, e_NotAllowed_NetError := e_NotAllowed_NetError, e_Missing_NetError := e_Missing_NetError, e_BadPaper_NetError := e_BadPaper_NetError, e_BadForm_BadForm := e_BadForm_BadForm, e_NotAllowed_BadForm := e_NotAllowed_BadForm, e_NotAllowed_NotAllowed := e_NotAllowed_NotAllowed, e_Missing_BadForm := e_Missing_BadForm, e_Missing_NotAllowed := e_Missing_NotAllowed, e_Missing_Missing := e_Missing_Missing, e_BadPaper_BadForm := e_BadPaper_BadForm, e_BadPaper_NotAllowed := e_BadPaper_NotAllowed, e_BadPaper_Missing := e_BadPaper_Missing, e_BadPaper_BadPaper := e_BadPaper_BadPaper }) plain
theorem walk {l : PySem.W.OpenLaw} {q : Program} {loose : List Str} {XP : (Str → Option Value) → Heap → Prop} {YP : World → Heap → Prop} {d : DefRec} {K : Params → PySem.W.Frag} (hn : l.most = some 63) (hdf : d.params.defaults = [])
    (hY : ∀ (w : World) (h : Heap), YP w h → (K w.params).In h)
    (F : ∀ (w : World) (mg : Str → Option Value) (fa : Addr) (h : Heap), (K w.params).In h → h.Ns mainGlobals mg → mg d.name = some (.ref fa) →
      ∃ fd : FuncData, (∀ (s : Shared) (u : Value), BindsTo s fd ⟨[u], []⟩ [("script", u)]) ∧ ∀ base : Heap, (K w.params).In base → base.Ns mainGlobals mg → FnOk l.prog w (K w.params) mg base (L2.CX l.prog w) 8 fa fd ["script"] (spLaw (K w.params))) :
    PySem.W.WalkO q loose XP YP l.row.toRowW d [] (fun f vs => PySem.call f vs) :=
  L2.walk_of (n := 63) (k := 8) (x := "script") (CX := fun w => L2.CX l.prog w) (sp := fun w => spLaw (K w.params)) hn (by decide) hdf ⟨rfl, by decide, by decide⟩ hY F (fun _ _ a ns hl _ hS => ⟨a, ns, rfl, hS, hl, fun _ => rfl⟩) fun _ _ _ _ _ z => by obtain ⟨_, _, _, _, _, _, _, _, _, _, _, _, e⟩ := z; exact e
end K17
end
section
open PySem PySem.W PyProof.Rows
set_option maxRecDepth 100000 in
set_option maxHeartbeats 0 in
theorem PySem.Challenge.cw_tokensmove_k17_ratios_and_errors_holds : PySem.Challenge.rw_tokensmove_k17_ratios_and_errors.Holds := by
  w_on; o_law; k_head; (case hw => w_witness2)
  k_fill
  refine K17.walk (l := PySem.Challenge.rw_tokensmove_k17_ratios_and_errors) rfl rfl (fun w h Y => PySem.W.kIn_of Y) ?F
  case F =>
    intro w mg fa h KX G hmg
    refine' K17.all_mk KX G hmg ?a_common ?l_common ?c_common ?k_common ?a_lowest ?l_lowest ?c_lowest ?k_lowest ?a_plus ?l_plus ?c_plus ?k_plus ?a_minus ?l_minus ?c_minus ?k_minus ?a_times ?l_times ?c_times ?k_times ?a_divided ?l_divided ?c_divided ?k_divided ?a_less_ratios ?l_less1 ?c_less1 ?k_less1 ?a_is_ratio ?l_is_ratio ?c_is_ratio ?k_is_ratio ?a_ratio_text ?l_ratio_text ?c_ratio_text ?k_ratio_text ?a_number_in ?l_number_in ?c_number_in ?k_number_in ?a_read_ratio ?l_read_ratio ?c_read_ratio ?k_read_ratio ?a_is_net ?l_is_net ?c_is_net ?k_is_net ?a_check_net ?l_check_net ?c_check_net ?k_check_net ?a_covers ?l_covers ?c_covers ?k_covers ?a_added ?l_added ?c_added ?k_added ?a_less_nets ?l_less2 ?c_less2 ?k_less2 ?a_effect ?l_effect ?c_effect ?k_effect ?a_can_move ?l_can_move ?c_can_move ?k_can_move ?a_moves_of ?l_moves_of ?c_moves_of ?k_moves_of ?a_space_of ?l_space_of ?c_space_of ?k_space_of ?a_least_runs ?l_least_runs ?c_least_runs ?k_least_runs ?a_run_to ?l_run_to ?c_run_to ?k_run_to ?a_check_wall ?l_check_wall ?c_check_wall ?k_check_wall ?a_judge_reach ?l_judge_reach ?c_judge_reach ?k_judge_reach ?a__law_take ?l__law_take ?c__law_take ?k__law_take ?a__law_low ?l__law_low ?c__law_low ?k__law_low ?a__law_plus ?l__law_plus ?c__law_plus ?k__law_plus ?a__law_minus ?l__law_minus ?c__law_minus ?k__law_minus ?a__law_times ?l__law_times ?c__law_times ?k__law_times ?a__law_less ?l__law_less ?c__law_less ?k__law_less ?a__law_due ?l__law_due ?c__law_due ?k__law_due ?a__law_fails ?l__law_fails ?c__law_fails ?k__law_fails ?a__law_read ?l__law_read ?c__law_read ?k__law_read ?a__law_caught ?l__law_caught ?c__law_caught ?k__law_caught ?a__law_draw ?l__law_draw ?c__law_draw ?k__law_draw ?a_law ?l_law ?c_law ?k_law ?z_abs ?z_all ?z_any ?z_bool ?z_int ?z_isinstance ?z_len ?z_range ?z_str ?z_tuple ?z_zip ?cc_DIGITS ?cc_MAX_DIGITS ?xa_BadPaper ?xq_BadPaper ?xk_BadPaper ?xb_BadPaper ?xt_BadPaper ?xa_Missing ?xq_Missing ?xk_Missing ?xb_Missing ?xt_Missing ?xa_NetError ?xq_NetError ?xk_NetError ?xb_NetError ?xt_NetError ?xa_NotAllowed ?xq_NotAllowed ?xk_NotAllowed ?xb_NotAllowed ?xt_NotAllowed ?ba ?bl ?bm ?bsa ?bga ?bgg ?bno ?bi ?bt ?bkC ?bex ?bva ?bty ?bhd ?bf ?bfc ?bco ?bcv ?bcf ?bce ?bmr ?bsu ?bto ?bop ?bsi ?e_BadForm_NetError ?e_NotAllowed_NetError ?e_Missing_NetError ?e_BadPaper_NetError ?e_BadForm_BadForm ?e_NotAllowed_BadForm ?e_NotAllowed_NotAllowed ?e_Missing_BadForm ?e_Missing_NotAllowed ?e_Missing_Missing ?e_BadPaper_BadForm ?e_BadPaper_NotAllowed ?e_BadPaper_Missing ?e_BadPaper_BadPaper
    (case a_common => k_is)
    (case l_common => k_is)
    (case c_common => k_is)
    (case k_common => k_is)
    (case a_lowest => k_is)
    (case l_lowest => k_is)
    (case c_lowest => k_is)
    (case k_lowest => k_is)
    (case a_plus => k_is)
    (case l_plus => k_is)
    (case c_plus => k_is)
    (case k_plus => k_is)
    (case a_minus => k_is)
    (case l_minus => k_is)
    (case c_minus => k_is)
    (case k_minus => k_is)
    (case a_times => k_is)
    (case l_times => k_is)
    (case c_times => k_is)
    (case k_times => k_is)
    (case a_divided => k_is)
    (case l_divided => k_is)
    (case c_divided => k_is)
    (case k_divided => k_is)
    (case a_less_ratios => k_is)
    (case l_less1 => k_is)
    (case c_less1 => k_is)
    (case k_less1 => k_is)
    (case a_is_ratio => k_is)
    (case l_is_ratio => k_is)
    (case c_is_ratio => k_is)
    (case k_is_ratio => k_is)
    (case a_ratio_text => k_is)
    (case l_ratio_text => k_is)
    (case c_ratio_text => k_is)
    (case k_ratio_text => k_is)
    (case a_number_in => k_is)
    (case l_number_in => k_is)
    (case c_number_in => k_is)
    (case k_number_in => k_is)
    (case a_read_ratio => k_is)
    (case l_read_ratio => k_is)
    (case c_read_ratio => k_is)
    (case k_read_ratio => k_is)
    (case a_is_net => k_is)
    (case l_is_net => k_is)
    (case c_is_net => k_is)
    (case k_is_net => k_is)
    (case a_check_net => k_is)
    (case l_check_net => k_is)
    (case c_check_net => k_is)
    (case k_check_net => k_is)
    (case a_covers => k_is)
    (case l_covers => k_is)
    (case c_covers => k_is)
    (case k_covers => k_is)
    (case a_added => k_is)
    (case l_added => k_is)
    (case c_added => k_is)
    (case k_added => k_is)
    (case a_less_nets => k_is)
    (case l_less2 => k_is)
    (case c_less2 => k_is)
    (case k_less2 => k_is)
    (case a_effect => k_is)
    (case l_effect => k_is)
    (case c_effect => k_is)
    (case k_effect => k_is)
    (case a_can_move => k_is)
    (case l_can_move => k_is)
    (case c_can_move => k_is)
    (case k_can_move => k_is)
    (case a_moves_of => k_is)
    (case l_moves_of => k_is)
    (case c_moves_of => k_is)
    (case k_moves_of => k_is)
    (case a_space_of => k_is)
    (case l_space_of => k_is)
    (case c_space_of => k_is)
    (case k_space_of => k_is)
    (case a_least_runs => k_is)
    (case l_least_runs => k_is)
    (case c_least_runs => k_is)
    (case k_least_runs => k_is)
    (case a_run_to => k_is)
    (case l_run_to => k_is)
    (case c_run_to => k_is)
    (case k_run_to => k_is)
    (case a_check_wall => k_is)
    (case l_check_wall => k_is)
    (case c_check_wall => k_is)
    (case k_check_wall => k_is)
    (case a_judge_reach => k_is)
    (case l_judge_reach => k_is)
    (case c_judge_reach => k_is)
    (case k_judge_reach => k_is)
    (case a__law_take => k_is)
    (case l__law_take => k_is)
    (case c__law_take => k_is)
    (case k__law_take => k_is)
    (case a__law_low => k_is)
    (case l__law_low => k_is)
    (case c__law_low => k_is)
    (case k__law_low => k_is)
    (case a__law_plus => k_is)
    (case l__law_plus => k_is)
    (case c__law_plus => k_is)
    (case k__law_plus => k_is)
    (case a__law_minus => k_is)
    (case l__law_minus => k_is)
    (case c__law_minus => k_is)
    (case k__law_minus => k_is)
    (case a__law_times => k_is)
    (case l__law_times => k_is)
    (case c__law_times => k_is)
    (case k__law_times => k_is)
    (case a__law_less => k_is)
    (case l__law_less => k_is)
    (case c__law_less => k_is)
    (case k__law_less => k_is)
    (case a__law_due => k_is)
    (case l__law_due => k_is)
    (case c__law_due => k_is)
    (case k__law_due => k_is)
    (case a__law_fails => k_is)
    (case l__law_fails => k_is)
    (case c__law_fails => k_is)
    (case k__law_fails => k_is)
    (case a__law_read => k_is)
    (case l__law_read => k_is)
    (case c__law_read => k_is)
    (case k__law_read => k_is)
    (case a__law_caught => k_is)
    (case l__law_caught => k_is)
    (case c__law_caught => k_is)
    (case k__law_caught => k_is)
    (case a__law_draw => k_is)
    (case l__law_draw => k_is)
    (case c__law_draw => k_is)
    (case k__law_draw => k_is)
    (case a_law => k_is)
    (case l_law => k_is)
    (case c_law => k_is)
    (case k_law => k_is)
    (case z_abs => k_is)
    (case z_all => k_is)
    (case z_any => k_is)
    (case z_bool => k_is)
    (case z_int => k_is)
    (case z_isinstance => k_is)
    (case z_len => k_is)
    (case z_range => k_is)
    (case z_str => k_is)
    (case z_tuple => k_is)
    (case z_zip => k_is)
    (case cc_DIGITS => k_is)
    (case cc_MAX_DIGITS => k_is)
    (case xa_BadPaper => k_is)
    (case xq_BadPaper => first | k_is | kernel_rfl)
    (case xk_BadPaper => k_is)
    (case xb_BadPaper => k_is)
    (case xt_BadPaper => k_is)
    (case xa_Missing => k_is)
    (case xq_Missing => first | k_is | kernel_rfl)
    (case xk_Missing => k_is)
    (case xb_Missing => k_is)
    (case xt_Missing => k_is)
    (case xa_NetError => k_is)
    (case xq_NetError => first | k_is | kernel_rfl)
    (case xk_NetError => k_is)
    (case xb_NetError => k_is)
    (case xt_NetError => k_is)
    (case xa_NotAllowed => k_is)
    (case xq_NotAllowed => first | k_is | kernel_rfl)
    (case xk_NotAllowed => k_is)
    (case xb_NotAllowed => k_is)
    (case xt_NotAllowed => k_is)
    (case ba => k_is)
    (case bl => k_is)
    (case bm => decide +kernel)
    (case bsa => k_is)
    (case bga => k_is)
    (case bgg => k_is)
    (case bno => k_is)
    (case bi => k_is)
    (case bt => k_is)
    (case bkC => k_is)
    (case bex => k_is)
    (case bva => k_is)
    (case bty => k_is)
    (case bhd => k_is)
    (case bf => k_is)
    (case bfc => k_is)
    (case bco => k_is)
    (case bcv => rfl)
    (case bcf => decide +kernel)
    (case bce => k_is)
    (case bmr => k_is)
    (case bsu => k_is)
    (case bto => decide +kernel)
    (case bop => k_is)
    (case bsi => first | k_is | kernel_rfl)
    (case e_BadForm_NetError => first | k_is | kernel_rfl)
    (case e_NotAllowed_NetError => first | k_is | kernel_rfl)
    (case e_Missing_NetError => first | k_is | kernel_rfl)
    (case e_BadPaper_NetError => first | k_is | kernel_rfl)
    (case e_BadForm_BadForm => first | k_is | kernel_rfl)
    (case e_NotAllowed_BadForm => first | k_is | kernel_rfl)
    (case e_NotAllowed_NotAllowed => first | k_is | kernel_rfl)
    (case e_Missing_BadForm => first | k_is | kernel_rfl)
    (case e_Missing_NotAllowed => first | k_is | kernel_rfl)
    (case e_Missing_Missing => first | k_is | kernel_rfl)
    (case e_BadPaper_BadForm => first | k_is | kernel_rfl)
    (case e_BadPaper_NotAllowed => first | k_is | kernel_rfl)
    (case e_BadPaper_Missing => first | k_is | kernel_rfl)
    (case e_BadPaper_BadPaper => first | k_is | kernel_rfl)
end
