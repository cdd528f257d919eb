import PyProof.Rows.All
import Wide.All
import OpenK.AllK
import Wide.FinOn
import HandS.ForMost
import HandS.Zip
import HandS.TupAny
import HandS.TupMul
import HandS.IsInst
import HandS.Wide
import HandS.Style
import HandS.Conv
import KE.KDictKeyed
import KE.SortCalls
import HandS.Deep
import KE.GoesEnum
import HandS.Defaults
import KE.SortData
import KE.KDictSum
import HandS.DictComp
import KE.KDictDisplayH
import KE.KRevSl
import HandS.Exc
import HandS.ExcInit
import HandS.ExcOwn
import HandS.ExcCtx
import HandS.ExcInitHot
import HandS.HotCalls
import PyProof.ZipIter
import HandS.ExcIs
import HandS.ExcField
import HandS.Lambda
import HandS.EndTab
import HandS.HeadHook4
import HandS.Text
import HandS.CallLocal
import KE.KStateDown
import Lean
import HandS.Base
import HandS.Call
import HandS.Ends
import HandS.More
import HandS.Words
import HandS.WordsExc
import HandS.Head0
import HandS.Head1
import HandS.Head2
import HandS.HeadEnd
import HandS.HeadHook1
import HandS.HeadHook2
import PySem.Challenge.RW_lorehall_k13_what_is_refused
set_option Elab.async false
set_option linter.all false
set_option maxRecDepth 100000
set_option maxHeartbeats 4000000
/-! The data layer: a def's body as a function on data. -/
namespace G65
open PySem PySem.Spec PyProof.Rows L2

inductive Ent where
  | d (x : PyData)
  | ml (xs : List PyData)
  | md (kvs : List (PyData × PyData))
  | fd (kvs : List (PyData × PyData))
def Ent.own : Ent → Bool
  | .d _ => false
  | .fd _ => false
  | _ => true
abbrev Rho := List (Option Ent)
abbrev M (α : Type) := Rho → Option (α × Rho)
def bnd {α β : Type} (f : M α) (g : α → M β) : M β := fun r => match f r with
  | some (a, r1) => g a r1
  | none => none
def ret {α : Type} (a : α) : M α := fun r => some (a, r)
def lft {α : Type} (o : Option α) : M α := fun r => match o with
  | some a => some (a, r)
  | none => none
theorem bnd_some {α β : Type} {f : M α} {g : α → M β} {r : Rho} {x : β × Rho} (h : bnd f g r = some x) : ∃ a r1, f r = some (a, r1) ∧ g a r1 = some x := by
  unfold bnd at h
  split at h
  · rename_i a r1 e
    exact ⟨a, r1, e, h⟩
  · cases h
theorem ret_some {α : Type} {a : α} {r : Rho} {x : α × Rho} (h : ret a r = some x) : x = (a, r) := (Option.some.inj h).symm
theorem lft_some {α : Type} {o : Option α} {r : Rho} {x : α × Rho} (h : lft o r = some x) : ∃ a, o = some a ∧ x = (a, r) := by
  unfold lft at h
  split at h
  · exact ⟨_, rfl, (Option.some.inj h).symm⟩
  · cases h

end G65
namespace L2
open PySem PySem.Spec PyProof.Rows
/-! ### data in a heap -/
section
variable {K : PySem.W.Frag} {F F' : Hp}
theorem same_seqT {a : Addr} {xs : List V} (e : Same F F') (h : SqT K F a xs) : SqT K F' a xs := by
  rcases h with (h | ⟨o, h⟩) | h
  · exact .inl (.inl (e _ _ h))
  · exact .inl (.inr ⟨o, e _ _ h⟩)
  · exact .inr h
mutual
theorem dp_mono (e : Same F F') : ∀ {v : V} {d : PyData}, Dp K F v d → Dp K F' v d
  | _, _, .non => .non
  | _, _, .bl b => .bl b
  | _, _, .int i => .int i
  | _, _, .str x => .str x
  | _, _, .lst h q => .lst (e.seq h) (dpAll_mono e q)
  | _, _, .tup h q => .tup (same_seqT e h) (dpAll_mono e q)
theorem dpAll_mono (e : Same F F') : ∀ {vs : List V} {ds : List PyData}, DpAll K F vs ds → DpAll K F' vs ds
  | _, _, .nil => .nil
  | _, _, .cons h q => .cons (dp_mono e h) (dpAll_mono e q)
end
theorem DpAll.length : ∀ {vs : List V} {ds : List PyData}, DpAll K F vs ds → vs.length = ds.length
  | _, _, .nil => rfl
  | _, _, .cons _ q => by rw [List.length_cons, List.length_cons, DpAll.length q]
theorem DpAll.append : ∀ {vs ws : List V} {ds es : List PyData}, DpAll K F vs ds → DpAll K F ws es → DpAll K F (vs ++ ws) (ds ++ es)
  | _, _, _, _, .nil, q => q
  | _, _, _, _, .cons h t, q => .cons h (DpAll.append t q)
theorem DpAll.one {v : V} {d : PyData} (h : Dp K F v d) : DpAll K F [v] [d] := .cons h .nil
theorem DpAll.get : ∀ {vs : List V} {ds : List PyData} {i : Nat} {d : PyData}, DpAll K F vs ds → ds[i]? = some d → ∃ v, vs[i]? = some v ∧ Dp K F v d
  | _, _, _, _, .nil, e => by simp at e
  | _, _, 0, _, .cons h _, e => by
    simp at e
    subst e
    exact ⟨_, rfl, h⟩
  | _, _, i + 1, _, .cons _ t, e => by
    obtain ⟨v, h1, h2⟩ := DpAll.get (i := i) t (by simpa using e)
    exact ⟨v, by simpa using h1, h2⟩
theorem DpAll.getV : ∀ {vs : List V} {ds : List PyData} {i : Nat} {v : V}, DpAll K F vs ds → vs[i]? = some v → ∃ d, ds[i]? = some d ∧ Dp K F v d
  | _, _, _, _, .nil, e => by simp at e
  | _, _, 0, _, .cons h _, e => by
    simp at e
    subst e
    exact ⟨_, rfl, h⟩
  | _, _, i + 1, _, .cons _ t, e => by
    obtain ⟨v, h1, h2⟩ := DpAll.getV (i := i) t (by simpa using e)
    exact ⟨v, by simpa using h1, h2⟩
theorem DpAll.drop : ∀ {vs : List V} {ds : List PyData} (n : Nat), DpAll K F vs ds → DpAll K F (vs.drop n) (ds.drop n)
  | _, _, 0, r => r
  | _, _, _ + 1, .nil => .nil
  | _, _, n + 1, .cons _ t => DpAll.drop n t
theorem DpAll.take : ∀ {vs : List V} {ds : List PyData} (n : Nat), DpAll K F vs ds → DpAll K F (vs.take n) (ds.take n)
  | _, _, 0, _ => .nil
  | _, _, _ + 1, .nil => .nil
  | _, _, n + 1, .cons h t => .cons h (DpAll.take n t)
theorem DpAll.set : ∀ {vs : List V} {ds : List PyData} {v : V} {d : PyData} (i : Nat), DpAll K F vs ds → Dp K F v d → DpAll K F (vs.set i v) (ds.set i d)
  | _, _, _, _, _, .nil, _ => .nil
  | _, _, _, _, 0, .cons _ t, h => .cons h t
  | _, _, _, _, i + 1, .cons q t, h => .cons q (DpAll.set i t h)
theorem DpAll.reverse : ∀ {vs : List V} {ds : List PyData}, DpAll K F vs ds → DpAll K F vs.reverse ds.reverse
  | _, _, .nil => .nil
  | _, _, .cons h t => by
    rw [List.reverse_cons, List.reverse_cons]
    exact (DpAll.reverse t).append (.one h)
theorem DpAll.rep {vs : List V} {ds : List PyData} (h : DpAll K F vs ds) : ∀ n : Nat, DpAll K F (List.replicate n vs).flatten (List.replicate n ds).flatten
  | 0 => .nil
  | n + 1 => by
    rw [List.replicate_succ, List.replicate_succ, List.flatten_cons, List.flatten_cons]
    exact h.append (DpAll.rep h n)
theorem DpAll.ints : ∀ {vs : List V} {ns : List Int}, DpAll K F vs (ns.map PyData.int) → vs = ns.map V.int
  | _, [], h => by cases h; rfl
  | _, n :: ns, h => by
    cases h with
    | cons a t =>
      cases a
      rw [List.map_cons, DpAll.ints t]
theorem DpAll.bls : ∀ {vs : List V} {ns : List Bool}, DpAll K F vs (ns.map PyData.bool) → vs = ns.map V.bl
  | _, [], h => by cases h; rfl
  | _, n :: ns, h => by
    cases h with
    | cons a t =>
      cases a
      rw [List.map_cons, DpAll.bls t]
theorem dpAll_ints : ∀ (ns : List Int), DpAll K F (ns.map V.int) (ns.map PyData.int)
  | [] => .nil
  | n :: ns => .cons (.int n) (dpAll_ints ns)
end

end L2
namespace G65
open PySem PySem.Spec PyProof.Rows L2
/-! ### dicts with tuples as keys -/
mutual
def nk : PyData → Option NestedKey
  | .none => some .none
  | .bool b => some (.num (if b then 1 else 0))
  | .int i => some (.num i)
  | .str x => some (.text x)
  | .tuple ds => (nkAll ds).map .tup
  | .list _ => none
  | .dict _ => none
def nkAll : List PyData → Option (List NestedKey)
  | [] => some []
  | d :: ds => match nk d, nkAll ds with
    | some a, some b => some (a :: b)
    | _, _ => none
end
/-- a key: a tuple, not too deep -/
def keyOf (d : PyData) : Option NestedKey := match d with
  | .tuple ds => match nkAll ds with
    | some ks => if (NestedKey.tup ks).depth ≤ 8 then some (.tup ks) else none
    | none => none
  | _ => none
abbrev Rw := List (PyData × PyData)
def dGet (kvs : Rw) (k : NestedKey) : Option PyData := (kvs.find? fun kv => decide (keyOf kv.1 = some k)).map (·.2)
def dPut (kvs : Rw) (k : NestedKey) (kd v : PyData) : Rw :=
  if (dGet kvs k).isSome then kvs.map fun kv => if keyOf kv.1 = some k then (kv.1, v) else kv else kvs ++ [(kd, v)]
end G65
namespace G65
open PySem PySem.Spec PyProof.Rows L2

abbrev St := L2.St
/-! ### the state as data -/
section
variable (P : Program) (w : World) (K : PySem.W.Frag)
def DictAt (F H : Hp) (a : Addr) (kvs : Rw) : Prop :=
  (a == sysModules) = false ∧ kvs.length ≤ sizeLine ∧
  ∃ (o : Obj) (es : Array DictEntry) (ep : Nat) (xs : List (NestedKey × Addr × Value)),
    H a = some (.ext fun h => h.get? a = some o) ∧ o.ExactDict ∧ o.data = .dict es ep ∧ es.toList = xs.map (entryOfKey (nestedKind P w)) ∧ (xs.map (·.1)).Nodup ∧
    Paired (fun (p : PyData × PyData) (q : NestedKey × Addr × Value) => keyOf p.1 = some q.1 ∧ Dp K F (.ref q.2.1) p.1 ∧ ∃ v, RelV v q.2.2 ∧ Dp K F v p.2) kvs xs
inductive EntR (F H : Hp) : V → Ent → Prop
  | d {v : V} {x : PyData} : Dp K F v x → EntR F H v (.d x)
  | ml {a : Addr} {vs : List V} {xs : List PyData} : F a = none → H a = some (.lst vs) → DpAll K F vs xs → EntR F H (.ref a) (.ml xs)
  | md {a : Addr} {kvs : Rw} : F a = none → DictAt P w K F H a kvs → EntR F H (.ref a) (.md kvs)
  | fd {a : Addr} {kvs : Rw} : DictAt P w K F F a kvs → EntR F H (.ref a) (.fd kvs)
end
def OwnAt (r : Rho) (σ : St) (a : Addr) : Prop := ∃ (i : Nat) (e : Ent), r[i]? = some (some e) ∧ e.own = true ∧ σ[i]? = some (some (.ref a))
structure SR (P : Program) (w : World) (K : PySem.W.Frag) (F H : Hp) (σ : St) (r : Rho) : Prop where
  sub : Same F H
  len : r.length = σ.length
  ent : ∀ (i : Nat) (e : Ent), r[i]? = some (some e) → ∃ v, σ[i]? = some (some v) ∧ EntR P w K F H v e
  dis : ∀ (i j : Nat) (a : Addr) (e e' : Ent), r[i]? = some (some e) → r[j]? = some (some e') → e.own = true → e'.own = true → σ[i]? = some (some (.ref a)) → σ[j]? = some (some (.ref a)) → i = j
structure Go (σ : St) (r : Rho) (F H : Hp) (σ' : St) (r' : Rho) (F' H' : Hp) : Prop where
  same : Same F F'
  nf : ∀ b, H b ≠ none → ¬ OwnAt r σ b → F' b = F b
  keep : ∀ b o, H b = some o → ¬ OwnAt r σ b → H' b = some o
  own : ∀ b, OwnAt r' σ' b → OwnAt r σ b ∨ H b = none
structure Px (F H F' H' : Hp) : Prop where
  same : Same F F'
  sub : Same F' H'
  keep : Same H H'
  nf : ∀ b, H b ≠ none → F' b = F b
theorem Px.refl {F H : Hp} (s : Same F H) : Px F H F H := ⟨Same.refl _, s, Same.refl _, fun _ _ => rfl⟩
theorem Px.trans {F H F1 H1 F2 H2 : Hp} (a : Px F H F1 H1) (b : Px F1 H1 F2 H2) : Px F H F2 H2 :=
  ⟨a.same.trans b.same, b.sub, a.keep.trans b.keep, fun c hc => (b.nf c (fun z => hc (by
    cases q : H c with
    | none => rfl
    | some o => rw [a.keep c o q] at z; cases z))).trans (a.nf c hc)⟩
theorem same_updN {H : Hp} {p : Addr} {o : HO} (h : H p = none) : Same H (upd H p o) := fun b x e => by
  rw [upd_ne (ne_of_none e h)]
  exact e
/-- a new thing, known to the data -/
theorem Px.new {F H : Hp} {p : Addr} (s : Same F H) (o : HO) (h : H p = none) : Px F H (upd F p o) (upd H p o) := by
  have hF : F p = none := s.free h
  refine ⟨same_updN hF, fun b x e => ?_, same_updN h, fun b hb => upd_ne fun z => hb (by rw [z]; exact h)⟩
  by_cases z : b = p
  · subst z
    rw [upd_same] at e ⊢
    exact e
  · rw [upd_ne z] at e ⊢
    exact s _ _ e
/-- a new thing, not yet known to the data -/
theorem Px.newH {F H : Hp} {p : Addr} (s : Same F H) (o : HO) (h : H p = none) : Px F H F (upd H p o) :=
  ⟨Same.refl _, s.trans (same_updN h), same_updN h, fun _ _ => rfl⟩
section
variable {P : Program} {w : World} {K : PySem.W.Frag} {F H F' H' F1 H1 F2 H2 : Hp} {σ σ' σ1 σ2 : St} {r r' r1 r2 : Rho}
theorem DictAt.mono {a : Addr} {kvs : Rw} (d : DictAt P w K F H a kvs) (e : Same F F') (h : ∀ o, H a = some o → H' a = some o) : DictAt P w K F' H' a kvs := by
  obtain ⟨d1, d2, o, es, ep, xs, h1, h2, h3, h4, h5, h6⟩ := d
  exact ⟨d1, d2, o, es, ep, xs, h _ h1, h2, h3, h4, h5, Paired.mapP h6 fun p q ⟨a1, a2, v, a3, a4⟩ => ⟨a1, dp_mono e a2, v, a3, dp_mono e a4⟩⟩
theorem DictAt.has {a : Addr} {kvs : Rw} (d : DictAt P w K F H a kvs) : ∃ o, H a = some o := by
  obtain ⟨_, _, _, _, _, _, h, _⟩ := d
  exact ⟨_, h⟩
theorem EntR.mono {v : V} {e : Ent} (x : EntR P w K F H v e) (s : Same F F') (h : ∀ a, v = .ref a → e.own = true → (∀ o, H a = some o → H' a = some o) ∧ (F a = none → H a ≠ none → F' a = none)) : EntR P w K F' H' v e := by
  cases x with
  | d q => exact .d (dp_mono s q)
  | ml h1 h2 h3 => exact .ml ((h _ rfl rfl).2 h1 (by rw [h2]; exact fun z => nomatch z)) ((h _ rfl rfl).1 _ h2) (dpAll_mono s h3)
  | md h1 h2 => 
    obtain ⟨o, ho⟩ := h2.has
    exact .md ((h _ rfl rfl).2 h1 (by rw [ho]; exact fun z => nomatch z)) (h2.mono s (h _ rfl rfl).1)
  | fd h1 => exact .fd (h1.mono s (s _))
theorem EntR.has {a : Addr} {e : Ent} (x : EntR P w K F H (.ref a) e) (o : e.own = true) : F a = none ∧ ∃ u, H a = some u := by
  cases x with
  | d q => cases o
  | ml h1 h2 h3 => exact ⟨h1, _, h2⟩
  | md h1 h2 => exact ⟨h1, h2.has⟩
  | fd h1 => cases o
theorem EntR.ref {v : V} {e : Ent} (x : EntR P w K F H v e) (o : e.own = true) : ∃ a, v = .ref a := by
  cases x with
  | d q => cases o
  | ml h1 h2 h3 => exact ⟨_, rfl⟩
  | md h1 h2 => exact ⟨_, rfl⟩
  | fd h1 => cases o
theorem SR.has (S : SR P w K F H σ r) {a : Addr} (o : OwnAt r σ a) : F a = none ∧ ∃ u, H a = some u := by
  obtain ⟨i, e, h1, h2, h3⟩ := o
  obtain ⟨v, h4, h5⟩ := S.ent i e h1
  rw [h3] at h4
  cases h4
  exact h5.has h2
theorem SR.px (S : SR P w K F H σ r) (p : Px F H F' H') : SR P w K F' H' σ r :=
  ⟨p.sub, S.len, fun i e h => let ⟨v, h1, h2⟩ := S.ent i e h; ⟨v, h1, h2.mono p.same fun a _ _ => ⟨fun o q => p.keep _ _ q, fun z1 z2 => (p.nf a z2).trans z1⟩⟩, S.dis⟩
theorem Go.px (p : Px F H F' H') : Go σ r F H σ r F' H' := ⟨p.same, fun b hb _ => p.nf b hb, fun b o h _ => p.keep b o h, fun _ h => .inl h⟩
theorem Go.refl : Go σ r F H σ r F H := ⟨Same.refl _, fun _ _ _ => rfl, fun _ _ h _ => h, fun _ h => .inl h⟩
theorem Go.trans (a : Go σ r F H σ1 r1 F1 H1) (b : Go σ1 r1 F1 H1 σ2 r2 F2 H2) : Go σ r F H σ2 r2 F2 H2 := by
  have no : ∀ c, H c ≠ none → ¬ OwnAt r σ c → ¬ OwnAt r1 σ1 c := fun c h1 h2 h3 => (a.own c h3).elim h2 h1
  have hs : ∀ c, H c ≠ none → ¬ OwnAt r σ c → H1 c ≠ none := fun c h1 h2 => by
    cases q : H c with
    | none => exact absurd q h1
    | some o => rw [a.keep c o q h2]; exact fun z => nomatch z
  refine ⟨a.same.trans b.same, fun c h1 h2 => (b.nf c (hs c h1 h2) (no c h1 h2)).trans (a.nf c h1 h2), fun c o h1 h2 => ?_, fun c h => ?_⟩
  · have h3 : H c ≠ none := by rw [h1]; exact fun z => nomatch z
    exact b.keep c o (a.keep c o h1 h2) (no c h3 h2)
  · rcases b.own c h with q | q
    · exact a.own c q
    · by_cases ho : OwnAt r σ c
      · exact .inl ho
      · right
        cases z : H c with
        | none => rfl
        | some o => rw [a.keep c o z ho] at q; cases q
end
/-- what a value that comes back is -/
def ResR (P : Program) (w : World) (K : PySem.W.Frag) (σ : St) (r : Rho) (H : Hp) (σ' : St) (r' : Rho) (F' H' : Hp) (v : V) (en : Ent) : Prop :=
  EntR P w K F' H' v en ∧ ∀ a, en.own = true → v = .ref a → (OwnAt r σ a ∨ H a = none) ∧ ¬ OwnAt r' σ' a
section
variable {P : Program} {w : World} {K : PySem.W.Frag} {F H F' H' F1 H1 F2 H2 : Hp} {σ σ' σ1 σ2 : St} {r r' r1 r2 : Rho}
theorem ResR.step {v : V} {en : Ent} (G : Go σ r F H σ1 r1 F1 H1) (x : ResR P w K σ1 r1 H1 σ2 r2 F2 H2 v en) : ResR P w K σ r H σ2 r2 F2 H2 v en := by
  refine ⟨x.1, fun a h1 h2 => ⟨?_, (x.2 a h1 h2).2⟩⟩
  rcases (x.2 a h1 h2).1 with q | q
  · exact G.own a q
  · by_cases ho : OwnAt r σ a
    · exact .inl ho
    · right
      cases z : H a with
      | none => rfl
      | some o => rw [G.keep a o z ho] at q; cases q
theorem ResR.d {v : V} {x : PyData} (h : Dp K F' v x) : ResR P w K σ r H σ' r' F' H' v (.d x) := ⟨.d h, fun _ z => nomatch z⟩
end

/-! ### judgements -/
structure RX (X : Cx) (e : Expr) (f : M Ent) : Prop where
  ex : ∃ t : TE, PE X e t ∧ ∀ (σ : St) (H F : Hp) (r : Rho) (en : Ent) (r' : Rho) (Q : VK), SR X.prog X.w X.K F H σ r → f r = some (en, r') →
    (∀ v F' H', SR X.prog X.w X.K F' H' σ r' → Go σ r F H σ r' F' H' → ResR X.prog X.w X.K σ r H σ r' F' H' v en → Q v H') → t σ H Q
structure RE (X : Cx) (e : Expr) (f : M PyData) : Prop where
  ex : ∃ t : TE, PE X e t ∧ ∀ (σ : St) (H F : Hp) (r : Rho) (d : PyData) (r' : Rho) (Q : VK), SR X.prog X.w X.K F H σ r → f r = some (d, r') →
    (∀ v F' H', SR X.prog X.w X.K F' H' σ r' → Go σ r F H σ r' F' H' → Dp X.K F' v d → Q v H') → t σ H Q
structure RT (X : Cx) (e : Expr) (f : M Bool) : Prop where
  ex : ∃ t : TT, PT X e t ∧ ∀ (σ : St) (H F : Hp) (r : Rho) (b : Bool) (r' : Rho) (Q : Bool → Hp → Prop), SR X.prog X.w X.K F H σ r → f r = some (b, r') →
    (∀ F' H', SR X.prog X.w X.K F' H' σ r' → Go σ r F H σ r' F' H' → Q b H') → t σ H Q
structure RA (X : Cx) (es : List Expr) (f : M (List PyData)) : Prop where
  ex : ∃ t : TA, PA X es t ∧ ∀ (σ : St) (H F : Hp) (r : Rho) (ds : List PyData) (r' : Rho) (Q : List V → Hp → Prop), SR X.prog X.w X.K F H σ r → f r = some (ds, r') →
    (∀ vs F' H', SR X.prog X.w X.K F' H' σ r' → Go σ r F H σ r' F' H' → DpAll X.K F' vs ds → Q vs H') → t σ H Q
inductive Out where
  | nx
  | ret (en : Ent)
  | brk
  | cont
def OutK (P : Program) (w : World) (K : PySem.W.Frag) (D : Ends) (σ : St) (r : Rho) (H : Hp) (σ' : St) (r' : Rho) (F' H' : Hp) : Out → Prop
  | .nx => D.nx σ' H'
  | .brk => D.bk σ' H'
  | .cont => D.ct σ' H'
  | .ret en => ∀ v, ResR P w K σ r H σ' r' F' H' v en → D.rt v H'
def Pin (n : Nat) (σ σ' : St) : Prop := σ'.length = σ.length ∧ ∀ i : Nat, i < n → σ'[i]? = σ[i]?
theorem Pin.refl (n : Nat) (σ : St) : Pin n σ σ := ⟨rfl, fun _ _ => rfl⟩
theorem Pin.trans {n : Nat} {σ σ1 σ2 : St} (a : Pin n σ σ1) (b : Pin n σ1 σ2) : Pin n σ σ2 := ⟨b.1.trans a.1, fun i h => (b.2 i h).trans (a.2 i h)⟩
structure RS (X : Cx) (n : Nat) (st : Stmt) (f : M Out) : Prop where
  ex : ∃ t : TS, PS X st t ∧ ∀ (σ : St) (H F : Hp) (r : Rho) (o : Out) (r' : Rho) (D : Ends), SR X.prog X.w X.K F H σ r → f r = some (o, r') →
    (∀ σ' F' H', SR X.prog X.w X.K F' H' σ' r' → Go σ r F H σ' r' F' H' → Pin n σ σ' → OutK X.prog X.w X.K D σ r H σ' r' F' H' o) → t D σ H
structure RSs (X : Cx) (n : Nat) (sts : List Stmt) (f : M Out) : Prop where
  ex : ∃ t : TS, PSs X sts t ∧ ∀ (σ : St) (H F : Hp) (r : Rho) (o : Out) (r' : Rho) (D : Ends), SR X.prog X.w X.K F H σ r → f r = some (o, r') →
    (∀ σ' F' H', SR X.prog X.w X.K F' H' σ' r' → Go σ r F H σ' r' F' H' → Pin n σ σ' → OutK X.prog X.w X.K D σ r H σ' r' F' H' o) → t D σ H

/-! ### from one to another -/
def frz (e : Ent) : M PyData := match e with
  | .d x => ret x
  | .ml xs => ret (.list xs)
  | .md _ => fun _ => none
  | .fd _ => fun _ => none
theorem sr_freeze {P : Program} {w : World} {K : PySem.W.Frag} {F H : Hp} {σ : St} {r : Rho} (S : SR P w K F H σ r) {a : Addr} {vs : List V} (h1 : F a = none) (h2 : H a = some (.lst vs)) (no : ¬ OwnAt r σ a) : SR P w K (upd F a (.lst vs)) H σ r := by
  refine ⟨fun b o e => ?_, S.len, fun i e h => ?_, S.dis⟩
  · by_cases z : b = a
    · subst z
      rw [upd_same] at e
      cases e
      exact h2
    · rw [upd_ne z] at e
      exact S.sub _ _ e
  · obtain ⟨v, q1, q2⟩ := S.ent i e h
    refine ⟨v, q1, q2.mono (same_updN h1) fun b eb eo => ⟨fun o q => q, fun z1 _ => ?_⟩⟩
    rw [upd_ne fun z => no ⟨i, e, h, eo, by rw [q1, eb, z]⟩]
    exact z1
theorem RX.re {X : Cx} {e : Expr} {f : M Ent} (h : RX X e f) : RE X e (bnd f frz) := by
  obtain ⟨t, pe, k⟩ := h.ex
  refine ⟨t, pe, fun σ H F r d r' Q S e hQ => ?_⟩
  obtain ⟨en, r1, e1, e2⟩ := bnd_some e
  refine k σ H F r en r1 Q S e1 fun v F' H' S' G R => ?_
  cases en with
  | d x =>
    cases ret_some e2
    obtain ⟨R, _⟩ := R
    cases R with
    | d R => exact hQ v F' H' S' G R
  | ml xs =>
    cases ret_some e2
    obtain ⟨R, fr⟩ := R
    cases R with
    | @ml a vs xs h1 h2 h3 =>
      obtain ⟨q1, q2⟩ := fr a rfl rfl
      refine hQ (.ref a) (upd F' a (.lst vs)) H' (sr_freeze S' h1 h2 q2) ⟨G.same.trans (same_updN h1), fun b hb hn => ?_, G.keep, G.own⟩ (.lst (.inl (.inl upd_same)) (dpAll_mono (same_updN h1) h3))
      rw [upd_ne fun z => ?_]
      · exact G.nf b hb hn
      · rw [z] at hb hn
        exact q1.elim hn hb
  | md kvs => cases e2
  | fd kvs => cases e2
theorem RE.rx {X : Cx} {e : Expr} {f : M PyData} (h : RE X e f) : RX X e (bnd f fun x => ret (.d x)) := by
  obtain ⟨t, pe, k⟩ := h.ex
  refine ⟨t, pe, fun σ H F r d r' Q S e hQ => ?_⟩
  obtain ⟨en, r1, e1, e2⟩ := bnd_some e
  cases ret_some e2
  exact k σ H F r en _ Q S e1 fun v F' H' S' G R => hQ v F' H' S' G (.d R)
end G65
namespace G65
open PySem PySem.Spec PyProof.Rows L2

theorem sl_eq : sizeLine = 16777216 := sizeLine_eq

/-! ### names and constants -/
def cst (d : PyData) : M PyData := ret d
theorem re_int {X : Cx} {i : Int} {j pos} : RE X (.Constant (.int i) j pos) (cst (.int i)) :=
  ⟨_, pe_int, fun σ H F r d r' Q S e hQ => by cases ret_some e; exact hQ _ F H S .refl (.int i)⟩
theorem re_bl {X : Cx} {b : Bool} {j pos} : RE X (.Constant (.bool b) j pos) (cst (.bool b)) :=
  ⟨_, pe_bl, fun σ H F r d r' Q S e hQ => by cases ret_some e; exact hQ _ F H S .refl (.bl b)⟩
theorem re_non {X : Cx} {j pos} : RE X (.Constant .none j pos) (cst .none) :=
  ⟨_, pe_non, fun σ H F r d r' Q S e hQ => by cases ret_some e; exact hQ _ F H S .refl .non⟩
theorem re_str {X : Cx} {x : Str} {j pos} : RE X (.Constant (.str x) j pos) (cst (.str x)) :=
  ⟨_, pe_str, fun σ H F r d r' Q S e hQ => by cases ret_some e; exact hQ _ F H S .refl (.str x)⟩
theorem re_glob {X : Cx} {x : Str} {i : Int} {t : Tok} {pos : Pos} (hg : Gl X x) (hm : X.mg x = some (.int i t)) (hd : (x == ("__debug__" : Str)) = false := by decide) : RE X (.Name x pos) (cst (.int i)) :=
  ⟨_, pe_glob hg hm (v := .int i) ⟨_, rfl⟩ hd, fun σ H F r d r' Q S e hQ => by cases ret_some e; exact hQ _ F H S .refl (.int i)⟩
/-- reading a name makes what it owns data -/
def gv (i : Nat) : M PyData := fun r => match r[i]? with
  | some (some (.d x)) => some (x, r)
  | some (some (.ml xs)) => some (.list xs, r.set i (some (.d (.list xs))))
  | _ => none
section
variable {P : Program} {w : World} {K : PySem.W.Frag} {F H : Hp} {σ : St} {r : Rho}
theorem sr_get (S : SR P w K F H σ r) {i : Nat} {e : Ent} (h : r[i]? = some (some e)) : ∃ v, σ[i]? = some (some v) ∧ EntR P w K F H v e := S.ent i e h
theorem get_set {α : Type} {r : List α} {i j : Nat} {x y : α} (h : (r.set i x)[j]? = some y) : (i = j ∧ y = x) ∨ (i ≠ j ∧ r[j]? = some y) := by
  by_cases z : i = j
  · subst z
    by_cases hl : i < r.length
    · rw [List.getElem?_set_self hl] at h
      exact .inl ⟨rfl, (Option.some.inj h).symm⟩
    · rw [List.getElem?_eq_none (by simpa using hl)] at h
      cases h
  · rw [List.getElem?_set_ne z] at h
    exact .inr ⟨z, h⟩
theorem own_set {i : Nat} {e : Option Ent} {a : Addr} (h : OwnAt (r.set i e) σ a) : (∃ en, e = some en ∧ en.own = true ∧ σ[i]? = some (some (.ref a))) ∨ OwnAt r σ a := by
  obtain ⟨j, en, h1, h2, h3⟩ := h
  rcases get_set h1 with ⟨rfl, q⟩ | ⟨_, q⟩
  · exact .inl ⟨en, q.symm, h2, h3⟩
  · exact .inr ⟨j, en, q, h2, h3⟩
theorem own_set_none {i : Nat} {a : Addr} (h : OwnAt (r.set i none) σ a) : OwnAt r σ a := by
  rcases own_set h with ⟨_, q, _⟩ | q
  · cases q
  · exact q
theorem own_set_d {i : Nat} {x : PyData} {a : Addr} (h : OwnAt (r.set i (some (.d x))) σ a) : OwnAt r σ a := by
  rcases own_set h with ⟨_, q, o, _⟩ | q
  · cases q; cases o
  · exact q
/-- an entry forgotten -/
theorem sr_forget (S : SR P w K F H σ r) (i : Nat) : SR P w K F H σ (r.set i none) := by
  refine ⟨S.sub, by rw [List.length_set]; exact S.len, fun j e h => ?_, fun j k a e e' h1 h2 h3 h4 h5 h6 => ?_⟩
  · rcases get_set h with ⟨_, q⟩ | ⟨_, q⟩
    · cases q
    · exact S.ent j e q
  · rcases get_set h1 with ⟨_, q⟩ | ⟨_, q⟩
    · cases q
    · rcases get_set h2 with ⟨_, q2⟩ | ⟨_, q2⟩
      · cases q2
      · exact S.dis j k a e e' q q2 h3 h4 h5 h6
/-- after forgetting its one owner, a thing is nobody's -/
theorem not_own (S : SR P w K F H σ r) {i : Nat} {e : Ent} {a : Addr} (h : r[i]? = some (some e)) (o : e.own = true) (hs : σ[i]? = some (some (.ref a))) : ¬ OwnAt (r.set i none) σ a := by
  rintro ⟨j, e', h1, h2, h3⟩
  rcases get_set h1 with ⟨_, q⟩ | ⟨n, q⟩
  · cases q
  · exact n (S.dis i j a e e' h q o h2 hs h3)
/-- an entry put in (the slot's value is there already) -/
theorem sr_put (S : SR P w K F H σ r) {i : Nat} {e : Ent} {v : V} (hs : σ[i]? = some (some v)) (x : EntR P w K F H v e) (no : ∀ a, e.own = true → v = .ref a → ¬ OwnAt (r.set i none) σ a) : SR P w K F H σ (r.set i (some e)) := by
  refine ⟨S.sub, by rw [List.length_set]; exact S.len, fun j e' h => ?_, fun j k a e1 e2 h1 h2 h3 h4 h5 h6 => ?_⟩
  · rcases get_set h with ⟨rfl, q⟩ | ⟨_, q⟩
    · cases q
      exact ⟨v, hs, x⟩
    · exact S.ent j e' q
  · rcases get_set h1 with ⟨rfl, q⟩ | ⟨n, q⟩
    · rcases get_set h2 with ⟨rfl, q2⟩ | ⟨n2, q2⟩
      · rfl
      · cases q
        rw [hs] at h5
        cases h5
        exact absurd ⟨k, e2, by rw [List.getElem?_set_ne n2]; exact q2, h4, h6⟩ (no a h3 rfl)
    · rcases get_set h2 with ⟨rfl, q2⟩ | ⟨n2, q2⟩
      · cases q2
        rw [hs] at h6
        cases h6
        exact absurd ⟨j, e1, by rw [List.getElem?_set_ne n]; exact q, h3, h5⟩ (no a h4 rfl)
      · exact S.dis j k a e1 e2 q q2 h3 h4 h5 h6
end
theorem gv_sound {P : Program} {w : World} {K : PySem.W.Frag} {F H : Hp} {σ : St} {r r' : Rho} {i : Nat} {d : PyData} (S : SR P w K F H σ r) (e : gv i r = some (d, r')) :
    ∃ v F', σ[i]? = some (some v) ∧ SR P w K F' H σ r' ∧ Go σ r F H σ r' F' H ∧ Dp K F' v d := by
  unfold gv at e
  split at e
  · rename_i x h
    cases e
    obtain ⟨v, h1, h2⟩ := S.ent i _ h
    cases h2 with
    | d q => exact ⟨v, F, h1, S, .refl, q⟩
  · rename_i xs h
    cases e
    obtain ⟨v, h1, h2⟩ := S.ent i _ h
    cases h2 with
    | @ml a vs xs q1 q2 q3 =>
      have no := not_own S h rfl h1
      have S1 := sr_freeze (sr_forget S i) q1 q2 no
      have S2 := sr_put (e := .d (.list xs)) S1 h1 (.d (.lst (.inl (.inl upd_same)) (dpAll_mono (same_updN q1) q3))) (fun a z => nomatch z)
      rw [List.set_set] at S2
      refine ⟨.ref a, upd F a (.lst vs), h1, S2, ⟨same_updN q1, fun b hb hn => upd_ne fun z => hn ⟨i, _, h, rfl, by rw [z]; exact h1⟩, fun _ _ h _ => h, fun b hb => .inl (own_set_d hb)⟩, .lst (.inl (.inl upd_same)) (dpAll_mono (same_updN q1) q3)⟩
  · cases e
theorem re_var {X : Cx} (i : Nat) {x : Str} {pos : Pos} (hN : X.N[i]? = some x := by rfl) (hv : Vis X.env.scope x := by first | exact Or.inl rfl | exact Or.inr (Or.inl rfl) | exact Or.inr (Or.inr rfl)) (hd : (x == ("__debug__" : Str)) = false := by decide)
    (hcd : (x == ("__classdict__" : Str)) = false := by decide) : RE X (.Name x pos) (gv i) :=
  ⟨_, pe_var hN hv hd hcd, fun σ H F r d r' Q S e hQ => by
    obtain ⟨v, F', h1, h2, h3, h4⟩ := gv_sound S e
    exact ⟨v, h1, hQ v F' H h2 h3 h4⟩⟩

/-! ### operators -/
def OpOk (X : Cx) (f : Value → Value → Sem Value) (o : PyData → PyData → Option PyData) : Prop :=
  ∃ r : R2, OpR X f r ∧ ∀ (x y : V) (dx dy d : PyData) (F H : Hp) (Q : VK), Same F H → Dp X.K F x dx → Dp X.K F y dy → o dx dy = some d →
    (∀ v F' H', Px F H F' H' → Dp X.K F' v d → Q v H') → r x y H Q
def bop (o : PyData → PyData → Option PyData) (f g : M PyData) : M PyData := bnd f fun x => bnd g fun y => lft (o x y)
section
variable {X : Cx} {a b c : Expr} {f g h : M PyData} {pos : Pos}
/-- two in a row -/
theorem two_run {ta tb : TE} {o : PyData → PyData → Option PyData} {rr : R2}
    (ka : ∀ (σ : St) (H F : Hp) (r : Rho) (d : PyData) (r' : Rho) (Q : VK), SR X.prog X.w X.K F H σ r → f r = some (d, r') → (∀ v F' H', SR X.prog X.w X.K F' H' σ r' → Go σ r F H σ r' F' H' → Dp X.K F' v d → Q v H') → ta σ H Q)
    (kb : ∀ (σ : St) (H F : Hp) (r : Rho) (d : PyData) (r' : Rho) (Q : VK), SR X.prog X.w X.K F H σ r → g r = some (d, r') → (∀ v F' H', SR X.prog X.w X.K F' H' σ r' → Go σ r F H σ r' F' H' → Dp X.K F' v d → Q v H') → tb σ H Q)
    (ko : ∀ (x y : V) (dx dy d : PyData) (F H : Hp) (Q : VK), Same F H → Dp X.K F x dx → Dp X.K F y dy → o dx dy = some d → (∀ v F' H', Px F H F' H' → Dp X.K F' v d → Q v H') → rr x y H Q)
    (σ : St) (H F : Hp) (r : Rho) (d : PyData) (r' : Rho) (Q : VK) (S : SR X.prog X.w X.K F H σ r) (e : bop o f g r = some (d, r'))
    (hQ : ∀ v F' H', SR X.prog X.w X.K F' H' σ r' → Go σ r F H σ r' F' H' → Dp X.K F' v d → Q v H') : tOp rr ta tb σ H Q := by
  obtain ⟨x, r1, e1, e⟩ := bnd_some e
  obtain ⟨y, r2, e2, e⟩ := bnd_some e
  obtain ⟨z, e3, e⟩ := lft_some e
  cases e
  refine ka σ H F r x r1 _ S e1 fun v F1 H1 S1 G1 D1 => ?_
  refine kb σ H1 F1 r1 y _ _ S1 e2 fun u F2 H2 S2 G2 D2 => ?_
  refine ko v u x y _ F2 H2 Q S2.sub (dp_mono G2.same D1) D2 e3 fun z F3 H3 p D3 => ?_
  exact hQ z F3 H3 (S2.px p) (G1.trans (G2.trans (.px p))) D3
theorem re_bop {op : Operator} {o : PyData → PyData → Option PyData} (ho : OpOk X (binaryOp op) o) (ha : RE X a f) (hb : RE X b g) : RE X (.BinOp a op b pos) (bop o f g) := by
  obtain ⟨rr, ro, ko⟩ := ho
  obtain ⟨ta, pa, ka⟩ := ha.ex
  obtain ⟨tb, pb, kb⟩ := hb.ex
  exact ⟨_, pe_op ro pa pb, two_run ka kb ko⟩
/-- comparisons -/
def CmOk (X : Cx) (op : CmpOp) (o : PyData → PyData → Option Bool) : Prop := OpOk X (compareOp op) fun x y => (o x y).map .bool
def cmp (o : PyData → PyData → Option Bool) (f g : M PyData) : M PyData := bop (fun x y => (o x y).map .bool) f g
def cmpT (o : PyData → PyData → Option Bool) (f g : M PyData) : M Bool := bnd f fun x => bnd g fun y => lft (o x y)
theorem re_cmp {op : CmpOp} {o : PyData → PyData → Option Bool} (ho : CmOk X op o) (ha : RE X a f) (hb : RE X b g) (hm : behindInMarks op b = false) : RE X (.Compare a [op] [b] pos) (cmp o f g) := by
  obtain ⟨rr, ro, ko⟩ := ho
  obtain ⟨ta, pa, ka⟩ := ha.ex
  obtain ⟨tb, pb, kb⟩ := hb.ex
  exact ⟨_, pe_cmpR ro pa pb hm, two_run ka kb ko⟩
theorem rt_cmp {op : CmpOp} {o : PyData → PyData → Option Bool} (ho : CmOk X op o) (ha : RE X a f) (hb : RE X b g) (hm : behindInMarks op b = false) : RT X (.Compare a [op] [b] pos) (cmpT o f g) := by
  obtain ⟨rr, ro, ko⟩ := ho
  obtain ⟨ta, pa, ka⟩ := ha.ex
  obtain ⟨tb, pb, kb⟩ := hb.ex
  refine ⟨_, pt_cmpR ro pa pb hm, fun σ H F r k r' Q S e hQ => ?_⟩
  obtain ⟨x, r1, e1, e⟩ := bnd_some e
  obtain ⟨y, r2, e2, e⟩ := bnd_some e
  obtain ⟨z, e3, e⟩ := lft_some e
  cases e
  refine two_run ka kb ko σ H F r (.bool k) _ _ S (show bop _ f g r = _ by unfold bop bnd lft; simp only [e1, e2, e3]; rfl) fun v F' H' S' G D => ?_
  cases D
  exact ⟨k, rfl, hQ F' H' S' G⟩
/-- a chain of two -/
def chn (o o' : PyData → PyData → Option Bool) (f g h : M PyData) : M Bool := bnd f fun x => bnd g fun y => bnd (lft (o x y)) fun k => if k = true then bnd h fun z => lft (o' y z) else ret false
def asD (f : M Bool) : M PyData := bnd f fun b => ret (.bool b)
theorem chain_run {op op' : CmpOp} {o o' : PyData → PyData → Option Bool} (ho : CmOk X op o) (ho' : CmOk X op' o') (ha : RE X a f) (hb : RE X b g) (hc : RE X c h) :
    ∃ (rr rr' : R2) (ta tb tc : TE), OpR X (compareOp op) rr ∧ OpR X (compareOp op') rr' ∧ PE X a ta ∧ PE X b tb ∧ PE X c tc ∧
      ∀ (σ : St) (H F : Hp) (r : Rho) (k : Bool) (r' : Rho) (Q : VK), SR X.prog X.w X.K F H σ r → chn o o' f g h r = some (k, r') →
      (∀ F' H', SR X.prog X.w X.K F' H' σ r' → Go σ r F H σ r' F' H' → Q (.bl k) H') → tChain rr rr' ta tb tc σ H Q := by
  obtain ⟨rr, ro, ko⟩ := ho
  obtain ⟨rr', ro', ko'⟩ := ho'
  obtain ⟨ta, pa, ka⟩ := ha.ex
  obtain ⟨tb, pb, kb⟩ := hb.ex
  obtain ⟨tc, pc, kc⟩ := hc.ex
  refine ⟨rr, rr', ta, tb, tc, ro, ro', pa, pb, pc, fun σ H F r k r' Q S e hQ => ?_⟩
  obtain ⟨x, r1, e1, e⟩ := bnd_some e
  obtain ⟨y, r2, e2, e⟩ := bnd_some e
  obtain ⟨k1, r3, e3, e⟩ := bnd_some e
  obtain ⟨k2, e3', e4⟩ := lft_some e3
  cases e4
  refine ka σ H F r x r1 _ S e1 fun v F1 H1 S1 G1 D1 => ?_
  refine kb σ H1 F1 r1 y _ _ S1 e2 fun u F2 H2 S2 G2 D2 => ?_
  refine ko v u x y (.bool k1) F2 H2 _ S2.sub (dp_mono G2.same D1) D2 (by show (o x y).map _ = _; rw [e3']; rfl) fun z F3 H3 p D3 => ?_
  cases D3
  refine ⟨k1, rfl, ?_⟩
  have S3 := S2.px p
  have G3 := G1.trans (G2.trans (.px p))
  cases k1 with
  | false =>
    rw [if_neg (by decide)] at e ⊢
    cases ret_some e
    exact hQ F3 H3 S3 G3
  | true =>
    rw [if_pos rfl] at e ⊢
    obtain ⟨z, r4, e5, e⟩ := bnd_some e
    obtain ⟨k3, e6, e7⟩ := lft_some e
    cases e7
    refine kc σ H3 F3 _ z _ _ S3 e5 fun w' F4 H4 S4 G4 D4 => ?_
    refine ko' u w' y z (.bool k) F4 H4 Q S4.sub (dp_mono G4.same (dp_mono p.same D2)) D4 (by show (o' y z).map _ = _; rw [e6]; rfl) fun t F5 H5 p5 D5 => ?_
    cases D5
    exact hQ F5 H5 (S4.px p5) (G3.trans (G4.trans (.px p5)))
theorem re_chain {op op' : CmpOp} {o o' : PyData → PyData → Option Bool} (ho : CmOk X op o) (ho' : CmOk X op' o') (ha : RE X a f) (hb : RE X b g) (hc : RE X c h)
    (hm : lastMarks [op, op'] [b, c] = false := by with_unfolding_all rfl) : RE X (.Compare a [op, op'] [b, c] pos) (asD (chn o o' f g h)) := by
  obtain ⟨rr, rr', ta, tb, tc, ro, ro', pa, pb, pc, k⟩ := chain_run ho ho' ha hb hc
  refine ⟨_, pe_chain ro ro' pa pb pc hm, fun σ H F r d r' Q S e hQ => ?_⟩
  obtain ⟨q, r1, e1, e⟩ := bnd_some e
  cases ret_some e
  exact k σ H F r q _ Q S e1 fun F' H' S' G => hQ _ F' H' S' G (.bl q)
theorem rt_chain {op op' : CmpOp} {o o' : PyData → PyData → Option Bool} (ho : CmOk X op o) (ho' : CmOk X op' o') (ha : RE X a f) (hb : RE X b g) (hc : RE X c h)
    (hm : lastMarks [op, op'] [b, c] = false := by with_unfolding_all rfl) : RT X (.Compare a [op, op'] [b, c] pos) (chn o o' f g h) := by
  obtain ⟨rr, rr', ta, tb, tc, ro, ro', pa, pb, pc, k⟩ := chain_run ho ho' ha hb hc
  refine ⟨_, pt_chain ro ro' pa pb pc hm, fun σ H F r q r' Q S e hQ => ?_⟩
  exact k σ H F r q _ _ S e fun F' H' S' G => ⟨q, rfl, hQ F' H' S' G⟩
end

/-! ### tests -/
def asB (d : PyData) : M Bool := match d with
  | .bool b => ret b
  | _ => fun _ => none
def tst (f : M PyData) : M Bool := bnd f asB
theorem asB_some {d : PyData} {r : Rho} {x : Bool × Rho} (h : asB d r = some x) : ∃ b, d = .bool b ∧ x = (b, r) := by
  unfold asB at h
  split at h
  · exact ⟨_, rfl, ret_some h⟩
  · cases h
def andT (f g : M Bool) : M Bool := bnd f fun b => if b = true then g else ret false
def orT (f g : M Bool) : M Bool := bnd f fun b => if b = true then ret true else g
def notT (f : M Bool) : M Bool := bnd f fun b => ret (!b)
structure RW (X : Cx) (e : Expr) (f : M Bool) : Prop where
  ex : ∃ t : TT, PW X e t ∧ ∀ (σ : St) (H F : Hp) (r : Rho) (b : Bool) (r' : Rho) (Q : Bool → Hp → Prop), SR X.prog X.w X.K F H σ r → f r = some (b, r') →
    (∀ F' H', SR X.prog X.w X.K F' H' σ r' → Go σ r F H σ r' F' H' → Q b H') → t σ H Q
section
variable {X : Cx} {a b c : Expr} {f g : M PyData} {p q : M Bool} {pos : Pos} {rest : List Expr}
theorem RW.rt (h : RW X a p) : RT X a p := let ⟨t, x, k⟩ := h.ex; ⟨t, x.pt, k⟩
theorem rt_val (h : RE X a f) (he : ∀ whole, isTrue a X.env whole = (do let v ← whole; standAt a.pos; holding [v] (truthy v)) := by intro _; rfl) : RT X a (tst f) := by
  obtain ⟨t, pe, k⟩ := h.ex
  refine ⟨_, pt_val pe he, fun σ H F r b r' Q S e hQ => ?_⟩
  obtain ⟨d, r1, e1, e⟩ := bnd_some e
  obtain ⟨b', rfl, e2⟩ := asB_some e
  cases e2
  refine k σ H F r _ _ _ S e1 fun v F' H' S' G D => ?_
  cases D
  exact ⟨b, rfl, hQ F' H' S' G⟩
theorem rw_and1 (h : RT X a p) : RW X (.BoolOp .And [a] pos) p := let ⟨t, x, k⟩ := h.ex; ⟨t, pw_and1 x, k⟩
theorem rw_or1 (h : RT X a p) : RW X (.BoolOp .Or [a] pos) p := let ⟨t, x, k⟩ := h.ex; ⟨t, pw_or1 x, k⟩
theorem rw_and (ha : RT X a p) (hb : RW X (.BoolOp .And (b :: rest) pos) q) : RW X (.BoolOp .And (a :: b :: rest) pos) (andT p q) := by
  obtain ⟨t, x, k⟩ := ha.ex
  obtain ⟨u, y, l⟩ := hb.ex
  refine ⟨_, pw_and x y, fun σ H F r b r' Q S e hQ => ?_⟩
  obtain ⟨b1, r1, e1, e⟩ := bnd_some e
  refine k σ H F r b1 r1 _ S e1 fun F1 H1 S1 G1 => ?_
  cases b1 with
  | true =>
    rw [if_pos rfl] at e ⊢
    exact l σ H1 F1 r1 b r' Q S1 e fun F2 H2 S2 G2 => hQ F2 H2 S2 (G1.trans G2)
  | false =>
    rw [if_neg (by decide)] at e ⊢
    cases ret_some e
    exact hQ F1 H1 S1 G1
theorem rw_or (ha : RT X a p) (hb : RW X (.BoolOp .Or (b :: rest) pos) q) : RW X (.BoolOp .Or (a :: b :: rest) pos) (orT p q) := by
  obtain ⟨t, x, k⟩ := ha.ex
  obtain ⟨u, y, l⟩ := hb.ex
  refine ⟨_, pw_or x y, fun σ H F r b r' Q S e hQ => ?_⟩
  obtain ⟨b1, r1, e1, e⟩ := bnd_some e
  refine k σ H F r b1 r1 _ S e1 fun F1 H1 S1 G1 => ?_
  cases b1 with
  | false =>
    rw [if_neg (by decide)] at e ⊢
    exact l σ H1 F1 r1 b r' Q S1 e fun F2 H2 S2 G2 => hQ F2 H2 S2 (G1.trans G2)
  | true =>
    rw [if_pos rfl] at e ⊢
    cases ret_some e
    exact hQ F1 H1 S1 G1
theorem rt_not (ha : RT X a p) : RT X (.UnaryOp .Not a pos) (notT p) := by
  obtain ⟨t, x, k⟩ := ha.ex
  refine ⟨_, pt_not x, fun σ H F r b r' Q S e hQ => ?_⟩
  obtain ⟨b1, r1, e1, e⟩ := bnd_some e
  cases ret_some e
  exact k σ H F r b1 _ _ S e1 fun F1 H1 S1 G1 => hQ F1 H1 S1 G1
/-! as values -/
def andV (f g : M PyData) : M PyData := bnd (tst f) fun b => if b = true then g else ret (.bool false)
def orV (f g : M PyData) : M PyData := bnd (tst f) fun b => if b = true then ret (.bool true) else g
def notV (f : M PyData) : M PyData := bnd (tst f) fun b => ret (.bool !b)
theorem re_one {op} (h : RE X a f) : RE X (.BoolOp op [a] pos) f := let ⟨t, x, k⟩ := h.ex; ⟨t, pe_one x, k⟩
theorem re_and (ha : RE X a f) (hb : RE X (.BoolOp .And (b :: rest) pos) g) : RE X (.BoolOp .And (a :: b :: rest) pos) (andV f g) := by
  obtain ⟨t, x, k⟩ := ha.ex
  obtain ⟨u, y, l⟩ := hb.ex
  refine ⟨_, pe_and x y, fun σ H F r d r' Q S e hQ => ?_⟩
  obtain ⟨b1, r1, e1, e⟩ := bnd_some e
  obtain ⟨d1, r2, e1, e2⟩ := bnd_some e1
  obtain ⟨b2, rfl, e3⟩ := asB_some e2
  cases e3
  refine k σ H F r _ _ _ S e1 fun v F1 H1 S1 G1 D1 => ?_
  cases D1
  refine ⟨b1, rfl, ?_⟩
  cases b1 with
  | true =>
    rw [if_pos rfl] at e ⊢
    exact l σ H1 F1 _ d r' Q S1 e fun v F2 H2 S2 G2 => hQ v F2 H2 S2 (G1.trans G2)
  | false =>
    rw [if_neg (by decide)] at e ⊢
    cases ret_some e
    exact hQ _ F1 H1 S1 G1 (.bl false)
theorem re_or (ha : RE X a f) (hb : RE X (.BoolOp .Or (b :: rest) pos) g) : RE X (.BoolOp .Or (a :: b :: rest) pos) (orV f g) := by
  obtain ⟨t, x, k⟩ := ha.ex
  obtain ⟨u, y, l⟩ := hb.ex
  refine ⟨_, pe_or x y, fun σ H F r d r' Q S e hQ => ?_⟩
  obtain ⟨b1, r1, e1, e⟩ := bnd_some e
  obtain ⟨d1, r2, e1, e2⟩ := bnd_some e1
  obtain ⟨b2, rfl, e3⟩ := asB_some e2
  cases e3
  refine k σ H F r _ _ _ S e1 fun v F1 H1 S1 G1 D1 => ?_
  cases D1
  refine ⟨b1, rfl, ?_⟩
  cases b1 with
  | false =>
    rw [if_neg (by decide)] at e ⊢
    exact l σ H1 F1 _ d r' Q S1 e fun v F2 H2 S2 G2 => hQ v F2 H2 S2 (G1.trans G2)
  | true =>
    rw [if_pos rfl] at e ⊢
    cases ret_some e
    exact hQ _ F1 H1 S1 G1 (.bl true)
theorem re_not (ha : RE X a f) : RE X (.UnaryOp .Not a pos) (notV f) := by
  obtain ⟨t, x, k⟩ := ha.ex
  refine ⟨_, pe_not x, fun σ H F r d r' Q S e hQ => ?_⟩
  obtain ⟨b1, r1, e1, e⟩ := bnd_some e
  obtain ⟨d1, r2, e1, e2⟩ := bnd_some e1
  obtain ⟨b2, rfl, e3⟩ := asB_some e2
  cases e3
  cases ret_some e
  refine k σ H F r _ _ _ S e1 fun v F1 H1 S1 G1 D1 => ?_
  cases D1
  exact ⟨b1, rfl, hQ _ F1 H1 S1 G1 (.bl _)⟩
def ifE (p : M Bool) (f g : M PyData) : M PyData := bnd p fun b => if b = true then f else g
theorem re_if (hc : RT X c p) (ha : RE X a f) (hb : RE X b g) : RE X (.IfExp c a b pos) (ifE p f g) := by
  obtain ⟨t, x, k⟩ := hc.ex
  obtain ⟨u, y, l⟩ := ha.ex
  obtain ⟨u', y', l'⟩ := hb.ex
  refine ⟨_, pe_ifExp x y y', fun σ H F r d r' Q S e hQ => ?_⟩
  obtain ⟨b1, r1, e1, e⟩ := bnd_some e
  refine k σ H F r b1 r1 _ S e1 fun F1 H1 S1 G1 => ?_
  cases b1 with
  | true =>
    rw [if_pos rfl] at e ⊢
    exact l σ H1 F1 r1 d r' Q S1 e fun v F2 H2 S2 G2 => hQ v F2 H2 S2 (G1.trans G2)
  | false =>
    rw [if_neg (by decide)] at e ⊢
    exact l' σ H1 F1 r1 d r' Q S1 e fun v F2 H2 S2 G2 => hQ v F2 H2 S2 (G1.trans G2)
end

/-! ### argument lists, displays -/
def aNil : M (List PyData) := ret []
def aCons (f : M PyData) (g : M (List PyData)) : M (List PyData) := bnd f fun x => bnd g fun xs => ret (x :: xs)
section
variable {X : Cx} {e : Expr} {es : List Expr} {f : M PyData} {g : M (List PyData)} {pos : Pos}
theorem ra_nil : RA X [] aNil := ⟨_, pa_nil, fun σ H F r d r' Q S e hQ => by cases ret_some e; exact hQ _ F H S .refl .nil⟩
theorem ra_cons (ha : RE X e f) (hr : RA X es g) (hs : starEach (e :: es) X.env = (false, eval e X.env) :: starEach es X.env := by rfl) : RA X (e :: es) (aCons f g) := by
  obtain ⟨t, x, k⟩ := ha.ex
  obtain ⟨u, y, l⟩ := hr.ex
  refine ⟨_, pa_cons x y hs, fun σ H F r d r' Q S e hQ => ?_⟩
  obtain ⟨d1, r1, e1, e⟩ := bnd_some e
  obtain ⟨d2, r2, e2, e⟩ := bnd_some e
  cases ret_some e
  refine k σ H F r d1 r1 _ S e1 fun v F1 H1 S1 G1 D1 => ?_
  refine l σ H1 F1 r1 d2 _ _ S1 e2 fun vs F2 H2 S2 G2 D2 => ?_
  exact hQ _ F2 H2 S2 (G1.trans G2) (.cons (dp_mono G2.same D1) D2)
def mkT (g : M (List PyData)) : M PyData := bnd g fun xs => if xs.length ≤ 16777216 then ret (.tuple xs) else fun _ => none
def mkL (g : M (List PyData)) : M Ent := bnd g fun xs => if xs.length ≤ 16777216 then ret (.ml xs) else fun _ => none
theorem re_tup {x1} (h : RA X es g) : RE X (.Tuple es x1 pos) (mkT g) := by
  obtain ⟨t, x, k⟩ := h.ex
  refine ⟨_, pe_tup x, fun σ H F r d r' Q S e hQ => ?_⟩
  obtain ⟨d1, r1, e1, e⟩ := bnd_some e
  split at e
  · rename_i hz
    cases ret_some e
    refine k σ H F r d1 _ _ S e1 fun vs F1 H1 S1 G1 D1 => ⟨by rw [D1.length, sl_eq]; exact hz, fun p hp => ?_⟩
    have px := Px.new S1.sub (.tup vs) hp
    exact hQ _ _ _ (S1.px px) (G1.trans (.px px)) (.tup (.inl (.inl upd_same)) (dpAll_mono px.same D1))
  · cases e
theorem rx_lst (h : RA X es g) : RX X (.List es pos) (mkL g) := by
  obtain ⟨t, x, k⟩ := h.ex
  refine ⟨_, pe_lst x, fun σ H F r d r' Q S e hQ => ?_⟩
  obtain ⟨d1, r1, e1, e⟩ := bnd_some e
  split at e
  · rename_i hz
    cases ret_some e
    refine k σ H F r d1 _ _ S e1 fun vs F1 H1 S1 G1 D1 => ⟨by rw [D1.length, sl_eq]; exact hz, fun p hp => ?_⟩
    have px := Px.newH S1.sub (.lst vs) hp
    have hF : F1 p = none := S1.sub.free hp
    have nown : ¬ OwnAt r' σ p := fun z => by
      obtain ⟨_, u, hu⟩ := S1.has z
      rw [hp] at hu
      cases hu
    refine hQ _ _ _ (S1.px px) (G1.trans (.px px)) ⟨.ml hF upd_same D1, fun a _ ea => ?_⟩
    cases ea
    refine ⟨?_, nown⟩
    by_cases ho : OwnAt r σ p
    · exact .inl ho
    · right
      cases z : H p with
      | none => rfl
      | some o => rw [G1.keep p o z ho] at hp; cases hp
  · cases e
end
end G65
namespace G65
open PySem PySem.Spec PyProof.Rows L2

/-! ### + - * // % ** -/
def rCatL (K : PySem.W.Frag) : R2 := fun x y H Q => ∃ l b xs zs, x = .ref l ∧ y = .ref b ∧ SqL K H l xs ∧ SqL K H b zs ∧ xs.length + zs.length ≤ sizeLine ∧ ∀ p, H p = none → Q (.ref p) (upd H p (.lst (xs ++ zs)))
theorem op_catL {X : Cx} : OpR X (binaryOp .Add) (rCatL X.K) := by
  intro pins s σ H x y v u Q I rx ry h
  obtain ⟨l, b, xs, zs, rfl, rfl, hH, hB, hz, q⟩ := h
  cases rx
  cases ry
  obtain ⟨its, r, pl, z⟩ := I.list hH
  obtain ⟨its2, r2, pl2, z2⟩ := I.list hB
  have hl := r.length
  have hl2 := r2.length
  obtain ⟨⟨cls, dd, data, sl⟩, n, ho, hc, hd0, hd⟩ := pl
  obtain ⟨⟨cls2, dd2, data2, sl2⟩, n2, ho2, hc2, hd02, hd2⟩ := pl2
  simp only at hc hd hc2 hd2 hd0 hd02
  subst hc hd hc2 hd2 hd0 hd02
  have e : its.toArray ++ its2.toArray = (its ++ its2).toArray := by simp
  refine concat_meets ⟨_, ho, rfl⟩ ⟨_, ho2, rfl⟩ noFill_list_add seq_list_add PySem.F.slot_list_add PySem.F.entry_list_add (PySem.F.args_list_add_2 _ _) (list_addW l b its.toArray its2.toArray n n2 none none sl sl2 (by rw [List.size_toArray, List.size_toArray]; omega)) ⟨ho, ho2, ?_⟩
  rw [e]
  exact ⟨.ref _, _, I.lnew (t' := s.toks) (r.append r2) (by rw [List.length_append]; omega), rfl, q _ I.fresh⟩
def addD : PyData → PyData → Option PyData
  | .int a, .int b => some (.int (a + b))
  | .tuple a, .tuple b => if a.length + b.length ≤ 16777216 then some (.tuple (a ++ b)) else none
  | .list a, .list b => if a.length + b.length ≤ 16777216 then some (.list (a ++ b)) else none
  | _, _ => none
section
variable {X : Cx}
theorem op_addD : OpOk X (binaryOp .Add) addD := by
  refine ⟨_, op_add.or (op_catA.or op_catL), fun x y dx dy d F H Q s D1 D2 e hQ => ?_⟩
  cases D1 with
  | int i =>
    cases D2 with
    | int j =>
      cases e
      exact .inl ⟨i, j, rfl, rfl, hQ _ F H (.refl s) (.int _)⟩
    | _ => cases e
  | @lst a xs ds h1 h2 =>
    cases D2 with
    | @lst b ys es h3 h4 =>
      simp only [addD] at e
      split at e
      · rename_i hz
        cases e
        refine .inr (.inr ⟨a, b, xs, ys, rfl, rfl, s.seq h1, s.seq h3, by rw [h2.length, h4.length, sl_eq]; exact hz, fun p hp => ?_⟩)
        have px := Px.new s (.lst (xs ++ ys)) hp
        exact hQ _ _ _ px (.lst (.inl (.inl upd_same)) (dpAll_mono px.same (h2.append h4)))
      · cases e
    | _ => cases e
  | @tup a xs ds h1 h2 =>
    cases D2 with
    | @tup b ys es h3 h4 =>
      simp only [addD] at e
      split at e
      · rename_i hz
        cases e
        refine .inr (.inl ⟨a, b, xs, ys, rfl, rfl, same_seqT s h1, same_seqT s h3, by rw [h2.length, h4.length, sl_eq]; exact hz, fun e0 => ?_, fun _ e0 => ?_, fun _ _ p hp => ?_⟩)
        · subst e0
          cases h2
          exact hQ _ F H (.refl s) (.tup h3 h4)
        · subst e0
          cases h4
          rw [List.append_nil] at hQ
          exact hQ _ F H (.refl s) (.tup h1 h2)
        · have px := Px.new s (.tup (xs ++ ys)) hp
          exact hQ _ _ _ px (.tup (.inl (.inl upd_same)) (dpAll_mono px.same (h2.append h4)))
      · cases e
    | _ => cases e
  | _ => cases D2 <;> cases e
def subD : PyData → PyData → Option PyData
  | .int a, .int b => some (.int (a - b))
  | _, _ => none
theorem op_subD : OpOk X (binaryOp .Sub) subD := by
  refine ⟨_, op_sub, fun x y dx dy d F H Q s D1 D2 e hQ => ?_⟩
  cases D1 <;> cases D2 <;> first | (cases e; done) | skip
  cases e
  exact ⟨_, _, rfl, rfl, hQ _ F H (.refl s) (.int _)⟩
def modD : PyData → PyData → Option PyData
  | .int a, .int b => if 0 < b then some (.int (a % b)) else none
  | _, _ => none
theorem op_modD : OpOk X (binaryOp .Mod) modD := by
  refine ⟨_, op_mod, fun x y dx dy d F H Q s D1 D2 e hQ => ?_⟩
  cases D1 <;> cases D2 <;> first | (cases e; done) | skip
  simp only [modD] at e
  split at e
  · rename_i hz
    cases e
    exact ⟨_, _, rfl, rfl, hz, hQ _ F H (.refl s) (.int _)⟩
  · cases e
def fdivD : PyData → PyData → Option PyData
  | .int a, .int b => if 0 < b ∧ b < 18446744073709551616 then some (.int (a / b)) else none
  | _, _ => none
theorem op_fdivD : OpOk X (binaryOp .FloorDiv) fdivD := by
  refine ⟨_, op_fdivW, fun x y dx dy d F H Q s D1 D2 e hQ => ?_⟩
  cases D1 <;> cases D2 <;> first | (cases e; done) | skip
  simp only [fdivD] at e
  split at e
  · rename_i hz
    cases e
    refine ⟨_, _, rfl, rfl, wide_div (b := 64) hz.1 (by have := hz.1; have := hz.2; omega) (by decide) (by decide), hQ _ F H (.refl s) (.int _)⟩
  · cases e
def powD : PyData → PyData → Option PyData
  | .int a, .int b => if 0 ≤ b ∧ b ≤ 1000000 ∧ a.natAbs < 18446744073709551616 then some (.int (a ^ b.toNat)) else none
  | _, _ => none
theorem op_powD : OpOk X (binaryOp .Pow) powD := by
  refine ⟨_, op_pow, fun x y dx dy d F H Q s D1 D2 e hQ => ?_⟩
  cases D1 <;> cases D2 <;> first | (cases e; done) | skip
  simp only [powD] at e
  split at e
  · rename_i hz
    cases e
    exact ⟨_, _, rfl, rfl, ⟨hz.1, hz.2.1, hz.2.2⟩, hQ _ F H (.refl s) (.int _)⟩
  · cases e
def mulD : PyData → PyData → Option PyData
  | .int a, .int b => if (-18446744073709551616 < a ∧ a < 18446744073709551616) ∨ (-18446744073709551616 < b ∧ b < 18446744073709551616) then some (.int (a * b)) else none
  | .tuple a, .int k => if a.length ≤ 1000 ∧ 2 ≤ k ∧ k ≤ 1000 ∧ a.isEmpty = false then some (.tuple (List.replicate k.toNat a).flatten) else none
  | _, _ => none
theorem op_mulD : OpOk X (binaryOp .Mult) mulD := by
  refine ⟨_, op_mul.or op_repT, fun x y dx dy d F H Q s D1 D2 e hQ => ?_⟩
  cases D1 with
  | int i =>
    cases D2 with
    | int j =>
      simp only [mulD] at e
      split at e
      · rename_i hz
        cases e
        exact .inl ⟨i, j, rfl, rfl, hz, hQ _ F H (.refl s) (.int _)⟩
      · cases e
    | _ => cases e
  | @tup a xs ds h1 h2 =>
    cases D2 with
    | int k =>
      simp only [mulD] at e
      split at e
      · rename_i hz
        obtain ⟨z1, z2, z3, z4⟩ := hz
        cases e
        refine .inr ⟨a, k, xs, rfl, rfl, same_seqT s h1, fun e0 => ?_, z2, z3, by rw [h2.length]; exact z1, fun p hp => ?_⟩
        · subst e0
          cases h2
          cases z4
        · have px := Px.new s (.tup (List.replicate k.toNat xs).flatten) hp
          exact hQ _ _ _ px (.tup (.inl (.inl upd_same)) (dpAll_mono px.same (h2.rep _)))
      · cases e
    | _ => cases e
  | _ => cases D2 <;> cases e
/-! ### comparisons -/
def intCmp (p : Int → Int → Bool) : PyData → PyData → Option Bool
  | .int a, .int b => some (p a b)
  | _, _ => none
theorem cm_int {op : CmpOp} {p : Int → Int → Bool} (h : OpR X (compareOp op) (rI0 fun i j => .bl (p i j))) : CmOk X op (intCmp p) := by
  refine ⟨_, h, fun x y dx dy d F H Q s D1 D2 e hQ => ?_⟩
  cases D1 <;> cases D2 <;> first | (cases e; done) | skip
  cases e
  exact ⟨_, _, rfl, rfl, hQ _ F H (.refl s) (.bl _)⟩
def ltD := intCmp fun a b => decide (a < b)
def leD := intCmp fun a b => decide (a ≤ b)
def gtD := intCmp fun a b => decide (b < a)
def geD := intCmp fun a b => decide (b ≤ a)
theorem cm_lt : CmOk X .Lt ltD := cm_int op_lt
theorem cm_le : CmOk X .LtE leD := cm_int op_le
theorem cm_gt : CmOk X .Gt gtD := cm_int op_gt
theorem cm_ge : CmOk X .GtE geD := cm_int op_ge
def eqD (x y : PyData) : Option Bool := if SeqAt.shaped x && SeqAt.shaped y then some (PyData.eqv x y) else none
def neD (x y : PyData) : Option Bool := if SeqAt.shaped x && SeqAt.shaped y then some (!PyData.eqv x y) else none
theorem cm_eq {k : Nat} (hr : Room k X.A) : CmOk X .Eq eqD := by
  refine ⟨_, op_eqD hr.units, fun x y dx dy d F H Q s D1 D2 e hQ => ?_⟩
  simp only [eqD] at e
  split at e
  · rename_i hz
    rw [Bool.and_eq_true] at hz
    cases e
    exact ⟨dx, dy, dp_mono s D1, dp_mono s D2, hz.1, hz.2, hQ _ F H (.refl s) (.bl _)⟩
  · cases e
theorem cm_ne {k : Nat} (hr : Room k X.A) : CmOk X .NotEq neD := by
  refine ⟨_, op_neD hr.units, fun x y dx dy d F H Q s D1 D2 e hQ => ?_⟩
  simp only [neD] at e
  split at e
  · rename_i hz
    rw [Bool.and_eq_true] at hz
    cases e
    exact ⟨dx, dy, dp_mono s D1, dp_mono s D2, hz.1, hz.2, hQ _ F H (.refl s) (.bl _)⟩
  · cases e
def inD (x y : PyData) : Option Bool := match y with
  | .list ds => if SeqAt.shaped x && SeqAt.shaped (.list ds) then some (ds.any fun z => PyData.eqv z x) else none
  | _ => none
def ninD (x y : PyData) : Option Bool := match y with
  | .list ds => if SeqAt.shaped x && SeqAt.shaped (.list ds) then some (!ds.any fun z => PyData.eqv z x) else none
  | _ => none
theorem cm_in {k : Nat} (hr : Room k X.A) : CmOk X .In inD := by
  refine ⟨_, op_inD (by have := hr.un; omega), fun x y dx dy d F H Q s D1 D2 e hQ => ?_⟩
  cases D2 <;> first | (cases e; done) | skip
  rename_i h1 h2
  simp only [inD] at e
  split at e
  · rename_i hz
    rw [Bool.and_eq_true] at hz
    cases e
    exact ⟨dx, _, dp_mono s D1, .lst (s.seq h1) (dpAll_mono s h2), hz.1, hz.2, hQ _ F H (.refl s) (.bl _)⟩
  · cases e
theorem cm_nin {k : Nat} (hr : Room k X.A) : CmOk X .NotIn ninD := by
  refine ⟨_, op_notInD (by have := hr.un; omega), fun x y dx dy d F H Q s D1 D2 e hQ => ?_⟩
  cases D2 <;> first | (cases e; done) | skip
  rename_i h1 h2
  simp only [ninD] at e
  split at e
  · rename_i hz
    rw [Bool.and_eq_true] at hz
    cases e
    exact ⟨dx, _, dp_mono s D1, .lst (s.seq h1) (dpAll_mono s h2), hz.1, hz.2, hQ _ F H (.refl s) (.bl _)⟩
  · cases e
/-! is None, is not None, is False .. -/
def isN : PyData → PyData → Option Bool
  | .none, .none => some true
  | .bool a, .bool b => some (decide (a = b))
  | x, .none => some (match x with | .none => true | _ => false)
  | _, _ => none
def isnN : PyData → PyData → Option Bool
  | .bool a, .bool b => some (!decide (a = b))
  | x, .none => some (match x with | .none => false | _ => true)
  | _, _ => none
theorem cm_is : CmOk X .Is isN := by
  refine ⟨_, op_isN.or op_isBl, fun x y dx dy d F H Q s D1 D2 e hQ => ?_⟩
  cases D2 with
  | non =>
    refine .inl ⟨rfl, ?_⟩
    cases D1 <;> (cases e; exact hQ _ F H (.refl s) (.bl _))
  | bl b =>
    cases D1 with
    | bl a => cases e; exact .inr ⟨a, b, rfl, rfl, hQ _ F H (.refl s) (.bl _)⟩
    | _ => cases e
  | _ => cases D1 <;> cases e
theorem cm_isn : CmOk X .IsNot isnN := by
  refine ⟨_, op_notN.or op_notBl, fun x y dx dy d F H Q s D1 D2 e hQ => ?_⟩
  cases D2 with
  | non =>
    refine .inl ⟨rfl, ?_⟩
    cases D1 <;> (cases e; exact hQ _ F H (.refl s) (.bl _))
  | bl b =>
    cases D1 with
    | bl a => cases e; exact .inr ⟨a, b, rfl, rfl, hQ _ F H (.refl s) (.bl _)⟩
    | _ => cases e
  | _ => cases D1 <;> cases e
end
/-! ### unary minus -/
def negD : PyData → Option PyData
  | .int a => some (.int (-a))
  | _ => none
def uop (o : PyData → Option PyData) (f : M PyData) : M PyData := bnd f fun x => lft (o x)
theorem re_neg {X : Cx} {a : Expr} {f : M PyData} {pos : Pos} (ha : RE X a f) : RE X (.UnaryOp .USub a pos) (uop negD f) := by
  obtain ⟨t, x, k⟩ := ha.ex
  refine ⟨_, pe_un un_neg x, fun σ H F r d r' Q S e hQ => ?_⟩
  obtain ⟨d1, r1, e1, e⟩ := bnd_some e
  obtain ⟨d2, e2, e3⟩ := lft_some e
  cases e3
  refine k σ H F r d1 _ _ S e1 fun v F1 H1 S1 G1 D1 => ?_
  cases D1 <;> first | (cases e2; done) | skip
  cases e2
  exact ⟨_, rfl, hQ _ F1 H1 S1 G1 (.int _)⟩
/-! ### subscripts, slices -/
theorem atI_dp {K : PySem.W.Frag} {F : Hp} {vs : List V} {ds : List PyData} {i : Int} {d : PyData} (h : DpAll K F vs ds) (e : atI ds i = some d) : ∃ v, atI vs i = some v ∧ Dp K F v d := by
  unfold atI at e ⊢
  obtain ⟨j, h1, h2⟩ := Option.bind_eq_some_iff.mp e
  obtain ⟨v, h3, h4⟩ := h.get h2
  exact ⟨v, by rw [h.length, h1]; exact h3, h4⟩
def ixD : PyData → PyData → Option PyData
  | .list xs, .int i => atI xs i
  | .tuple xs, .int i => atI xs i
  | _, _ => none
def cutD {α : Type} (xs : List α) (lo hi : Option Int) : List α := (xs.drop (HT.sIx xs.length 0 lo)).take (HT.sIx xs.length xs.length hi - HT.sIx xs.length 0 lo)
def slD (x : PyData) (lo hi : Option Int) : Option PyData := match x with
  | .list xs => some (.list (cutD xs lo hi))
  | .tuple xs => some (.tuple (cutD xs lo hi))
  | _ => none
theorem cutD_dp {K : PySem.W.Frag} {F : Hp} {vs : List V} {ds : List PyData} (h : DpAll K F vs ds) (lo hi : Option Int) : DpAll K F (cutV vs lo hi) (cutD ds lo hi) := by
  unfold cutV cutD
  rw [h.length]
  exact (h.drop _).take _
theorem cutD_whole {α : Type} {xs : List α} {lo hi : Option Int} (h : HT.sIx xs.length 0 lo = 0 ∧ HT.sIx xs.length xs.length hi = xs.length) : cutD xs lo hi = xs := by
  unfold cutD
  rw [h.1, h.2]
  simp
structure RO (X : Cx) (e : Option Expr) (f : M (Option Int)) : Prop where
  ex : ∃ t : TO, PO X e t ∧ ∀ (σ : St) (H F : Hp) (r : Rho) (d : Option Int) (r' : Rho) (Q : Option Int → Hp → Prop), SR X.prog X.w X.K F H σ r → f r = some (d, r') →
    (∀ F' H', SR X.prog X.w X.K F' H' σ r' → Go σ r F H σ r' F' H' → Q d H') → t σ H Q
def asI (d : PyData) : M (Option Int) := match d with
  | .int i => ret (some i)
  | _ => fun _ => none
section
variable {X : Cx} {a b : Expr} {f g : M PyData} {pos p2 : Pos} {lo hi : Option Expr} {l u : M (Option Int)}
theorem re_ix (ha : RE X a f) (hb : RE X b g) (hs : PlainIx b) : RE X (.Subscript a b pos) (bop ixD f g) := by
  obtain ⟨ta, pa, ka⟩ := ha.ex
  obtain ⟨tb, pb, kb⟩ := hb.ex
  refine ⟨_, pe_ix (ix_list.or ix_tup) pa pb hs, two_run ka kb fun x y dx dy d F H Q s D1 D2 e hQ => ?_⟩
  cases D2 with
  | int i =>
    cases D1 with
    | lst h1 h2 =>
      obtain ⟨v, e1, e2⟩ := atI_dp h2 e
      exact .inl ⟨_, _, i, v, rfl, rfl, s.seq h1, e1, hQ v F H (.refl s) e2⟩
    | tup h1 h2 =>
      obtain ⟨v, e1, e2⟩ := atI_dp h2 e
      exact .inr ⟨_, _, i, v, rfl, rfl, same_seqT s h1, e1, hQ v F H (.refl s) e2⟩
    | _ => cases e
  | _ => cases D1 <;> cases e
theorem ro_none : RO X none (ret none) := ⟨_, po_none, fun σ H F r d r' Q S e hQ => by cases ret_some e; exact hQ F H S .refl⟩
theorem ro_some (h : RE X a f) : RO X (some a) (bnd f asI) := by
  obtain ⟨t, x, k⟩ := h.ex
  refine ⟨_, po_some x, fun σ H F r d r' Q S e hQ => ?_⟩
  obtain ⟨d1, r1, e1, e⟩ := bnd_some e
  refine k σ H F r d1 r1 _ S e1 fun v F1 H1 S1 G1 D1 => ?_
  cases D1 <;> first | (cases e; done) | skip
  cases ret_some e
  exact ⟨_, rfl, hQ F1 H1 S1 G1⟩
def slc (f : M PyData) (l u : M (Option Int)) : M PyData := bnd f fun x => bnd l fun i => bnd u fun j => lft (slD x i j)
theorem re_sl (ha : RE X a f) (hl : RO X lo l) (hu : RO X hi u) : RE X (.Subscript a (.Slice lo hi none p2) pos) (slc f l u) := by
  obtain ⟨t, x, k⟩ := ha.ex
  obtain ⟨tl, xl, kl⟩ := hl.ex
  obtain ⟨tu, xu, ku⟩ := hu.ex
  refine ⟨_, pe_slice (sl_list.or sl_tupA) x xl xu, fun σ H F r d r' Q S e hQ => ?_⟩
  obtain ⟨d1, r1, e1, e⟩ := bnd_some e
  obtain ⟨i, r2, e2, e⟩ := bnd_some e
  obtain ⟨j, r3, e3, e⟩ := bnd_some e
  obtain ⟨d2, e4, e5⟩ := lft_some e
  cases e5
  refine k σ H F r d1 r1 _ S e1 fun v F1 H1 S1 G1 D1 => ?_
  refine kl σ H1 F1 r1 i r2 _ S1 e2 fun F2 H2 S2 G2 => ?_
  refine ku σ H2 F2 r2 j _ _ S2 e3 fun F3 H3 S3 G3 => ?_
  have G := G1.trans (G2.trans G3)
  have D := dp_mono (G2.trans G3).same D1
  cases D with
  | @lst b xs ds h1 h2 =>
    cases e4
    refine .inl ⟨b, xs, rfl, S3.sub.seq h1, fun p hp => ?_⟩
    have px := Px.new S3.sub (.lst (cutV xs i j)) hp
    exact hQ _ _ _ (S3.px px) (G.trans (.px px)) (.lst (.inl (.inl upd_same)) (dpAll_mono px.same (cutD_dp h2 i j)))
  | @tup b xs ds h1 h2 =>
    cases e4
    refine .inr ⟨b, xs, rfl, same_seqT S3.sub h1, fun hw => ?_, fun hw p hp => ?_⟩
    · rw [h2.length] at hw
      rw [cutD_whole hw] at hQ
      exact hQ _ F3 H3 S3 G (.tup h1 h2)
    · have px := Px.new S3.sub (.tup (cutV xs i j)) hp
      exact hQ _ _ _ (S3.px px) (G.trans (.px px)) (.tup (.inl (.inl upd_same)) (dpAll_mono px.same (cutD_dp h2 i j)))
  | _ => cases e4
end
/-! ### calls of built-ins -/
def ClOk (X : Cx) (fv : Value) (o : List PyData → Option PyData) : Prop :=
  ∃ r : List V → Hp → VK → Prop, CallR X fv r ∧ ∀ (vs : List V) (ds : List PyData) (d : PyData) (F H : Hp) (Q : VK), Same F H → DpAll X.K F vs ds → o ds = some d →
    (∀ v F' H', Px F H F' H' → Dp X.K F' v d → Q v H') → r vs H Q
def app (o : List PyData → Option PyData) (g : M (List PyData)) : M PyData := bnd g fun ds => lft (o ds)
section
variable {X : Cx} {x : Str} {p pos : Pos} {e : Expr} {es : List Expr} {g : M (List PyData)} {id T : String} {o : List PyData → Option PyData}
theorem app_run {r : List V → Hp → VK → Prop} {t : TA}
    (ko : ∀ (vs : List V) (ds : List PyData) (d : PyData) (F H : Hp) (Q : VK), Same F H → DpAll X.K F vs ds → o ds = some d → (∀ v F' H', Px F H F' H' → Dp X.K F' v d → Q v H') → r vs H Q)
    (ka : ∀ (σ : St) (H F : Hp) (r : Rho) (ds : List PyData) (r' : Rho) (Q : List V → Hp → Prop), SR X.prog X.w X.K F H σ r → g r = some (ds, r') → (∀ vs F' H', SR X.prog X.w X.K F' H' σ r' → Go σ r F H σ r' F' H' → DpAll X.K F' vs ds → Q vs H') → t σ H Q)
    (σ : St) (H F : Hp) (rr : Rho) (d : PyData) (r' : Rho) (Q : VK) (S : SR X.prog X.w X.K F H σ rr) (e : app o g rr = some (d, r'))
    (hQ : ∀ v F' H', SR X.prog X.w X.K F' H' σ r' → Go σ rr F H σ r' F' H' → Dp X.K F' v d → Q v H') : tCB r t σ H Q := by
  obtain ⟨d1, r1, e1, e⟩ := bnd_some e
  obtain ⟨d2, e2, e3⟩ := lft_some e
  cases e3
  refine ka σ H F rr d1 _ _ S e1 fun vs F1 H1 S1 G1 D1 => ?_
  exact ko vs d1 _ F1 H1 Q S1.sub D1 e2 fun v F2 H2 px D2 => hQ v F2 H2 (S1.px px) (G1.trans (.px px)) D2
theorem re_callB (hc : ClOk X (.builtin id) o) (hg : Gl X x) (hm : X.mg x = none) (hv : bootBuiltins x = some (.builtin id)) (ha : RA X (e :: es) g) (hn : x ≠ "__name__" := by decide) (hdb : (x == ("__debug__" : Str)) = false := by decide)
    (he : starEach (e :: es) X.env = (false, eval e X.env) :: starEach es X.env := by rfl) (hpl : (backTo pos (starEach es X.env)).any (·.1) = false := by rfl) : RE X (.Call (.Name x p) (e :: es) [] pos) (app o g) := by
  obtain ⟨r, rc, ko⟩ := hc
  obtain ⟨t, pa, ka⟩ := ha.ex
  exact ⟨_, pe_callB rc hg hm hv pa hn hdb he hpl, app_run ko ka⟩
theorem re_callTy (hc : ClOk X (.type T) o) (hg : Gl X x) (hm : X.mg x = none) (hv : bootBuiltins x = some (.type T)) (ha : RA X (e :: es) g) (hn : x ≠ "__name__" := by decide) (hdb : (x == ("__debug__" : Str)) = false := by decide)
    (he : starEach (e :: es) X.env = (false, eval e X.env) :: starEach es X.env := by rfl) (hpl : (backTo pos (starEach es X.env)).any (·.1) = false := by rfl) : RE X (.Call (.Name x p) (e :: es) [] pos) (app o g) := by
  obtain ⟨r, rc, ko⟩ := hc
  obtain ⟨t, pa, ka⟩ := ha.ex
  exact ⟨_, pe_callTy rc hg hm hv pa hn hdb he hpl, app_run ko ka⟩
end
def lenD : List PyData → Option PyData
  | [.list xs] => some (.int xs.length)
  | [.tuple xs] => some (.int xs.length)
  | _ => none
def bls : List PyData → Option (List Bool)
  | [] => some []
  | .bool b :: ds => (bls ds).map (b :: ·)
  | _ :: _ => none
theorem bls_map : ∀ {ds : List PyData} {bs : List Bool}, bls ds = some bs → ds = bs.map PyData.bool
  | [], bs, h => by cases h; rfl
  | d :: ds, bs, h => by
    cases d with
    | bool b =>
      obtain ⟨cs, h1, h2⟩ := Option.map_eq_some_iff.mp h
      subst h2
      rw [List.map_cons, bls_map h1]
    | _ => cases h
def allD : List PyData → Option PyData
  | [.list xs] => (bls xs).map fun bs => .bool (bs.all id)
  | _ => none
def anyD : List PyData → Option PyData
  | [.list xs] => (bls xs).map fun bs => .bool (bs.any id)
  | _ => none
def minD : List PyData → Option PyData
  | [.int i, .int j] => some (.int (if j < i then j else i))
  | _ => none
def maxD : List PyData → Option PyData
  | [.int i, .int j] => some (.int (if j > i then j else i))
  | _ => none
def tupD : List PyData → Option PyData
  | [.list xs] => some (.tuple xs)
  | [.tuple xs] => some (.tuple xs)
  | _ => none
def listD : List PyData → Option PyData
  | [.list xs] => some (.list xs)
  | [.tuple xs] => some (.list xs)
  | _ => none
section
variable {X : Cx}
theorem cl_len : ClOk X (.builtin "len") lenD := by
  refine ⟨_, call_len_seq, fun vs ds d F H Q s D e hQ => ?_⟩
  cases D with
  | nil => cases e
  | cons D1 D2 =>
    cases D2 with
    | nil =>
      cases D1 with
      | lst h1 h2 => cases e; exact ⟨_, _, rfl, .inl (s.seq h1), by rw [h2.length]; exact hQ _ F H (.refl s) (.int _)⟩
      | tup h1 h2 => cases e; exact ⟨_, _, rfl, .inr (same_seqT s h1), by rw [h2.length]; exact hQ _ F H (.refl s) (.int _)⟩
      | _ => cases e
    | cons _ _ => cases D1 <;> cases e
theorem cl_all (hc : X.calm = true) : ClOk X (.builtin "all") allD := by
  refine ⟨_, cr_all hc, fun vs ds d F H Q s D e hQ => ?_⟩
  cases D with
  | nil => cases e
  | cons D1 D2 =>
    cases D2 with
    | nil =>
      cases D1 with
      | lst h1 h2 =>
        obtain ⟨bs, e1, e2⟩ := Option.map_eq_some_iff.mp e
        subst e2
        rw [bls_map e1] at h2
        have := h2.bls
        subst this
        exact ⟨_, bs, rfl, s.seq h1, hQ _ F H (.refl s) (.bl _)⟩
      | _ => cases e
    | cons _ _ => cases D1 <;> cases e
theorem cl_any (hc : X.calm = true) : ClOk X (.builtin "any") anyD := by
  refine ⟨_, cr_any hc, fun vs ds d F H Q s D e hQ => ?_⟩
  cases D with
  | nil => cases e
  | cons D1 D2 =>
    cases D2 with
    | nil =>
      cases D1 with
      | lst h1 h2 =>
        obtain ⟨bs, e1, e2⟩ := Option.map_eq_some_iff.mp e
        subst e2
        rw [bls_map e1] at h2
        have := h2.bls
        subst this
        exact ⟨_, bs, rfl, s.seq h1, hQ _ F H (.refl s) (.bl _)⟩
      | _ => cases e
    | cons _ _ => cases D1 <;> cases e
theorem cl_min (hc : X.calm = true) : ClOk X (.builtin "min") minD := by
  refine ⟨_, call_min2 hc, fun vs ds d F H Q s D e hQ => ?_⟩
  unfold minD at e
  split at e
  · cases e
    cases D with
    | cons D1 D2 =>
      cases D2 with
      | cons D3 D4 =>
        cases D4
        cases D1
        cases D3
        exact ⟨_, _, rfl, hQ _ F H (.refl s) (.int _)⟩
  · cases e
theorem cl_max (hc : X.calm = true) : ClOk X (.builtin "max") maxD := by
  refine ⟨_, call_max2 hc, fun vs ds d F H Q s D e hQ => ?_⟩
  unfold maxD at e
  split at e
  · cases e
    cases D with
    | cons D1 D2 =>
      cases D2 with
      | cons D3 D4 =>
        cases D4
        cases D1
        cases D3
        exact ⟨_, _, rfl, hQ _ F H (.refl s) (.int _)⟩
  · cases e
theorem cl_tup : ClOk X (.type "tuple") tupD := by
  refine ⟨_, call_tuple_of, fun vs ds d F H Q s D e hQ => ?_⟩
  cases D with
  | nil => cases e
  | cons D1 D2 =>
    cases D2 with
    | nil =>
      cases D1 with
      | @lst a xs ds h1 h2 =>
        cases e
        refine ⟨_, _, rfl, .inl ⟨s.seq h1, fun p hp => ?_⟩⟩
        have px := Px.new s (.tup xs) hp
        exact hQ _ _ _ px (.tup (.inl (.inl upd_same)) (dpAll_mono px.same h2))
      | tup h1 h2 => cases e; exact ⟨_, _, rfl, .inr ⟨same_seqT s h1, hQ _ F H (.refl s) (.tup h1 h2)⟩⟩
      | _ => cases e
    | cons _ _ => cases D1 <;> cases e
theorem cl_list : ClOk X (.type "list") listD := by
  refine ⟨_, call_list_of, fun vs ds d F H Q s D e hQ => ?_⟩
  cases D with
  | nil => cases e
  | cons D1 D2 =>
    cases D2 with
    | nil =>
      cases D1 with
      | @lst a xs ds h1 h2 =>
        cases e
        refine ⟨_, _, rfl, .inl (s.seq h1), fun p hp => ?_⟩
        have px := Px.new s (.lst xs) hp
        exact hQ _ _ _ px (.lst (.inl (.inl upd_same)) (dpAll_mono px.same h2))
      | @tup a xs ds h1 h2 =>
        cases e
        refine ⟨_, _, rfl, .inr (same_seqT s h1), fun p hp => ?_⟩
        have px := Px.new s (.lst xs) hp
        exact hQ _ _ _ px (.lst (.inl (.inl upd_same)) (dpAll_mono px.same h2))
      | _ => cases e
    | cons _ _ => cases D1 <;> cases e
end
/-! ### isinstance -/
def tyN : PyData → String
  | .none => "NoneType"
  | .bool _ => "bool"
  | .int _ => "int"
  | .str _ => "str"
  | .list _ => "list"
  | .tuple _ => "tuple"
  | .dict _ => "dict"
def isiT (T : String) (d : PyData) : Bool := T == tyN d || (T == "int" && tyN d == "bool")
theorem tyx_of {K : PySem.W.Frag} {F H : Hp} {v : V} {d : PyData} (s : Same F H) (h : Dp K F v d) : TyX K H v (.type (tyN d)) := by
  cases h with
  | non => exact .base .non
  | bl b => exact .base (.bl b)
  | int i => exact .base (.int i)
  | str x => exact .base (.str x)
  | lst h _ =>
    rcases h with (h | ⟨o, h⟩) | ⟨o, _, _, h, c, _⟩
    · exact .base (.lst (s _ _ h))
    · exact .base (.frz (s _ _ h))
    · exact .kList h c
  | tup h _ =>
    rcases h with (h | ⟨o, h⟩) | ⟨o, _, _, h, c, _⟩
    · exact .base (.tup (s _ _ h))
    · exact .fTuple (s _ _ h)
    · exact .kTuple h c
def isiN (T : String) : Bool := T == "int" || T == "bool" || T == "str" || T == "list" || T == "tuple"
theorem kit_isi {K : PySem.W.Frag} {T : String} {d : PyData} (hT : isiN T = true) (hd : ∀ kvs, d ≠ .dict kvs) : PySem.W.kitOne K (.type (tyN d)) (.type T) = some (isiT T d) := by
  simp only [isiN, Bool.or_eq_true, beq_iff_eq] at hT
  rcases hT with (((rfl | rfl) | rfl) | rfl) | rfl <;> cases d <;> simp only [isiT, tyN] <;> first | exact kit_ty (by decide +kernel) | exact absurd rfl (hd _)
theorem dp_nodict {K : PySem.W.Frag} {F : Hp} {v : V} {d : PyData} (h : Dp K F v d) : ∀ kvs, d ≠ .dict kvs := fun kvs z => by
  subst z
  cases h
section
variable {X : Cx} {e : Expr} {f : M PyData} {p q pos : Pos} {T : String}
theorem re_isi (hT : isiN T = true) (ha : RE X e f) (hg : Gl X "isinstance") (hm : X.mg "isinstance" = none) (hgT : Gl X (Str.ofString T)) (hmT : X.mg (Str.ofString T) = none) (hbT : bootBuiltins (Str.ofString T) = some (.type T))
    (hn : Str.ofString T ≠ "__name__" := by decide) (hdb : (Str.ofString T == ("__debug__" : Str)) = false := by decide)
    (hs1 : starEach [e, .Name (Str.ofString T) q] X.env = (false, eval e X.env) :: starEach [.Name (Str.ofString T) q] X.env := by rfl) (hs2 : starEach [.Name (Str.ofString T) q] X.env = (false, eval (.Name (Str.ofString T) q) X.env) :: starEach [] X.env := by rfl)
    (hpl : (backTo pos (starEach [.Name (Str.ofString T) q] X.env)).any (·.1) = false := by rfl) :
    RE X (.Call (.Name "isinstance" p) [e, .Name (Str.ofString T) q] [] pos) (bnd f fun d => ret (.bool (isiT T d))) := by
  obtain ⟨t, x, k⟩ := ha.ex
  refine ⟨_, pe_callB call_isi hg hm PyProof.Rows.boot_isinstance (pa_cons x (pa_cons (pe_bltn (v := .ty T) hgT hmT hbT rfl hn hdb) pa_nil hs2) hs1) (by decide) (by decide) hs1 hpl, fun σ H F r d r' Q S e hQ => ?_⟩
  obtain ⟨d1, r1, e1, e⟩ := bnd_some e
  cases ret_some e
  refine k σ H F r d1 _ _ S e1 fun v F1 H1 S1 G1 D1 => ?_
  exact ⟨v, .ty T, .type (tyN d1), .type T, isiT T d1, rfl, .ty _, tyx_of S1.sub D1, kit_isi hT (dp_nodict D1), hQ _ F1 H1 S1 G1 (.bl _)⟩
end
end G65
namespace G65
open PySem PySem.Spec PyProof.Rows L2 RZ
/-! ### enumerate(tuple) -/
set_option maxHeartbeats 4000000 in
theorem meets_enum1 {v : Value} {o : Obj} {H : Heap → Prop} (B : Begins v o H) :
    Meets (Builtin.«enumerate.__new__» ⟨[.type "enumerate", v], []⟩) (fun _ R s => H s.heap ∧
      R (.ok (.ret (.ref (s.heap.push o).objs.size))) { s with heap := (s.heap.push o).push { cls := .type "enumerate", data := .fields #[.none, .bool false, .ref s.heap.objs.size, rawInt 0, .none, .none] } }) :=
  .of_wp fun prog w A R s h => by
    obtain ⟨hp, g, d, tk, os⟩ := s; obtain ⟨h1, h⟩ := h
    have hsub := sub_enumerate
    have q1 : ∀ {A' : Around} {E : Value → Shared → Prop} {Q : Value → Shared → Prop}, Q (.ref hp.objs.size) ⟨hp.push o, g, d, tk, os⟩ → wpAny (model prog w) A' (pyIter v) Q E ⟨hp, g, d, tk, os⟩ :=
      fun q => B.iter prog w _ _ ⟨hp, g, d, tk, os⟩ _ h1 q
    wp_walk using q1
    refine wpAny_stack_any fun st => wpAny_pure ?_
    split
    · rename_i c _ _ _ _ _
      cases (c == Value.type "enumerate")
      · wp_walk using q1
        exact ⟨_, rfl, h⟩
      · wp_walk using q1
        exact ⟨_, rfl, h⟩
    · wp_walk using q1
      exact ⟨_, rfl, h⟩
theorem call_enum1 {prog : Program} {w : World} {A : Around} {E : Value → Shared → Prop} {s : Shared} {v : Value} {o : Obj} {H : Heap → Prop} {Q : Value → Shared → Prop} (B : Begins v o H) (h1 : H s.heap)
    (h : ∀ h', IsEnum h' (s.heap.objs.size + 1) s.heap.objs.size 0 .none → h'.get? s.heap.objs.size = some o → h'.objs.size = s.heap.objs.size + 2 →
      (∀ b o, s.heap.get? b = some o → h'.get? b = some o) → Q (.ref (s.heap.objs.size + 1)) { s with heap := h' }) :
    wpAny (model prog w) A (call (.type "enumerate") [v]) Q E s := by
  refine callType_new F.called_enumerate (by decide) (F.typeCall_enumerate_1 _) (F.newCall_enumerate_1 _) (fun obj => F.args_object_init_2 obj _) F.entry_enumerate_new
    (meets_enum1 B) ⟨h1, ?_⟩
  have hz : (s.heap.push o).objs.size = s.heap.objs.size + 1 := Heap.size_push ..
  show _ ∧ _
  rw [hz]
  have he : IsEnum ((s.heap.push o).push { cls := .type "enumerate", data := .fields #[.none, .bool false, .ref s.heap.objs.size, rawInt 0, .none, .none] }) (s.heap.objs.size + 1) s.heap.objs.size 0 .none := by
    have := Heap.get?_push_size (s.heap.push o) (o := { cls := .type "enumerate", data := .fields #[.none, .bool false, .ref s.heap.objs.size, rawInt 0, .none, .none] }) rfl
    rw [hz] at this; exact this
  refine ⟨⟨_, he, rfl⟩, h _ he (Heap.get?_push_of_some _ (Heap.get?_push_size _ B.free)) (by rw [Heap.size_push, hz]) fun b o x => Heap.get?_push_of_some _ (Heap.get?_push_of_some _ x)⟩
def IteT (K : PySem.W.Frag) (a : Addr) : It :=
  ⟨fun i H => ∃ (xs : List V) (x : V), SqT K H a xs ∧ xs[i]? = some x, fun i H v H' => ∃ T x, v = .ref T ∧ H T = none ∧ H' = upd H T (.tup [.int (i : Nat), x]) ∧ ∀ xs, SqT K H a xs → xs[i]? = some x, fun i H => ∃ xs : List V, SqT K H a xs ∧ xs.length = i⟩
theorem turn_enumT {P : Program} {w : World} {K : PySem.W.Frag} {elts : List Expr} {kk : Nat} {tpos : Pos} (a e it : Addr) (hai : a ≠ it) (hae : a ≠ e) :
    Turn P w K (.Tuple elts kk tpos) (IteT K a) [e, it] e (fun i h => (∃ old, IsEnum h e it ((i : Nat) : Int) old) ∧ h.IsTupleIter it a i ∧ e ≠ it) where
  mem := by simp
  obj := fun i h st b hb => by
    obtain ⟨⟨old, he⟩, ⟨o, ho, hc, hd⟩, _⟩ := st
    have e' : b = e ∨ b = it := by simpa using hb
    rcases e' with z | z
    · rw [z]; exact ⟨_, he, fun v q => nomatch q⟩
    · rw [z]; exact ⟨o, ho, fun v q => by rw [hd] at q; cases q⟩
  keep := fun i h h' st k => let ⟨⟨old, he⟩, hi, hne⟩ := st; ⟨⟨old, k e (by simp) _ he⟩, hi.at fun o q => k it (by simp) o q, hne⟩
  item := by
    intro X hP hw hK hc i pins s σ H E I hf st hg
    subst hP hw hK
    obtain ⟨⟨old, he⟩, hit, hne⟩ := st
    obtain ⟨xs, x, hq, hx⟩ := hg
    obtain ⟨its, rv, p, hz⟩ := I.tuple hq
    obtain ⟨u, hu, ru⟩ := rv.get hx
    have hel : e < s.heap.objs.size := Heap.lt_size he
    have hil : it < s.heap.objs.size := by obtain ⟨_, q, _⟩ := hit; exact Heap.lt_size q
    have hlt : i < its.toArray.size := by
      have := (List.getElem?_eq_some_iff.mp hu).1
      simpa using this
    have D := Draws.tuple (prog := X.prog) (w := X.w) (A := X.A.in1) (show X.A.in1.handled = none from I.ok.hd hc) it a hai its.toArray
    refine wpAny_pyNext_enum_itemD (P := fun i v => its.toArray[i]? = some v) D he ⟨hit, p⟩ hlt hne (by simp [hne, Ne.symm hae]) fun y h' tk hy ho hst' hT hsz hk => ?_
    have ey : y = u := by
      have h1 : its[i]? = some y := by simpa using hy
      rw [hu] at h1
      exact (Option.some.inj h1).symm
    subst ey
    refine ⟨_, rfl, wpAny_letOwnedTupleGo_enum (s := { s with heap := h', toks := tk + 1 }) ho fun h'' he' sb => ?_⟩
    have hT2 : h''.get? s.heap.objs.size = some { cls := .type "tuple", data := .seq #[.int i tk, y] } := (sb.2 _ (Nat.ne_of_gt hel)).trans hT
    have new : ObjOk X.prog X.w (upd H s.heap.objs.size (.tup [.int (i : Nat), x])) h'' s.heap.objs.size (.tup [.int (i : Nat), x]) :=
      ⟨by show 2 ≤ sizeLine; decide, [.int i tk, y], .cons ⟨_, rfl⟩ (.cons ru .nil), ⟨_, hT2, rfl, _, rfl⟩⟩
    have I1 : Inv X pins σ (upd H s.heap.objs.size (.tup [.int (i : Nat), x])) { s with heap := h'', toks := tk + 1 } :=
      I.turnedNew (ch := [e, it]) (fun b ob hb q => (sb.2 b (fun z => hb (by simp [z]))).trans (hk b ob (fun z => hb (by simp [z])) (fun z => hb (by simp [z])) q)) hf (Nat.le_refl _) new
    refine ⟨.ref s.heap.objs.size, _, I1, rfl, ⟨_, x, rfl, I.hok.fresh (Nat.le_refl _), rfl, fun ys hy => by rw [I.tuple_inj hy hq]; exact hx⟩, ⟨⟨y, ?_⟩, hst'.1.at fun o q => (sb.2 it (Ne.symm hne)).trans q, hne⟩, fun b hb => ?_⟩
    · have e1 : ((i + 1 : Nat) : Int) = (i : Int) + 1 := by omega
      rw [e1]; exact he'
    · have hb' : b < s.heap.objs.size := by
        have e' : b = e ∨ b = it := by simpa using hb
        rcases e' with z | z
        · rw [z]; exact hel
        · rw [z]; exact hil
      rw [upd_ne (Nat.ne_of_lt hb')]
      exact (hf b hb).1
  done := by
    intro X hP hw hK hc i pins s σ H E I hf st hg
    subst hP hw hK
    obtain ⟨⟨old, he⟩, hit, hne⟩ := st
    obtain ⟨xs, hq, hx⟩ := hg
    obtain ⟨its, rv, p, hz⟩ := I.tuple hq
    obtain ⟨f0, f1, f2, f3, f4, f5⟩ := hf it (by simp)
    have hl := rv.length
    have ei : i = its.toArray.size := by simp; omega
    subst ei
    have D := Draws.tuple (prog := X.prog) (w := X.w) (A := X.A.in1) (show X.A.in1.handled = none from I.ok.hd hc) it a hai its.toArray
    exact wpAny_pyNext_enum_endD D he ⟨hit, p⟩ fun h' eb => ⟨rfl, I.turned (t' := s.toks) (fun b o hb q => eb b o hb q) f0 f1 f3 f4 f5⟩
  self := fun A i s Q E st h => let ⟨⟨_, he⟩, _⟩ := st; wpAny_pyIter_enum he h
def iEnumT (K : PySem.W.Frag) (ta : TA) : TI := fun σ H R => ta σ H fun vs H1 => ∃ a xs, vs = [.ref a] ∧ SqT K H1 a xs ∧ R (IteT K a) H1
theorem pi_enumT {X : Cx} {e : Expr} {ta : TA} {p pos tpos : Pos} {elts : List Expr} {kk : Nat} (hg : Gl X "enumerate") (hm : X.mg "enumerate" = none) (ha : PA X [e] ta) (hs : starEach [e] X.env = [(false, eval e X.env)] := by rfl) :
    PI X (.Tuple elts kk tpos) (.Call (.Name "enumerate" p) [e] [] pos) (iEnumT X.K ta) := by
  refine ⟨fun pins s σ H R I h => ?_⟩
  refine Call_ (ld_blt I hg hm boot_enumerate (PyProof.Rows.callWith_type1 (thn (ha.run pos pins s σ H _ I h) fun us s1 ⟨vs, H1, I1, r1, q1⟩ => ?_) hs rfl))
  obtain ⟨a, xs, ex, hq, q⟩ := q1
  subst ex
  cases r1 with
  | cons r rr =>
    cases rr
    cases r
    obtain ⟨its, rv, p', hz⟩ := I1.tuple hq
    refine call_enum1 (begins_tuple a its.toArray) p' fun h' he hit hsz hk => wpAny_pyIter_enum he ?_
    have I2 : Inv X pins σ H1 { s1 with heap := h' } := I1.kept (t' := s1.toks) hk
    have hal : a < s1.heap.objs.size := p'.lt
    refine ⟨s1.heap.objs.size + 1, [s1.heap.objs.size + 1, s1.heap.objs.size], _, _, H1, rfl, I2, turn_enumT a (s1.heap.objs.size + 1) s1.heap.objs.size (Nat.ne_of_lt hal) (Nat.ne_of_lt (Nat.lt_succ_of_lt hal)), ⟨⟨.none, he⟩, ⟨_, hit, rfl, rfl⟩, Nat.succ_ne_self _⟩, fun b hb => ?_, q⟩
    have e' : b = s1.heap.objs.size + 1 ∨ b = s1.heap.objs.size := by simpa using hb
    have hle : s1.heap.objs.size ≤ b := by
      rcases e' with z | z
      · rw [z]; exact Nat.le_add_right _ _
      · rw [z]; exact Nat.le_refl _
    exact I1.fpOk hle (I1.hok.fresh hle)
theorem PI.or {X : Cx} {tg it : Expr} {w1 w2 : TI} (h1 : PI X tg it w1) (h2 : PI X tg it w2) : PI X tg it (fun σ H R => w1 σ H R ∨ w2 σ H R) :=
  ⟨fun pins s σ H R I h => h.elim (h1.run pins s σ H R I) (h2.run pins s σ H R I)⟩

/-! ### sources of loops -/
def Yl (K : PySem.W.Frag) (J : It) (F : Hp) (ds : List PyData) : Prop :=
  (∀ (i : Nat) (d : PyData) (F1 H1 : Hp), ds[i]? = some d → Same F F1 → Same F1 H1 → J.go i H1 ∧ ∀ x H2, J.yld i H1 x H2 → ∃ F2, Px F1 H1 F2 H2 ∧ Dp K F2 x d) ∧
  (∀ (F1 H1 : Hp), Same F F1 → Same F1 H1 → J.stop ds.length H1)
structure RI (X : Cx) (tg iter : Expr) (f : M (List PyData)) : Prop where
  ex : ∃ wi : TI, PI X tg iter wi ∧ ∀ (σ : St) (H F : Hp) (r : Rho) (ds : List PyData) (r' : Rho) (R : It → Hp → Prop), SR X.prog X.w X.K F H σ r → f r = some (ds, r') →
    (∀ J F' H', SR X.prog X.w X.K F' H' σ r' → Go σ r F H σ r' F' H' → Yl X.K J F' ds → R J H') → wi σ H R
def asSeq (d : PyData) : M (List PyData) := match d with
  | .list xs => ret xs
  | .tuple xs => ret xs
  | _ => fun _ => none
theorem yl_list {K : PySem.W.Frag} {F : Hp} {a : Addr} {vs : List V} {ds : List PyData} (h1 : SqL K F a vs) (h2 : DpAll K F vs ds) : Yl K (Itl K a) F ds := by
  refine ⟨fun i d F1 H1 e s1 s2 => ?_, fun F1 H1 s1 s2 => ⟨vs, (s1.trans s2).seq h1, by rw [h2.length]; exact Nat.le_refl _⟩⟩
  obtain ⟨v, e1, e2⟩ := h2.get e
  refine ⟨⟨vs, v, (s1.trans s2).seq h1, e1⟩, fun x H2 y => ?_⟩
  obtain ⟨rfl, y⟩ := y
  have ex := y vs ((s1.trans s2).seq h1)
  rw [e1] at ex
  cases ex
  exact ⟨F1, .refl s2, dp_mono s1 e2⟩
theorem yl_tup {K : PySem.W.Frag} {F : Hp} {a : Addr} {vs : List V} {ds : List PyData} (h1 : SqT K F a vs) (h2 : DpAll K F vs ds) : Yl K (Itt K a) F ds := by
  refine ⟨fun i d F1 H1 e s1 s2 => ?_, fun F1 H1 s1 s2 => ⟨vs, same_seqT (s1.trans s2) h1, by rw [h2.length]; exact Nat.le_refl _⟩⟩
  obtain ⟨v, e1, e2⟩ := h2.get e
  refine ⟨⟨vs, v, same_seqT (s1.trans s2) h1, e1⟩, fun x H2 y => ?_⟩
  obtain ⟨rfl, y⟩ := y
  have ex := y vs (same_seqT (s1.trans s2) h1)
  rw [e1] at ex
  cases ex
  exact ⟨F1, .refl s2, dp_mono s1 e2⟩
def zipD : List PyData → List PyData → List PyData
  | x :: xs, y :: ys => .tuple [x, y] :: zipD xs ys
  | _, _ => []
theorem zipD_get : ∀ {xs ys : List PyData} {i : Nat} {d : PyData}, (zipD xs ys)[i]? = some d → ∃ x y, xs[i]? = some x ∧ ys[i]? = some y ∧ d = .tuple [x, y]
  | [], _, _, _, h => by simp [zipD] at h
  | _ :: _, [], _, _, h => by simp [zipD] at h
  | x :: xs, y :: ys, 0, d, h => by
    simp [zipD] at h
    exact ⟨x, y, rfl, rfl, h.symm⟩
  | x :: xs, y :: ys, i + 1, d, h => by
    obtain ⟨a, b, h1, h2, h3⟩ := zipD_get (xs := xs) (ys := ys) (i := i) (d := d) (by simpa [zipD] using h)
    exact ⟨a, b, by simpa using h1, by simpa using h2, h3⟩
theorem zipD_len : ∀ (xs ys : List PyData), xs.length ≤ (zipD xs ys).length ∨ ys.length ≤ (zipD xs ys).length
  | [], _ => .inl (Nat.zero_le _)
  | _ :: _, [] => .inr (Nat.zero_le _)
  | x :: xs, y :: ys => by
    rcases zipD_len xs ys with h | h
    · exact .inl (Nat.succ_le_succ h)
    · exact .inr (Nat.succ_le_succ h)
theorem yl_zip {K : PySem.W.Frag} {F : Hp} {a b : Addr} {vs us : List V} {ds es : List PyData} (h1 : SqL K F a vs) (h2 : DpAll K F vs ds) (h3 : SqL K F b us) (h4 : DpAll K F us es) : Yl K (Itz K a b) F (zipD ds es) := by
  refine ⟨fun i d F1 H1 e s1 s2 => ?_, fun F1 H1 s1 s2 => ⟨vs, us, (s1.trans s2).seq h1, (s1.trans s2).seq h3, by rw [h2.length, h4.length]; exact zipD_len ds es⟩⟩
  obtain ⟨x, y, e1, e2, rfl⟩ := zipD_get e
  obtain ⟨v, q1, q2⟩ := h2.get e1
  obtain ⟨u, q3, q4⟩ := h4.get e2
  refine ⟨⟨vs, us, v, u, (s1.trans s2).seq h1, (s1.trans s2).seq h3, q1, q3⟩, fun z H2 yy => ?_⟩
  obtain ⟨T, x1, x2, rfl, nT, rfl, f1, f2⟩ := yy
  have ex := f1 vs ((s1.trans s2).seq h1)
  have ey := f2 us ((s1.trans s2).seq h3)
  rw [q1] at ex
  rw [q3] at ey
  cases ex
  cases ey
  have px := Px.new s2 (.tup [v, u]) nT
  exact ⟨_, px, .tup (.inl (.inl upd_same)) (.cons (dp_mono (s1.trans px.same) q2) (.cons (dp_mono (s1.trans px.same) q4) .nil))⟩
theorem yl_zipT {K : PySem.W.Frag} {F : Hp} {a b : Addr} {vs us : List V} {ds es : List PyData} (h1 : SqT K F a vs) (h2 : DpAll K F vs ds) (h3 : SqT K F b us) (h4 : DpAll K F us es) : Yl K (ItzT K a b) F (zipD ds es) := by
  refine ⟨fun i d F1 H1 e s1 s2 => ?_, fun F1 H1 s1 s2 => ⟨vs, us, same_seqT (s1.trans s2) h1, same_seqT (s1.trans s2) h3, by rw [h2.length, h4.length]; exact zipD_len ds es⟩⟩
  obtain ⟨x, y, e1, e2, rfl⟩ := zipD_get e
  obtain ⟨v, q1, q2⟩ := h2.get e1
  obtain ⟨u, q3, q4⟩ := h4.get e2
  refine ⟨⟨vs, us, v, u, same_seqT (s1.trans s2) h1, same_seqT (s1.trans s2) h3, q1, q3⟩, fun z H2 yy => ?_⟩
  obtain ⟨T, x1, x2, rfl, nT, rfl, f1, f2⟩ := yy
  have ex := f1 vs (same_seqT (s1.trans s2) h1)
  have ey := f2 us (same_seqT (s1.trans s2) h3)
  rw [q1] at ex
  rw [q3] at ey
  cases ex
  cases ey
  have px := Px.new s2 (.tup [v, u]) nT
  exact ⟨_, px, .tup (.inl (.inl upd_same)) (.cons (dp_mono (s1.trans px.same) q2) (.cons (dp_mono (s1.trans px.same) q4) .nil))⟩
def enumD : Nat → List PyData → List PyData
  | _, [] => []
  | n, x :: xs => .tuple [.int n, x] :: enumD (n + 1) xs
theorem enumD_get : ∀ {n : Nat} {xs : List PyData} {i : Nat} {d : PyData}, (enumD n xs)[i]? = some d → ∃ x, xs[i]? = some x ∧ d = .tuple [.int ((n + i : Nat) : Int), x]
  | _, [], _, _, h => by simp [enumD] at h
  | n, x :: xs, 0, d, h => by
    simp [enumD] at h
    exact ⟨x, rfl, h.symm⟩
  | n, x :: xs, i + 1, d, h => by
    obtain ⟨a, h1, h2⟩ := enumD_get (n := n + 1) (xs := xs) (i := i) (d := d) (by simpa [enumD] using h)
    refine ⟨a, by simpa using h1, ?_⟩
    rw [h2, show n + 1 + i = n + (i + 1) by omega]
theorem enumD_len : ∀ (n : Nat) (xs : List PyData), (enumD n xs).length = xs.length
  | _, [] => rfl
  | n, x :: xs => by rw [enumD, List.length_cons, List.length_cons, enumD_len (n + 1) xs]
theorem yl_enum {K : PySem.W.Frag} {F : Hp} {a : Addr} {vs : List V} {ds : List PyData} (h1 : SqL K F a vs) (h2 : DpAll K F vs ds) : Yl K (Ite K a) F (enumD 0 ds) := by
  refine ⟨fun i d F1 H1 e s1 s2 => ?_, fun F1 H1 s1 s2 => ⟨vs, (s1.trans s2).seq h1, by rw [h2.length, enumD_len]; exact Nat.le_refl _⟩⟩
  obtain ⟨x, e1, rfl⟩ := enumD_get e
  obtain ⟨v, q1, q2⟩ := h2.get e1
  refine ⟨⟨vs, v, (s1.trans s2).seq h1, q1⟩, fun z H2 yy => ?_⟩
  obtain ⟨T, x1, rfl, nT, rfl, f1⟩ := yy
  have ex := f1 vs ((s1.trans s2).seq h1)
  rw [q1] at ex
  cases ex
  have px := Px.new s2 (.tup [.int (i : Nat), v]) nT
  rw [Nat.zero_add]
  exact ⟨_, px, .tup (.inl (.inl upd_same)) (.cons (.int _) (.cons (dp_mono (s1.trans px.same) q2) .nil))⟩
theorem yl_enumT {K : PySem.W.Frag} {F : Hp} {a : Addr} {vs : List V} {ds : List PyData} (h1 : SqT K F a vs) (h2 : DpAll K F vs ds) : Yl K (IteT K a) F (enumD 0 ds) := by
  refine ⟨fun i d F1 H1 e s1 s2 => ?_, fun F1 H1 s1 s2 => ⟨vs, same_seqT (s1.trans s2) h1, by rw [h2.length, enumD_len]⟩⟩
  obtain ⟨x, e1, rfl⟩ := enumD_get e
  obtain ⟨v, q1, q2⟩ := h2.get e1
  refine ⟨⟨vs, v, same_seqT (s1.trans s2) h1, q1⟩, fun z H2 yy => ?_⟩
  obtain ⟨T, x1, rfl, nT, rfl, f1⟩ := yy
  have ex := f1 vs (same_seqT (s1.trans s2) h1)
  rw [q1] at ex
  cases ex
  have px := Px.new s2 (.tup [.int (i : Nat), v]) nT
  rw [Nat.zero_add]
  exact ⟨_, px, .tup (.inl (.inl upd_same)) (.cons (.int _) (.cons (dp_mono (s1.trans px.same) q2) .nil))⟩
def rngD (lo : Int) (n : Nat) : List PyData := (List.range n).map fun i => PyData.int (lo + (i : Nat))
theorem yl_rng {K : PySem.W.Frag} {F : Hp} {lo : Int} {n : Nat} : Yl K (Itr lo n) F (rngD lo n) := by
  refine ⟨fun i d F1 H1 e s1 s2 => ?_, fun F1 H1 s1 s2 => ?_⟩
  · unfold rngD at e
    rw [List.getElem?_map] at e
    obtain ⟨j, e1, e2⟩ := Option.map_eq_some_iff.mp e
    obtain ⟨hj, e3⟩ := List.getElem?_eq_some_iff.mp e1
    rw [List.getElem_range] at e3
    rw [List.length_range] at hj
    subst e3
    subst e2
    refine ⟨hj, fun x H2 y => ?_⟩
    obtain ⟨rfl, rfl⟩ := y
    exact ⟨F1, .refl s2, .int _⟩
  · show n ≤ (rngD lo n).length
    unfold rngD
    rw [List.length_map, List.length_range]
    exact Nat.le_refl _
section
variable {X : Cx} {tg e e2 : Expr} {es : List Expr} {f g : M PyData} {p pos tpos : Pos} {elts : List Expr} {kk : Nat}
theorem ri_seq (h : RE X e f) : RI X tg e (bnd f asSeq) := by
  obtain ⟨t, x, k⟩ := h.ex
  refine ⟨_, PI.or (pi_list x) (pi_tup x), fun σ H F r ds r' R S e hR => ?_⟩
  obtain ⟨d1, r1, e1, e⟩ := bnd_some e
  cases d1 with
  | list xs =>
    cases ret_some e
    refine .inl (k σ H F r _ _ _ S e1 fun v F1 H1 S1 G1 D1 => ?_)
    cases D1 with
    | lst h1 h2 => exact ⟨_, rfl, ⟨_, S1.sub.seq h1⟩, hR _ F1 H1 S1 G1 (yl_list h1 h2)⟩
  | tuple xs =>
    cases ret_some e
    refine .inr (k σ H F r _ _ _ S e1 fun v F1 H1 S1 G1 D1 => ?_)
    cases D1 with
    | tup h1 h2 => exact ⟨_, rfl, ⟨_, same_seqT S1.sub h1⟩, hR _ F1 H1 S1 G1 (yl_tup h1 h2)⟩
  | _ => cases e
def asZip (ds : List PyData) : M (List PyData) := match ds with
  | [.list xs, .list ys] => ret (zipD xs ys)
  | [.tuple xs, .tuple ys] => ret (zipD xs ys)
  | _ => fun _ => none
theorem ri_zip {ga : M (List PyData)} (hg : Gl X "zip") (hm : X.mg "zip" = none) (ha : RA X [e, e2] ga)
    (hs : starEach [e, e2] X.env = (false, eval e X.env) :: starEach [e2] X.env := by rfl) (hpl : (backTo pos (starEach [e2] X.env)).any (·.1) = false := by rfl) :
    RI X (.Tuple elts kk tpos) (.Call (.Name "zip" p) [e, e2] [] pos) (bnd ga asZip) := by
  obtain ⟨t, x, k⟩ := ha.ex
  refine ⟨_, pi_zipA hg hm x hs hpl, fun σ H F r ds r' R S e hR => ?_⟩
  obtain ⟨d1, r1, e1, e⟩ := bnd_some e
  refine k σ H F r _ _ _ S e1 fun vs F1 H1 S1 G1 D1 => ?_
  unfold asZip at e
  split at e
  · cases ret_some e
    cases D1 with
    | cons D1 D2 =>
      cases D2 with
      | cons D2 D3 =>
        cases D3
        cases D1 with
        | lst h1 h2 =>
          cases D2 with
          | lst h3 h4 => exact ⟨_, _, _, _, rfl, .inl ⟨S1.sub.seq h1, S1.sub.seq h3, hR _ F1 H1 S1 G1 (yl_zip h1 h2 h3 h4)⟩⟩
  · cases ret_some e
    cases D1 with
    | cons D1 D2 =>
      cases D2 with
      | cons D2 D3 =>
        cases D3
        cases D1 with
        | tup h1 h2 =>
          cases D2 with
          | tup h3 h4 => exact ⟨_, _, _, _, rfl, .inr ⟨same_seqT S1.sub h1, same_seqT S1.sub h3, hR _ F1 H1 S1 G1 (yl_zipT h1 h2 h3 h4)⟩⟩
  · cases e
def asEnum (ds : List PyData) : M (List PyData) := match ds with
  | [.list xs] => ret (enumD 0 xs)
  | [.tuple xs] => ret (enumD 0 xs)
  | _ => fun _ => none
theorem ri_enum {ga : M (List PyData)} (hg : Gl X "enumerate") (hm : X.mg "enumerate" = none) (ha : RA X [e] ga) (hs : starEach [e] X.env = [(false, eval e X.env)] := by rfl) :
    RI X (.Tuple elts kk tpos) (.Call (.Name "enumerate" p) [e] [] pos) (bnd ga asEnum) := by
  obtain ⟨t, x, k⟩ := ha.ex
  refine ⟨_, PI.or (pi_enum hg hm x hs) (pi_enumT hg hm x hs), fun σ H F r ds r' R S e hR => ?_⟩
  obtain ⟨d1, r1, e1, e⟩ := bnd_some e
  unfold asEnum at e
  split at e
  · cases ret_some e
    refine .inl (k σ H F r _ _ _ S e1 fun vs F1 H1 S1 G1 D1 => ?_)
    cases D1 with
    | cons D1 D2 =>
      cases D2
      cases D1 with
      | lst h1 h2 => exact ⟨_, _, rfl, S1.sub.seq h1, hR _ F1 H1 S1 G1 (yl_enum h1 h2)⟩
  · cases ret_some e
    refine .inr (k σ H F r _ _ _ S e1 fun vs F1 H1 S1 G1 D1 => ?_)
    cases D1 with
    | cons D1 D2 =>
      cases D2
      cases D1 with
      | tup h1 h2 => exact ⟨_, _, rfl, same_seqT S1.sub h1, hR _ F1 H1 S1 G1 (yl_enumT h1 h2)⟩
  · cases e
def asRng (ds : List PyData) : M (List PyData) := match ds with
  | [.int j] => if -4611686018427387904 ≤ j ∧ j < 4611686018427387904 then ret (rngD 0 j.toNat) else fun _ => none
  | _ => fun _ => none
theorem ri_range1 {ga : M (List PyData)} (hg : Gl X "range") (hm : X.mg "range" = none) (ha : RA X [e] ga) (hs : starEach [e] X.env = [(false, eval e X.env)] := by rfl) :
    RI X tg (.Call (.Name "range" p) [e] [] pos) (bnd ga asRng) := by
  obtain ⟨t, x, k⟩ := ha.ex
  refine ⟨_, pi_range1 hg hm x hs, fun σ H F r ds r' R S e hR => ?_⟩
  obtain ⟨d1, r1, e1, e⟩ := bnd_some e
  unfold asRng at e
  split at e
  · split at e
    · rename_i hz
      cases ret_some e
      refine k σ H F r _ _ _ S e1 fun vs F1 H1 S1 G1 D1 => ?_
      cases D1 with
      | cons D1 D2 =>
        cases D2
        cases D1
        exact ⟨_, rfl, hz.1, hz.2, hR _ F1 H1 S1 G1 yl_rng⟩
    · cases e
  · cases e
end
end G65
namespace G65
open PySem PySem.Spec PyProof.Rows L2

/-! ### targets -/
def Ch (is : List Nat) (σ σ' : St) : Prop := σ'.length = σ.length ∧ ∀ i : Nat, i ∉ is → σ'[i]? = σ[i]?
theorem Ch.refl (is : List Nat) (σ : St) : Ch is σ σ := ⟨rfl, fun _ _ => rfl⟩
theorem Ch.trans {is : List Nat} {σ σ1 σ2 : St} (a : Ch is σ σ1) (b : Ch is σ1 σ2) : Ch is σ σ2 := ⟨b.1.trans a.1, fun i h => (b.2 i h).trans (a.2 i h)⟩
theorem Ch.mono {is js : List Nat} {σ σ' : St} (a : Ch is σ σ') (h : ∀ i ∈ is, i ∈ js) : Ch js σ σ' := ⟨a.1, fun i hi => a.2 i fun z => hi (h i z)⟩
theorem Ch.set {is : List Nat} {σ : St} {i : Nat} {v : Option V} (h : i ∈ is) : Ch is σ (σ.set i v) := ⟨List.length_set .., fun j hj => by
  have hne : i ≠ j := fun z => hj (by rw [← z]; exact h)
  exact List.getElem?_set_ne hne⟩
theorem Ch.pin {is : List Nat} {n : Nat} {σ σ' : St} (a : Ch is σ σ') (h : ∀ i ∈ is, n ≤ i) : Pin n σ σ' := ⟨a.1, fun i hi => a.2 i fun z => absurd (h i z) (Nat.not_le.mpr hi)⟩
theorem wipe_get {σ : St} {i : Nat} : ∀ {vs : List Nat}, i ∈ vs → i < σ.length → (wipe σ vs)[i]? = some none
  | v :: vs, h, hl => by
    unfold wipe
    by_cases z : v = i
    · subst z
      rw [List.getElem?_set_self (by rw [wipe_length]; exact hl)]
    · rw [List.getElem?_set_ne z]
      rcases List.mem_cons.mp h with q | q
      · exact absurd q.symm z
      · exact wipe_get q hl
theorem wipe_getN {σ : St} {i : Nat} : ∀ {vs : List Nat}, i ∉ vs → (wipe σ vs)[i]? = σ[i]?
  | [], _ => rfl
  | v :: vs, h => by
    unfold wipe
    rw [List.getElem?_set_ne fun z => h (by rw [z]; exact List.mem_cons_self)]
    exact wipe_getN fun z => h (List.mem_cons_of_mem _ z)
theorem Ch.wipe {is vs : List Nat} {σ σ' : St} (a : Ch is σ σ') (h : ∀ i ∈ is, i ∈ vs) : L2.wipe σ' vs = L2.wipe σ vs := by
  refine List.ext_getElem? fun i => ?_
  by_cases hi : i ∈ vs
  · by_cases hl : i < σ.length
    · rw [wipe_get hi hl, wipe_get hi (by rw [a.1]; exact hl)]
    · rw [List.getElem?_eq_none (by rw [wipe_length, a.1]; omega), List.getElem?_eq_none (by rw [wipe_length]; omega)]
  · rw [wipe_getN hi, wipe_getN hi]
    exact a.2 i fun z => hi (h i z)
abbrev Asg := PyData → Rho → Option Rho
structure RG (X : Cx) (is : List Nat) (tg : Expr) (a : Asg) : Prop where
  ex : ∃ g : TG, PG X tg g ∧ ∀ (σ : St) (H F : Hp) (r : Rho) (d : PyData) (r' : Rho) (v : V) (Q : St → Hp → Prop), SR X.prog X.w X.K F H σ r → Dp X.K F v d → a d r = some r' →
    (∀ σ', SR X.prog X.w X.K F H σ' r' → Go σ r F H σ' r' F H → Ch is σ σ' → Q σ' H) → g v σ H Q
section
variable {P : Program} {w : World} {K : PySem.W.Frag} {F H : Hp} {σ : St} {r : Rho}
theorem own_put {i : Nat} {e : Option Ent} {v : Option V} {a : Addr} (h : OwnAt (r.set i e) (σ.set i v) a) : (∃ en, e = some en ∧ en.own = true ∧ v = some (.ref a)) ∨ OwnAt r σ a := by
  obtain ⟨j, en, h1, h2, h3⟩ := h
  rcases get_set h1 with ⟨rfl, q⟩ | ⟨n, q⟩
  · rcases get_set h3 with ⟨_, q3⟩ | ⟨n3, _⟩
    · exact .inl ⟨en, q.symm, h2, q3.symm⟩
    · exact absurd rfl n3
  · rcases get_set h3 with ⟨z, _⟩ | ⟨_, q3⟩
    · exact absurd z n
    · exact .inr ⟨j, en, q, h2, q3⟩
/-- a slot is stored -/
theorem sr_store (S : SR P w K F H σ r) {i : Nat} {e : Ent} {v : V} (x : EntR P w K F H v e) (no : ∀ a, e.own = true → v = .ref a → ¬ OwnAt r σ a) : SR P w K F H (σ.set i (some v)) (r.set i (some e)) := by
  refine ⟨S.sub, by rw [List.length_set, List.length_set]; exact S.len, fun j e' h => ?_, fun j k a e1 e2 h1 h2 h3 h4 h5 h6 => ?_⟩
  · rcases get_set h with ⟨rfl, q⟩ | ⟨n, q⟩
    · cases q
      have hl : i < σ.length := by
        rw [← S.len]
        have := (List.getElem?_eq_some_iff.mp h).1
        simpa using this
      exact ⟨v, List.getElem?_set_self hl, x⟩
    · obtain ⟨u, q1, q2⟩ := S.ent j e' q
      exact ⟨u, by rw [List.getElem?_set_ne n]; exact q1, q2⟩
  · rcases get_set h1 with ⟨rfl, q⟩ | ⟨n, q⟩
    · rcases get_set h2 with ⟨rfl, q2⟩ | ⟨n2, q2⟩
      · rfl
      · cases q
        rcases get_set h5 with ⟨_, z⟩ | ⟨z, _⟩
        · rw [List.getElem?_set_ne n2] at h6
          exact absurd ⟨k, e2, q2, h4, h6⟩ (no a h3 (Option.some.inj z).symm)
        · exact absurd rfl z
    · rw [List.getElem?_set_ne n] at h5
      rcases get_set h2 with ⟨rfl, q2⟩ | ⟨n2, q2⟩
      · cases q2
        rcases get_set h6 with ⟨_, z⟩ | ⟨z, _⟩
        · exact absurd ⟨j, e1, q, h3, h5⟩ (no a h4 (Option.some.inj z).symm)
        · exact absurd rfl z
      · rw [List.getElem?_set_ne n2] at h6
        exact S.dis j k a e1 e2 q q2 h3 h4 h5 h6
theorem go_store {i : Nat} {e : Ent} {v : V} (h : ∀ a, e.own = true → v = .ref a → OwnAt r σ a ∨ H a = none) : Go σ r F H (σ.set i (some v)) (r.set i (some e)) F H := by
  refine ⟨Same.refl _, fun _ _ _ => rfl, fun _ _ h _ => h, fun b hb => ?_⟩
  rcases own_put hb with ⟨en, q1, q2, q3⟩ | q
  · cases q1
    exact h b q2 (Option.some.inj q3)
  · exact .inl q
end
def asgN (i : Nat) : Asg := fun d r => some (r.set i (some (.d d)))
def asgL : List Nat → List PyData → Rho → Option Rho
  | [], [], r => some r
  | i :: is, d :: ds, r => asgL is ds (r.set i (some (.d d)))
  | _, _, _ => none
def asgT (is : List Nat) : Asg := fun d r => match d with
  | .tuple ds => if ds.length = is.length then asgL is ds r else none
  | _ => none
section
variable {X : Cx} {pos : Pos}
theorem rg_name {i : Nat} {x : Str} (hN : X.N.Nodup) (hi : X.N[i]? = some x) (hx : Loc X.env.scope x) (hf : X.fn x = true ∨ X.env.scope.names.lookup x = some .local := by first | exact .inl rfl | exact .inr rfl | assumption) : RG X [i] (.Name x pos) (asgN i) := by
  refine ⟨_, pg_name hN hi hx hf, fun σ H F r d r' v Q S D e hQ => ?_⟩
  cases e
  exact hQ _ (sr_store S (.d D) fun _ z => nomatch z) (go_store fun _ z => nomatch z) (.set (by simp))
structure RGs (X : Cx) (is : List Nat) (ts : List Expr) : Prop where
  ex : ∃ g : TGs, PGs X ts g ∧ ∀ (σ : St) (H F : Hp) (r : Rho) (ds : List PyData) (r' : Rho) (vs : List V) (Q : St → Hp → Prop), SR X.prog X.w X.K F H σ r → DpAll X.K F vs ds → asgL is ds r = some r' →
    (∀ σ', SR X.prog X.w X.K F H σ' r' → Go σ r F H σ' r' F H → Ch is σ σ' → Q σ' H) → g vs σ H Q
theorem rgs_nil : RGs X [] [] := by
  refine ⟨_, pgs_nil, fun σ H F r ds r' vs Q S D e hQ => ?_⟩
  cases D with
  | nil => cases e; exact ⟨rfl, hQ σ S .refl (.refl _ _)⟩
  | cons _ _ => cases e
theorem rgs_cons {i : Nat} {is : List Nat} {e : Expr} {es : List Expr} (h1 : RG X [i] e (asgN i)) (h2 : RGs X is es)
    (hs : (assignEach (e :: es) X.env).map (·.2) = assign e X.env :: (assignEach es X.env).map (·.2) := by rfl) : RGs X (i :: is) (e :: es) := by
  obtain ⟨g, pg, k⟩ := h1.ex
  obtain ⟨gs, pgs, l⟩ := h2.ex
  refine ⟨_, pgs_cons pg pgs hs, fun σ H F r ds r' vs Q S D e hQ => ?_⟩
  cases D with
  | nil => cases e
  | @cons v vs d ds D1 D2 =>
    refine ⟨v, vs, rfl, k σ H F r d _ v _ S D1 rfl fun σ1 S1 G1 C1 => ?_⟩
    refine l σ1 H F _ ds r' vs Q S1 D2 e fun σ2 S2 G2 C2 => ?_
    exact hQ σ2 S2 (G1.trans G2) ((C1.mono fun j hj => by simp at hj; simp [hj]).trans (C2.mono fun j hj => List.mem_cons_of_mem _ hj))
theorem rg_tup {is : List Nat} {es : List Expr} {k : Nat} (hc : X.calm = true) (h : RGs X is es) (hn : (assignEach es X.env).length = is.length := by rfl) (hst : (assignEach es X.env).findIdx? (·.1) = none := by rfl) : RG X is (.Tuple es k pos) (asgT is) := by
  obtain ⟨g, pg, l⟩ := h.ex
  refine ⟨_, pg_tup hc pg hn hst, fun σ H F r d r' v Q S D e hQ => ?_⟩
  cases D with
  | tup h1 h2 =>
    simp only [asgT] at e
    split at e
    · rename_i hz
      exact ⟨_, _, rfl, same_seqT S.sub h1, by rw [h2.length]; exact hz, l σ H F r _ r' _ Q S h2 e hQ⟩
    · cases e
  | _ => cases e
end

/-! ### statements -/
def sNil : M Out := ret .nx
def sCons (f g : M Out) : M Out := bnd f fun o => match o with
  | .nx => g
  | o => ret o
section
variable {X : Cx} {n : Nat} {st : Stmt} {sts : List Stmt} {f g : M Out} {e : Expr} {pos pos' : Pos}
theorem OutK.step {P : Program} {w : World} {K : PySem.W.Frag} {D : Ends} {σ σ1 σ2 : St} {r r1 r2 : Rho} {F H F1 H1 F2 H2 : Hp} {o : Out} (G : Go σ r F H σ1 r1 F1 H1) (h : OutK P w K D σ r H σ2 r2 F2 H2 o) : OutK P w K D σ1 r1 H1 σ2 r2 F2 H2 o := by
  cases o with
  | nx => exact h
  | brk => exact h
  | cont => exact h
  | ret en => exact fun v R => h v (R.step G)
theorem rss_nil : RSs X n [] sNil := ⟨_, pss_nil, fun σ H F r o r' D S e hQ => by cases ret_some e; exact hQ σ F H S .refl (.refl _ _)⟩
theorem rss_cons (h1 : RS X n st f) (h2 : RSs X n sts g) : RSs X n (st :: sts) (sCons f g) := by
  obtain ⟨t, x, k⟩ := h1.ex
  obtain ⟨u, y, l⟩ := h2.ex
  refine ⟨_, pss_cons x y, fun σ H F r o r' D S e hQ => ?_⟩
  obtain ⟨o1, r1, e1, e⟩ := bnd_some e
  refine k σ H F r o1 r1 _ S e1 fun σ1 F1 H1 S1 G1 P1 => ?_
  cases o1 with
  | nx =>
    refine l σ1 H1 F1 r1 o r' D S1 e fun σ2 F2 H2 S2 G2 P2 => ?_
    exact (hQ σ2 F2 H2 S2 (G1.trans G2) (P1.trans P2)).step G1
  | brk =>
    cases ret_some e
    exact hQ σ1 F1 H1 S1 G1 P1
  | cont =>
    cases ret_some e
    exact hQ σ1 F1 H1 S1 G1 P1
  | ret en =>
    cases ret_some e
    exact hQ σ1 F1 H1 S1 G1 P1
theorem rss_one (h1 : RS X n st f) : RSs X n [st] f := let ⟨t, x, k⟩ := h1.ex; ⟨t, pss_one x, k⟩
theorem rs_pass : RS X n (.Pass pos) sNil := ⟨_, ps_pass, fun σ H F r o r' D S e hQ => by cases ret_some e; exact hQ σ F H S .refl (.refl _ _)⟩
theorem rs_continue : RS X n (.Continue pos) (ret .cont) := ⟨_, ps_continue, fun σ H F r o r' D S e hQ => by cases ret_some e; exact hQ σ F H S .refl (.refl _ _)⟩
theorem rs_break : RS X n (.Break pos) (ret .brk) := ⟨_, ps_break, fun σ H F r o r' D S e hQ => by cases ret_some e; exact hQ σ F H S .refl (.refl _ _)⟩
theorem rs_never : RS X n st (fun _ => none) := ⟨_, ps_never, fun σ H F r o r' D S e hQ => by cases e⟩
def sExpr (f : M PyData) : M Out := bnd f fun _ => ret .nx
theorem rs_expr {f : M PyData} (h : RE X e f) (hs : swapsWith e none pos.line X.env = pure false := by rfl) : RS X n (.Expr e pos) (sExpr f) := by
  obtain ⟨t, x, k⟩ := h.ex
  refine ⟨_, ps_expr x hs, fun σ H F r o r' D S e hQ => ?_⟩
  obtain ⟨d1, r1, e1, e⟩ := bnd_some e
  cases ret_some e
  exact k σ H F r d1 _ _ S e1 fun v F1 H1 S1 G1 D1 => hQ σ F1 H1 S1 G1 (.refl _ _)
def sRet (f : M Ent) : M Out := bnd f fun en => ret (.ret en)
theorem rs_ret {f : M Ent} (h : RX X e f) : RS X n (.Return (some e) pos) (sRet f) := by
  obtain ⟨t, x, k⟩ := h.ex
  refine ⟨_, ps_ret x, fun σ H F r o r' D S e hQ => ?_⟩
  obtain ⟨d1, r1, e1, e⟩ := bnd_some e
  cases ret_some e
  exact k σ H F r d1 _ _ S e1 fun v F1 H1 S1 G1 R1 => hQ σ F1 H1 S1 G1 (.refl _ _) v R1
def sRetD (f : M PyData) : M Out := bnd f fun d => ret (.ret (.d d))
theorem rs_retD {f : M PyData} (h : RE X e f) : RS X n (.Return (some e) pos) (sRetD f) := by
  obtain ⟨t, x, k⟩ := h.ex
  refine ⟨_, ps_ret x, fun σ H F r o r' D S e hQ => ?_⟩
  obtain ⟨d1, r1, e1, e⟩ := bnd_some e
  cases ret_some e
  exact k σ H F r d1 _ _ S e1 fun v F1 H1 S1 G1 D1 => hQ σ F1 H1 S1 G1 (.refl _ _) v (.d D1)
def sIf (c : M Bool) (f g : M Out) : M Out := bnd c fun b => if b = true then f else g
theorem rs_if {c : Expr} {as bs : List Stmt} {p : M Bool} (hc : RT X c p) (ha : RSs X n as f) (hb : RSs X n bs g) : RS X n (.If c as bs pos) (sIf p f g) := by
  obtain ⟨t, x, k⟩ := hc.ex
  obtain ⟨u, y, l⟩ := ha.ex
  obtain ⟨u', y', l'⟩ := hb.ex
  refine ⟨_, ps_if x y y', fun σ H F r o r' D S e hQ => ?_⟩
  obtain ⟨b1, r1, e1, e⟩ := bnd_some e
  refine k σ H F r b1 r1 _ S e1 fun F1 H1 S1 G1 => ?_
  cases b1 with
  | true =>
    rw [if_pos rfl] at e ⊢
    exact l σ H1 F1 r1 o r' D S1 e fun σ2 F2 H2 S2 G2 P2 => (hQ σ2 F2 H2 S2 (G1.trans G2) P2).step G1
  | false =>
    rw [if_neg (by decide)] at e ⊢
    exact l' σ H1 F1 r1 o r' D S1 e fun σ2 F2 H2 S2 G2 P2 => (hQ σ2 F2 H2 S2 (G1.trans G2) P2).step G1
/-! assignments -/
def sSet (i : Nat) (f : M PyData) : M Out := bnd f fun d r => some (.nx, r.set i (some (.d d)))
def sSetX (i : Nat) (f : M Ent) : M Out := bnd f fun en r => some (.nx, r.set i (some en))
theorem set_run {te : TE} {i : Nat} {f : M PyData} (hn : n ≤ i)
    (k : ∀ (σ : St) (H F : Hp) (r : Rho) (d : PyData) (r' : Rho) (Q : VK), SR X.prog X.w X.K F H σ r → f r = some (d, r') → (∀ v F' H', SR X.prog X.w X.K F' H' σ r' → Go σ r F H σ r' F' H' → Dp X.K F' v d → Q v H') → te σ H Q)
    (σ : St) (H F : Hp) (r : Rho) (o : Out) (r' : Rho) (D : Ends) (S : SR X.prog X.w X.K F H σ r) (e : sSet i f r = some (o, r'))
    (hQ : ∀ σ' F' H', SR X.prog X.w X.K F' H' σ' r' → Go σ r F H σ' r' F' H' → Pin n σ σ' → OutK X.prog X.w X.K D σ r H σ' r' F' H' o) : tAsg te (gName i) D σ H := by
  obtain ⟨d1, r1, e1, e⟩ := bnd_some e
  cases e
  refine k σ H F r d1 r1 _ S e1 fun v F1 H1 S1 G1 D1 => ?_
  exact hQ _ F1 H1 (sr_store S1 (.d D1) fun _ z => nomatch z) (G1.trans (go_store fun _ z => nomatch z)) ((Ch.set (is := [i]) (by simp)).pin (by simpa using hn))
theorem rs_set {i : Nat} {x : Str} {f : M PyData} (hn : n ≤ i) (hN : X.N.Nodup) (hi : X.N[i]? = some x) (hx : Loc X.env.scope x) (he : RE X e f) (hs : swapsWith e (some (.Name x pos')) pos.line X.env = pure false := by rfl) (hf : X.fn x = true ∨ X.env.scope.names.lookup x = some .local := by first | exact .inl rfl | exact .inr rfl | assumption) :
    RS X n (.Assign [.Name x pos'] e pos) (sSet i f) := by
  obtain ⟨t, y, k⟩ := he.ex
  exact ⟨_, ps_set hN hi hx y hs hf, set_run hn k⟩
theorem setX_run {te : TE} {i : Nat} {f : M Ent} (hn : n ≤ i)
    (k : ∀ (σ : St) (H F : Hp) (r : Rho) (en : Ent) (r' : Rho) (Q : VK), SR X.prog X.w X.K F H σ r → f r = some (en, r') → (∀ v F' H', SR X.prog X.w X.K F' H' σ r' → Go σ r F H σ r' F' H' → ResR X.prog X.w X.K σ r H σ r' F' H' v en → Q v H') → te σ H Q)
    (σ : St) (H F : Hp) (r : Rho) (o : Out) (r' : Rho) (D : Ends) (S : SR X.prog X.w X.K F H σ r) (e : sSetX i f r = some (o, r'))
    (hQ : ∀ σ' F' H', SR X.prog X.w X.K F' H' σ' r' → Go σ r F H σ' r' F' H' → Pin n σ σ' → OutK X.prog X.w X.K D σ r H σ' r' F' H' o) : tAsg te (gName i) D σ H := by
  obtain ⟨d1, r1, e1, e⟩ := bnd_some e
  cases e
  refine k σ H F r d1 r1 _ S e1 fun v F1 H1 S1 G1 R1 => ?_
  refine hQ _ F1 H1 (sr_store S1 R1.1 fun a z1 z2 => (R1.2 a z1 z2).2) ⟨G1.same, G1.nf, G1.keep, fun b hb => ?_⟩ ((Ch.set (is := [i]) (by simp)).pin (by simpa using hn))
  rcases own_put hb with ⟨en, q1, q2, q3⟩ | q
  · cases q1
    exact (R1.2 b q2 (Option.some.inj q3)).1
  · exact G1.own b q
theorem rs_setX {i : Nat} {x : Str} {f : M Ent} (hn : n ≤ i) (hN : X.N.Nodup) (hi : X.N[i]? = some x) (hx : Loc X.env.scope x) (he : RX X e f) (hs : swapsWith e (some (.Name x pos')) pos.line X.env = pure false := by rfl) (hf : X.fn x = true ∨ X.env.scope.names.lookup x = some .local := by first | exact .inl rfl | exact .inr rfl | assumption) :
    RS X n (.Assign [.Name x pos'] e pos) (sSetX i f) := by
  obtain ⟨t, y, k⟩ := he.ex
  exact ⟨_, ps_set hN hi hx y hs hf, setX_run hn k⟩
def sAsg (f : M PyData) (a : Asg) : M Out := bnd f fun d r => (a d r).map fun r' => (.nx, r')
theorem rs_asg {tg : Expr} {f : M PyData} {is : List Nat} {a : Asg} (hn : ∀ i ∈ is, n ≤ i) (he : RE X e f) (hg : RG X is tg a) (hs : swapsWithSole [tg] e pos.line X.env = pure false := by rfl) (hw : swappedStores [tg] e X.env = pure none := by rfl)
    (h1 : (assignEach [tg] X.env).map (·.2) = [assign tg X.env] := by rfl) : RS X n (.Assign [tg] e pos) (sAsg f a) := by
  obtain ⟨t, y, k⟩ := he.ex
  obtain ⟨g, pg, l⟩ := hg.ex
  refine ⟨_, ps_asg y pg hs hw h1, fun σ H F r o r' D S e hQ => ?_⟩
  obtain ⟨d1, r1, e1, e⟩ := bnd_some e
  obtain ⟨r2, e2, e3⟩ := Option.map_eq_some_iff.mp e
  cases e3
  refine k σ H F r d1 r1 _ S e1 fun v F1 H1 S1 G1 D1 => ?_
  exact l σ H1 F1 r1 d1 _ v _ S1 D1 e2 fun σ2 S2 G2 C2 => hQ σ2 F1 H1 S2 (G1.trans G2) (C2.pin hn)
/-- a, b = e1, e2, plain locals -/
def sPar (i j : Nat) (f g : M Ent) : M Out := bnd f fun a => bnd g fun b r => some (.nx, (r.set i (some a)).set j (some b))
theorem rs_par {i j : Nat} {x y : Str} {a b : Expr} {f g : M Ent} {px py pt : Pos} {kt k2 pt2} (hni : n ≤ i) (hnj : n ≤ j) (hc : X.calm = true) (hN : X.N.Nodup) (hi : X.N[i]? = some x) (hj : X.N[j]? = some y) (hij : i ≠ j)
    (hx : X.env.scope.names.lookup x = some .local) (hy : X.env.scope.names.lookup y = some .local) (ha : RX X a f) (hb : RX X b g)
    (hw : swappedStores [.Tuple [.Name x px, .Name y py] kt pt] (.Tuple [a, b] k2 pt2) X.env = pure (some [x, y]))
    (hs : swapsWithSole [.Tuple [.Name x px, .Name y py] kt pt] (.Tuple [a, b] k2 pt2) pos.line X.env = pure false := by rfl)
    (hs1 : starEach [a, b] X.env = (false, eval a X.env) :: starEach [b] X.env := by rfl) (hs2 : starEach [b] X.env = (false, eval b X.env) :: starEach [] X.env := by rfl) :
    RS X n (.Assign [.Tuple [.Name x px, .Name y py] kt pt] (.Tuple [a, b] k2 pt2) pos) (sPar i j f g) := by
  obtain ⟨t, pa, k⟩ := ha.ex
  obtain ⟨u, pb, l⟩ := hb.ex
  refine ⟨_, ps_par hc hN hi hj hij hx hy (pa_cons pa (pa_cons pb pa_nil hs2) hs1) hw hs, fun σ H F r o r' D S e hQ => ?_⟩
  obtain ⟨d1, r1, e1, e⟩ := bnd_some e
  obtain ⟨d2, r2, e2, e⟩ := bnd_some e
  cases e
  refine k σ H F r d1 r1 _ S e1 fun v F1 H1 S1 G1 R1 => ?_
  refine l σ H1 F1 r1 d2 r2 _ S1 e2 fun v2 F2 H2 S2 G2 R2 => ?_
  refine ⟨v, v2, rfl, ?_⟩
  have no1 : ∀ c, d1.own = true → v = .ref c → ¬ OwnAt r2 σ c := fun c z1 z2 z3 => by
    rcases G2.own c z3 with q | q
    · exact (R1.2 c z1 z2).2 q
    · subst z2
      obtain ⟨_, u, hu⟩ := R1.1.has z1
      rw [q] at hu
      cases hu
  have en1 : EntR X.prog X.w X.K F2 H2 v d1 := R1.1.mono G2.same fun c z1 z2 => ⟨fun o q => G2.keep c o q ((R1.2 c z2 z1).2), fun q1 q2 => (G2.nf c q2 ((R1.2 c z2 z1).2)).trans q1⟩
  have S3 := sr_store S2 en1 no1 (i := i)
  have no2 : ∀ c, d2.own = true → v2 = .ref c → ¬ OwnAt (r2.set i (some d1)) (σ.set i (some v)) c := fun c z1 z2 z3 => by
    rcases own_put z3 with ⟨en, q1, q2, q3⟩ | q
    · cases q1
      have q4 := Option.some.inj q3
      subst q4
      rcases (R2.2 c z1 z2).1 with q | q
      · exact (R1.2 c q2 rfl).2 q
      · obtain ⟨_, u, hu⟩ := R1.1.has q2
        rw [q] at hu
        cases hu
    · exact (R2.2 c z1 z2).2 q
  have S4 := sr_store S3 R2.1 no2 (i := j)
  have G := G1.trans G2
  refine hQ _ F2 H2 S4 ⟨G.same, G.nf, G.keep, fun c hc => ?_⟩ (((Ch.set (is := [i, j]) (by simp)).trans (Ch.set (by simp))).pin (by simp; exact ⟨hni, hnj⟩))
  rcases own_put hc with ⟨en, q1, q2, q3⟩ | q
  · cases q1
    exact ((ResR.step G1 R2).2 c q2 (Option.some.inj q3)).1
  · rcases own_put q with ⟨en, q1, q2, q3⟩ | q
    · cases q1
      exact (R1.2 c q2 (Option.some.inj q3)).1
    · exact G.own c q
/-- x op= e -/
def sAug (i : Nat) (o : PyData → PyData → Option PyData) (f : M PyData) : M Out := fun r => match r[i]? with
  | some (some (.d x)) => (bnd f fun y => bnd (lft (o x y)) fun z r => some (Out.nx, r.set i (some (.d z)))) r
  | _ => none
theorem rs_aug {i : Nat} {x : Str} {op : Operator} {o : PyData → PyData → Option PyData} {f : M PyData} (hn : n ≤ i) (hN : X.N.Nodup) (hi : X.N[i]? = some x) (hx : Loc X.env.scope x) (ho : OpOk X (inplaceOp op) o) (he : RE X e f)
    (hf : X.fn x = true ∨ X.env.scope.names.lookup x = some .local := by first | exact .inl rfl | exact .inr rfl | assumption) : RS X n (.AugAssign (.Name x pos') op e pos) (sAug i o f) := by
  obtain ⟨t, y, k⟩ := he.ex
  obtain ⟨rr, ro, ko⟩ := ho
  refine ⟨_, ps_aug hN hi hx y ro hf, fun σ H F r q r' D S e hQ => ?_⟩
  unfold sAug at e
  split at e
  · rename_i x hx
    obtain ⟨v, h1, h2⟩ := S.ent i _ hx
    obtain ⟨d1, r1, e1, e⟩ := bnd_some e
    obtain ⟨d2, r2, e2, e⟩ := bnd_some e
    obtain ⟨d3, e3, e4⟩ := lft_some e2
    cases e4
    cases e
    cases h2 with
    | d Dx =>
      refine ⟨v, h1, k σ H F r d1 _ _ S e1 fun u F1 H1 S1 G1 D1 => ?_⟩
      refine ko v u x d1 _ F1 H1 _ S1.sub (dp_mono G1.same Dx) D1 e3 fun z F2 H2 px D2 => ?_
      have S2 := S1.px px
      exact hQ _ F2 H2 (sr_store S2 (.d D2) fun _ z => nomatch z) ((G1.trans (.px px)).trans (go_store fun _ z => nomatch z)) ((Ch.set (is := [i]) (by simp)).pin (by simpa using hn))
  · cases e
theorem ip_addD : OpOk X (inplaceOp .Add) (fun x y => match x, y with | .int a, .int b => some (.int (a + b)) | _, _ => none) := by
  refine ⟨_, iop_add, fun x y dx dy d F H Q s D1 D2 e hQ => ?_⟩
  cases D1 <;> cases D2 <;> first | (cases e; done) | skip
  cases e
  exact ⟨_, _, rfl, rfl, hQ _ F H (.refl s) (.int _)⟩
def imulD : PyData → PyData → Option PyData
  | .int a, .int b => if (-18446744073709551616 < a ∧ a < 18446744073709551616) ∨ (-18446744073709551616 < b ∧ b < 18446744073709551616) then some (.int (a * b)) else none
  | _, _ => none
theorem ip_mulD : OpOk X (inplaceOp .Mult) imulD := by
  refine ⟨_, iop_mul, fun x y dx dy d F H Q s D1 D2 e hQ => ?_⟩
  cases D1 <;> cases D2 <;> first | (cases e; done) | skip
  simp only [imulD] at e
  split at e
  · rename_i hz
    cases e
    exact ⟨_, _, rfl, rfl, hz, hQ _ F H (.refl s) (.int _)⟩
  · cases e
end

/-! ### loops -/
def forM (a : Asg) (b : M Out) : List PyData → M Out
  | [], r => some (.nx, r)
  | d :: ds, r => match a d r with
    | none => none
    | some r1 => match b r1 with
      | none => none
      | some (.nx, r2) => forM a b ds r2
      | some (.cont, r2) => forM a b ds r2
      | some (.brk, r2) => some (.nx, r2)
      | some (.ret en, r2) => some (.ret en, r2)
def sFor (f : M (List PyData)) (a : Asg) (b : M Out) : M Out := bnd f fun ds => forM a b ds
def whileM (c : M Bool) (b : M Out) : Nat → M Out
  | 0, _ => none
  | n + 1, r => match c r with
    | none => none
    | some (false, r1) => some (.nx, r1)
    | some (true, r1) => match b r1 with
      | none => none
      | some (.nx, r2) => whileM c b n r2
      | some (.cont, r2) => whileM c b n r2
      | some (.brk, r2) => some (.nx, r2)
      | some (.ret en, r2) => some (.ret en, r2)
section
variable {X : Cx} {n : Nat} {f : M Out} {pos : Pos} {tg iter : Expr} {body : List Stmt}
theorem rs_for {fi : M (List PyData)} {is : List Nat} {a : Asg} (hn : ∀ i ∈ is, n ≤ i) (hp : PassesOwn (model X.prog X.w) X.A X.env X.xe) (hc : X.calm = true) (hi : RI X tg iter fi) (hg : RG X is tg a) (hb : RSs X n body f)
    (hs : ∀ x, foldedSetIterable iter X.env x = pure x := by intro _; rfl) : RS X n (.For tg iter body [] pos) (sFor fi a f) := by
  obtain ⟨wi, pi, ki⟩ := hi.ex
  obtain ⟨g, pg, kg⟩ := hg.ex
  obtain ⟨tb, pb, kb⟩ := hb.ex
  refine ⟨_, ps_for hp hc pi pg pb hs, fun σ H F r o r' D S e hQ => ?_⟩
  obtain ⟨ds, r1, e1, e⟩ := bnd_some e
  refine ki σ H F r ds r1 _ S e1 fun J F0 H0 S0 G0 Y => ?_
  obtain ⟨Yg, Ys⟩ := Y
  refine ⟨fun i m σ1 H1 => m = ds.length - i ∧ i ≤ ds.length ∧ ∃ F1 r2, SR X.prog X.w X.K F1 H1 σ1 r2 ∧ Same F0 F1 ∧ Go σ r F H σ1 r2 F1 H1 ∧ Pin n σ σ1 ∧ forM a f (ds.drop i) r2 = some (o, r'),
    ⟨ds.length, rfl, Nat.zero_le _, F0, r1, S0, Same.refl _, G0, .refl _ _, e⟩, ?_⟩
  rintro i m σ1 H1 ⟨rfl, hi, F1, r2, S1, s1, G1, P1, e2⟩
  by_cases hlt : i < ds.length
  · have hd : ds.drop i = ds[i] :: ds.drop (i + 1) := List.drop_eq_getElem_cons hlt
    rw [hd] at e2
    have hget : ds[i]? = some ds[i] := List.getElem?_eq_getElem hlt
    obtain ⟨jgo, jy⟩ := Yg i ds[i] F1 H1 hget s1 S1.sub
    unfold forM at e2
    split at e2
    · cases e2
    · rename_i r3 ea
      refine .inr ⟨jgo, fun σ2 H2 => ∃ F2 r4, SR X.prog X.w X.K F2 H2 σ2 r4 ∧ Same F0 F2 ∧ Go σ r F H σ2 r4 F2 H2 ∧ Pin n σ σ2 ∧ forM a f (ds.drop (i + 1)) r4 = some (o, r'), fun σ2 H2 ⟨F2, r4, q⟩ => ⟨ds.length - (i + 1), by omega, rfl, hlt, F2, r4, q⟩, fun x H2 yy => ?_⟩
      obtain ⟨F2, px, Dx⟩ := jy x H2 yy
      refine kg σ1 H2 F2 r2 ds[i] r3 x _ (S1.px px) Dx ea fun σ3 S3 G3 C3 => ?_
      have G13 := G1.trans ((Go.px px).trans G3)
      split at e2
      · cases e2
      · rename_i r4 eb
        refine kb σ3 H2 F2 r3 .nx r4 _ S3 eb fun σ4 F4 H4 S4 G4 P4 => ?_
        exact ⟨F4, r4, S4, s1.trans (px.same.trans G4.same), G13.trans G4, P1.trans ((C3.pin hn).trans P4), e2⟩
      · rename_i r4 eb
        refine kb σ3 H2 F2 r3 .cont r4 _ S3 eb fun σ4 F4 H4 S4 G4 P4 => ?_
        exact ⟨F4, r4, S4, s1.trans (px.same.trans G4.same), G13.trans G4, P1.trans ((C3.pin hn).trans P4), e2⟩
      · rename_i r4 eb
        cases e2
        refine kb σ3 H2 F2 r3 .brk _ _ S3 eb fun σ4 F4 H4 S4 G4 P4 => ?_
        exact hQ σ4 F4 H4 S4 (G13.trans G4) (P1.trans ((C3.pin hn).trans P4))
      · rename_i en r4 eb
        cases e2
        refine kb σ3 H2 F2 r3 (.ret en) _ _ S3 eb fun σ4 F4 H4 S4 G4 P4 v R => ?_
        exact hQ σ4 F4 H4 S4 (G13.trans G4) (P1.trans ((C3.pin hn).trans P4)) v (R.step G13)
  · have ei : i = ds.length := by omega
    subst ei
    rw [List.drop_length] at e2
    cases e2
    exact .inl ⟨Ys F1 H1 s1 S1.sub, hQ σ1 F1 H1 S1 G1 P1⟩
theorem rs_while {c : Expr} {p : M Bool} (N : Nat) (hp : PassesOwn (model X.prog X.w) X.A X.env X.xe) (hc : RT X c p) (hb : RSs X n body f) : RS X n (.While c body [] pos) (whileM p f N) := by
  obtain ⟨tc, pc, kc⟩ := hc.ex
  obtain ⟨tb, pb, kb⟩ := hb.ex
  refine ⟨_, ps_while hp pc pb, fun σ H F r o r' D S e hQ => ?_⟩
  refine ⟨fun m σ1 H1 => ∃ F1 r1, SR X.prog X.w X.K F1 H1 σ1 r1 ∧ Go σ r F H σ1 r1 F1 H1 ∧ Pin n σ σ1 ∧ whileM p f m r1 = some (o, r'), ⟨N, F, r, S, .refl, .refl _ _, e⟩, ?_⟩
  rintro m σ1 H1 ⟨F1, r1, S1, G1, P1, e1⟩
  cases m with
  | zero => cases e1
  | succ m =>
    unfold whileM at e1
    split at e1
    · cases e1
    · rename_i r2 ec
      cases e1
      refine kc σ1 H1 F1 r1 false _ _ S1 ec fun F2 H2 S2 G2 => ?_
      rw [if_neg (by decide)]
      exact hQ σ1 F2 H2 S2 (G1.trans G2) P1
    · rename_i r2 ec
      refine kc σ1 H1 F1 r1 true _ _ S1 ec fun F2 H2 S2 G2 => ?_
      rw [if_pos rfl]
      have G12 := G1.trans G2
      refine ⟨fun σ3 H3 => ∃ F3 r3, SR X.prog X.w X.K F3 H3 σ3 r3 ∧ Go σ r F H σ3 r3 F3 H3 ∧ Pin n σ σ3 ∧ whileM p f m r3 = some (o, r'), fun σ3 H3 ⟨F3, r3, q⟩ => ⟨m, Nat.lt_succ_self _, F3, r3, q⟩, ?_⟩
      split at e1
      · cases e1
      · rename_i r4 eb
        refine kb σ1 H2 F2 r2 .nx r4 _ S2 eb fun σ4 F4 H4 S4 G4 P4 => ?_
        exact ⟨F4, r4, S4, G12.trans G4, P1.trans P4, e1⟩
      · rename_i r4 eb
        refine kb σ1 H2 F2 r2 .cont r4 _ S2 eb fun σ4 F4 H4 S4 G4 P4 => ?_
        exact ⟨F4, r4, S4, G12.trans G4, P1.trans P4, e1⟩
      · rename_i r4 eb
        cases e1
        refine kb σ1 H2 F2 r2 .brk _ _ S2 eb fun σ4 F4 H4 S4 G4 P4 => ?_
        exact hQ σ4 F4 H4 S4 (G12.trans G4) (P1.trans P4)
      · rename_i en r4 eb
        cases e1
        refine kb σ1 H2 F2 r2 (.ret en) _ _ S2 eb fun σ4 F4 H4 S4 G4 P4 v R => ?_
        exact hQ σ4 F4 H4 S4 (G12.trans G4) (P1.trans P4) v (R.step G12)
end
end G65
namespace G65
open PySem PySem.Spec PyProof.Rows L2

/-! ### lists that are the def's own -/
def lenV (i : Nat) : M PyData := fun r => match r[i]? with
  | some (some (.d (.list xs))) => some (.int xs.length, r)
  | some (some (.d (.tuple xs))) => some (.int xs.length, r)
  | some (some (.ml xs)) => some (.int xs.length, r)
  | _ => none
def ixV (i : Nat) (g : M PyData) : M PyData := fun r => match r[i]? with
  | some (some _) => (bnd g fun k r => match r[i]? with
    | some (some (.d x)) => (ixD x k).map fun d => (d, r)
    | some (some (.ml xs)) => (ixD (.list xs) k).map fun d => (d, r)
    | _ => none) r
  | _ => none
def sApp (i : Nat) (f : M PyData) : M Out := fun r => match r[i]? with
  | some (some (.ml _)) => (bnd f fun d r1 => match r1[i]? with
    | some (some (.ml xs)) => if xs.length < 16777216 then some (Out.nx, r1.set i (some (.ml (xs ++ [d])))) else none
    | _ => none) r
  | _ => none
def sSetI (i : Nat) (f g : M PyData) : M Out := bnd f fun d r => match r[i]? with
  | some (some _) => (bnd g fun k r1 => match k, r1[i]? with
    | .int j, some (some (.ml xs)) => match ixN xs.length j with
      | some m => some (Out.nx, r1.set i (some (.ml (xs.set m d))))
      | none => none
    | _, _ => none) r
  | _ => none
section
variable {P : Program} {w : World} {K : PySem.W.Frag} {F H : Hp} {σ : St} {r : Rho}
/-- an own list is changed -/
theorem sr_mut (S : SR P w K F H σ r) {i : Nat} {e e' : Ent} {a : Addr} {o : HO} (h : r[i]? = some (some e)) (ho : e.own = true) (hs : σ[i]? = some (some (.ref a))) (x : EntR P w K F (upd H a o) (.ref a) e') : SR P w K F (upd H a o) σ (r.set i (some e')) := by
  obtain ⟨hF, u, hu⟩ := S.has ⟨i, e, h, ho, hs⟩
  have no := not_own S h ho hs
  have S1 : SR P w K F (upd H a o) σ (r.set i none) := by
    refine ⟨fun b q z => ?_, by rw [List.length_set]; exact S.len, fun j en hj => ?_, (sr_forget S i).dis⟩
    · rw [upd_ne fun y => by rw [y, hF] at z; cases z]
      exact S.sub _ _ z
    · obtain ⟨v, q1, q2⟩ := (sr_forget S i).ent j en hj
      refine ⟨v, q1, q2.mono (Same.refl _) fun c z1 z2 => ⟨fun q y => ?_, fun y _ => y⟩⟩
      rw [upd_ne fun y => no ⟨j, en, hj, z2, by rw [q1, z1, y]⟩]
      exact y
  have S2 := sr_put S1 hs x fun c z1 z2 => by
    cases z2
    rw [List.set_set]
    exact no
  rw [List.set_set] at S2
  exact S2
theorem go_mut (S : SR P w K F H σ r) {i : Nat} {e e' : Ent} {a : Addr} {o : HO} (h : r[i]? = some (some e)) (ho : e.own = true) (hs : σ[i]? = some (some (.ref a))) : Go σ r F H σ (r.set i (some e')) F (upd H a o) := by
  refine ⟨Same.refl _, fun _ _ _ => rfl, fun b q z n => ?_, fun b hb => ?_⟩
  · rw [upd_ne fun y => n ⟨i, e, h, ho, by rw [y]; exact hs⟩]
    exact z
  · rcases own_set hb with ⟨en, q1, q2, q3⟩ | q
    · rw [hs] at q3
      cases q3
      exact .inl ⟨i, e, h, ho, hs⟩
    · exact .inl q
end
section
variable {X : Cx} {n : Nat} {e b : Expr} {f g : M PyData} {p p2 q pos pos' : Pos} {x : Str}
theorem re_lenV (i : Nat) (hg : Gl X "len") (hm : X.mg "len" = none) (hN : X.N[i]? = some x := by rfl) (hv : Vis X.env.scope x := by first | exact Or.inl rfl | exact Or.inr (Or.inl rfl) | exact Or.inr (Or.inr rfl)) (hd : (x == ("__debug__" : Str)) = false := by decide)
    (hcd : (x == ("__classdict__" : Str)) = false := by decide) (hs : starEach [.Name x q] X.env = (false, eval (.Name x q) X.env) :: starEach [] X.env := by rfl) : RE X (.Call (.Name "len" p) [.Name x q] [] pos) (lenV i) := by
  refine ⟨_, pe_callB call_len_seq hg hm PySem.boot_len (pa_cons (pe_var hN hv hd hcd) pa_nil hs) (by decide) (by decide) hs, fun σ H F r d r' Q S e hQ => ?_⟩
  unfold lenV at e
  split at e <;> first | (cases e; done) | skip
  · rename_i xs h
    cases e
    obtain ⟨v, h1, h2⟩ := S.ent i _ h
    cases h2 with
    | d h2 =>
      cases h2 with
      | lst q1 q2 => exact ⟨_, h1, _, _, rfl, .inl (S.sub.seq q1), by rw [q2.length]; exact hQ _ F H S .refl (.int _)⟩
  · rename_i xs h
    cases e
    obtain ⟨v, h1, h2⟩ := S.ent i _ h
    cases h2 with
    | d h2 =>
      cases h2 with
      | tup q1 q2 => exact ⟨_, h1, _, _, rfl, .inr (same_seqT S.sub q1), by rw [q2.length]; exact hQ _ F H S .refl (.int _)⟩
  · rename_i xs h
    cases e
    obtain ⟨v, h1, h2⟩ := S.ent i _ h
    cases h2 with
    | ml q0 q1 q2 => exact ⟨_, h1, _, _, rfl, .inl (.inl (.inl q1)), by rw [q2.length]; exact hQ _ F H S .refl (.int _)⟩
theorem re_ixV (i : Nat) (hb : RE X b g) (hp : PlainIx b) (hN : X.N[i]? = some x := by rfl) (hv : Vis X.env.scope x := by first | exact Or.inl rfl | exact Or.inr (Or.inl rfl) | exact Or.inr (Or.inr rfl)) (hd : (x == ("__debug__" : Str)) = false := by decide)
    (hcd : (x == ("__classdict__" : Str)) = false := by decide) : RE X (.Subscript (.Name x q) b pos) (ixV i g) := by
  obtain ⟨tb, pb, kb⟩ := hb.ex
  refine ⟨_, pe_ix (ix_list.or ix_tup) (pe_var hN hv hd hcd) pb hp, fun σ H F r d r' Q S e hQ => ?_⟩
  unfold ixV at e
  split at e
  · rename_i en h0
    obtain ⟨v, hs, _⟩ := S.ent i _ h0
    obtain ⟨k, r1, e1, e⟩ := bnd_some e
    refine ⟨v, hs, kb σ H F r k r1 _ S e1 fun u F1 H1 S1 G1 D1 => ?_⟩
    split at e <;> first | (cases e; done) | skip
    · rename_i x h
      obtain ⟨d', e2, e3⟩ := Option.map_eq_some_iff.mp e
      cases e3
      obtain ⟨v', h1, h2⟩ := S1.ent i _ h
      rw [hs] at h1
      cases h1
      cases h2 with
      | d h2 =>
        cases h2 with
        | lst q1 q2 =>
          cases D1 with
          | int j =>
            obtain ⟨v, w1, w2⟩ := atI_dp q2 e2
            exact .inl ⟨_, _, j, v, rfl, rfl, S1.sub.seq q1, w1, hQ v F1 H1 S1 G1 w2⟩
          | _ => cases e2
        | tup q1 q2 =>
          cases D1 with
          | int j =>
            obtain ⟨v, w1, w2⟩ := atI_dp q2 e2
            exact .inr ⟨_, _, j, v, rfl, rfl, same_seqT S1.sub q1, w1, hQ v F1 H1 S1 G1 w2⟩
          | _ => cases e2
        | _ => cases D1 <;> cases e2
    · rename_i xs h
      obtain ⟨d', e2, e3⟩ := Option.map_eq_some_iff.mp e
      cases e3
      obtain ⟨v', h1, h2⟩ := S1.ent i _ h
      rw [hs] at h1
      cases h1
      cases h2 with
      | ml q0 q1 q2 =>
        cases D1 with
        | int j =>
          obtain ⟨v, w1, w2⟩ := atI_dp q2 e2
          exact .inl ⟨_, _, j, v, rfl, rfl, .inl (.inl q1), w1, hQ v F1 H1 S1 G1 w2⟩
        | _ => cases e2
  · cases e
theorem rs_app (i : Nat) (he : RE X e f) (hs0 : swapsWith (.Call (.Attribute (.Name x q) "append" p2) [e] [] p) none pos.line X.env = pure false := by rfl) (hs : starEach [e] X.env = (false, eval e X.env) :: starEach [] X.env := by rfl)
    (hN : X.N[i]? = some x := by rfl) (hv : Vis X.env.scope x := by first | exact Or.inl rfl | exact Or.inr (Or.inl rfl) | exact Or.inr (Or.inr rfl)) (hd : (x == ("__debug__" : Str)) = false := by decide) (hcd : (x == ("__classdict__" : Str)) = false := by decide)
    (hpe : ∀ {to : TE} {t : TA}, PE X (.Name x q) to → PA X [e] t → PE X (.Call (.Attribute (.Name x q) "append" p2) [e] [] p) (tBM X.K "list" rAppend to t) := by exact fun h1 h2 => pe_bm PySem.F.plainAttrs_list PySem.F.slot_list_append PySem.F.type_list_append mt_append h1 h2) :
    RS X n (.Expr (.Call (.Attribute (.Name x q) "append" p2) [e] [] p) pos) (sApp i f) := by
  obtain ⟨t, pe, k⟩ := he.ex
  refine ⟨_, ps_expr (hpe (pe_var hN hv hd hcd) (pa_cons pe pa_nil hs)) hs0, fun σ H F r o r' D S e hQ => ?_⟩
  unfold sApp at e
  split at e
  · rename_i en h0
    obtain ⟨v, hs, h2⟩ := S.ent i _ h0
    cases h2 with
    | ml q0 q1 q2 =>
      obtain ⟨d1, r1, e1, e⟩ := bnd_some e
      refine ⟨_, hs, .inl ⟨rfl, _, .inl (.inl q1)⟩, k σ H F r d1 r1 _ S e1 fun u F1 H1 S1 G1 D1 => ?_⟩
      split at e
      · rename_i xs h
        split at e
        · rename_i hz
          cases e
          obtain ⟨v', h1, h2⟩ := S1.ent i _ h
          rw [hs] at h1
          cases h1
          cases h2 with
          | ml w0 w1 w2 =>
            refine ⟨_, _, u, rfl, rfl, w1, by rw [w2.length, sl_eq]; exact hz, ?_⟩
            exact hQ σ F1 _ (sr_mut S1 h rfl hs (.ml w0 upd_same (w2.append (.one D1)))) (G1.trans (go_mut S1 h rfl hs)) (.refl _ _)
        · cases e
      · cases e
  · cases e
theorem rs_setI (i : Nat) (he : RE X e f) (hb : RE X b g) (hN : X.N[i]? = some x := by rfl) (hv : Vis X.env.scope x := by first | exact Or.inl rfl | exact Or.inr (Or.inl rfl) | exact Or.inr (Or.inr rfl)) (hd : (x == ("__debug__" : Str)) = false := by decide) (hcd : (x == ("__classdict__" : Str)) = false := by decide)
    (ha : ∀ v, assign (.Subscript (.Name x q) b p) X.env v = (do
      let ov ← holding [v] (eval (.Name x q) X.env)
      let iv ← holding [v, ov] (eval b X.env)
      standAt p
      holding [v, ov, iv] (setItem ov iv v)
      release [v, ov, iv] []) := by intro _; rfl)
    (hs : swapsWithSole [.Subscript (.Name x q) b p] e pos.line X.env = pure false := by rfl) (hw : swappedStores [.Subscript (.Name x q) b p] e X.env = pure none := by rfl)
    (h1 : (assignEach [.Subscript (.Name x q) b p] X.env).map (·.2) = [assign (.Subscript (.Name x q) b p) X.env] := by rfl) : RS X n (.Assign [.Subscript (.Name x q) b p] e pos) (sSetI i f g) := by
  obtain ⟨t, pe, k⟩ := he.ex
  obtain ⟨t2, pb, k2⟩ := hb.ex
  refine ⟨_, ps_asg pe (pg_sub (pe_var hN hv hd hcd) pb set_list ha) hs hw h1, fun σ H F r o r' D S e hQ => ?_⟩
  obtain ⟨d1, r1, e1, e⟩ := bnd_some e
  refine k σ H F r d1 r1 _ S e1 fun u F1 H1 S1 G1 D1 => ?_
  split at e
  · rename_i en h0
    obtain ⟨v, hv, _⟩ := S1.ent i _ h0
    obtain ⟨d2, r2, e2, e⟩ := bnd_some e
    refine ⟨v, hv, k2 σ H1 F1 r1 d2 r2 _ S1 e2 fun y F2 H2 S2 G2 D2 => ?_⟩
    split at e
    · rename_i j xs h
      split at e
      · rename_i m hm
        cases e
        obtain ⟨v', z1, z2⟩ := S2.ent i _ h
        rw [hv] at z1
        cases z1
        cases z2 with
        | ml w0 w1 w2 =>
          cases D2
          refine ⟨_, _, j, m, rfl, rfl, w1, by rw [w2.length]; exact hm, ?_⟩
          exact hQ σ F2 _ (sr_mut S2 h rfl hv (.ml w0 upd_same (w2.set m (dp_mono G2.same D1)))) ((G1.trans G2).trans (go_mut S2 h rfl hv)) (.refl _ _)
      · cases e
    · cases e
  · cases e
/-- the own thing itself, as what is handed back -/
def mvV (i : Nat) : M Ent := fun r => match r[i]? with
  | some (some en) => some (en, r.set i none)
  | _ => none
theorem rx_mv (i : Nat) (hN : X.N[i]? = some x := by rfl) (hv : Vis X.env.scope x := by first | exact Or.inl rfl | exact Or.inr (Or.inl rfl) | exact Or.inr (Or.inr rfl)) (hd : (x == ("__debug__" : Str)) = false := by decide) (hcd : (x == ("__classdict__" : Str)) = false := by decide) : RX X (.Name x pos) (mvV i) := by
  refine ⟨_, pe_var hN hv hd hcd, fun σ H F r en r' Q S e hQ => ?_⟩
  unfold mvV at e
  split at e
  · rename_i en h
    cases e
    obtain ⟨v, h1, h2⟩ := S.ent i _ h
    refine ⟨v, h1, hQ v F H (sr_forget S i) ⟨Same.refl _, fun _ _ _ => rfl, fun _ _ q _ => q, fun b hb => .inl (own_set_none hb)⟩ ⟨h2, fun a z1 z2 => ?_⟩⟩
    subst z2
    exact ⟨.inl ⟨i, en, h, z1, h1⟩, not_own S h z1 h1⟩
  · cases e
end
end G65
namespace G65
open PySem PySem.Spec PyProof.Rows L2

/-! ### readings that do not hang on the frame -/
section
variable (P : Program) (w : World) (K : PySem.W.Frag)
def tD (f : M PyData) : TE := fun σ H Q => ∃ F r d r', SR P w K F H σ r ∧ f r = some (d, r') ∧ ∀ v F' H', SR P w K F' H' σ r' → Go σ r F H σ r' F' H' → Dp K F' v d → Q v H'
def tBo (f : M Bool) : TT := fun σ H Q => ∃ F r d r', SR P w K F H σ r ∧ f r = some (d, r') ∧ ∀ F' H', SR P w K F' H' σ r' → Go σ r F H σ r' F' H' → Q d H'
def tGa (is : List Nat) (a : Asg) : TG := fun v σ H Q => ∃ F r d r', SR P w K F H σ r ∧ Dp K F v d ∧ a d r = some r' ∧ ∀ σ', SR P w K F H σ' r' → Go σ r F H σ' r' F H → Ch is σ σ' → Q σ' H
def tIs (f : M (List PyData)) : TI := fun σ H R => ∃ F r ds r', SR P w K F H σ r ∧ f r = some (ds, r') ∧ ∀ J F' H', SR P w K F' H' σ r' → Go σ r F H σ r' F' H' → Yl K J F' ds → R J H'
end
theorem RE.pe {X : Cx} {e : Expr} {f : M PyData} (h : RE X e f) : PE X e (tD X.prog X.w X.K f) := by
  obtain ⟨t, pe, k⟩ := h.ex
  exact ⟨fun pins s σ H Q I ⟨F, r, d, r', S, e1, hQ⟩ => pe.run pins s σ H Q I (k σ H F r d r' Q S e1 hQ)⟩
theorem RT.pt {X : Cx} {e : Expr} {f : M Bool} (h : RT X e f) : PT X e (tBo X.prog X.w X.K f) := by
  obtain ⟨t, pe, k⟩ := h.ex
  exact ⟨fun pins s σ H Q I ⟨F, r, d, r', S, e1, hQ⟩ => pe.run pins s σ H Q I (k σ H F r d r' Q S e1 hQ)⟩
theorem RG.pg {X : Cx} {is : List Nat} {e : Expr} {a : Asg} (h : RG X is e a) : PG X e (tGa X.prog X.w X.K is a) := by
  obtain ⟨t, pe, k⟩ := h.ex
  exact ⟨fun pins s σ H v u Q I rv ⟨F, r, d, r', S, D, e1, hQ⟩ => pe.run pins s σ H v u Q I rv (k σ H F r d r' v Q S D e1 hQ)⟩
theorem RI.pi {X : Cx} {tg e : Expr} {f : M (List PyData)} (h : RI X tg e f) : PI X tg e (tIs X.prog X.w X.K f) := by
  obtain ⟨t, pe, k⟩ := h.ex
  exact ⟨fun pins s σ H R I ⟨F, r, d, r', S, e1, hQ⟩ => pe.run pins s σ H R I (k σ H F r d r' R S e1 hQ)⟩
structure RTs (X : Cx) (ifs : List Expr) (f : M Bool) : Prop where
  ex : PTs X ifs (tBo X.prog X.w X.K f)
theorem rts_nil {X : Cx} : RTs X [] (ret true) := ⟨⟨fun pins s σ H Q I ⟨F, r, d, r', S, e1, hQ⟩ => by
  cases ret_some e1
  exact pts_nil.run pins s σ H Q I (hQ F H S .refl)⟩⟩
theorem rts_one {X : Cx} {c : Expr} {f : M Bool} (h : RT X c f) : RTs X [c] f := ⟨pts_one h.pt⟩

/-! ### what a block forgets and what comes back -/
def wipeR (r : Rho) : List Nat → Rho
  | [] => r
  | v :: vs => (wipeR r vs).set v none
def restR (r r4 : Rho) : List Nat → Rho
  | [] => r4
  | v :: vs => (restR r r4 vs).set v (match r[v]? with | some (some e) => some e | _ => none)
theorem wipeR_len (r : Rho) : ∀ vs, (wipeR r vs).length = r.length
  | [] => rfl
  | v :: vs => by unfold wipeR; rw [List.length_set, wipeR_len r vs]
theorem restR_len (r r4 : Rho) : ∀ vs, (restR r r4 vs).length = r4.length
  | [] => rfl
  | v :: vs => by unfold restR; rw [List.length_set, restR_len r r4 vs]
theorem wipeR_some {r : Rho} {i : Nat} {e : Ent} : ∀ {vs : List Nat}, (wipeR r vs)[i]? = some (some e) → r[i]? = some (some e) ∧ i ∉ vs
  | [], h => ⟨h, by simp⟩
  | v :: vs, h => by
    unfold wipeR at h
    rcases get_set h with ⟨_, q⟩ | ⟨n, q⟩
    · cases q
    · obtain ⟨h1, h2⟩ := wipeR_some q
      exact ⟨h1, by simp only [List.mem_cons, not_or]; exact ⟨fun e => n e.symm, h2⟩⟩
theorem wipeR_out {r : Rho} {i : Nat} : ∀ {vs : List Nat}, i ∉ vs → (wipeR r vs)[i]? = r[i]?
  | [], _ => rfl
  | v :: vs, h => by
    unfold wipeR
    rw [List.getElem?_set_ne fun z => h (by rw [z]; exact List.mem_cons_self)]
    exact wipeR_out fun z => h (List.mem_cons_of_mem _ z)
theorem restR_some {r r4 : Rho} {i : Nat} {e : Ent} : ∀ {vs : List Nat}, (restR r r4 vs)[i]? = some (some e) → (i ∈ vs ∧ r[i]? = some (some e)) ∨ (i ∉ vs ∧ r4[i]? = some (some e))
  | [], h => .inr ⟨by simp, h⟩
  | v :: vs, h => by
    unfold restR at h
    rcases get_set h with ⟨rfl, q⟩ | ⟨n, q⟩
    · left
      refine ⟨List.mem_cons_self, ?_⟩
      split at q
      · rename_i e' h'
        cases q
        exact h'
      · cases q
    · rcases restR_some q with ⟨h1, h2⟩ | ⟨h1, h2⟩
      · exact .inl ⟨List.mem_cons_of_mem _ h1, h2⟩
      · exact .inr ⟨by simp only [List.mem_cons, not_or]; exact ⟨fun e => n e.symm, h1⟩, h2⟩
section
variable {P : Program} {w : World} {K : PySem.W.Frag} {F H F' H' : Hp} {σ : St} {r r' : Rho}
theorem own_wipe {vs : List Nat} {a : Addr} (h : OwnAt (wipeR r vs) (wipe σ vs) a) : OwnAt r σ a := by
  obtain ⟨i, e, h1, h2, h3⟩ := h
  obtain ⟨h4, h5⟩ := wipeR_some h1
  exact ⟨i, e, h4, h2, by rw [← wipe_getN h5]; exact h3⟩
theorem sr_wipe (S : SR P w K F H σ r) (vs : List Nat) : SR P w K F H (wipe σ vs) (wipeR r vs) := by
  refine ⟨S.sub, by rw [wipeR_len, wipe_length]; exact S.len, fun i e h => ?_, fun i j a e e' h1 h2 h3 h4 h5 h6 => ?_⟩
  · obtain ⟨h4, h5⟩ := wipeR_some h
    obtain ⟨v, q1, q2⟩ := S.ent i e h4
    exact ⟨v, by rw [wipe_getN h5]; exact q1, q2⟩
  · obtain ⟨q1, q2⟩ := wipeR_some h1
    obtain ⟨q3, q4⟩ := wipeR_some h2
    rw [wipe_getN q2] at h5
    rw [wipe_getN q4] at h6
    exact S.dis i j a e e' q1 q3 h3 h4 h5 h6
/-- behind a block: its names hold again what they held -/
theorem sr_rest {vs : List Nat} (S : SR P w K F H σ r) (S' : SR P w K F' H' (wipe σ vs) r') (G : Go (wipe σ vs) (wipeR r vs) F H (wipe σ vs) r' F' H') : SR P w K F' H' σ (restR r r' vs) ∧ Go σ r F H σ (restR r r' vs) F' H' := by
  have key : ∀ (i : Nat) (e : Ent) (a : Addr), i ∈ vs → r[i]? = some (some e) → e.own = true → σ[i]? = some (some (.ref a)) → ¬ OwnAt (wipeR r vs) (wipe σ vs) a := fun i e a h1 h2 h3 h4 ⟨j, e', q1, q2, q3⟩ => by
    obtain ⟨q4, q5⟩ := wipeR_some q1
    rw [wipe_getN q5] at q3
    have := S.dis i j a e e' h2 q4 h3 q2 h4 q3
    subst this
    exact q5 h1
  have keyH : ∀ (i : Nat) (e : Ent) (a : Addr), r[i]? = some (some e) → e.own = true → σ[i]? = some (some (.ref a)) → H a ≠ none := fun i e a h2 h3 h4 z => by
    obtain ⟨_, u, hu⟩ := S.has ⟨i, e, h2, h3, h4⟩
    rw [z] at hu
    cases hu
  have key2 : ∀ (i j : Nat) (e e' : Ent) (a : Addr), i ∈ vs → r[i]? = some (some e) → e.own = true → σ[i]? = some (some (.ref a)) → j ∉ vs → r'[j]? = some (some e') → e'.own = true → σ[j]? = some (some (.ref a)) → False := fun i j e e' a h1 h2 h3 h4 h5 h6 h7 h8 => by
    rcases G.own a ⟨j, e', h6, h7, by rw [wipe_getN h5]; exact h8⟩ with q | q
    · exact key i e a h1 h2 h3 h4 q
    · exact keyH i e a h2 h3 h4 q
  refine ⟨⟨S'.sub, by rw [restR_len, S'.len, wipe_length], fun i e h => ?_, fun i j a e e' h1 h2 h3 h4 h5 h6 => ?_⟩, ⟨G.same, fun b hb hn => G.nf b hb fun z => hn (own_wipe z), fun b o hb hn => G.keep b o hb fun z => hn (own_wipe z), fun b hb => ?_⟩⟩
  · rcases restR_some h with ⟨q1, q2⟩ | ⟨q1, q2⟩
    · obtain ⟨v, q3, q4⟩ := S.ent i e q2
      refine ⟨v, q3, q4.mono G.same fun a z1 z2 => ?_⟩
      subst z1
      have no := key i e a q1 q2 z2 q3
      exact ⟨fun o z => G.keep a o z no, fun y1 y2 => (G.nf a y2 no).trans y1⟩
    · obtain ⟨v, q3, q4⟩ := S'.ent i e q2
      rw [wipe_getN q1] at q3
      exact ⟨v, q3, q4⟩
  · rcases restR_some h1 with ⟨q1, q2⟩ | ⟨q1, q2⟩
    · rcases restR_some h2 with ⟨q3, q4⟩ | ⟨q3, q4⟩
      · exact S.dis i j a e e' q2 q4 h3 h4 h5 h6
      · exact (key2 i j e e' a q1 q2 h3 h5 q3 q4 h4 h6).elim
    · rcases restR_some h2 with ⟨q3, q4⟩ | ⟨q3, q4⟩
      · exact (key2 j i e' e a q3 q4 h4 h6 q1 q2 h3 h5).elim
      · exact S'.dis i j a e e' q2 q4 h3 h4 (by rw [wipe_getN q1]; exact h5) (by rw [wipe_getN q3]; exact h6)
  · obtain ⟨i, e, h1, h2, h3⟩ := hb
    rcases restR_some h1 with ⟨q1, q2⟩ | ⟨q1, q2⟩
    · exact .inl ⟨i, e, q2, h2, h3⟩
    · rcases G.own b ⟨i, e, q2, h2, by rw [wipe_getN q1]; exact h3⟩ with q | q
      · exact .inl (own_wipe q)
      · exact .inr q
/-- the state of a comprehension's loop: D the new list -/
structure LS (P : Program) (w : World) (K : PySem.W.Frag) (D : Addr) (σ : St) (r0 : Rho) (F0 H0 : Hp) (F H : Hp) (r : Rho) (acc : List PyData) : Prop where
  sr : SR P w K F H σ r
  go : Go σ r0 F0 H0 σ r F H
  fD : F D = none
  hD : ∃ vs, H D = some (.lst vs) ∧ DpAll K F vs acc
  no : ¬ OwnAt r σ D
theorem ls_go {D : Addr} {r0 r1 r2 : Rho} {σ1 : St} {F0 H0 F1 H1 F2 H2 : Hp} {acc : List PyData} (hD0 : H0 D = none) (L : LS P w K D σ r0 F0 H0 F1 H1 r1 acc) (S2 : SR P w K F2 H2 σ1 r2) (G : Go σ r1 F1 H1 σ1 r2 F2 H2) : F2 D = none ∧ (∃ vs, H2 D = some (.lst vs) ∧ DpAll K F2 vs acc) ∧ ¬ OwnAt r2 σ1 D := by
  obtain ⟨vs, h1, h2⟩ := L.hD
  have hn : H1 D ≠ none := by rw [h1]; exact fun z => nomatch z
  refine ⟨(G.nf D hn L.no).trans L.fD, ⟨vs, G.keep D _ h1 L.no, dpAll_mono G.same h2⟩, fun z => ?_⟩
  rcases G.own D z with q | q
  · exact L.no q
  · exact hn q
theorem sr_updD (S : SR P w K F H σ r) {D : Addr} {o : HO} (hF : F D = none) (no : ¬ OwnAt r σ D) : SR P w K F (upd H D o) σ r := by
  refine ⟨fun b x e => ?_, S.len, fun i e h => ?_, S.dis⟩
  · rw [upd_ne fun z => by rw [z, hF] at e; cases e]
    exact S.sub _ _ e
  · obtain ⟨v, q1, q2⟩ := S.ent i e h
    refine ⟨v, q1, q2.mono (Same.refl _) fun a z1 z2 => ⟨fun x y => ?_, fun y _ => y⟩⟩
    rw [upd_ne fun z => no ⟨i, e, h, z2, by rw [q1, z1, z]⟩]
    exact y
end
/-- an accumulating loop -/
def foldA (st : PyData → Rho → Option (List PyData × Rho)) : List PyData → Rho → Option (List PyData × Rho)
  | [], r => some ([], r)
  | d :: ds, r => match st d r with
    | none => none
    | some (xs, r1) => match foldA st ds r1 with
      | none => none
      | some (ys, r2) => some (xs ++ ys, r2)
theorem acc_loop {P : Program} {w : World} {K : PySem.W.Frag} {J : It} {Fs : Hp} {ds : List PyData} (Y : Yl K J Fs ds) {D : Addr} {σ : St} {r0 : Rho} {F0 H0 : Hp} (hs0 : Same Fs F0) (st : PyData → Rho → Option (List PyData × Rho)) (Body : V → Hp → (Hp → Prop) → Prop) (NX : Hp → Prop)
    {all : List PyData} {rE : Rho} {acc0 : List PyData}
    (hB : ∀ d x F1 H1 F H r xs r' acc rest (Nx : Hp → Prop), LS P w K D σ r0 F0 H0 F1 H1 r acc → Px F1 H1 F H → Dp K F x d → st d r = some (xs, r') → acc ++ (xs ++ rest) = all → (∀ F' H', LS P w K D σ r0 F0 H0 F' H' r' (acc ++ xs) → Nx H') → Body x H Nx)
    {F H : Hp} {r : Rho} (L : LS P w K D σ r0 F0 H0 F H r acc0) {xs : List PyData} (e : foldA st ds r = some (xs, rE)) (ha : ∃ post, acc0 ++ (xs ++ post) = all) (hE : ∀ F' H', LS P w K D σ r0 F0 H0 F' H' rE (acc0 ++ xs) → NX H') :
    ∃ W : Nat → Nat → Hp → Prop, (∃ m, W 0 m H) ∧ ∀ i m H, W i m H → (J.stop i H ∧ NX H) ∨ (J.go i H ∧ ∃ Nx : Hp → Prop, (∀ H', Nx H' → ∃ m', m' < m ∧ W (i + 1) m' H') ∧ ∀ x H', J.yld i H x H' → Body x H' Nx) := by
  obtain ⟨Yg, Ys⟩ := Y
  obtain ⟨post, ha⟩ := ha
  refine ⟨fun i m H1 => m = ds.length - i ∧ i ≤ ds.length ∧ ∃ F1 r1 acc1 rest, LS P w K D σ r0 F0 H0 F1 H1 r1 acc1 ∧ foldA st (ds.drop i) r1 = some (rest, rE) ∧ acc1 ++ rest = acc0 ++ xs,
    ⟨ds.length, rfl, Nat.zero_le _, F, r, acc0, xs, L, e, rfl⟩, ?_⟩
  rintro i m H1 ⟨rfl, hi, F1, r1, acc1, rest, L1, e1, ea⟩
  have s1 : Same Fs F1 := hs0.trans L1.go.same
  by_cases hlt : i < ds.length
  · have hd : ds.drop i = ds[i] :: ds.drop (i + 1) := List.drop_eq_getElem_cons hlt
    rw [hd] at e1
    obtain ⟨jgo, jy⟩ := Yg i ds[i] F1 H1 (List.getElem?_eq_getElem hlt) s1 L1.sr.sub
    unfold foldA at e1
    split at e1
    · cases e1
    · rename_i ys r2 es
      split at e1
      · cases e1
      · rename_i zs r3 er
        cases e1
        refine .inr ⟨jgo, fun H2 => ∃ F2, LS P w K D σ r0 F0 H0 F2 H2 r2 (acc1 ++ ys), fun H2 ⟨F2, L2⟩ => ⟨ds.length - (i + 1), by omega, rfl, hlt, F2, r2, acc1 ++ ys, zs, L2, er, by rw [List.append_assoc]; exact ea⟩, fun x H2 yy => ?_⟩
        obtain ⟨F2, px, Dx⟩ := jy x H2 yy
        refine hB ds[i] x F1 H1 F2 H2 r1 ys r2 acc1 (zs ++ post) _ L1 px Dx es ?_ fun F' H' L' => ⟨F', L'⟩
        rw [← ha, ← List.append_assoc ys, ← List.append_assoc acc1, ea, List.append_assoc]
  · have ei : i = ds.length := by omega
    subst ei
    rw [List.drop_length] at e1
    cases e1
    rw [List.append_nil] at ea
    subst ea
    exact .inl ⟨Ys F1 H1 s1 L1.sr.sub, hE F1 H1 L1⟩
/-! ### comprehensions -/
def stepC (vs : List Nat) (a : Asg) (t : M Bool) (e : M PyData) (d : PyData) (r : Rho) : Option (List PyData × Rho) := match a d r with
  | none => none
  | some r1 => match t r1 with
    | none => none
    | some (false, r2) => some ([], wipeR r2 vs)
    | some (true, r2) => match e r2 with
      | none => none
      | some (x, r3) => some ([x], wipeR r3 vs)
def lcM (vs : List Nat) (fi : M (List PyData)) (st : PyData → Rho → Option (List PyData × Rho)) : M Ent := bnd fi fun ds r => match foldA st ds (wipeR r vs) with
  | none => none
  | some (xs, r4) => if xs.length ≤ 16777216 then some (.ml xs, restR r r4 vs) else none
/-- one turn: target, test, element -/
theorem turn_body {P : Program} {w : World} {K : PySem.W.Frag} {D : Addr} {σ : St} {r0 : Rho} {F0 H0 : Hp} (hD0 : H0 D = none) {vs is : List Nat} (hw : wipe σ vs = σ) (his : ∀ i ∈ is, i ∈ vs) {a : Asg} {t : M Bool} {fe : M PyData} {all : List PyData} (hz : all.length ≤ 16777216)
    (d : PyData) (x : V) (F1 H1 F H : Hp) (r : Rho) (xs : List PyData) (r' : Rho) (acc rest : List PyData) (Nx : Hp → Prop) (L : LS P w K D σ r0 F0 H0 F1 H1 r acc) (px : Px F1 H1 F H) (Dx : Dp K F x d) (e : stepC vs a t fe d r = some (xs, r')) (ha : acc ++ (xs ++ rest) = all)
    (hN : ∀ F' H', LS P w K D σ r0 F0 H0 F' H' r' (acc ++ xs) → Nx H') :
    tGa P w K is a x σ H fun σ2 H2 => wipe σ2 vs = σ ∧ tBo P w K t σ2 H2 fun b H3 =>
      if b = true then tD P w K fe σ2 H3 fun y H4 => ∃ acc, H4 D = some (.lst acc) ∧ acc.length < sizeLine ∧ Nx (upd H4 D (.lst (acc ++ [y]))) else Nx H3 := by
  unfold stepC at e
  split at e
  · cases e
  · rename_i r1 ea
    refine ⟨F, r, d, r1, L.sr.px px, Dx, ea, fun σ2 S2 G2 C2 => ?_⟩
    have hw2 : wipe σ2 vs = σ := (C2.wipe his).trans hw
    refine ⟨hw2, ?_⟩
    have G02 := L.go.trans ((Go.px px).trans G2)
    obtain ⟨l1, l2, l3⟩ := ls_go hD0 L S2 ((Go.px px).trans G2)
    have G1' := (Go.px px).trans G2
    split at e
    · cases e
    · rename_i r2 et
      cases e
      refine ⟨F, r1, false, r2, S2, et, fun F3 H3 S3 G3 => iteF ?_⟩
      obtain ⟨m1, m2, m3⟩ := ls_go hD0 L S3 (G1'.trans G3)
      have S4 := sr_wipe S3 vs
      rw [hw2] at S4
      have G := G02.trans G3
      have ow : ∀ b, OwnAt (wipeR r2 vs) σ b → OwnAt r2 σ2 b := fun b hb => own_wipe (vs := vs) (by rw [hw2]; exact hb)
      rw [List.append_nil] at hN
      exact hN F3 H3 ⟨S4, ⟨G.same, G.nf, G.keep, fun b hb => G.own b (ow b hb)⟩, m1, m2, fun z => m3 (ow D z)⟩
    · rename_i r2 et
      split at e
      · cases e
      · rename_i y r3 ee
        cases e
        refine ⟨F, r1, true, r2, S2, et, fun F3 H3 S3 G3 => iteT ?_⟩
        refine ⟨F3, r2, y, r3, S3, ee, fun v F4 H4 S4 G4 D4 => ?_⟩
        obtain ⟨m1, ⟨av, m2, m4⟩, m3⟩ := ls_go hD0 L S4 (G1'.trans (G3.trans G4))
        refine ⟨av, m2, ?_, ?_⟩
        · rw [m4.length, sl_eq]
          have := congrArg List.length ha
          simp only [List.length_append, List.length_cons, List.length_nil] at this
          omega
        · have S5 := sr_wipe (sr_updD S4 (o := .lst (av ++ [v])) m1 m3) vs
          rw [hw2] at S5
          have G := G02.trans (G3.trans G4)
          have ow : ∀ b, OwnAt (wipeR r3 vs) σ b → OwnAt r3 σ2 b := fun b hb => own_wipe (vs := vs) (by rw [hw2]; exact hb)
          exact hN F4 _ ⟨S5, ⟨G.same, G.nf, fun b o hb hn => by rw [upd_ne fun z => by rw [z, hD0] at hb; cases hb]; exact G.keep b o hb hn, fun b hb => G.own b (ow b hb)⟩, m1, ⟨_, upd_same, m4.append (.one D4)⟩, fun z => m3 (ow D z)⟩
theorem wipe_wipe (σ : St) (vs : List Nat) : wipe (wipe σ vs) vs = wipe σ vs := by
  refine List.ext_getElem? fun i => ?_
  by_cases hi : i ∈ vs
  · by_cases hl : i < σ.length
    · rw [wipe_get hi (by rw [wipe_length]; exact hl), wipe_get hi hl]
    · rw [List.getElem?_eq_none (by rw [wipe_length, wipe_length]; omega), List.getElem?_eq_none (by rw [wipe_length]; omega)]
  · rw [wipe_getN hi]
section
variable {X : Cx} {elt tg iter tg1 iter1 : Expr} {ifs ifs1 : List Expr} {scope : Scope} {own : List (Str × Nat)} {pos : Pos} {fi fi1 : M (List PyData)} {is is1 : List Nat} {a a1 : Asg} {p p1 : M Bool} {fe : M PyData}
theorem lc_run {wi : TI}
    (ki : ∀ (σ : St) (H F : Hp) (r : Rho) (ds : List PyData) (r' : Rho) (R : It → Hp → Prop), SR X.prog X.w X.K F H σ r → fi r = some (ds, r') → (∀ J F' H', SR X.prog X.w X.K F' H' σ r' → Go σ r F H σ r' F' H' → Yl X.K J F' ds → R J H') → wi σ H R)
    {vs : List Nat} (his : ∀ i ∈ is, i ∈ vs)
    (σ : St) (H F : Hp) (r : Rho) (en : Ent) (r' : Rho) (Q : VK) (S : SR X.prog X.w X.K F H σ r) (e : lcM vs fi (stepC vs a p fe) r = some (en, r'))
    (hQ : ∀ v F' H', SR X.prog X.w X.K F' H' σ r' → Go σ r F H σ r' F' H' → ResR X.prog X.w X.K σ r H σ r' F' H' v en → Q v H') :
    tLc wi (tGa X.prog X.w X.K is a) (tBo X.prog X.w X.K p) (tD X.prog X.w X.K fe) vs σ H Q := by
  obtain ⟨ds, r1, e1, e⟩ := bnd_some e
  split at e
  · cases e
  · rename_i xs r4 ef
    split at e
    · rename_i hz
      cases e
      refine ki σ H F r ds r1 _ S e1 fun J F1 H1 S1 G1 Y D hD => ?_
      have px := Px.newH S1.sub (.lst []) hD
      have S2 := sr_wipe (S1.px px) vs
      have nD : ¬ OwnAt (wipeR r1 vs) (wipe σ vs) D := fun z => by
        obtain ⟨_, u, hu⟩ := S1.has (own_wipe z)
        rw [hD] at hu
        cases hu
      have L0 : LS X.prog X.w X.K D (wipe σ vs) (wipeR r1 vs) F1 H1 F1 (upd H1 D (.lst [])) (wipeR r1 vs) [] :=
        ⟨S2, Go.px px, S1.sub.free hD, ⟨[], upd_same, .nil⟩, nD⟩
      have fin : ∀ F' H', LS X.prog X.w X.K D (wipe σ vs) (wipeR r1 vs) F1 H1 F' H' r4 ([] ++ xs) → Q (.ref D) H' := fun F' H' L => by
        obtain ⟨S5, G5⟩ := sr_rest S1 L.sr L.go
        obtain ⟨av, h1, h2⟩ := L.hD
        refine hQ (.ref D) F' H' S5 (G1.trans G5) ⟨.ml L.fD h1 h2, fun b z1 z2 => ?_⟩
        cases z2
        have hH : OwnAt r σ D ∨ H D = none := by
          by_cases ho : OwnAt r σ D
          · exact .inl ho
          · right
            cases z : H D with
            | none => rfl
            | some o => rw [G1.keep D o z ho] at hD; cases hD
        refine ⟨hH, fun z => ?_⟩
        rcases G5.own D z with q | q
        · obtain ⟨_, u, hu⟩ := S1.has q
          rw [hD] at hu
          cases hu
        · obtain ⟨i, e', w1, w2, w3⟩ := z
          rcases restR_some w1 with ⟨y1, y2⟩ | ⟨y1, y2⟩
          · obtain ⟨_, u, hu⟩ := S1.has ⟨i, e', y2, w2, w3⟩
            rw [hD] at hu
            cases hu
          · exact L.no ⟨i, e', y2, w2, by rw [wipe_getN y1]; exact w3⟩
      refine acc_loop (P := X.prog) (w := X.w) Y (Same.refl _) (stepC vs a p fe) (fun x H' Nx => tGa X.prog X.w X.K is a x (wipe σ vs) H' fun σ2 H2 => wipe σ2 vs = wipe σ vs ∧ tBo X.prog X.w X.K p σ2 H2 fun b H3 =>
        if b = true then tD X.prog X.w X.K fe σ2 H3 fun y H4 => ∃ acc, H4 D = some (.lst acc) ∧ acc.length < sizeLine ∧ Nx (upd H4 D (.lst (acc ++ [y]))) else Nx H3) (fun H' => Q (.ref D) H') (all := xs)
        (turn_body hD (wipe_wipe σ vs) his hz) L0 ef ⟨[], by simp⟩ fin
    · cases e
/-- [elt for tg in iter if ..] -/
theorem rx_lc (hc : X.calm = true) (hN : X.N.Nodup) (hi : RI X tg iter fi) (ok : BlkOk X.N X.env.scope scope own) (his : ∀ i ∈ is, i ∈ own.map (·.2))
    (hg : ∀ (s : Shared) (H : Hp) (C : Addr) (cl : List (Str × Addr)) (fp : List Addr), RG (X.blk s H scope (compEnvC scope cl C X.env) fp) is tg a) (ht : ∀ (s : Shared) (H : Hp) (C : Addr) (cl : List (Str × Addr)) (fp : List Addr), RTs (X.blk s H scope (compEnvC scope cl C X.env) fp) ifs p)
    (he : ∀ (s : Shared) (H : Hp) (C : Addr) (cl : List (Str × Addr)) (fp : List Addr), RE (X.blk s H scope (compEnvC scope cl C X.env) fp) elt fe) (hs : ∀ x, foldedSetIterable iter X.env x = pure x := by intro _; rfl) :
    RX X (.ListComp elt [⟨tg, iter, ifs, 0⟩] scope pos) (lcM (own.map (·.2)) fi (stepC (own.map (·.2)) a p fe)) := by
  obtain ⟨wi, pi, ki⟩ := hi.ex
  exact ⟨_, pe_lc hc hN pi ok (fun s H C cl fp => (hg s H C cl fp).pg) (fun s H C cl fp => (ht s H C cl fp).ex) (fun s H C cl fp => (he s H C cl fp).pe) hs, lc_run ki his⟩
/-- name = [..] -/
theorem rs_setLc {n i : Nat} {y : Str} {py spos : Pos} (hn : n ≤ i) (hc : X.calm = true) (hN : X.N.Nodup) (hy : X.N[i]? = some y) (hyl : X.env.scope.names.lookup y = some .local)
    (hsw : swapsWith (.ListComp elt [⟨tg, iter, ifs, 0⟩] scope pos) (some (.Name y py)) spos.line X.env = pure true) (hi : RI X tg iter fi) (ok : BlkOk X.N X.env.scope scope own) (his : ∀ i ∈ is, i ∈ own.map (·.2))
    (hg : ∀ (s : Shared) (H : Hp) (C : Addr) (cl : List (Str × Addr)) (fp : List Addr), RG (X.blk s H scope (compEnvC scope cl C X.env) fp) is tg a) (ht : ∀ (s : Shared) (H : Hp) (C : Addr) (cl : List (Str × Addr)) (fp : List Addr), RTs (X.blk s H scope (compEnvC scope cl C X.env) fp) ifs p)
    (he : ∀ (s : Shared) (H : Hp) (C : Addr) (cl : List (Str × Addr)) (fp : List Addr), RE (X.blk s H scope (compEnvC scope cl C X.env) fp) elt fe) (hs : ∀ x, foldedSetIterable iter X.env x = pure x := by intro _; rfl) :
    RS X n (.Assign [.Name y py] (.ListComp elt [⟨tg, iter, ifs, 0⟩] scope pos) spos) (sSetX i (lcM (own.map (·.2)) fi (stepC (own.map (·.2)) a p fe))) := by
  obtain ⟨wi, pi, ki⟩ := hi.ex
  exact ⟨_, ps_setLc hc hN hy hyl hsw pi ok (fun s H C cl fp => (hg s H C cl fp).pg) (fun s H C cl fp => (ht s H C cl fp).ex) (fun s H C cl fp => (he s H C cl fp).pe) hs, setX_run hn (lc_run ki his)⟩
/-! two fors -/
def step2 (vs vs1 : List Nat) (a : Asg) (t : M Bool) (fi1 : M (List PyData)) (st1 : PyData → Rho → Option (List PyData × Rho)) (d : PyData) (r : Rho) : Option (List PyData × Rho) := match a d r with
  | none => none
  | some r1 => match t r1 with
    | none => none
    | some (false, r2) => some ([], wipeR r2 vs)
    | some (true, r2) => match fi1 r2 with
      | none => none
      | some (ds, r3) => match foldA st1 ds (wipeR r3 vs1) with
        | none => none
        | some (xs, r4) => some (xs, wipeR r4 vs)
theorem wipe_sub {σ : St} {vs vs1 : List Nat} (h : ∀ i ∈ vs1, i ∈ vs) : wipe (wipe σ vs1) vs = wipe σ vs := by
  refine List.ext_getElem? fun i => ?_
  by_cases hi : i ∈ vs
  · by_cases hl : i < σ.length
    · rw [wipe_get hi (by rw [wipe_length]; exact hl), wipe_get hi hl]
    · rw [List.getElem?_eq_none (by rw [wipe_length, wipe_length]; omega), List.getElem?_eq_none (by rw [wipe_length]; omega)]
  · rw [wipe_getN hi, wipe_getN hi, wipe_getN fun z => hi (h i z)]
theorem turn_body2 {P : Program} {w : World} {K : PySem.W.Frag} {D : Addr} {σ : St} {r0 : Rho} {F0 H0 : Hp} (hD0 : H0 D = none) {vs vs1 is is1 : List Nat} (hw : wipe σ vs = σ) (his : ∀ i ∈ is, i ∈ vs) (hv : ∀ i ∈ vs1, i ∈ vs) (his1 : ∀ i ∈ is1, i ∈ vs1) {a a1 : Asg} {t t1 : M Bool} {fi1 : M (List PyData)} {fe : M PyData} {all : List PyData} (hz : all.length ≤ 16777216)
    (d : PyData) (x : V) (F1 H1 F H : Hp) (r : Rho) (xs : List PyData) (r' : Rho) (acc rest : List PyData) (Nx : Hp → Prop) (L : LS P w K D σ r0 F0 H0 F1 H1 r acc) (px : Px F1 H1 F H) (Dx : Dp K F x d) (e : step2 vs vs1 a t fi1 (stepC vs1 a1 t1 fe) d r = some (xs, r')) (ha : acc ++ (xs ++ rest) = all)
    (hN : ∀ F' H', LS P w K D σ r0 F0 H0 F' H' r' (acc ++ xs) → Nx H') :
    tGa P w K is a x σ H fun σ2 H2 => wipe σ2 vs = σ ∧ tBo P w K t σ2 H2 fun b H3 =>
      if b = true then tIs P w K fi1 σ2 H3 fun J1 H4 => ∃ W1 : Nat → Nat → Hp → Prop, (∃ m, W1 0 m H4) ∧ ∀ j k H, W1 j k H →
        (J1.stop j H ∧ Nx H) ∨ (J1.go j H ∧ ∃ Nx1 : Hp → Prop, (∀ H', Nx1 H' → ∃ k', k' < k ∧ W1 (j + 1) k' H') ∧ ∀ x H', J1.yld j H x H' → tGa P w K is1 a1 x (wipe σ2 vs1) H' fun σ3 H5 => wipe σ3 vs1 = wipe σ2 vs1 ∧ tBo P w K t1 σ3 H5 fun b H6 =>
          if b = true then tD P w K fe σ3 H6 fun y H7 => ∃ acc, H7 D = some (.lst acc) ∧ acc.length < sizeLine ∧ Nx1 (upd H7 D (.lst (acc ++ [y]))) else Nx1 H6)
      else Nx H3 := by
  unfold step2 at e
  split at e
  · cases e
  · rename_i r1 ea
    refine ⟨F, r, d, r1, L.sr.px px, Dx, ea, fun σ2 S2 G2 C2 => ?_⟩
    have hw2 : wipe σ2 vs = σ := (C2.wipe his).trans hw
    refine ⟨hw2, ?_⟩
    have G02 := L.go.trans ((Go.px px).trans G2)
    have G1' := (Go.px px).trans G2
    split at e
    · cases e
    · rename_i r2 et
      cases e
      refine ⟨F, r1, false, r2, S2, et, fun F3 H3 S3 G3 => iteF ?_⟩
      obtain ⟨m1, m2, m3⟩ := ls_go hD0 L S3 (G1'.trans G3)
      have S4 := sr_wipe S3 vs
      rw [hw2] at S4
      have G := G02.trans G3
      have ow : ∀ b, OwnAt (wipeR r2 vs) σ b → OwnAt r2 σ2 b := fun b hb => own_wipe (vs := vs) (by rw [hw2]; exact hb)
      rw [List.append_nil] at hN
      exact hN F3 H3 ⟨S4, ⟨G.same, G.nf, G.keep, fun b hb => G.own b (ow b hb)⟩, m1, m2, fun z => m3 (ow D z)⟩
    · rename_i r2 et
      split at e
      · cases e
      · rename_i ds r3 ei
        split at e
        · cases e
        · rename_i ys r4 ef
          cases e
          refine ⟨F, r1, true, r2, S2, et, fun F3 H3 S3 G3 => iteT ?_⟩
          refine ⟨F3, r2, ds, r3, S3, ei, fun J1 F4 H4 S4 G4 Y4 => ?_⟩
          obtain ⟨m1, m2, m3⟩ := ls_go hD0 L S4 (G1'.trans (G3.trans G4))
          have G04 := G02.trans (G3.trans G4)
          have L0 : LS P w K D (wipe σ2 vs1) r0 F0 H0 F4 H4 (wipeR r3 vs1) acc → True := fun _ => trivial
          have S5 := sr_wipe S4 vs1
          have go5 : Go (wipe σ2 vs1) (wipeR r3 vs1) F4 H4 (wipe σ2 vs1) (wipeR r3 vs1) F4 H4 := .refl
          -- the inner loop, from here
          have hDx : ∀ {F' H' : Hp} {r5 : Rho} {acc' : List PyData}, SR P w K F' H' (wipe σ2 vs1) r5 → Go (wipe σ2 vs1) (wipeR r3 vs1) F4 (fun b => if b = D then none else H4 b) (wipe σ2 vs1) r5 F' H' → F' D = none → (∃ av, H' D = some (.lst av) ∧ DpAll K F' av acc') → ¬ OwnAt r5 (wipe σ2 vs1) D →
              LS P w K D (wipe σ2 vs1) (wipeR r3 vs1) F4 (fun b => if b = D then none else H4 b) F' H' r5 acc' := fun a b c d e => ⟨a, b, c, d, e⟩
          have hn4 : ∀ b, ¬ OwnAt (wipeR r3 vs1) (wipe σ2 vs1) b ∨ b ≠ D := fun b => by
            by_cases z : b = D
            · left
              rw [z]
              exact fun q => m3 (own_wipe q)
            · exact .inr z
          have L1 : LS P w K D (wipe σ2 vs1) (wipeR r3 vs1) F4 (fun b => if b = D then none else H4 b) F4 H4 (wipeR r3 vs1) acc :=
            ⟨S5, ⟨Same.refl _, fun _ _ _ => rfl, fun b o hb _ => by
              by_cases z : b = D
              · simp only [z, if_true] at hb
                cases hb
              · simp only [z, if_false] at hb
                exact hb, fun b hb => .inl hb⟩, m1, m2, fun z => m3 (own_wipe z)⟩
          refine acc_loop (P := P) (w := w) Y4 (Same.refl _) (stepC vs1 a1 t1 fe) (fun x H' Nx1 => tGa P w K is1 a1 x (wipe σ2 vs1) H' fun σ3 H5 => wipe σ3 vs1 = wipe σ2 vs1 ∧ tBo P w K t1 σ3 H5 fun b H6 =>
            if b = true then tD P w K fe σ3 H6 fun y H7 => ∃ acc, H7 D = some (.lst acc) ∧ acc.length < sizeLine ∧ Nx1 (upd H7 D (.lst (acc ++ [y]))) else Nx1 H6) Nx (all := all)
            (turn_body (by simp) (wipe_wipe σ2 vs1) his1 hz) L1 ef ⟨rest, ha⟩ fun F' H' L' => ?_
          have S6 := sr_wipe L'.sr vs
          rw [wipe_sub hv, hw2] at S6
          have ow : ∀ b, OwnAt (wipeR r4 vs) σ b → OwnAt r4 (wipe σ2 vs1) b := fun b hb => own_wipe (vs := vs) (by rw [wipe_sub hv, hw2]; exact hb)
          have hb4 : ∀ b, H0 b ≠ none → ¬ OwnAt r0 σ b → H4 b ≠ none ∧ b ≠ D ∧ ¬ OwnAt (wipeR r3 vs1) (wipe σ2 vs1) b := fun b h1 h2 => by
            refine ⟨?_, fun z => h1 (by rw [z]; exact hD0), fun z => ?_⟩
            · cases q : H0 b with
              | none => exact absurd q h1
              | some o => rw [G04.keep b o q h2]; exact fun z => nomatch z
            · rcases G04.own b (own_wipe z) with q | q
              · exact h2 q
              · exact h1 q
          refine hN F' H' ⟨S6, ⟨G04.same.trans L'.go.same, fun b h1 h2 => ?_, fun b o h1 h2 => ?_, fun b hb => ?_⟩, L'.fD, L'.hD, fun z => L'.no (ow D z)⟩
          · obtain ⟨q1, q2, q3⟩ := hb4 b h1 h2
            exact (L'.go.nf b (by simp only [q2, if_false]; exact q1) q3).trans (G04.nf b h1 h2)
          · obtain ⟨q1, q2, q3⟩ := hb4 b (by rw [h1]; exact fun z => nomatch z) h2
            exact L'.go.keep b o (by simp only [q2, if_false]; exact G04.keep b o h1 h2) q3
          · rcases L'.go.own b (ow b hb) with q | q
            · exact G04.own b (own_wipe q)
            · by_cases z : b = D
              · exact .inr (by rw [z]; exact hD0)
              · simp only [z, if_false] at q
                by_cases ho : OwnAt r0 σ b
                · exact .inl ho
                · right
                  cases y : H0 b with
                  | none => rfl
                  | some o => rw [G04.keep b o y ho] at q; cases q
theorem lc2_run {wi : TI}
    (ki : ∀ (σ : St) (H F : Hp) (r : Rho) (ds : List PyData) (r' : Rho) (R : It → Hp → Prop), SR X.prog X.w X.K F H σ r → fi r = some (ds, r') → (∀ J F' H', SR X.prog X.w X.K F' H' σ r' → Go σ r F H σ r' F' H' → Yl X.K J F' ds → R J H') → wi σ H R)
    {vs vs1 : List Nat} (his : ∀ i ∈ is, i ∈ vs) (hv : ∀ i ∈ vs1, i ∈ vs) (his1 : ∀ i ∈ is1, i ∈ vs1)
    (σ : St) (H F : Hp) (r : Rho) (en : Ent) (r' : Rho) (Q : VK) (S : SR X.prog X.w X.K F H σ r) (e : lcM vs fi (step2 vs vs1 a p fi1 (stepC vs1 a1 p1 fe)) r = some (en, r'))
    (hQ : ∀ v F' H', SR X.prog X.w X.K F' H' σ r' → Go σ r F H σ r' F' H' → ResR X.prog X.w X.K σ r H σ r' F' H' v en → Q v H') :
    tLc2 wi (tGa X.prog X.w X.K is a) (tBo X.prog X.w X.K p) (tIs X.prog X.w X.K fi1) (tGa X.prog X.w X.K is1 a1) (tBo X.prog X.w X.K p1) (tD X.prog X.w X.K fe) vs vs1 σ H Q := by
  obtain ⟨ds, r1, e1, e⟩ := bnd_some e
  split at e
  · cases e
  · rename_i xs r4 ef
    split at e
    · rename_i hz
      cases e
      refine ki σ H F r ds r1 _ S e1 fun J F1 H1 S1 G1 Y D hD => ?_
      have px := Px.newH S1.sub (.lst []) hD
      have S2 := sr_wipe (S1.px px) vs
      have nD : ¬ OwnAt (wipeR r1 vs) (wipe σ vs) D := fun z => by
        obtain ⟨_, u, hu⟩ := S1.has (own_wipe z)
        rw [hD] at hu
        cases hu
      have L0 : LS X.prog X.w X.K D (wipe σ vs) (wipeR r1 vs) F1 H1 F1 (upd H1 D (.lst [])) (wipeR r1 vs) [] :=
        ⟨S2, Go.px px, S1.sub.free hD, ⟨[], upd_same, .nil⟩, nD⟩
      have fin : ∀ F' H', LS X.prog X.w X.K D (wipe σ vs) (wipeR r1 vs) F1 H1 F' H' r4 ([] ++ xs) → Q (.ref D) H' := fun F' H' L => by
        obtain ⟨S5, G5⟩ := sr_rest S1 L.sr L.go
        obtain ⟨av, h1, h2⟩ := L.hD
        refine hQ (.ref D) F' H' S5 (G1.trans G5) ⟨.ml L.fD h1 h2, fun b z1 z2 => ?_⟩
        cases z2
        have hH : OwnAt r σ D ∨ H D = none := by
          by_cases ho : OwnAt r σ D
          · exact .inl ho
          · right
            cases z : H D with
            | none => rfl
            | some o => rw [G1.keep D o z ho] at hD; cases hD
        refine ⟨hH, fun z => ?_⟩
        obtain ⟨i, e', w1, w2, w3⟩ := z
        rcases restR_some w1 with ⟨y1, y2⟩ | ⟨y1, y2⟩
        · obtain ⟨_, u, hu⟩ := S1.has ⟨i, e', y2, w2, w3⟩
          rw [hD] at hu
          cases hu
        · exact L.no ⟨i, e', y2, w2, by rw [wipe_getN y1]; exact w3⟩
      exact acc_loop (P := X.prog) (w := X.w) Y (Same.refl _) (step2 vs vs1 a p fi1 (stepC vs1 a1 p1 fe)) (fun x H' Nx => tGa X.prog X.w X.K is a x (wipe σ vs) H' fun σ2 H2 => wipe σ2 vs = wipe σ vs ∧ tBo X.prog X.w X.K p σ2 H2 fun b H3 =>
        if b = true then tIs X.prog X.w X.K fi1 σ2 H3 fun J1 H4 => ∃ W1 : Nat → Nat → Hp → Prop, (∃ m, W1 0 m H4) ∧ ∀ j k H, W1 j k H →
          (J1.stop j H ∧ Nx H) ∨ (J1.go j H ∧ ∃ Nx1 : Hp → Prop, (∀ H', Nx1 H' → ∃ k', k' < k ∧ W1 (j + 1) k' H') ∧ ∀ x H', J1.yld j H x H' → tGa X.prog X.w X.K is1 a1 x (wipe σ2 vs1) H' fun σ3 H5 => wipe σ3 vs1 = wipe σ2 vs1 ∧ tBo X.prog X.w X.K p1 σ3 H5 fun b H6 =>
            if b = true then tD X.prog X.w X.K fe σ3 H6 fun y H7 => ∃ acc, H7 D = some (.lst acc) ∧ acc.length < sizeLine ∧ Nx1 (upd H7 D (.lst (acc ++ [y]))) else Nx1 H6)
        else Nx H3) (fun H' => Q (.ref D) H') (all := xs) (turn_body2 hD (wipe_wipe σ vs) his hv his1 hz) L0 ef ⟨[], by simp⟩ fin
    · cases e
theorem rx_lc2 {vs1 : List Nat} (hc : X.calm = true) (hN : X.N.Nodup) (hi : RI X tg iter fi) (ok : BlkOk X.N X.env.scope scope own) (hv : ∀ i ∈ vs1, i ∈ own.map (·.2)) (his : ∀ i ∈ is, i ∈ own.map (·.2)) (his1 : ∀ i ∈ is1, i ∈ vs1)
    (hg : ∀ (s : Shared) (H : Hp) (C : Addr) (cl : List (Str × Addr)) (fp : List Addr), RG (X.blk s H scope (compEnvC scope cl C X.env) fp) is tg a) (ht : ∀ (s : Shared) (H : Hp) (C : Addr) (cl : List (Str × Addr)) (fp : List Addr), RTs (X.blk s H scope (compEnvC scope cl C X.env) fp) ifs p)
    (hi1 : ∀ (s : Shared) (H : Hp) (C : Addr) (cl : List (Str × Addr)) (fp : List Addr), RI (X.blk s H scope (compEnvC scope cl C X.env) fp) tg1 iter1 fi1)
    (hg1 : ∀ (s : Shared) (H : Hp) (C : Addr) (cl : List (Str × Addr)) (fp : List Addr), RG (X.blk s H scope (compEnvC scope cl C X.env) fp) is1 tg1 a1) (ht1 : ∀ (s : Shared) (H : Hp) (C : Addr) (cl : List (Str × Addr)) (fp : List Addr), RTs (X.blk s H scope (compEnvC scope cl C X.env) fp) ifs1 p1)
    (he : ∀ (s : Shared) (H : Hp) (C : Addr) (cl : List (Str × Addr)) (fp : List Addr), RE (X.blk s H scope (compEnvC scope cl C X.env) fp) elt fe) (hs : ∀ x, foldedSetIterable iter X.env x = pure x := by intro _; rfl) (hs1 : ∀ env x, foldedSetIterable iter1 env x = pure x := by intro _ _; rfl) :
    RX X (.ListComp elt [⟨tg, iter, ifs, 0⟩, ⟨tg1, iter1, ifs1, 0⟩] scope pos) (lcM (own.map (·.2)) fi (step2 (own.map (·.2)) vs1 a p fi1 (stepC vs1 a1 p1 fe))) := by
  obtain ⟨wi, pi, ki⟩ := hi.ex
  exact ⟨_, pe_lc2 hc hN pi ok hv (fun s H C cl fp => (hg s H C cl fp).pg) (fun s H C cl fp => (ht s H C cl fp).ex) (fun s H C cl fp => (hi1 s H C cl fp).pi) (fun s H C cl fp => (hg1 s H C cl fp).pg) (fun s H C cl fp => (ht1 s H C cl fp).ex) (fun s H C cl fp => (he s H C cl fp).pe) hs hs1, lc2_run ki his hv his1⟩
theorem rs_setLc2 {n i : Nat} {y : Str} {py spos : Pos} {vs1 : List Nat} (hn : n ≤ i) (hc : X.calm = true) (hN : X.N.Nodup) (hy : X.N[i]? = some y) (hyl : X.env.scope.names.lookup y = some .local)
    (hsw : swapsWith (.ListComp elt [⟨tg, iter, ifs, 0⟩, ⟨tg1, iter1, ifs1, 0⟩] scope pos) (some (.Name y py)) spos.line X.env = pure true) (hi : RI X tg iter fi) (ok : BlkOk X.N X.env.scope scope own) (hv : ∀ i ∈ vs1, i ∈ own.map (·.2)) (his : ∀ i ∈ is, i ∈ own.map (·.2)) (his1 : ∀ i ∈ is1, i ∈ vs1)
    (hg : ∀ (s : Shared) (H : Hp) (C : Addr) (cl : List (Str × Addr)) (fp : List Addr), RG (X.blk s H scope (compEnvC scope cl C X.env) fp) is tg a) (ht : ∀ (s : Shared) (H : Hp) (C : Addr) (cl : List (Str × Addr)) (fp : List Addr), RTs (X.blk s H scope (compEnvC scope cl C X.env) fp) ifs p)
    (hi1 : ∀ (s : Shared) (H : Hp) (C : Addr) (cl : List (Str × Addr)) (fp : List Addr), RI (X.blk s H scope (compEnvC scope cl C X.env) fp) tg1 iter1 fi1)
    (hg1 : ∀ (s : Shared) (H : Hp) (C : Addr) (cl : List (Str × Addr)) (fp : List Addr), RG (X.blk s H scope (compEnvC scope cl C X.env) fp) is1 tg1 a1) (ht1 : ∀ (s : Shared) (H : Hp) (C : Addr) (cl : List (Str × Addr)) (fp : List Addr), RTs (X.blk s H scope (compEnvC scope cl C X.env) fp) ifs1 p1)
    (he : ∀ (s : Shared) (H : Hp) (C : Addr) (cl : List (Str × Addr)) (fp : List Addr), RE (X.blk s H scope (compEnvC scope cl C X.env) fp) elt fe) (hs : ∀ x, foldedSetIterable iter X.env x = pure x := by intro _; rfl) (hs1 : ∀ env x, foldedSetIterable iter1 env x = pure x := by intro _ _; rfl) :
    RS X n (.Assign [.Name y py] (.ListComp elt [⟨tg, iter, ifs, 0⟩, ⟨tg1, iter1, ifs1, 0⟩] scope pos) spos) (sSetX i (lcM (own.map (·.2)) fi (step2 (own.map (·.2)) vs1 a p fi1 (stepC vs1 a1 p1 fe)))) := by
  obtain ⟨wi, pi, ki⟩ := hi.ex
  exact ⟨_, ps_setLc2 hc hN hy hyl hsw pi ok hv (fun s H C cl fp => (hg s H C cl fp).pg) (fun s H C cl fp => (ht s H C cl fp).ex) (fun s H C cl fp => (hi1 s H C cl fp).pi) (fun s H C cl fp => (hg1 s H C cl fp).pg) (fun s H C cl fp => (ht1 s H C cl fp).ex) (fun s H C cl fp => (he s H C cl fp).pe) hs hs1, setX_run hn (lc2_run ki his hv his1)⟩
end
end G65
namespace G65
open PySem PySem.Spec PyProof.Rows L2

/-! ### defs: what they promise -/
abbrev Den0 := List PyData → Option Ent
abbrev Den1 := List PyData → Ent → List PyData → Option (Ent × Ent)
def sp0 (P : Program) (w : World) (K : PySem.W.Frag) (n : Nat) (den : Den0) : Sp := fun vs H Q _ => ∃ F ds en, ds.length = n ∧ Same F H ∧ DpAll K F vs ds ∧ den ds = some en ∧
  ∀ v F' H', Px F H F' H' → EntR P w K F' H' v en → (∀ a, en.own = true → v = .ref a → H a = none) → Q v H'
def sp1 (P : Program) (w : World) (K : PySem.W.Frag) (n p : Nat) (den : Den1) : Sp := fun vs H Q _ => ∃ F vs1 a vs2 ds1 e0 ds2 en e1, vs = vs1 ++ .ref a :: vs2 ∧ vs.length = n ∧ vs1.length = p ∧ Same F H ∧ DpAll K F vs1 ds1 ∧ DpAll K F vs2 ds2 ∧ EntR P w K F H (.ref a) e0 ∧ e0.own = true ∧ den ds1 e0 ds2 = some (en, e1) ∧
  ∀ v F' H', Same F F' → Same F' H' → (∀ b o, b ≠ a → H b = some o → H' b = some o) → (∀ b, b ≠ a → H b ≠ none → F' b = F b) → EntR P w K F' H' (.ref a) e1 → e1.own = true → EntR P w K F' H' v en → (∀ c, en.own = true → v = .ref c → H c = none) → Q v H'

/-! ### calls -/
def dcall (den : Den0) (g : M (List PyData)) : M Ent := bnd g fun ds => lft (den ds)
section
variable {X : Cx} {k n : Nat} {f : Addr} {fd : FuncData} {ps : List Str} {den : Den0} {den1 : Den1} {x y : Str} {p p2 q pos : Pos} {e e2 : Expr} {es : List Expr} {g : M (List PyData)} {f1 : M PyData}
theorem call_run {t : TA}
    (ka : ∀ (σ : St) (H F : Hp) (r : Rho) (ds : List PyData) (r' : Rho) (Q : List V → Hp → Prop), SR X.prog X.w X.K F H σ r → g r = some (ds, r') → (∀ vs F' H', SR X.prog X.w X.K F' H' σ r' → Go σ r F H σ r' F' H' → DpAll X.K F' vs ds → Q vs H') → t σ H Q)
    (hn : ∀ r ds r', g r = some (ds, r') → ds.length = n)
    (σ : St) (H F : Hp) (r : Rho) (en : Ent) (r' : Rho) (Q : VK) (S : SR X.prog X.w X.K F H σ r) (e : dcall den g r = some (en, r'))
    (hQ : ∀ v F' H', SR X.prog X.w X.K F' H' σ r' → Go σ r F H σ r' F' H' → ResR X.prog X.w X.K σ r H σ r' F' H' v en → Q v H') : tCall (sp0 X.prog X.w X.K n den) [] E0 t σ H Q := by
  obtain ⟨ds, r1, e1, e⟩ := bnd_some e
  obtain ⟨en', e2, e3⟩ := lft_some e
  cases e3
  refine ka σ H F r ds _ _ S e1 fun vs F1 H1 S1 G1 D1 => ?_
  rw [List.append_nil]
  refine ⟨F1, ds, _, hn _ _ _ e1, S1.sub, D1, e2, fun v F2 H2 px ev fr => ?_⟩
  refine hQ v F2 H2 (S1.px px) (G1.trans (.px px)) ⟨ev, fun a z1 z2 => ?_⟩
  have hf := fr a z1 z2
  refine ⟨?_, fun z => ?_⟩
  · by_cases ho : OwnAt r σ a
    · exact .inl ho
    · right
      cases y : H a with
      | none => rfl
      | some o => rw [G1.keep a o y ho] at hf; cases hf
  · obtain ⟨_, u, hu⟩ := S1.has z
    rw [hf] at hu
    cases hu
theorem aNil_len : ∀ r ds r', aNil r = some (ds, r') → ds.length = 0 := fun r ds r' e => by cases ret_some e; rfl
theorem aCons_len {m : Nat} {f : M PyData} {g : M (List PyData)} (h : ∀ r ds r', g r = some (ds, r') → ds.length = m) : ∀ r ds r', aCons f g r = some (ds, r') → ds.length = m + 1 := fun r ds r' e => by
  obtain ⟨d, r1, e1, e⟩ := bnd_some e
  obtain ⟨d2, r2, e2, e⟩ := bnd_some e
  cases ret_some e
  rw [List.length_cons, h _ _ _ e2]
theorem rx_call (G : FnOk X.prog X.w X.K X.mg X.base CX0 k f fd ps (sp0 X.prog X.w X.K n den)) (hr : Room k X.A) (hg : Gl X x) (hm : X.mg x = some (.ref f)) (hk : PySem.W.keepIn X.K (.ref f) = true) (hb : Binds X.K fd ps []) (ha : RA X (e :: es) g) (hn : ∀ r ds r', g r = some (ds, r') → ds.length = n)
    (hdb : (x == ("__debug__" : Str)) = false := by decide) (he : starEach (e :: es) X.env = (false, eval e X.env) :: starEach es X.env := by rfl) (hpl : (backTo pos (starEach es X.env)).any (·.1) = false := by rfl) :
    RX X (.Call (.Name x p) (e :: es) [] pos) (dcall den g) := by
  obtain ⟨t, pa, ka⟩ := ha.ex
  exact ⟨_, pe_call G hr hg hm hk hb .nil pass0 pa hdb he hpl, call_run ka hn⟩
theorem rx_call0 (G : FnOk X.prog X.w X.K X.mg X.base CX0 k f fd ps (sp0 X.prog X.w X.K 0 den)) (hr : Room k X.A) (hg : Gl X x) (hm : X.mg x = some (.ref f)) (hk : PySem.W.keepIn X.K (.ref f) = true) (hb : Binds X.K fd ps [])
    (hdb : (x == ("__debug__" : Str)) = false := by decide) : RX X (.Call (.Name x p) [] [] pos) (dcall den aNil) :=
  ⟨_, pe_call0 G hr hg hm hk hb .nil pass0 hdb, call_run (t := tNil) (fun σ H F r d r' Q S e hQ => by cases ret_some e; exact hQ _ F H S .refl .nil) aNil_len⟩
/-- f(own, ..): the def may change what is handed to it -/
def dcallR (den : Den1) (i : Nat) (g0 g : M (List PyData)) : M Ent := bnd g0 fun ds0 r => match r[i]? with
  | some (some _) => (bnd g fun ds r1 => match r1[i]? with
    | some (some e0) => if e0.own = true then match den ds0 e0 ds with
        | some (en, e1) => some (en, r1.set i (some e1))
        | none => none
      else none
    | _ => none) r
  | _ => none
theorem callR_end {σ : St} {H F : Hp} {r : Rho} {F1 H1 : Hp} {r1 : Rho} (S1 : SR X.prog X.w X.K F1 H1 σ r1) (G1 : Go σ r F H σ r1 F1 H1) {i : Nat} {a : Addr} {e0 e1 en : Ent} (h : r1[i]? = some (some e0)) (ho : e0.own = true) (hs : σ[i]? = some (some (.ref a)))
    {v : V} {F2 H2 : Hp} (q1 : Same F1 F2) (q2 : Same F2 H2) (q3 : ∀ b o, b ≠ a → H1 b = some o → H2 b = some o) (q4 : ∀ b, b ≠ a → H1 b ≠ none → F2 b = F1 b) (q5 : EntR X.prog X.w X.K F2 H2 (.ref a) e1) (q6 : e1.own = true) (q7 : EntR X.prog X.w X.K F2 H2 v en) (q8 : ∀ c, en.own = true → v = .ref c → H1 c = none) :
    SR X.prog X.w X.K F2 H2 σ (r1.set i (some e1)) ∧ Go σ r F H σ (r1.set i (some e1)) F2 H2 ∧ ResR X.prog X.w X.K σ r H σ (r1.set i (some e1)) F2 H2 v en := by
  have no := not_own S1 h ho hs
  have Sf : SR X.prog X.w X.K F2 H2 σ (r1.set i none) := by
    refine ⟨q2, by rw [List.length_set]; exact S1.len, fun j en hj => ?_, (sr_forget S1 i).dis⟩
    obtain ⟨u, z1, z2⟩ := (sr_forget S1 i).ent j en hj
    refine ⟨u, z1, z2.mono q1 fun c y1 y2 => ?_⟩
    have hc : c ≠ a := fun z => no ⟨j, en, hj, y2, by rw [z1, y1, z]⟩
    exact ⟨fun o z => q3 c o hc z, fun z1 z2 => (q4 c hc z2).trans z1⟩
  have S2 := sr_put Sf hs q5 fun c z1 z2 => by
    cases z2
    rw [List.set_set]
    exact no
  rw [List.set_set] at S2
  have own1 : OwnAt r1 σ a := ⟨i, e0, h, ho, hs⟩
  have Gc : Go σ r1 F1 H1 σ (r1.set i (some e1)) F2 H2 := by
    refine ⟨q1, fun b h1 h2 => q4 b (fun z => h2 (by rw [z]; exact own1)) h1, fun b o h1 h2 => q3 b o (fun z => h2 (by rw [z]; exact own1)) h1, fun b hb => ?_⟩
    rcases own_set hb with ⟨en', z1, z2, z3⟩ | z
    · rw [hs] at z3
      cases z3
      exact .inl own1
    · exact .inl z
  refine ⟨S2, G1.trans Gc, ResR.step G1 ⟨q7, fun c z1 z2 => ⟨.inr (q8 c z1 z2), fun z => ?_⟩⟩⟩
  have hc := q8 c z1 z2
  have : OwnAt r1 σ c := by
    rcases own_set z with ⟨en', y1, y2, y3⟩ | z
    · rw [hs] at y3
      cases y3
      exact own1
    · exact z
  obtain ⟨_, u, hu⟩ := S1.has this
  rw [hc] at hu
  cases hu
theorem rx_callR0 (i : Nat) (G : FnOk X.prog X.w X.K X.mg X.base CX0 k f fd ps (sp1 X.prog X.w X.K (n + 1) 0 den1)) (hr : Room k X.A) (hg : Gl X x) (hm : X.mg x = some (.ref f)) (hk : PySem.W.keepIn X.K (.ref f) = true) (hb : Binds X.K fd ps []) (ha : RA X es g) (hn : ∀ r ds r', g r = some (ds, r') → ds.length = n)
    (hN : X.N[i]? = some y := by rfl) (hv : Vis X.env.scope y := by first | exact Or.inl rfl | exact Or.inr (Or.inl rfl) | exact Or.inr (Or.inr rfl)) (hd : (y == ("__debug__" : Str)) = false := by decide) (hcd : (y == ("__classdict__" : Str)) = false := by decide)
    (hdb : (x == ("__debug__" : Str)) = false := by decide) (he : starEach (.Name y q :: es) X.env = (false, eval (.Name y q) X.env) :: starEach es X.env := by rfl) (hpl : (backTo pos (starEach es X.env)).any (·.1) = false := by rfl) :
    RX X (.Call (.Name x p) (.Name y q :: es) [] pos) (dcallR den1 i aNil g) := by
  obtain ⟨t, pa, ka⟩ := ha.ex
  refine ⟨_, pe_call G hr hg hm hk hb .nil pass0 (pa_cons (pe_var hN hv hd hcd) pa he) hdb he hpl, fun σ H F r en r' Q S e hQ => ?_⟩
  obtain ⟨ds0, r0, e0, e⟩ := bnd_some e
  cases ret_some e0
  split at e
  · rename_i en0 h0
    obtain ⟨v, hs, hx0⟩ := S.ent i _ h0
    obtain ⟨ds, r1, e1, e⟩ := bnd_some e
    refine ⟨v, hs, ka σ H F r ds r1 _ S e1 fun vs F1 H1 S1 G1 D1 => ?_⟩
    split at e
    · rename_i en1 h1
      split at e
      · rename_i ho
        split at e
        · rename_i en2 en3 hd1
          cases e
          obtain ⟨v', z1, z2⟩ := S1.ent i _ h1
          rw [hs] at z1
          cases z1
          obtain ⟨a, rfl⟩ := z2.ref ho
          rw [List.append_nil]
          refine ⟨F1, [], a, vs, [], en1, ds, _, en3, rfl, by rw [List.length_cons, D1.length, hn _ _ _ e1], rfl, S1.sub, .nil, D1, z2, ho, hd1, fun u F2 H2 q1 q2 q3 q4 q5 q6 q7 q8 => ?_⟩
          obtain ⟨w1, w2, w3⟩ := callR_end S1 G1 h1 ho hs q1 q2 q3 q4 q5 q6 q7 q8
          exact hQ u F2 H2 w1 w2 w3
        · cases e
      · cases e
    · cases e
  · cases e
theorem rx_callR1 (i : Nat) (G : FnOk X.prog X.w X.K X.mg X.base CX0 k f fd ps (sp1 X.prog X.w X.K (n + 2) 1 den1)) (hr : Room k X.A) (hg : Gl X x) (hm : X.mg x = some (.ref f)) (hk : PySem.W.keepIn X.K (.ref f) = true) (hb : Binds X.K fd ps []) (h1 : RE X e f1) (ha : RA X es g) (hn : ∀ r ds r', g r = some (ds, r') → ds.length = n)
    (hN : X.N[i]? = some y := by rfl) (hv : Vis X.env.scope y := by first | exact Or.inl rfl | exact Or.inr (Or.inl rfl) | exact Or.inr (Or.inr rfl)) (hd : (y == ("__debug__" : Str)) = false := by decide) (hcd : (y == ("__classdict__" : Str)) = false := by decide)
    (hdb : (x == ("__debug__" : Str)) = false := by decide) (he1 : starEach (e :: .Name y q :: es) X.env = (false, eval e X.env) :: starEach (.Name y q :: es) X.env := by rfl) (he : starEach (.Name y q :: es) X.env = (false, eval (.Name y q) X.env) :: starEach es X.env := by rfl) (hpl : (backTo pos (starEach (.Name y q :: es) X.env)).any (·.1) = false := by rfl) :
    RX X (.Call (.Name x p) (e :: .Name y q :: es) [] pos) (dcallR den1 i (aCons f1 aNil) g) := by
  obtain ⟨t, pa, ka⟩ := ha.ex
  obtain ⟨t1, pe1, k1⟩ := h1.ex
  refine ⟨_, pe_call G hr hg hm hk hb .nil pass0 (pa_cons pe1 (pa_cons (pe_var hN hv hd hcd) pa he) he1) hdb he1 hpl, fun σ H F r en r' Q S e hQ => ?_⟩
  obtain ⟨ds0, r0, e0, e⟩ := bnd_some e
  obtain ⟨d0, r0', e0, e0'⟩ := bnd_some e0
  obtain ⟨d00, r00, e00, e0'⟩ := bnd_some e0'
  cases ret_some e00
  cases ret_some e0'
  refine k1 σ H F r d0 _ _ S e0 fun v0 F0 H0 S0 G0 D0 => ?_
  split at e
  · rename_i en0 h0
    obtain ⟨v, hs, hx0⟩ := S0.ent i _ h0
    obtain ⟨ds, r1, e1, e⟩ := bnd_some e
    refine ⟨v, hs, ka σ H0 F0 _ ds r1 _ S0 e1 fun vs F1 H1 S1 G1 D1 => ?_⟩
    split at e
    · rename_i en1 h1
      split at e
      · rename_i ho
        split at e
        · rename_i en2 en3 hd1
          cases e
          obtain ⟨v', z1, z2⟩ := S1.ent i _ h1
          rw [hs] at z1
          cases z1
          obtain ⟨a, rfl⟩ := z2.ref ho
          rw [List.append_nil]
          refine ⟨F1, [v0], a, vs, [d0], en1, ds, _, en3, rfl, by rw [List.length_cons, List.length_cons, D1.length, hn _ _ _ e1], rfl, S1.sub, .one (dp_mono G1.same D0), D1, z2, ho, hd1, fun u F2 H2 q1 q2 q3 q4 q5 q6 q7 q8 => ?_⟩
          obtain ⟨w1, w2, w3⟩ := callR_end S1 (G0.trans G1) h1 ho hs q1 q2 q3 q4 q5 q6 q7 q8
          exact hQ u F2 H2 w1 w2 w3
        · cases e
      · cases e
    · cases e
  · cases e
/-- f(a thing just made, ..) -/
def dcallT (den : Den1) (f0 : M Ent) (g : M (List PyData)) : M Ent := bnd f0 fun e0 => if e0.own = true then bnd g fun ds => bnd (lft (den [] e0 ds)) fun z => ret z.1 else fun _ => none
theorem rx_callT {f0 : M Ent} (G : FnOk X.prog X.w X.K X.mg X.base CX0 k f fd ps (sp1 X.prog X.w X.K (n + 1) 0 den1)) (hr : Room k X.A) (hg : Gl X x) (hm : X.mg x = some (.ref f)) (hk : PySem.W.keepIn X.K (.ref f) = true) (hb : Binds X.K fd ps []) (h0 : RX X e f0) (ha : RA X es g) (hn : ∀ r ds r', g r = some (ds, r') → ds.length = n)
    (hdb : (x == ("__debug__" : Str)) = false := by decide) (he : starEach (e :: es) X.env = (false, eval e X.env) :: starEach es X.env := by rfl) (hpl : (backTo pos (starEach es X.env)).any (·.1) = false := by rfl) :
    RX X (.Call (.Name x p) (e :: es) [] pos) (dcallT den1 f0 g) := by
  obtain ⟨t, pa, ka⟩ := ha.ex
  obtain ⟨t0, pe0, k0⟩ := h0.ex
  refine ⟨_, pe_call G hr hg hm hk hb .nil pass0 (pa_cons pe0 pa he) hdb he hpl, fun σ H F r en r' Q S e hQ => ?_⟩
  obtain ⟨e0, r0, e1, e⟩ := bnd_some e
  split at e
  · rename_i ho
    obtain ⟨ds, r1, e2, e⟩ := bnd_some e
    obtain ⟨z, r2, e3, e⟩ := bnd_some e
    obtain ⟨z', e3', e4⟩ := lft_some e3
    cases e4
    cases ret_some e
    refine k0 σ H F r e0 r0 _ S e1 fun v0 F0 H0 S0 G0 R0 => ?_
    obtain ⟨a, rfl⟩ := R0.1.ref ho
    refine ka σ H0 F0 r0 ds _ _ S0 e2 fun vs F1 H1 S1 G1 D1 => ?_
    have no0 : ¬ OwnAt r0 σ a := (R0.2 a ho rfl).2
    obtain ⟨hF0, u0, hu0⟩ := R0.1.has ho
    have hH0 : H0 a ≠ none := by rw [hu0]; exact fun z => nomatch z
    have no1 : ¬ OwnAt r' σ a := fun z => (G1.own a z).elim no0 hH0
    have en0 : EntR X.prog X.w X.K F1 H1 (.ref a) e0 := R0.1.mono G1.same fun c z1 z2 => by
      cases z1
      exact ⟨fun o q => G1.keep a o q no0, fun q1 q2 => (G1.nf a q2 no0).trans q1⟩
    show sp1 X.prog X.w X.K (n + 1) 0 den1 ((V.ref a :: vs) ++ []) H1 Q E0
    rw [List.append_nil]
    refine ⟨F1, [], a, vs, [], e0, ds, z.1, z.2, rfl, by rw [List.length_cons, D1.length, hn _ _ _ e2], rfl, S1.sub, .nil, D1, en0, ho, e3', fun u F2 H2 q1 q2 q3 q4 q5 q6 q7 q8 => ?_⟩
    have hc : ∀ b, OwnAt r' σ b → b ≠ a := fun b z y => no1 (by rw [← y]; exact z)
    have S2 : SR X.prog X.w X.K F2 H2 σ r' := by
      refine ⟨q2, S1.len, fun j en hj => ?_, S1.dis⟩
      obtain ⟨u, z1, z2⟩ := S1.ent j en hj
      refine ⟨u, z1, z2.mono q1 fun c y1 y2 => ?_⟩
      have hc := hc c ⟨j, en, hj, y2, by rw [z1, y1]⟩
      exact ⟨fun o z => q3 c o hc z, fun z1 z2 => (q4 c hc z2).trans z1⟩
    have G := G0.trans G1
    have ha0 : ∀ b, H b ≠ none → ¬ OwnAt r σ b → b ≠ a := fun b h1 h2 z => by
      rw [z] at h1 h2
      exact (R0.2 a ho rfl).1.elim h2 h1
    have hk1 : ∀ b, H b ≠ none → ¬ OwnAt r σ b → H1 b ≠ none := fun b h1 h2 => by
      cases q : H b with
      | none => exact absurd q h1
      | some o => rw [G.keep b o q h2]; exact fun z => nomatch z
    refine hQ u F2 H2 S2 ⟨G.same.trans q1, fun b h1 h2 => (q4 b (ha0 b h1 h2) (hk1 b h1 h2)).trans (G.nf b h1 h2), fun b o h1 h2 => q3 b o (ha0 b (by rw [h1]; exact fun z => nomatch z) h2) (G.keep b o h1 h2), G.own⟩ ⟨q7, fun c z1 z2 => ?_⟩
    have hcn := q8 c z1 z2
    refine ⟨?_, fun z => ?_⟩
    · by_cases ho : OwnAt r σ c
      · exact .inl ho
      · right
        cases y : H c with
        | none => rfl
        | some o => rw [G.keep c o y ho] at hcn; cases hcn
    · obtain ⟨_, u, hu⟩ := S1.has z
      rw [hcn] at hu
      cases hu
  · cases e
end

/-! ### a def and its body -/
def run0 (m : Nat) (fM : M Out) : Den0 := fun ds => match fM (ds.map (fun d => some (Ent.d d)) ++ List.replicate (m - ds.length) none) with
  | some (.nx, _) => some (.d .none)
  | some (.ret en, _) => some en
  | _ => none
def run1 (m p : Nat) (fM : M Out) : Den1 := fun ds1 e0 ds2 => match fM ((ds1.map (fun d => some (Ent.d d)) ++ some e0 :: ds2.map (fun d => some (Ent.d d))) ++ List.replicate (m - (ds1.length + (ds2.length + 1))) none) with
  | some (o, r') => match r'[p]? with
    | some (some e1) => if e1.own = true then (match o with
        | .nx => some (.d .none, e1)
        | .ret en => some (en, e1)
        | _ => none) else none
    | _ => none
  | _ => none
section
variable {P : Program} {w : World} {K : PySem.W.Frag} {mg : Str → Option Value} {base : Heap}
theorem dpAll_ent {F H : Hp} : ∀ {vs : List V} {ds : List PyData}, DpAll K F vs ds → ∀ (i : Nat) (e : Ent), (ds.map (fun d => some (Ent.d d)))[i]? = some (some e) → ∃ v, (vs.map some)[i]? = some (some v) ∧ EntR P w K F H v e ∧ e.own = false
  | _, _, .nil, i, e, h => by simp at h
  | _, _, .cons D1 D2, 0, e, h => by
    simp at h
    subst h
    exact ⟨_, rfl, .d D1, rfl⟩
  | _, _, .cons D1 D2, i + 1, e, h => by
    obtain ⟨v, h1, h2⟩ := dpAll_ent D2 i e (by simpa using h)
    exact ⟨v, by simpa using h1, h2⟩
theorem rep_none {m i : Nat} {α : Type} {e : α} (h : (List.replicate m (none : Option α))[i]? = some (some e)) : False := by
  rw [List.getElem?_replicate] at h
  split at h <;> cases h
theorem sr_start0 {F H : Hp} {vs : List V} {ds : List PyData} {N : List Str} (s : Same F H) (D : DpAll K F vs ds) : SR P w K F H (start N vs) (ds.map (fun d => some (Ent.d d)) ++ List.replicate (N.length - ds.length) none) ∧ ∀ a, ¬ OwnAt (ds.map (fun d => some (Ent.d d)) ++ List.replicate (N.length - ds.length) none) (start N vs) a := by
  have key : ∀ (i : Nat) (e : Ent), (ds.map (fun d => some (Ent.d d)) ++ List.replicate (N.length - ds.length) none)[i]? = some (some e) → ∃ v, (start N vs)[i]? = some (some v) ∧ EntR P w K F H v e ∧ e.own = false := fun i e h => by
    by_cases hi : i < ds.length
    · rw [List.getElem?_append_left (by simpa using hi)] at h
      obtain ⟨v, h1, h2⟩ := dpAll_ent (P := P) (w := w) (H := H) D i e h
      refine ⟨v, ?_, h2⟩
      unfold L2.start
      rw [List.getElem?_append_left (by rw [List.length_map, D.length]; exact hi)]
      exact h1
    · rw [List.getElem?_append_right (by simpa using hi)] at h
      exact (rep_none h).elim
  have noo : ∀ a, ¬ OwnAt (ds.map (fun d => some (Ent.d d)) ++ List.replicate (N.length - ds.length) none) (start N vs) a := fun a ⟨i, e, h1, h2, h3⟩ => by
    obtain ⟨_, _, _, z⟩ := key i e h1
    rw [z] at h2
    cases h2
  refine ⟨⟨s, ?_, fun i e h => let ⟨v, h1, h2, _⟩ := key i e h; ⟨v, h1, h2⟩, fun i j a e e' h1 _ h3 => ?_⟩, noo⟩
  · unfold L2.start
    rw [List.length_append, List.length_append, List.length_map, List.length_map, List.length_replicate, List.length_replicate, D.length]
  · obtain ⟨_, _, _, z⟩ := key i e h1
    rw [z] at h3
    cases h3
abbrev FnP (K : PySem.W.Frag) (x : Str) (st : Stmt) (f : Addr) (fd : FuncData) : Prop := FunD K x x (defArgs st) (defBody st) (defScope st) [] [] f fd
theorem fn0 {x : Str} {st : Stmt} {f : Addr} {fd : FuncData} {N ps : List Str} {k : Nat} {fM : M Out} (F : FnP K x st f fd) (S : FnScope N ps (defScope st))
    (h : ∀ (cdv : Value) (A : Around) (outer : List Env) (s : Shared) (H : Hp) (E : XK), Room k (A.deeper (envOfC x (defScope st) s.heap.objs.size f cdv)) → RSs (cxOf CX0 P w K mg base N x (defScope st) f cdv A outer s H E).nox 0 (defBody st) fM) :
    FnOk P w K mg base CX0 (k + 1) f fd ps (sp0 P w K ps.length (run0 N.length fM)) := by
  refine F.ok S (fun vs H Q E ⟨Fh, ds, en, h1, h2, h3, _⟩ => by rw [h3.length, h1]) fun cdv A outer s H vs Q E hr hsp => ?_
  obtain ⟨Fh, ds, en, hl, hs, hD, hd, hQ⟩ := hsp
  obtain ⟨t, pt, kt⟩ := (h cdv A outer s H E hr).ex
  refine ⟨t, pt.nox, ?_⟩
  obtain ⟨S0, no⟩ := sr_start0 (P := P) (w := w) (N := N) hs hD
  unfold run0 at hd
  split at hd
  · rename_i r' e
    cases hd
    refine kt _ H Fh _ _ _ _ S0 e fun σ' F' H' S' G' _ => ?_
    exact hQ .non F' H' ⟨G'.same, S'.sub, fun b o q => G'.keep b o q (no b), fun b q => G'.nf b q (no b)⟩ (.d .non) fun _ z => nomatch z
  · rename_i en' r' e
    cases hd
    refine kt _ H Fh _ _ _ _ S0 e fun σ' F' H' S' G' _ v R => ?_
    exact hQ v F' H' ⟨G'.same, S'.sub, fun b o q => G'.keep b o q (no b), fun b q => G'.nf b q (no b)⟩ R.1 fun a z1 z2 => (R.2 a z1 z2).1.elim (fun z => absurd z (no a)) id
  · cases hd
theorem sr_start1 {F H : Hp} {vs1 vs2 : List V} {ds1 ds2 : List PyData} {a : Addr} {e0 : Ent} {N : List Str} (s : Same F H) (D1 : DpAll K F vs1 ds1) (D2 : DpAll K F vs2 ds2) (x0 : EntR P w K F H (.ref a) e0) :
    SR P w K F H (start N (vs1 ++ .ref a :: vs2)) ((ds1.map (fun d => some (Ent.d d)) ++ some e0 :: ds2.map (fun d => some (Ent.d d))) ++ List.replicate (N.length - (ds1.length + (ds2.length + 1))) none) ∧
    ∀ c, OwnAt ((ds1.map (fun d => some (Ent.d d)) ++ some e0 :: ds2.map (fun d => some (Ent.d d))) ++ List.replicate (N.length - (ds1.length + (ds2.length + 1))) none) (start N (vs1 ++ .ref a :: vs2)) c → c = a := by
  have l1 := D1.length
  have l2 := D2.length
  have key : ∀ (i : Nat) (e : Ent), ((ds1.map (fun d => some (Ent.d d)) ++ some e0 :: ds2.map (fun d => some (Ent.d d))) ++ List.replicate (N.length - (ds1.length + (ds2.length + 1))) none)[i]? = some (some e) → ∃ v, (start N (vs1 ++ .ref a :: vs2))[i]? = some (some v) ∧ EntR P w K F H v e ∧ (e.own = false ∨ (i = ds1.length ∧ v = .ref a)) := fun i e h => by
    have hst : ∀ j : Nat, j < vs1.length + (vs2.length + 1) → (start N (vs1 ++ .ref a :: vs2))[j]? = ((vs1 ++ .ref a :: vs2).map some)[j]? := fun j hj => by
      unfold L2.start
      rw [List.getElem?_append_left (by simp; omega)]
    by_cases hi : i < ds1.length + (ds2.length + 1)
    · rw [List.getElem?_append_left (by simp; omega)] at h
      rw [hst i (by omega)]
      by_cases h1 : i < ds1.length
      · rw [List.getElem?_append_left (by simpa using h1)] at h
        obtain ⟨v, q1, q2, q3⟩ := dpAll_ent (P := P) (w := w) (H := H) D1 i e h
        refine ⟨v, ?_, q2, .inl q3⟩
        rw [List.map_append, List.getElem?_append_left (by simp; omega)]
        exact q1
      · rw [List.getElem?_append_right (by simp; omega)] at h
        rw [List.map_append, List.getElem?_append_right (by simp; omega)]
        simp only [List.length_map] at h ⊢
        rw [l1]
        obtain ⟨j, hj⟩ : ∃ j, i - ds1.length = j := ⟨_, rfl⟩
        rw [hj] at h ⊢
        cases j with
        | zero =>
          simp at h
          subst h
          exact ⟨.ref a, rfl, x0, .inr ⟨by omega, rfl⟩⟩
        | succ j =>
          obtain ⟨v, q1, q2, q3⟩ := dpAll_ent (P := P) (w := w) (H := H) D2 j e (by simpa using h)
          exact ⟨v, by simpa using q1, q2, .inl q3⟩
    · rw [List.getElem?_append_right (by simp; omega)] at h
      exact (rep_none h).elim
  refine ⟨⟨s, ?_, fun i e h => let ⟨v, h1, h2, _⟩ := key i e h; ⟨v, h1, h2⟩, fun i j c e e' h1 h2 h3 h4 h5 h6 => ?_⟩, fun c ⟨i, e, h1, h2, h3⟩ => ?_⟩
  · unfold L2.start
    simp
    omega
  · obtain ⟨_, _, _, z1⟩ := key i e h1
    obtain ⟨_, _, _, z2⟩ := key j e' h2
    rcases z1 with z1 | ⟨z1, _⟩
    · rw [z1] at h3; cases h3
    · rcases z2 with z2 | ⟨z2, _⟩
      · rw [z2] at h4; cases h4
      · omega
  · obtain ⟨v, q1, _, z1⟩ := key i e h1
    rcases z1 with z1 | ⟨_, z1⟩
    · rw [z1] at h2; cases h2
    · rw [h3] at q1
      cases q1
      injection z1
theorem fn1 {x : Str} {st : Stmt} {f : Addr} {fd : FuncData} {N ps : List Str} {k p : Nat} {fM : M Out} (F : FnP K x st f fd) (S : FnScope N ps (defScope st)) (hp : p < ps.length) (hN : ps.length ≤ N.length)
    (h : ∀ (cdv : Value) (A : Around) (outer : List Env) (s : Shared) (H : Hp) (E : XK), Room k (A.deeper (envOfC x (defScope st) s.heap.objs.size f cdv)) → RSs (cxOf CX0 P w K mg base N x (defScope st) f cdv A outer s H E).nox (p + 1) (defBody st) fM) :
    FnOk P w K mg base CX0 (k + 1) f fd ps (sp1 P w K ps.length p (run1 N.length p fM)) := by
  refine F.ok S (fun vs H Q E h => ?_) fun cdv A outer s H vs Q E hr hsp => ?_
  · obtain ⟨Fh, vs1, a, vs2, ds1, e0, ds2, en, e1, h1, h2, _⟩ := h
    exact h2
  obtain ⟨Fh, vs1, a, vs2, ds1, e0, ds2, en, e1, rfl, hl, hl1, hs, hD1, hD2, hx0, ho0, hd, hQ⟩ := hsp
  obtain ⟨t, pt, kt⟩ := (h cdv A outer s H E hr).ex
  refine ⟨t, pt.nox, ?_⟩
  obtain ⟨S0, no⟩ := sr_start1 (P := P) (w := w) (N := N) hs hD1 hD2 hx0
  have hsp : (start N (vs1 ++ .ref a :: vs2))[p]? = some (some (.ref a)) := by
    unfold L2.start
    rw [List.getElem?_append_left (by simp at hl ⊢; omega), List.getElem?_map, List.getElem?_append_right (by omega), hl1]
    simp
  unfold run1 at hd
  split at hd
  · rename_i o r' e
    split at hd
    · rename_i e1' he1
      split at hd
      · rename_i ho1
        have fin : ∀ (σ' : St) (F' H' : Hp), SR P w K F' H' σ' r' → Pin (p + 1) (start N (vs1 ++ .ref a :: vs2)) σ' → EntR P w K F' H' (.ref a) e1' ∧ σ'[p]? = some (some (.ref a)) := fun σ' F' H' S' P' => by
          have q := (P'.2 p (Nat.lt_succ_self _)).trans hsp
          obtain ⟨v, z1, z2⟩ := S'.ent p _ he1
          rw [q] at z1
          cases z1
          exact ⟨z2, q⟩
        have nb : ∀ b, b ≠ a → ¬ OwnAt ((ds1.map (fun d => some (Ent.d d)) ++ some e0 :: ds2.map (fun d => some (Ent.d d))) ++ List.replicate (N.length - (ds1.length + (ds2.length + 1))) none) (start N (vs1 ++ .ref a :: vs2)) b := fun b hb z => hb (no b z)
        cases o with
        | nx =>
          cases hd
          refine kt _ H Fh _ _ _ _ S0 e fun σ' F' H' S' G' P' => ?_
          obtain ⟨q1, _⟩ := fin σ' F' H' S' P'
          exact hQ .non F' H' G'.same S'.sub (fun b o hb q => G'.keep b o q (nb b hb)) (fun b hb q => G'.nf b q (nb b hb)) q1 ho1 (.d .non) fun _ z => nomatch z
        | ret en' =>
          cases hd
          refine kt _ H Fh _ _ _ _ S0 e fun σ' F' H' S' G' P' v R => ?_
          obtain ⟨q1, q2⟩ := fin σ' F' H' S' P'
          refine hQ v F' H' G'.same S'.sub (fun b o hb q => G'.keep b o q (nb b hb)) (fun b hb q => G'.nf b q (nb b hb)) q1 ho1 R.1 fun c z1 z2 => ?_
          rcases (R.2 c z1 z2).1 with q | q
          · have := no c q
            subst this
            exact absurd ⟨p, _, he1, ho1, q2⟩ (R.2 c z1 z2).2
          · exact q
        | _ => cases hd
      · cases hd
    · cases hd
  · cases hd
end
end G65
namespace G65
open PySem PySem.Spec PyProof.Rows L2

/-! ### dicts whose keys are tuples -/
section
variable {X : Cx} {pins : List (Addr × Obj)} {σ : St} {H F : Hp} {s : Shared}
mutual
theorem nk_is (I : Inv X pins σ H s) : ∀ {d : PyData} {v : V} {u : Value} {k : NestedKey}, Dp X.K H v d → RelV v u → nk d = some k → NestedIs s.heap k u
  | _, _, _, _, .non, r, e => by cases e; cases r; exact .none
  | _, _, _, _, .bl b, r, e => by cases e; cases r; exact .bool rfl
  | _, _, _, _, .int i, r, e => by cases e; obtain ⟨t, rfl⟩ := r; exact .int i t
  | _, _, _, _, .str x, r, e => by cases e; obtain ⟨t, rfl⟩ := r; exact .text x t
  | _, _, _, _, .lst h q, r, e => by cases e
  | _, _, _, _, .tup h q, r, e => by
    cases r
    rw [nk] at e
    obtain ⟨ks, e1, e2⟩ := Option.map_eq_some_iff.mp e
    subst e2
    obtain ⟨its, rv, ⟨o, ho, hc, n, hd⟩, hz⟩ := I.tuple h
    exact .tup ho hc hd (by simpa using nkAll_is I q rv e1)
theorem nkAll_is (I : Inv X pins σ H s) : ∀ {ds : List PyData} {vs : List V} {us : List Value} {ks : List NestedKey}, DpAll X.K H vs ds → Vals vs us → nkAll ds = some ks → NestedAll s.heap ks us
  | _, _, _, _, .nil, r, e => by cases r; rw [nkAll] at e; cases e; exact .nil
  | _, _, _, _, .cons h q, r, e => by
    cases r with
    | cons r1 r2 =>
      rw [nkAll] at e
      split at e
      · rename_i a b e1 e2
        cases e
        exact .cons (nk_is I h r1 e1) (nkAll_is I q r2 e2)
      · cases e
end
theorem key_is (I : Inv X pins σ H s) {d : PyData} {b : Addr} {k : NestedKey} (h : Dp X.K H (.ref b) d) (e : keyOf d = some k) : (nestedKind X.prog X.w).is s.heap k b := by
  cases h with
  | lst _ _ => cases e
  | tup h q =>
    simp only [keyOf] at e
    split at e
    · rename_i ks e1
      split at e
      · rename_i hz
        cases e
        obtain ⟨its, rv, ⟨o, ho, hc, n, hd⟩, _⟩ := I.tuple h
        exact ⟨.tup ho hc hd (by simpa using nkAll_is I q rv e1), hz⟩
      · cases e
    · cases e
theorem keyOf_ref {K : PySem.W.Frag} {d : PyData} {v : V} {k : NestedKey} (h : Dp K H v d) (e : keyOf d = some k) : ∃ b, v = .ref b := by
  cases h with
  | tup h q => exact ⟨_, rfl⟩
  | _ => cases e
/-- what the heap has of it -/
abbrev KR (K : PySem.W.Frag) (F : Hp) : Rw → List (NestedKey × Addr × Value) → Prop := Paired fun (p : PyData × PyData) (q : NestedKey × Addr × Value) => keyOf p.1 = some q.1 ∧ Dp K F (.ref q.2.1) p.1 ∧ ∃ v, RelV v q.2.2 ∧ Dp K F v p.2
theorem kr_len {K : PySem.W.Frag} {kvs : Rw} {xs : List (NestedKey × Addr × Value)} (h : KR K F kvs xs) : kvs.length = xs.length := Paired.length h
theorem kr_get {K : PySem.W.Frag} : ∀ {kvs : Rw} {xs : List (NestedKey × Addr × Value)} (k : NestedKey), KR K F kvs xs → (dGet kvs k = none ∧ atKey xs k = none) ∨ ∃ d b v u, dGet kvs k = some d ∧ atKey xs k = some (b, u) ∧ RelV v u ∧ Dp K F v d
  | _, _, k, .nil => .inl ⟨rfl, rfl⟩
  | _, _, k, .cons (a := p) (b := q) ⟨h1, h2, v, h3, h4⟩ t => by
    by_cases e : q.1 = k
    · right
      refine ⟨p.2, q.2.1, v, q.2.2, ?_, ?_, h3, h4⟩
      · unfold dGet
        rw [List.find?_cons_of_pos (by rw [h1, e]; simp)]
        rfl
      · unfold atKey
        rw [List.find?_cons_of_pos (by simp [e])]
        rfl
    · have e1 : ¬ keyOf p.1 = some k := fun z => e (by rw [h1] at z; exact Option.some.inj z)
      rcases kr_get k t with ⟨q1, q2⟩ | ⟨d, b, v, u, q1, q2, q3⟩
      · left
        unfold dGet atKey at *
        rw [List.find?_cons_of_neg (by simp [e1]), List.find?_cons_of_neg (by simp [e])]
        exact ⟨q1, q2⟩
      · right
        refine ⟨d, b, v, u, ?_, ?_, q3⟩
        · unfold dGet at *
          rw [List.find?_cons_of_neg (by simp [e1])]
          exact q1
        · unfold atKey at *
          rw [List.find?_cons_of_neg (by simp [e])]
          exact q2
theorem kr_map {K : PySem.W.Frag} {k : NestedKey} {v : V} {u : Value} {d : PyData} (rv : RelV v u) (D : Dp K F v d) : ∀ {kvs : Rw} {xs : List (NestedKey × Addr × Value)}, KR K F kvs xs → KR K F (kvs.map fun kv => if keyOf kv.1 = some k then (kv.1, d) else kv) (xs.map (putAt k u))
  | _, _, .nil => .nil
  | _, _, .cons (a := p) (b := q) ⟨h1, h2, h3⟩ t => by
    rw [List.map_cons, List.map_cons]
    refine .cons ?_ (kr_map rv D t)
    unfold putAt
    by_cases e : q.1 = k
    · rw [if_pos e, if_pos (by rw [h1, e])]
      exact ⟨h1, h2, v, rv, D⟩
    · rw [if_neg e, if_neg fun z => e (by rw [h1] at z; exact Option.some.inj z)]
      exact ⟨h1, h2, h3⟩
theorem kr_app {K : PySem.W.Frag} {kv : PyData × PyData} {x : NestedKey × Addr × Value} (h : keyOf kv.1 = some x.1 ∧ Dp K F (.ref x.2.1) kv.1 ∧ ∃ v, RelV v x.2.2 ∧ Dp K F v kv.2) : ∀ {kvs : Rw} {xs : List (NestedKey × Addr × Value)}, KR K F kvs xs → KR K F (kvs ++ [kv]) (xs ++ [x])
  | _, _, .nil => .cons h .nil
  | _, _, .cons q t => .cons q (kr_app h t)
theorem kr_put {K : PySem.W.Frag} {kvs : Rw} {xs : List (NestedKey × Addr × Value)} {k : NestedKey} {kd d : PyData} {b : Addr} {v : V} {u : Value} (h : KR K F kvs xs) (hk : keyOf kd = some k) (hb : Dp K F (.ref b) kd) (rv : RelV v u) (D : Dp K F v d) : KR K F (dPut kvs k kd d) (storedH xs k b u) := by
  unfold dPut storedH
  rcases kr_get k h with ⟨q1, q2⟩ | ⟨d', b', v', u', q1, q2, _⟩
  · rw [q1, q2]
    exact kr_app ⟨hk, hb, v, rv, D⟩ h
  · rw [q1, q2]
    exact kr_map rv D h
theorem kr_mono {K : PySem.W.Frag} {F F' : Hp} (e : Same F F') {kvs : Rw} {xs : List (NestedKey × Addr × Value)} (h : KR K F kvs xs) : KR K F' kvs xs := Paired.mapP h fun p q ⟨a1, a2, v, a3, a4⟩ => ⟨a1, dp_mono e a2, v, a3, dp_mono e a4⟩
theorem kr_mem {K : PySem.W.Frag} : ∀ {kvs : Rw} {xs : List (NestedKey × Addr × Value)}, KR K F kvs xs → ∀ x ∈ xs, ∃ kd, keyOf kd = some x.1 ∧ Dp K F (.ref x.2.1) kd
  | _, _, .nil, x, h => by cases h
  | _, _, .cons ⟨h1, h2, _⟩ t, x, h => by
    rcases List.mem_cons.mp h with rfl | h
    · exact ⟨_, h1, h2⟩
    · exact kr_mem t x h
theorem dict_at (I : Inv X pins σ H s) (sub : Same F H) {a : Addr} {kvs : Rw} (d : DictAt X.prog X.w X.K F H a kvs) : ∃ xs, s.heap.DictOfH (nestedKind X.prog X.w) a xs ∧ KR X.K F kvs xs ∧ xs.length ≤ sizeLine ∧ (a == sysModules) = false ∧ ∃ ob, s.heap.get? a = some ob ∧ ob.dict = none := by
  obtain ⟨h0, hz, o, es, ep, xs, h1, h2, h3, h4, h5, h6⟩ := d
  have q := I.hok a _ h1
  obtain ⟨q, _⟩ := q
  refine ⟨xs, ⟨o, es, ep, q, h2, h3, h4, fun x hx => ?_, h5⟩, h6, by rw [← kr_len h6]; exact hz, h0, o, q, h2.2.1⟩
  obtain ⟨kd, e1, e2⟩ := kr_mem h6 x hx
  exact key_is I (dp_mono sub e2) e1
def room8 {k : Nat} {A : Around} (hr : Room k A) : (nestedKind X.prog X.w).room A.in1 := by
  show A.in1.units + 8 < cLine
  have := hr.un
  show A.units + 1 + 8 < cLine
  omega
/-- an object for H that is told by its own content -/
theorem ext_ok {a : Addr} {o : Obj} {h : Heap} (e : h.get? a = some o) : ObjOk X.prog X.w H h a (.ext fun h => h.get? a = some o) := ⟨e, ⟨o, e⟩, fun h1 h2 q k => k o q⟩
end
/-! by values -/
def rDIn (X : Cx) (neg : Bool) : R2 := fun x y H Q => ∃ F a kvs kd k, Same F H ∧ y = .ref a ∧ DictAt X.prog X.w X.K F H a kvs ∧ Dp X.K F x kd ∧ keyOf kd = some k ∧ Q (.bl (if neg then !(dGet kvs k).isSome else (dGet kvs k).isSome)) H
def rDGet (X : Cx) : R2 := fun x y H Q => ∃ F a kvs kd k d, Same F H ∧ x = .ref a ∧ DictAt X.prog X.w X.K F H a kvs ∧ Dp X.K F y kd ∧ keyOf kd = some k ∧ dGet kvs k = some d ∧ ∀ v, Dp X.K F v d → Q v H
def rDSet (X : Cx) : TSet := fun o i v H Q => ∃ F a kvs kd k d, Same F H ∧ o = .ref a ∧ F a = none ∧ DictAt X.prog X.w X.K F H a kvs ∧ Dp X.K F i kd ∧ keyOf kd = some k ∧ Dp X.K F v d ∧ kvs.length < sizeLine ∧ ∀ ob, DictAt X.prog X.w X.K F (upd H a ob) a (dPut kvs k kd d) → Q (upd H a ob)
section
variable {X : Cx} {k : Nat}
theorem dget_isSome {K : PySem.W.Frag} {F : Hp} {kvs : Rw} {xs : List (NestedKey × Addr × Value)} (k : NestedKey) (h : KR K F kvs xs) : (valueAt (pairsH xs) k).isSome = (dGet kvs k).isSome := by
  rw [valueAt_pairsH]
  rcases kr_get k h with ⟨q1, q2⟩ | ⟨d, b, v, u, q1, q2, _⟩
  · rw [q1, q2]; rfl
  · rw [q1, q2]; rfl
theorem op_din (hr : Room k X.A) : OpR X (compareOp .In) (rDIn X false) := by
  intro pins s σ H x y v u Q I rx ry h
  obtain ⟨F, a, kvs, kd, kk, sub, rfl, hd, hk, e, q⟩ := h
  cases ry
  obtain ⟨b, rfl⟩ := keyOf_ref hk e
  cases rx
  obtain ⟨xs, dd, kr, _, hS, _⟩ := dict_at I sub hd
  refine in_keyed (room8 hr) (key_is I (dp_mono sub hk) e) hS ⟨xs, dd, rfl⟩ ?_
  rw [dget_isSome kk kr]
  exact ⟨.bl _, H, I.tok _, rfl, q⟩
theorem op_dnin (hr : Room k X.A) : OpR X (compareOp .NotIn) (rDIn X true) := by
  intro pins s σ H x y v u Q I rx ry h
  obtain ⟨F, a, kvs, kd, kk, sub, rfl, hd, hk, e, q⟩ := h
  cases ry
  obtain ⟨b, rfl⟩ := keyOf_ref hk e
  cases rx
  obtain ⟨xs, dd, kr, _, hS, _⟩ := dict_at I sub hd
  refine notIn_keyed (room8 hr) (key_is I (dp_mono sub hk) e) hS ⟨xs, dd, rfl⟩ ?_
  rw [dget_isSome kk kr]
  exact ⟨.bl _, H, I.tok _, rfl, q⟩
theorem ix_dict (hr : Room k X.A) : IxR X (rDGet X) := by
  intro value slice pins s σ H x y v u Q I rx ry h hs
  obtain ⟨F, a, kvs, kd, kk, d, sub, rfl, hd, hk, e, hg, q⟩ := h
  cases rx
  obtain ⟨b, rfl⟩ := keyOf_ref hk e
  cases ry
  obtain ⟨xs, dd, kr, _, hS, _⟩ := dict_at I sub hd
  rcases kr_get kk kr with ⟨q1, q2⟩ | ⟨d', b', v', u', q1, q2, q3, q4⟩
  · rw [hg] at q1; cases q1
  · rw [hg] at q1
    cases q1
    refine tail_any dd.typeIs PySem.F.slot_dict_getitem.lookup (getItem_keyed (v := u') (room8 hr) (key_is I (dp_mono sub hk) e) ⟨xs, dd, rfl⟩ (by rw [valueAt_pairsH, q2]; rfl) ⟨v', H, I.tok _, q3, q v' q4⟩) hs
theorem set_dict (hr : Room k X.A) : PSet X (rDSet X) := by
  intro pins s σ H o i v ov iv u Q I ro ri rv h
  obtain ⟨F, a, kvs, kd, kk, d, sub, rfl, hFa, hd, hk, e, hD, hz, q⟩ := h
  cases ro
  obtain ⟨b, rfl⟩ := keyOf_ref hk e
  cases ri
  obtain ⟨xs, dd, kr, hzx, hS, ob0, hob, _⟩ := dict_at I sub hd
  obtain ⟨o1, hHa⟩ := hd.has
  have hext : ∃ φ, H a = some (.ext φ) := by
    obtain ⟨_, _, o, _, _, _, h1, _⟩ := hd
    exact ⟨_, h1⟩
  obtain ⟨φ, hext⟩ := hext
  refine wpAny_setItem_heap (hsz := hzx) (room8 hr) (key_is I (dp_mono sub hk) e) dd fun h' dd' hsb => ?_
  obtain ⟨o', es', ep', z1, z2, z3, z4, z5, z6⟩ := dd'
  have I1 : Inv X pins σ (upd H a (.ext fun h => h.get? a = some o')) { s with heap := h', toks := s.toks + (nestedKind X.prog X.w).draws kk } :=
    I.write (x := a) (e := a) (by rw [hext]; exact True.intro) (.inl rfl) (fun c w hc hw => (hsb.2 c hc).trans hw) ⟨o', z1⟩ (ext_ok z1)
  refine ⟨_, I1, q _ ⟨hS, ?_, o', es', ep', _, upd_same, z2, z3, z4, z6, kr_put kr e hk rv hD⟩⟩
  unfold dPut
  split
  · rw [List.length_map]; omega
  · rw [List.length_append, List.length_singleton]; omega
def tDNewX : TE := fun _ H Q => ∀ p o, H p = none → (p == sysModules) = false → o.ExactDict → o.data = .dict #[] 0 → Q (.ref p) (upd H p (.ext fun h => h.get? p = some o))
theorem pe_dnewX {pos : Pos} : PE X (.Dict [] [] pos) tDNewX := ⟨fun pins s σ H Q I h =>
  wpAny_Dict_empty ⟨.ref s.heap.objs.size, _, I.laid (a := s.heap.objs.size) (o := .ext fun h => h.get? s.heap.objs.size = some { cls := .type "dict", data := .dict #[] }) (t' := s.toks) (fun _ _ q => Heap.get?_push_of_some _ q) (Nat.le_refl _) (ext_ok (Heap.get?_push_size _ rfl)), rfl,
    h _ _ (I.hok.fresh (Nat.le_refl _)) (beq_eq_false_iff_ne.mpr (Ne.symm (Nat.ne_of_lt I.big))) ⟨rfl, rfl, rfl⟩ rfl⟩⟩
end
/-! ### over data -/
def inV (i : Nat) (neg : Bool) (f : M PyData) : M Bool := bnd f fun kd r => match r[i]? with
  | some (some (.md kvs)) => match keyOf kd with
    | some k => some (if neg then !(dGet kvs k).isSome else (dGet kvs k).isSome, r)
    | none => none
  | _ => none
def getV (i : Nat) (f : M PyData) : M PyData := fun r => match r[i]? with
  | some (some (.md _)) => (bnd f fun kd r => match r[i]? with
    | some (some (.md kvs)) => match keyOf kd with
      | some k => (dGet kvs k).map fun d => (d, r)
      | none => none
    | _ => none) r
  | _ => none
def sPut (i : Nat) (fk fv : M PyData) : M Out := bnd fv fun d r => match r[i]? with
  | some (some (.md _)) => (bnd fk fun kd r => match r[i]? with
    | some (some (.md kvs)) => match keyOf kd with
      | some k => if kvs.length < 16777216 then some (Out.nx, r.set i (some (.md (dPut kvs k kd d)))) else none
      | none => none
    | _ => none) r
  | _ => none
def dnew : M Ent := ret (.md [])
section
variable {X : Cx} {n k : Nat} {e b : Expr} {f g : M PyData} {p p2 q pos pos' : Pos} {x : Str}
theorem rx_dnew : RX X (.Dict [] [] pos) dnew := by
  refine ⟨_, pe_dnewX, fun σ H F r en r' Q S e hQ => ?_⟩
  cases ret_some e
  intro p o hp hS ho hd
  have px := Px.newH S.sub (.ext fun h => h.get? p = some o) hp
  refine hQ _ F _ (S.px px) (.px px) ⟨.md (S.sub.free hp) ⟨hS, Nat.zero_le _, o, #[], 0, [], upd_same, ho, hd, rfl, List.nodup_nil, .nil⟩, fun a _ z => ?_⟩
  cases z
  refine ⟨.inr hp, fun z => ?_⟩
  obtain ⟨_, u, hu⟩ := S.has z
  rw [hp] at hu
  cases hu
theorem in_run {t : TE} {i : Nat} {neg : Bool} 
    (kf : ∀ (σ : St) (H F : Hp) (r : Rho) (d : PyData) (r' : Rho) (Q : VK), SR X.prog X.w X.K F H σ r → f r = some (d, r') → (∀ v F' H', SR X.prog X.w X.K F' H' σ r' → Go σ r F H σ r' F' H' → Dp X.K F' v d → Q v H') → t σ H Q)
    (σ : St) (H F : Hp) (r : Rho) (b : Bool) (r' : Rho) (Q : VK) (S : SR X.prog X.w X.K F H σ r) (e : inV i neg f r = some (b, r'))
    (hQ : ∀ F' H', SR X.prog X.w X.K F' H' σ r' → Go σ r F H σ r' F' H' → Q (.bl b) H') : tOp (rDIn X neg) t (tVar i) σ H Q := by
  obtain ⟨kd, r1, e1, e⟩ := bnd_some e
  refine kf σ H F r kd r1 _ S e1 fun v F1 H1 S1 G1 D1 => ?_
  split at e
  · rename_i kvs h
    split at e
    · rename_i kk hk
      cases e
      obtain ⟨u, z1, z2⟩ := S1.ent i _ h
      cases z2 with
      | md z2 z3 => exact ⟨_, z1, F1, _, kvs, kd, kk, S1.sub, rfl, z3, D1, hk, hQ F1 H1 S1 G1⟩
    · cases e
  · cases e
theorem rt_in (i : Nat) (hr : Room k X.A) (he : RE X e f) (hm : behindInMarks .In (.Name x q) = false := by rfl) (hN : X.N[i]? = some x := by rfl) (hv : Vis X.env.scope x := by first | exact Or.inl rfl | exact Or.inr (Or.inl rfl) | exact Or.inr (Or.inr rfl)) (hd : (x == ("__debug__" : Str)) = false := by decide) (hcd : (x == ("__classdict__" : Str)) = false := by decide) :
    RT X (.Compare e [.In] [.Name x q] pos) (inV i false f) := by
  obtain ⟨t, pe, kf⟩ := he.ex
  exact ⟨_, pt_cmpR (op_din hr) pe (pe_var hN hv hd hcd) hm, fun σ H F r b r' Q S e hQ => in_run kf σ H F r b r' _ S e fun F' H' S' G' => ⟨b, rfl, hQ F' H' S' G'⟩⟩
theorem rt_nin (i : Nat) (hr : Room k X.A) (he : RE X e f) (hm : behindInMarks .NotIn (.Name x q) = false := by rfl) (hN : X.N[i]? = some x := by rfl) (hv : Vis X.env.scope x := by first | exact Or.inl rfl | exact Or.inr (Or.inl rfl) | exact Or.inr (Or.inr rfl)) (hd : (x == ("__debug__" : Str)) = false := by decide) (hcd : (x == ("__classdict__" : Str)) = false := by decide) :
    RT X (.Compare e [.NotIn] [.Name x q] pos) (inV i true f) := by
  obtain ⟨t, pe, kf⟩ := he.ex
  exact ⟨_, pt_cmpR (op_dnin hr) pe (pe_var hN hv hd hcd) hm, fun σ H F r b r' Q S e hQ => in_run kf σ H F r b r' _ S e fun F' H' S' G' => ⟨b, rfl, hQ F' H' S' G'⟩⟩
theorem re_getV (i : Nat) (hr : Room k X.A) (he : RE X e f) (hs : PlainIx e) (hN : X.N[i]? = some x := by rfl) (hv : Vis X.env.scope x := by first | exact Or.inl rfl | exact Or.inr (Or.inl rfl) | exact Or.inr (Or.inr rfl)) (hd : (x == ("__debug__" : Str)) = false := by decide) (hcd : (x == ("__classdict__" : Str)) = false := by decide) :
    RE X (.Subscript (.Name x q) e pos) (getV i f) := by
  obtain ⟨t, pe, kf⟩ := he.ex
  refine ⟨_, pe_ix (ix_dict hr) (pe_var hN hv hd hcd) pe hs, fun σ H F r d r' Q S e hQ => ?_⟩
  unfold getV at e
  split at e
  · rename_i kv0 h0
    obtain ⟨u, z0, _⟩ := S.ent i _ h0
    obtain ⟨kd, r1, e1, e⟩ := bnd_some e
    refine ⟨u, z0, kf σ H F r kd r1 _ S e1 fun v F1 H1 S1 G1 D1 => ?_⟩
    split at e
    · rename_i kvs h
      split at e
      · rename_i kk hk
        obtain ⟨d', e2, e3⟩ := Option.map_eq_some_iff.mp e
        cases e3
        obtain ⟨u', z1, z2⟩ := S1.ent i _ h
        rw [z0] at z1
        cases z1
        cases z2 with
        | md z2 z3 => exact ⟨F1, _, kvs, kd, kk, _, S1.sub, rfl, z3, D1, hk, e2, fun w hw => hQ w F1 H1 S1 G1 hw⟩
      · cases e
    · cases e
  · cases e
theorem rs_put (i : Nat) (hr : Room k X.A) (he : RE X e f) (hb : RE X b g) (hN : X.N[i]? = some x := by rfl) (hv : Vis X.env.scope x := by first | exact Or.inl rfl | exact Or.inr (Or.inl rfl) | exact Or.inr (Or.inr rfl)) (hd : (x == ("__debug__" : Str)) = false := by decide) (hcd : (x == ("__classdict__" : Str)) = false := by decide)
    (ha : ∀ v, assign (.Subscript (.Name x q) b p) X.env v = (do
      let ov ← holding [v] (eval (.Name x q) X.env)
      let iv ← holding [v, ov] (eval b X.env)
      standAt p
      holding [v, ov, iv] (setItem ov iv v)
      release [v, ov, iv] []) := by intro _; rfl)
    (hs : swapsWithSole [.Subscript (.Name x q) b p] e pos.line X.env = pure false := by rfl) (hw : swappedStores [.Subscript (.Name x q) b p] e X.env = pure none := by rfl)
    (h1 : (assignEach [.Subscript (.Name x q) b p] X.env).map (·.2) = [assign (.Subscript (.Name x q) b p) X.env] := by rfl) : RS X n (.Assign [.Subscript (.Name x q) b p] e pos) (sPut i g f) := by
  obtain ⟨t, pe, kf⟩ := he.ex
  obtain ⟨t2, pb, k2⟩ := hb.ex
  refine ⟨_, ps_asg pe (pg_sub (pe_var hN hv hd hcd) pb (set_dict hr) ha) hs hw h1, fun σ H F r o r' D S e hQ => ?_⟩
  obtain ⟨d1, r1, e1, e⟩ := bnd_some e
  refine kf σ H F r d1 r1 _ S e1 fun u F1 H1 S1 G1 D1 => ?_
  split at e
  · rename_i kv0 h0
    obtain ⟨v, hv, _⟩ := S1.ent i _ h0
    obtain ⟨kd, r2, e2, e⟩ := bnd_some e
    refine ⟨v, hv, k2 σ H1 F1 r1 kd r2 _ S1 e2 fun y F2 H2 S2 G2 D2 => ?_⟩
    split at e
    · rename_i kvs h
      split at e
      · rename_i kk hk
        split at e
        · rename_i hz
          cases e
          obtain ⟨v', z1, z2⟩ := S2.ent i _ h
          rw [hv] at z1
          cases z1
          cases z2 with
          | md w0 w1 =>
            refine ⟨F2, _, kvs, kd, kk, d1, S2.sub, rfl, w0, w1, D2, hk, dp_mono G2.same D1, by rw [sl_eq]; exact hz, fun ob hdn => ?_⟩
            exact hQ σ F2 _ (sr_mut S2 h rfl hv (.md w0 hdn)) ((G1.trans G2).trans (go_mut S2 h rfl hv)) (.refl _ _)
        · cases e
      · cases e
    · cases e
  · cases e
end
end G65
namespace G65
open PySem PySem.Spec PyProof.Rows L2

/-! ### defs by name -/
/-- a def of the text as the top leaves it -/
def DF (K : PySem.W.Frag) (mg : Str → Option Value) (x : Str) (st : Stmt) (ps : List Str) : Prop := ∃ f fd, FnP K x st f fd ∧ mg x = some (.ref f) ∧ L2.Binds K fd ps []
/-- a def whose promise is shown -/
def CF (P : Program) (w : World) (K : PySem.W.Frag) (mg : Str → Option Value) (base : Heap) (k : Nat) (x : Str) (ps : List Str) (sp : Sp) : Prop := ∃ f fd, PySem.W.keepIn K (.ref f) = true ∧ mg x = some (.ref f) ∧ L2.Binds K fd ps [] ∧ FnOk P w K mg base CX0 k f fd ps sp
section
variable {P : Program} {w : World} {K : PySem.W.Frag} {mg : Str → Option Value} {base : Heap}
theorem cf0 {x : Str} {st : Stmt} {N ps : List Str} {k : Nat} {fM : M Out} (D : DF K mg x st ps) (S : FnScope N ps (defScope st))
    (h : ∀ (f : Addr) (cdv : Value) (A : Around) (outer : List Env) (s : Shared) (H : Hp) (E : XK), Room k (A.deeper (envOfC x (defScope st) s.heap.objs.size f cdv)) → RSs (cxOf CX0 P w K mg base N x (defScope st) f cdv A outer s H E).nox 0 (defBody st) fM) :
    CF P w K mg base (k + 1) x ps (sp0 P w K ps.length (run0 N.length fM)) := by
  obtain ⟨f, fd, F, hm, hb⟩ := D
  exact ⟨f, fd, F.kp, hm, hb, fn0 F S fun cdv A outer s H E hr => h f cdv A outer s H E hr⟩
theorem cf1 {x : Str} {st : Stmt} {N ps : List Str} {k p : Nat} {fM : M Out} (D : DF K mg x st ps) (S : FnScope N ps (defScope st)) (hp : p < ps.length) (hN : ps.length ≤ N.length)
    (h : ∀ (f : Addr) (cdv : Value) (A : Around) (outer : List Env) (s : Shared) (H : Hp) (E : XK), Room k (A.deeper (envOfC x (defScope st) s.heap.objs.size f cdv)) → RSs (cxOf CX0 P w K mg base N x (defScope st) f cdv A outer s H E).nox (p + 1) (defBody st) fM) :
    CF P w K mg base (k + 1) x ps (sp1 P w K ps.length p (run1 N.length p fM)) := by
  obtain ⟨f, fd, F, hm, hb⟩ := D
  exact ⟨f, fd, F.kp, hm, hb, fn1 F S hp hN fun cdv A outer s H E hr => h f cdv A outer s H E hr⟩
/-- a def that is never called so deep -/
theorem cf_none {x : Str} {st : Stmt} {ps : List Str} {k n : Nat} (D : DF K mg x st ps) : CF P w K mg base k x ps (sp0 P w K n fun _ => none) := by
  obtain ⟨f, fd, F, hm, hb⟩ := D
  refine ⟨f, fd, F.kp, hm, hb, ⟨fun vs H Q E h => ?_, fun A outer s H args us vs Q E _ _ _ _ h => ?_⟩⟩
  · obtain ⟨_, _, _, _, _, _, z, _⟩ := h
    cases z
  · obtain ⟨_, _, _, _, _, _, z, _⟩ := h
    cases z
theorem cf_none1 {x : Str} {st : Stmt} {ps : List Str} {k n p : Nat} (D : DF K mg x st ps) : CF P w K mg base k x ps (sp1 P w K n p fun _ _ _ => none) := by
  obtain ⟨f, fd, F, hm, hb⟩ := D
  refine ⟨f, fd, F.kp, hm, hb, ⟨fun vs H Q E h => ?_, fun A outer s H args us vs Q E _ _ _ _ h => ?_⟩⟩
  · obtain ⟨_, _, _, _, _, _, _, _, _, _, _, _, _, _, _, _, _, z, _⟩ := h
    cases z
  · obtain ⟨_, _, _, _, _, _, _, _, _, _, _, _, _, _, _, _, _, z, _⟩ := h
    cases z
theorem CF.mono {j k : Nat} {x : Str} {ps : List Str} {sp : Sp} (C : CF P w K mg base j x ps sp) (h : j ≤ k) : CF P w K mg base k x ps sp := by
  obtain ⟨f, fd, h1, h2, h3, h4⟩ := C
  exact ⟨f, fd, h1, h2, h3, h4.mono h⟩
end
section
variable {X : Cx} {k j n : Nat} {ps : List Str} {den : Den0} {den1 : Den1} {x y : Str} {p p2 q pos : Pos} {e e2 : Expr} {es : List Expr} {g : M (List PyData)} {f1 : M PyData} {f0 : M Ent}
theorem rx_callC (C : CF X.prog X.w X.K X.mg X.base k x ps (sp0 X.prog X.w X.K n den)) (hr : Room j X.A) (hkj : k ≤ j) (hg : Gl X x) (ha : RA X (e :: es) g) (hn : ∀ r ds r', g r = some (ds, r') → ds.length = n)
    (hdb : (x == ("__debug__" : Str)) = false := by decide) (he : starEach (e :: es) X.env = (false, eval e X.env) :: starEach es X.env := by rfl) (hpl : (backTo pos (starEach es X.env)).any (·.1) = false := by rfl) :
    RX X (.Call (.Name x p) (e :: es) [] pos) (dcall den g) := by
  obtain ⟨f, fd, h1, h2, h3, h4⟩ := C
  exact rx_call h4 (hr.mono hkj) hg h2 h1 h3 ha hn hdb he hpl
theorem rx_callC0 (C : CF X.prog X.w X.K X.mg X.base k x ps (sp0 X.prog X.w X.K 0 den)) (hr : Room j X.A) (hkj : k ≤ j) (hg : Gl X x) (hdb : (x == ("__debug__" : Str)) = false := by decide) : RX X (.Call (.Name x p) [] [] pos) (dcall den aNil) := by
  obtain ⟨f, fd, h1, h2, h3, h4⟩ := C
  exact rx_call0 h4 (hr.mono hkj) hg h2 h1 h3 hdb
theorem rx_callCR (i : Nat) (C : CF X.prog X.w X.K X.mg X.base k x ps (sp1 X.prog X.w X.K (n + 1) 0 den1)) (hr : Room j X.A) (hkj : k ≤ j) (hg : Gl X x) (ha : RA X es g) (hn : ∀ r ds r', g r = some (ds, r') → ds.length = n)
    (hN : X.N[i]? = some y := by rfl) (hv : Vis X.env.scope y := by first | exact Or.inl rfl | exact Or.inr (Or.inl rfl) | exact Or.inr (Or.inr rfl)) (hd : (y == ("__debug__" : Str)) = false := by decide) (hcd : (y == ("__classdict__" : Str)) = false := by decide)
    (hdb : (x == ("__debug__" : Str)) = false := by decide) (he : starEach (.Name y q :: es) X.env = (false, eval (.Name y q) X.env) :: starEach es X.env := by rfl) (hpl : (backTo pos (starEach es X.env)).any (·.1) = false := by rfl) :
    RX X (.Call (.Name x p) (.Name y q :: es) [] pos) (dcallR den1 i aNil g) := by
  obtain ⟨f, fd, h1, h2, h3, h4⟩ := C
  exact rx_callR0 i h4 (hr.mono hkj) hg h2 h1 h3 ha hn hN hv hd hcd hdb he hpl
theorem rx_callCR1 (i : Nat) (C : CF X.prog X.w X.K X.mg X.base k x ps (sp1 X.prog X.w X.K (n + 2) 1 den1)) (hr : Room j X.A) (hkj : k ≤ j) (hg : Gl X x) (h1 : RE X e f1) (ha : RA X es g) (hn : ∀ r ds r', g r = some (ds, r') → ds.length = n)
    (hN : X.N[i]? = some y := by rfl) (hv : Vis X.env.scope y := by first | exact Or.inl rfl | exact Or.inr (Or.inl rfl) | exact Or.inr (Or.inr rfl)) (hd : (y == ("__debug__" : Str)) = false := by decide) (hcd : (y == ("__classdict__" : Str)) = false := by decide)
    (hdb : (x == ("__debug__" : Str)) = false := by decide) (he1 : starEach (e :: .Name y q :: es) X.env = (false, eval e X.env) :: starEach (.Name y q :: es) X.env := by rfl) (he : starEach (.Name y q :: es) X.env = (false, eval (.Name y q) X.env) :: starEach es X.env := by rfl) (hpl : (backTo pos (starEach (.Name y q :: es) X.env)).any (·.1) = false := by rfl) :
    RX X (.Call (.Name x p) (e :: .Name y q :: es) [] pos) (dcallR den1 i (aCons f1 aNil) g) := by
  obtain ⟨f, fd, z1, z2, z3, z4⟩ := C
  exact rx_callR1 i z4 (hr.mono hkj) hg z2 z1 z3 h1 ha hn hN hv hd hcd hdb he1 he hpl
theorem rx_callCT (C : CF X.prog X.w X.K X.mg X.base k x ps (sp1 X.prog X.w X.K (n + 1) 0 den1)) (hr : Room j X.A) (hkj : k ≤ j) (hg : Gl X x) (h0 : RX X e f0) (ha : RA X es g) (hn : ∀ r ds r', g r = some (ds, r') → ds.length = n)
    (hdb : (x == ("__debug__" : Str)) = false := by decide) (he : starEach (e :: es) X.env = (false, eval e X.env) :: starEach es X.env := by rfl) (hpl : (backTo pos (starEach es X.env)).any (·.1) = false := by rfl) :
    RX X (.Call (.Name x p) (e :: es) [] pos) (dcallT den1 f0 g) := by
  obtain ⟨f, fd, h1, h2, h3, h4⟩ := C
  exact rx_callT h4 (hr.mono hkj) hg h2 h1 h3 h0 ha hn hdb he hpl
theorem re_globE {i : Int} (hg : Gl X x) (hm : ∃ t, X.mg x = some (.int i t)) (hd : (x == ("__debug__" : Str)) = false := by decide) : RE X (.Name x pos) (cst (.int i)) := let ⟨_, h⟩ := hm; re_glob hg h hd
/-- found += [..] -/
def sAugL (i : Nat) (f : M Ent) : M Out := fun r => match r[i]? with
  | some (some (.ml _)) => (bnd f fun en r1 => match en, r1[i]? with
    | .ml ys, some (some (.ml xs)) => if xs.length + ys.length ≤ 16777216 then some (Out.nx, r1.set i (some (.ml (xs ++ ys)))) else none
    | _, _ => none) r
  | _ => none
theorem rs_augL {i m : Nat} (hn : m ≤ i) (hN : X.N.Nodup) (hi : X.N[i]? = some x) (hx : Loc X.env.scope x) (he : RX X e f0)
    (hf : X.fn x = true ∨ X.env.scope.names.lookup x = some .local := by first | exact .inl rfl | exact .inr rfl | assumption) : RS X m (.AugAssign (.Name x p) .Add e pos) (sAugL i f0) := by
  obtain ⟨t, pe, kf⟩ := he.ex
  refine ⟨_, ps_aug hN hi hx pe iop_ext hf, fun σ H F r o r' D S e hQ => ?_⟩
  unfold sAugL at e
  split at e
  · rename_i xs0 h0
    obtain ⟨v, hv, hv2⟩ := S.ent i _ h0
    obtain ⟨a, rfl⟩ := hv2.ref rfl
    obtain ⟨en, r1, e1, e⟩ := bnd_some e
    refine ⟨_, hv, kf σ H F r en r1 _ S e1 fun u F1 H1 S1 G1 R1 => ?_⟩
    split at e
    · rename_i ys xs h1
      split at e
      · rename_i hz
        cases e
        obtain ⟨v', z1, z2⟩ := S1.ent i _ h1
        rw [hv] at z1
        cases z1
        cases z2 with
        | ml w0 w1 w2 =>
          obtain ⟨R, fr⟩ := R1
          cases R with
          | @ml c vs _ q0 q1 q2 =>
            refine ⟨a, c, _, vs, rfl, rfl, w1, q1, by rw [w2.length, q2.length, sl_eq]; exact hz, ?_⟩
            have S2 := sr_mut S1 h1 rfl hv (EntR.ml w0 upd_same (w2.append q2))
            have es : σ.set i (some (.ref a)) = σ := by
              refine List.ext_getElem? fun j => ?_
              by_cases hj : i = j
              · subst hj
                rw [List.getElem?_set_self (List.getElem?_eq_some_iff.mp hv).1, hv]
              · rw [List.getElem?_set_ne hj]
            show D.nx (List.set σ i (some (V.ref a))) _
            rw [es]
            exact hQ σ F1 _ S2 (G1.trans (go_mut S1 h1 rfl hv)) (.refl _ _)
      · cases e
    · cases e
  · cases e
end
end G65
namespace G65
open PySem PySem.Spec PyProof.Rows L2

/-! ### list(d) -/
theorem kr_keys {K : PySem.W.Frag} {F : Hp} : ∀ {kvs : Rw} {xs : List (NestedKey × Addr × Value)}, KR K F kvs xs → DpAll K F (xs.map fun x => V.ref x.2.1) (kvs.map (·.1))
  | _, _, .nil => .nil
  | _, _, .cons ⟨_, h, _⟩ t => .cons h (kr_keys t)
theorem refs_vals : ∀ xs : List (NestedKey × Addr × Value), Vals (xs.map fun x => V.ref x.2.1) (xs.map fun x => Value.ref x.2.1)
  | [] => .nil
  | _ :: r => .cons rfl (refs_vals r)
def rKeys (X : Cx) : List V → Hp → VK → Prop := fun vs H Q => ∃ F a kvs, Same F H ∧ vs = [.ref a] ∧ DictAt X.prog X.w X.K F H a kvs ∧ ∀ p ks, H p = none → DpAll X.K F ks (kvs.map (·.1)) → Q (.ref p) (upd H p (.lst ks))
theorem call_keys {X : Cx} (hc : X.calm = true) : CallR X (.type "list") (rKeys X) := by
  intro pins s σ H vs us Q I r h
  obtain ⟨F, a, kvs, sub, rfl, hd, q⟩ := h
  obtain ⟨u, rfl, rx⟩ := r.one
  cases rx
  obtain ⟨hS, hz, o, es, ep, xs, h1, h2, h3, h4, h5, h6⟩ := hd
  obtain ⟨ho, _⟩ := I.hok a _ h1
  have l1 : es.size = xs.length := by rw [← Array.length_toList, h4, List.length_map]
  have l2 := kr_len h6
  refine PySem.W.kdl_call (kdl_raw hS h2 h3) (I.ok.hd hc) ho (by omega) fun h' tk acc c kp e it => ?_
  have ea : acc.toList = xs.map fun x => Value.ref x.2.1 := by
    have hl : acc.toList.length = xs.length := by rw [Array.length_toList, it.1]; exact l1
    refine List.ext_getElem? fun j => ?_
    rw [List.getElem?_map]
    cases hj : acc.toList[j]? with
    | none =>
      have z := List.getElem?_eq_none_iff.mp hj
      rw [List.getElem?_eq_none (by omega)] <;> rfl
    | some v =>
      obtain ⟨en, hen, hv⟩ := it.2 j v (by rw [← Array.getElem?_toList]; exact hj)
      have qe := entry_at h4 j
      rw [hen] at qe
      cases hb : xs[j]? with
      | none => rw [hb] at qe; cases qe
      | some b =>
        rw [hb] at qe
        have e2 := Option.some.inj qe
        rw [hv, e2] <;> rfl
  refine ⟨.ref s.heap.objs.size, _, I.laid (t' := tk) (o := .lst (xs.map fun x => V.ref x.2.1)) kp (Nat.le_refl _) ⟨by rw [List.length_map]; omega, acc.toList, c, by rw [ea]; exact refs_vals xs, by rw [Array.toArray_toList]; exact e⟩, rfl, q _ _ (I.hok.fresh (Nat.le_refl _)) (kr_keys h6)⟩
def keysV (i : Nat) : M PyData := fun r => match r[i]? with
  | some (some (.md kvs)) => some (.list (kvs.map (·.1)), r)
  | _ => none
section
variable {X : Cx} {n k : Nat} {e b : Expr} {es : List Expr} {f g : M PyData} {ga : M (List PyData)} {p p2 q pos pos' apos cpos : Pos} {x : Str}
theorem re_keysV (i : Nat) (hc : X.calm = true) (hg : Gl X "list") (hm : X.mg "list" = none) (hN : X.N[i]? = some x := by rfl) (hv : Vis X.env.scope x := by first | exact Or.inl rfl | exact Or.inr (Or.inl rfl) | exact Or.inr (Or.inr rfl)) (hd : (x == ("__debug__" : Str)) = false := by decide)
    (hcd : (x == ("__classdict__" : Str)) = false := by decide) (hs : starEach [.Name x q] X.env = (false, eval (.Name x q) X.env) :: starEach [] X.env := by rfl) : RE X (.Call (.Name "list" p) [.Name x q] [] pos) (keysV i) := by
  refine ⟨_, pe_callTy (call_keys hc) hg hm PyProof.Rows.boot_list (pa_cons (pe_var hN hv hd hcd) pa_nil hs) (by decide) (by decide) hs, fun σ H F r d r' Q S e hQ => ?_⟩
  unfold keysV at e
  split at e
  · rename_i kvs h
    cases e
    obtain ⟨v, h1, h2⟩ := S.ent i _ h
    cases h2 with
    | md z0 z1 =>
      refine ⟨_, h1, F, _, kvs, S.sub, rfl, z1, fun pp ks hp D => ?_⟩
      have px := Px.new S.sub (.lst ks) hp
      exact hQ _ _ _ (S.px px) (.px px) (.lst (.inl (.inl upd_same)) (dpAll_mono px.same D))
  · cases e
/-! ### d.get(k, x) -/
def getOr (i : Nat) (f g : M PyData) : M PyData := fun r => match r[i]? with
  | some (some (.md _)) => (bnd f fun kd => bnd g fun x r => match r[i]? with
    | some (some (.md kvs)) => match keyOf kd with
      | some k => some ((dGet kvs k).getD x, r)
      | none => none
    | _ => none) r
  | _ => none
def tGetX (X : Cx) (td ty tx : TE) : TE := fun σ H Q => td σ H fun x H1 => ∃ F0 a kvs0, x = .ref a ∧ Same F0 H1 ∧ DictAt X.prog X.w X.K F0 H1 a kvs0 ∧ ty σ H1 fun y H2 => tx σ H2 fun z H3 => ∃ F kvs kd kk dx, Same F H3 ∧ DictAt X.prog X.w X.K F H3 a kvs ∧ Dp X.K F y kd ∧ keyOf kd = some kk ∧ Dp X.K F z dx ∧ ∀ v, Dp X.K F v ((dGet kvs kk).getD dx) → Q v H3
theorem pe_getX {td ty tx : TE} {o e e2 : Expr} (hr : Room k X.A) (ho : PE X o td) (he : PE X e ty) (hf : PE X e2 tx) (m : M2 X o "get" apos e e2 cpos) : PE X (.Call (.Attribute o "get" apos) [e, e2] [] cpos) (tGetX X td ty tx) := by
  refine ⟨fun pins s σ H Q I h => ?_⟩
  refine wpAny_Call_method m.base m.few m.line PySem.F.plainAttrs_dict PySem.F.slot_dict_get PySem.F.type_dict_get (thn (ho.run pins s σ H _ I h) fun u s1 ⟨x, H1, I1, rx, F0, a, kvs0, ex, sub0, d0, q1⟩ => ?_)
  subst ex
  cases rx
  obtain ⟨xs0, dd0, _, _, _, ob, hob, hob2⟩ := dict_at I1 sub0 d0
  refine ⟨dd0.typeIs, fun b z => by cases z; exact ⟨ob, hob, hob2⟩, ?_⟩
  rw [m.trees]
  refine Calls.callWith_builtin rfl (Calls.evalArgs_plain (Calls.spliced_cons (thn (he.run pins s1 σ H1 _ I1 q1) fun iv s2 ⟨y, H2, I2, ry, q2⟩ =>
    Calls.spliced_cons (thn (hf.run pins s2 σ H2 _ I2 q2) fun fv s3 ⟨z, H3, I3, rz, F, kvs, kd, kk, dx, sub, hd, hk, e, hx, q3⟩ => Calls.spliced_nil ?_))))
  obtain ⟨b, rfl⟩ := keyOf_ref hk e
  cases ry
  obtain ⟨xs, dd, kr, _, hS, _⟩ := dict_at I3 sub hd
  refine getOr_keyed (room8 hr) (key_is I3 (dp_mono sub hk) e) hS ⟨xs, dd, rfl⟩ ?_
  rw [valueAt_pairsH]
  rcases kr_get kk kr with ⟨w1, w2⟩ | ⟨d', b', v', u', w1, w2, w3, w4⟩
  · rw [w1] at q3
    rw [w2]
    exact ⟨z, H3, I3.tok _, rz, q3 z hx⟩
  · rw [w1] at q3
    rw [w2]
    exact ⟨v', H3, I3.tok _, w3, q3 v' w4⟩
theorem re_getOr (i : Nat) (hr : Room k X.A) (he : RE X e f) (hb : RE X b g) (hN : X.N[i]? = some x := by rfl) (hv : Vis X.env.scope x := by first | exact Or.inl rfl | exact Or.inr (Or.inl rfl) | exact Or.inr (Or.inr rfl)) (hd : (x == ("__debug__" : Str)) = false := by decide) (hcd : (x == ("__classdict__" : Str)) = false := by decide)
    (m : M2 X (.Name x q) "get" apos e b cpos := by exact ⟨rfl, rfl, rfl, rfl⟩) : RE X (.Call (.Attribute (.Name x q) "get" apos) [e, b] [] cpos) (getOr i f g) := by
  obtain ⟨t, pe, kf⟩ := he.ex
  obtain ⟨t2, pb, kg⟩ := hb.ex
  refine ⟨_, pe_getX hr (pe_var hN hv hd hcd) pe pb m, fun σ H F r d r' Q S e hQ => ?_⟩
  unfold getOr at e
  split at e
  · rename_i kv0 h0
    obtain ⟨u, z0, z1⟩ := S.ent i _ h0
    cases z1 with
    | md z1 z2 =>
      obtain ⟨kd, r1, e1, e⟩ := bnd_some e
      obtain ⟨dx, r2, e2, e⟩ := bnd_some e
      refine ⟨_, z0, F, _, _, rfl, S.sub, z2, kf σ H F r kd r1 _ S e1 fun v F1 H1 S1 G1 D1 => ?_⟩
      refine kg σ H1 F1 r1 dx r2 _ S1 e2 fun v2 F2 H2 S2 G2 D2 => ?_
      split at e
      · rename_i kvs h
        split at e
        · rename_i kk hk
          cases e
          obtain ⟨u', y1, y2⟩ := S2.ent i _ h
          rw [z0] at y1
          cases y1
          cases y2 with
          | md y2 y3 => exact ⟨F2, kvs, kd, kk, dx, S2.sub, y3, dp_mono G2.same D1, hk, D2, fun w hw => hQ w F2 H2 S2 (G1.trans G2) hw⟩
        · cases e
      · cases e
  · cases e
/-! ### list(..) as one's own -/
def listX (g : M (List PyData)) : M Ent := bnd g fun ds => match ds with
  | [.list xs] => ret (.ml xs)
  | [.tuple xs] => ret (.ml xs)
  | _ => fun _ => none
theorem own_new {P : Program} {w : World} {K : PySem.W.Frag} {F H F1 H1 : Hp} {σ : St} {r r1 : Rho} {vs : List V} {xs : List PyData} {a : Addr} (S1 : SR P w K F1 H1 σ r1) (G1 : Go σ r F H σ r1 F1 H1) (hp : H1 a = none) (D : DpAll K F1 vs xs) :
    SR P w K F1 (upd H1 a (.lst vs)) σ r1 ∧ Go σ r F H σ r1 F1 (upd H1 a (.lst vs)) ∧ ResR P w K σ r H σ r1 F1 (upd H1 a (.lst vs)) (.ref a) (.ml xs) := by
  have px := Px.newH S1.sub (.lst vs) hp
  refine ⟨S1.px px, G1.trans (.px px), .ml (S1.sub.free hp) upd_same D, fun b _ z => ?_⟩
  cases z
  refine ⟨?_, fun z => ?_⟩
  · by_cases ho : OwnAt r σ a
    · exact .inl ho
    · right
      cases z : H a with
      | none => rfl
      | some o => rw [G1.keep a o z ho] at hp; cases hp
  · obtain ⟨_, u, hu⟩ := S1.has z
    rw [hp] at hu
    cases hu
theorem rx_list (hg : Gl X "list") (hm : X.mg "list" = none) (ha : RA X (e :: es) ga) (he : starEach (e :: es) X.env = (false, eval e X.env) :: starEach es X.env := by rfl) (hpl : (backTo pos (starEach es X.env)).any (·.1) = false := by rfl) : RX X (.Call (.Name "list" p) (e :: es) [] pos) (listX ga) := by
  obtain ⟨t, pa, ka⟩ := ha.ex
  refine ⟨_, pe_callTy call_list_of hg hm PyProof.Rows.boot_list pa (by decide) (by decide) he hpl, fun σ H F r en r' Q S e hQ => ?_⟩
  obtain ⟨ds, r1, e1, e⟩ := bnd_some e
  refine ka σ H F r ds r1 _ S e1 fun vs F1 H1 S1 G1 D1 => ?_
  split at e
  · cases ret_some e
    cases D1 with
    | cons D1 D2 =>
      cases D2
      cases D1 with
      | lst h1 h2 =>
        refine ⟨_, _, rfl, .inl (S1.sub.seq h1), fun a hp => ?_⟩
        obtain ⟨w1, w2, w3⟩ := own_new S1 G1 hp h2
        exact hQ _ _ _ w1 w2 w3
  · cases ret_some e
    cases D1 with
    | cons D1 D2 =>
      cases D2
      cases D1 with
      | tup h1 h2 =>
        refine ⟨_, _, rfl, .inr (same_seqT S1.sub h1), fun a hp => ?_⟩
        obtain ⟨w1, w2, w3⟩ := own_new S1 G1 hp h2
        exact hQ _ _ _ w1 w2 w3
  · cases e
/-! ### list(range(n)) -/
def rngL (f : M PyData) : M PyData := bnd f fun d => match d with
  | .int j => if 0 ≤ j ∧ j ≤ 16777216 then ret (.list (rngD 0 j.toNat)) else fun _ => none
  | _ => fun _ => none
theorem rgV_dp {K : PySem.W.Frag} {F : Hp} (n : Int) : DpAll K F (rgV 0 n) (rngD 0 n.toNat) := by
  unfold rgV rngD
  rw [Int.sub_zero]
  have : ∀ l : List Nat, DpAll K F (l.map fun i => V.int (0 + (i : Nat))) (l.map fun i => PyData.int (0 + (i : Nat))) := fun l => by
    induction l with
    | nil => exact .nil
    | cons a l ih => exact .cons (.int _) ih
  exact this _
theorem re_listRng (hg : Gl X "list") (hm : X.mg "list" = none) (hg2 : Gl X "range") (hm2 : X.mg "range" = none) (he : RE X e f) (hc : X.calm = true := by rfl) (na : starEach [e] X.env = (false, eval e X.env) :: starEach [] X.env := by rfl)
    (na2 : starEach [.Call (.Name "range" q) [e] [] p2] X.env = (false, eval (.Call (.Name "range" q) [e] [] p2) X.env) :: starEach [] X.env := by rfl) : RE X (.Call (.Name "list" p) [.Call (.Name "range" q) [e] [] p2] [] pos) (rngL f) := by
  obtain ⟨t, pe, kf⟩ := he.ex
  refine ⟨_, pe_listRg hc hg hm (prg_1 hg2 hm2 pe na) na2, fun σ H F r d r' Q S e hQ => ?_⟩
  obtain ⟨d1, r1, e1, e⟩ := bnd_some e
  refine kf σ H F r d1 r1 _ S e1 fun v F1 H1 S1 G1 D1 => ?_
  split at e
  · split at e
    · rename_i j hz
      cases ret_some e
      cases D1
      refine ⟨_, rfl, RgOk.of_le (by decide) hz.2 (by decide) hz.1, fun a hp => ?_⟩
      have px := Px.new S1.sub (.lst (rgV 0 j)) hp
      exact hQ _ _ _ (S1.px px) (G1.trans (.px px)) (.lst (.inl (.inl upd_same)) (rgV_dp _))
    · cases e
  · cases e
end
end G65
namespace G65
open PySem PySem.Spec PyProof.Rows L2

/-! ### an own list is lent while a test is asked -/
def hid : Option Ent → Option Ent
  | some (.d x) => some (.d x)
  | some (.fd x) => some (.fd x)
  | _ => none
def hideO (r : Rho) : Rho := r.map hid
theorem hid_some {o : Option Ent} {e : Ent} (h : hid o = some e) : o = some e ∧ e.own = false := by
  cases o with
  | none => cases h
  | some x =>
    cases x with
    | d y => cases h; exact ⟨rfl, rfl⟩
    | ml y => cases h
    | md y => cases h
    | fd y => cases h; exact ⟨rfl, rfl⟩
theorem hide_get {r : Rho} {j : Nat} {e : Ent} (h : (hideO r)[j]? = some (some e)) : r[j]? = some (some e) ∧ e.own = false := by
  unfold hideO at h
  rw [List.getElem?_map] at h
  cases q : r[j]? with
  | none => rw [q] at h; cases h
  | some o =>
    rw [q] at h
    obtain ⟨h1, h2⟩ := hid_some (Option.some.inj h)
    exact ⟨by rw [h1], h2⟩
def lendT (i : Nat) (f : M Bool) : M Bool := fun r => match r[i]? with
  | some (some (.ml xs)) => match f ((hideO r).set i (some (.d (.list xs)))) with
    | some (b, _) => some (b, r)
    | none => none
  | _ => none
section
variable {P : Program} {w : World} {K : PySem.W.Frag} {F H F1 F' H' : Hp} {σ σ1 : St} {r r1 r2 : Rho}
theorem sr_hide (S : SR P w K F H σ r) : SR P w K F H σ (hideO r) := by
  refine ⟨S.sub, by unfold hideO; rw [List.length_map]; exact S.len, fun i e h => S.ent i e (hide_get h).1, fun i j a e e' h1 h2 h3 h4 => ?_⟩
  rw [(hide_get h1).2] at h3
  cases h3
theorem no_own_hide (b : Addr) : ¬ OwnAt (hideO r) σ b := by
  rintro ⟨i, e, h1, h2, _⟩
  rw [(hide_get h1).2] at h2
  cases h2
theorem no_own_set {x : PyData} {i : Nat} (b : Addr) : ¬ OwnAt ((hideO r).set i (some (.d x))) σ b := fun z => no_own_hide b (own_set_d z)
theorem sr_lend (S : SR P w K F H σ r) {i : Nat} {a : Addr} {vs : List V} {xs : List PyData} (hs : σ[i]? = some (some (.ref a))) (q1 : F a = none) (q2 : H a = some (.lst vs)) (q3 : DpAll K F vs xs) : SR P w K (upd F a (.lst vs)) H σ ((hideO r).set i (some (.d (.list xs)))) := by
  have S1 := sr_freeze (sr_hide S) q1 q2 (no_own_hide a)
  exact sr_put (e := .d (.list xs)) S1 hs (.d (.lst (.inl (.inl upd_same)) (dpAll_mono (same_updN q1) q3))) (fun a z => nomatch z)
theorem lend_back (S : SR P w K F H σ r) (G : Go σ r1 F1 H σ1 r2 F' H') (no : ∀ b, ¬ OwnAt r1 σ b) : SR P w K F H' σ r ∧ Go σ r F H σ r F H' := by
  have kp : ∀ b o, H b = some o → H' b = some o := fun b o h => G.keep b o h (no b)
  refine ⟨⟨fun b o h => kp b o (S.sub b o h), S.len, fun i e h => ?_, S.dis⟩, ⟨Same.refl _, fun _ _ _ => rfl, fun b o h _ => kp b o h, fun _ h => .inl h⟩⟩
  obtain ⟨v, h1, h2⟩ := S.ent i e h
  exact ⟨v, h1, h2.mono (Same.refl _) fun a _ _ => ⟨fun o q => kp a o q, fun z _ => z⟩⟩
end
theorem rt_lend {X : Cx} {e : Expr} {f : M Bool} (i : Nat) (h : RT X e f) : RT X e (lendT i f) := by
  obtain ⟨t, pt, k⟩ := h.ex
  refine ⟨t, pt, fun σ H F r b r' Q S e hQ => ?_⟩
  unfold lendT at e
  split at e
  · rename_i xs hx
    split at e
    · rename_i b' r2 e2
      cases e
      obtain ⟨v, h1, h2⟩ := S.ent i _ hx
      cases h2 with
      | ml q1 q2 q3 =>
        refine k σ H _ _ b r2 Q (sr_lend S h1 q1 q2 q3) e2 fun F' H' S' G' => ?_
        obtain ⟨S2, G2⟩ := lend_back S G' fun b => no_own_set b
        exact hQ F H' S2 G2
    · cases e
  · cases e
end G65
namespace G65
open PySem PySem.Spec PyProof.Rows L2

/-! ### sorting data -/
section
variable {γ : Type} {le : γ → γ → Bool}
def insB (le : γ → γ → Bool) (x : γ) : List γ → List γ
  | [] => [x]
  | y :: ys => if le x y = true then x :: y :: ys else y :: insB le x ys
def isrt (le : γ → γ → Bool) (l : List γ) : List γ := l.foldr (insB le) []
theorem mem_insB {x z : γ} : ∀ {ys : List γ}, z ∈ insB le x ys ↔ z = x ∨ z ∈ ys
  | [] => by simp [insB]
  | y :: ys => by
    unfold insB
    split
    · simp
    · rw [List.mem_cons, mem_insB (ys := ys), List.mem_cons]
      constructor
      · rintro (h | h | h)
        · exact .inr (.inl h)
        · exact .inl h
        · exact .inr (.inr h)
      · rintro (h | h | h)
        · exact .inr (.inl h)
        · exact .inl h
        · exact .inr (.inr h)
theorem pw_insB (T : PySem.W.TotalLe le) {x : γ} : ∀ {ys : List γ}, ys.Pairwise (fun a b => le a b = true) → (insB le x ys).Pairwise (fun a b => le a b = true)
  | [], _ => by simp [insB]
  | y :: ys, h => by
    have h' := List.pairwise_cons.1 h
    unfold insB
    split
    · rename_i hx
      refine List.pairwise_cons.2 ⟨fun z hz => ?_, h⟩
      rcases List.mem_cons.1 hz with rfl | hz
      · exact hx
      · exact T.trans _ _ _ hx (h'.1 z hz)
    · rename_i hx
      refine List.pairwise_cons.2 ⟨fun z hz => ?_, pw_insB T h'.2⟩
      rcases mem_insB.1 hz with rfl | hz
      · exact (T.total y z).resolve_right hx
      · exact h'.1 z hz
theorem flt_insB (T : PySem.W.TotalLe le) {x c : γ} : ∀ {ys : List γ}, (insB le x ys).filter (PySem.W.sameRank le c) = (x :: ys).filter (PySem.W.sameRank le c)
  | [] => rfl
  | y :: ys => by
    unfold insB
    split
    · rfl
    · rename_i hx
      have ih := flt_insB T (x := x) (c := c) (ys := ys)
      cases px : PySem.W.sameRank le c x with
      | false =>
        rw [List.filter_cons, ih, List.filter_cons_of_neg (by rw [px]; decide), List.filter_cons_of_neg (a := x) (by rw [px]; decide), List.filter_cons]
      | true =>
        have py : PySem.W.sameRank le c y = false := by
          cases py : PySem.W.sameRank le c y with
          | false => rfl
          | true =>
            unfold PySem.W.sameRank at px py
            rw [Bool.and_eq_true] at px py
            exact absurd (T.trans _ _ _ px.2 py.1) hx
        rw [List.filter_cons_of_neg (by rw [py]; decide), ih, List.filter_cons_of_pos px, List.filter_cons_of_pos px, List.filter_cons_of_neg (by rw [py]; decide)]
theorem isrt_eq (T : PySem.W.TotalLe le) (l : List γ) : isrt le l = l.mergeSort le := by
  refine PySem.W.sort_unique T ?_ fun c => ?_
  · induction l with
    | nil => exact List.Pairwise.nil
    | cons x l ih => exact pw_insB T ih
  · induction l with
    | nil => rfl
    | cons x l ih =>
      show (insB le x (isrt le l)).filter _ = _
      rw [flt_insB T, List.filter_cons, List.filter_cons, ih]
end
abbrev dLe : PyData → PyData → Bool := PySem.W.dataLe false fun d => d
theorem dLe_total : PySem.W.TotalLe dLe := by
  unfold dLe PySem.W.dataLe
  exact PySem.W.sortLe_total _ _ _
def tupNE : PyData → Bool
  | .tuple (_ :: _) => true
  | _ => false
def plainK : PyData → Bool
  | .none => false
  | .tuple _ => false
  | _ => true
def srtOk (ds : List PyData) : Bool := (ds.all fun d => ds.all fun d' => PySem.W.alike d d') && (ds.all tupNE || ds.all plainK) && (ds.all fun d => decide (d.depth ≤ 20)) && decide (ds.length ≤ 16777216)
theorem srtOk_alike {ds : List PyData} (h : srtOk ds = true) : PySem.W.AllAlike ds ∧ PySem.W.Sortable ds ∧ (∀ d ∈ ds, d.depth ≤ 20) ∧ ds.length ≤ 16777216 := by
  unfold srtOk at h
  simp only [Bool.and_eq_true, Bool.or_eq_true, List.all_eq_true, decide_eq_true_eq] at h
  obtain ⟨⟨⟨h1, h2⟩, h3⟩, h4⟩ := h
  refine ⟨fun d hd d' hd' => h1 d hd d' hd', ?_, h3, h4⟩
  rcases h2 with h2 | h2
  · left
    intro d hd
    have := h2 d hd
    unfold tupNE at this
    split at this
    · exact ⟨_, _, rfl⟩
    · cases this
  · right
    intro d hd
    have := h2 d hd
    refine ⟨?_, ?_⟩
    · rintro rfl
      cases this
    · rintro xs rfl
      cases this
section
variable {X : Cx} {pins : List (Addr × Obj)} {σ : St} {H F : Hp} {s : Shared} {k : Nat}
theorem each_dp (I : Inv X pins σ H s) : ∀ {vs : List V} {us : List Value} {ds : List PyData}, DpAll X.K H vs ds → Vals vs us → PySem.W.EachIs (fun u d => ∃ as, Reads s.heap u d as) us ds
  | _, _, _, .nil, .nil => .nil
  | _, _, _, .cons h q, .cons r t => .cons (Dp.reads I _ _ _ h r) (each_dp I q t)
theorem each_R {K : PySem.W.Frag} : ∀ {vs : List V} {us : List Value} {ds : List PyData}, DpAll K F vs ds → Vals vs us → PySem.W.EachIs (fun u d => ∃ v, RelV v u ∧ Dp K F v d) us ds
  | _, _, _, .nil, .nil => .nil
  | _, _, _, .cons h q, .cons r t => .cons ⟨_, r, h⟩ (each_R q t)
theorem each_back {K : PySem.W.Frag} : ∀ {us : List Value} {ds : List PyData}, PySem.W.EachIs (fun u d => ∃ v, RelV v u ∧ Dp K F v d) us ds → ∃ vs, Vals vs us ∧ DpAll K F vs ds
  | _, _, .nil => ⟨[], .nil, .nil⟩
  | _, _, .cons ⟨v, h1, h2⟩ t => by
    obtain ⟨vs, q1, q2⟩ := each_back t
    exact ⟨v :: vs, .cons h1 q1, .cons h2 q2⟩
def rSortD (X : Cx) : List V → Hp → VK → Prop := fun vs H Q => ∃ F v ds, vs = [v] ∧ Same F H ∧ Dp X.K F v (.list ds) ∧ srtOk ds = true ∧ ∀ p ys, H p = none → DpAll X.K F ys (isrt dLe ds) → Q (.ref p) (upd H p (.lst ys))
theorem cr_sortD (hr : Room k X.A) : CallR X (.builtin "sorted") (rSortD X) := by
  intro pins s σ H vs us Q I r h
  obtain ⟨F, v, ds, rfl, sub, hd, hk, q⟩ := h
  obtain ⟨hal, hso, hdp, hlen⟩ := srtOk_alike hk
  obtain ⟨u, rfl, rx⟩ := r.one
  cases hd with
  | @lst a xs _ h1 h2 =>
    cases rx
    obtain ⟨its, rv, hl, hz⟩ := I.list (sub.seq h1)
    have hun := hr.un
    refine PySem.W.sorted_data (R := fun u d => ∃ v, RelV v u ∧ Dp X.K F v d) (enc := fun d => d) (bs := ds) (vs := its) hl.isList (each_R h2 rv) (each_dp I (dpAll_mono sub h2) rv) (by rw [List.map_id']; exact hal) (by rw [List.map_id']; exact hso) (by rw [sl_eq]; exact hlen)
      (fun d hd => by have := hdp d hd; omega) fun out ho he => ?_
    rw [← isrt_eq dLe_total] at he
    obtain ⟨ys, g1, g2⟩ := each_back he
    obtain ⟨ep, he'⟩ := PyProof.Rows.sortedAll_at s.heap its out.toArray
    exact ⟨.ref _, upd H (s.heap.objs.size + 1) (.lst ys), I.laid (t' := s.toks) (fun _ _ => PyProof.Rows.sortedAll_old) (Nat.le_succ _) ⟨by rw [g1.length, ho, sl_eq]; exact hlen, out, ep, g1, he'⟩, rfl, q _ _ (I.hok.fresh (Nat.le_succ _)) g2⟩
end
def sortLD : PyData → Option (List PyData)
  | .list ds => if srtOk ds = true then some (isrt dLe ds) else none
  | _ => none
section
variable {X : Cx} {k n : Nat} {e : Expr} {f : M PyData} {p q p2 pos : Pos}
theorem rx_sorted (hr : Room k X.A) (hg : Gl X "sorted") (hm : X.mg "sorted" = none) (he : RE X e f) (n1 : starEach [e] X.env = (false, eval e X.env) :: starEach [] X.env := by rfl) :
    RX X (.Call (.Name "sorted" p) [e] [] pos) (bnd f fun d => bnd (lft (sortLD d)) fun ys => ret (.ml ys)) := by
  obtain ⟨t, pe, kf⟩ := he.ex
  refine ⟨_, pe_callB (cr_sortD hr) hg hm boot_sorted (pa_cons pe pa_nil n1) (by decide) (by decide) n1, fun σ H F r en r' Q S e hQ => ?_⟩
  obtain ⟨d1, r1, e1, e⟩ := bnd_some e
  obtain ⟨ys, r2, e2, e⟩ := bnd_some e
  obtain ⟨ys', e3, e4⟩ := lft_some e2
  cases e4
  cases ret_some e
  refine kf σ H F r d1 _ _ S e1 fun v F1 H1 S1 G1 D1 => ?_
  cases d1 with
  | list ds =>
    simp only [sortLD] at e3
    split at e3
    · rename_i hk
      cases e3
      refine ⟨F1, v, ds, rfl, S1.sub, D1, hk, fun a us ha D => ?_⟩
      obtain ⟨w1, w2, w3⟩ := own_new S1 G1 ha D
      exact hQ _ _ _ w1 w2 w3
    · cases e3
  | _ => cases e3
end
/-! ### sorted(d) -/
def rSortK (X : Cx) : List V → Hp → VK → Prop := fun vs H Q => ∃ F a kvs, Same F H ∧ vs = [.ref a] ∧ DictAt X.prog X.w X.K F H a kvs ∧ srtOk (kvs.map (·.1)) = true ∧ ∀ p ys, H p = none → DpAll X.K F ys (isrt dLe (kvs.map (·.1))) → Q (.ref p) (upd H p (.lst ys))
section
variable {X : Cx} {k : Nat}
theorem kr_keyvals {K : PySem.W.Frag} {F : Hp} : ∀ {kvs : Rw} {xs : List (NestedKey × Addr × Value)}, KR K F kvs xs → DpAll K F (xs.map fun x => V.ref x.2.1) (kvs.map (·.1)) := kr_keys
theorem acc_keys {es : Array DictEntry} {xs : List (NestedKey × Addr × Value)} {P : Program} {w : World} {acc : Array Value} (h4 : es.toList = xs.map (entryOfKey (nestedKind P w))) (h1 : acc.size = es.size) (h2 : ∀ (j : Nat) (v : Value), acc[j]? = some v → ∃ en, es[j]? = some en ∧ v = en.key) : acc.toList = xs.map fun x => Value.ref x.2.1 := by
  have l1 : es.size = xs.length := by rw [← Array.length_toList, h4, List.length_map]
  have hl : acc.toList.length = xs.length := by rw [Array.length_toList, h1]; exact l1
  refine List.ext_getElem? fun j => ?_
  rw [List.getElem?_map]
  cases hj : acc.toList[j]? with
  | none =>
    have z := List.getElem?_eq_none_iff.mp hj
    rw [List.getElem?_eq_none (by omega)] <;> rfl
  | some v =>
    obtain ⟨en, hen, hv⟩ := h2 j v (by rw [← Array.getElem?_toList]; exact hj)
    have qe := entry_at h4 j
    rw [hen] at qe
    cases hb : xs[j]? with
    | none => rw [hb] at qe; cases qe
    | some b =>
      rw [hb] at qe
      have e2 := Option.some.inj qe
      rw [hv, e2] <;> rfl
theorem lsort {P : Program} {w : World} {A : Around} {E : Value → Shared → Prop} {s : Shared} {a : Addr} {al : List Value} {ds : List PyData} {n : Nat} {R : Value → PyData → Prop} {B : PySem.Fin → Shared → Prop} (ho : s.heap.get? a = some (seqObj "list" al.toArray n)) (e : PySem.W.EachIs R al ds)
    (er : PySem.W.EachIs (fun u d => ∃ as, Reads (PySem.W.sortingHeap s.heap a al) u d as) al ds) (hal : PySem.W.AllAlike ds) (hso : PySem.W.Sortable ds) (hu : ∀ d, d ∈ ds → A.units + d.depth < cLine) (hl : al.length ≤ sizeLine)
    (h : ∀ (h2 : Heap) (out : List Value) (ep : Nat), out.length = ds.length → PySem.W.EachIs R out (isrt dLe ds) → (∀ b ob, b ≠ a → s.heap.get? b = some ob → h2.get? b = some ob) → h2.get? a = some { cls := .type "list", data := .seq out.toArray ep } → B (.done (.ret .none)) { s with heap := h2 }) :
    wpAny (model P w) A (Builtin.«list.sort» ⟨[.ref a], []⟩) B E s := by
  refine PySem.W.list_sort_vals ho (PySem.W.SortsAt.data (s := { s with heap := PySem.W.sortingHeap s.heap a al }) er hal hso hu) hl ?_
  have he := PySem.W.sortVals_data (enc := fun d => d) false e er (by rw [List.map_id']; exact hal)
  rw [← isrt_eq dLe_total, List.map_id'] at he
  obtain ⟨ep, he'⟩ := PyProof.Rows.sortedHeap_at (vs := al) (out := (PySem.W.sortVals (PySem.W.dataKind (PySem.W.sortingHeap s.heap a al) ds) false al al).toArray) ho
  refine h _ _ ep (by rw [PySem.W.sortVals_length false rfl]; exact e.length) he (fun b ob hb hob => ?_) he'
  rw [PyProof.Rows.sortedHeap_old hb (Heap.lt_size hob)]
  exact hob
theorem cr_sortK (hc : X.calm = true) (hr : Room k X.A) : CallR X (.builtin "sorted") (rSortK X) := by
  intro pins s σ H vs us Q I r h
  obtain ⟨F, a, kvs, sub, rfl, hd, hk, q⟩ := h
  obtain ⟨hal, hso, hdp, hlen⟩ := srtOk_alike hk
  obtain ⟨u, rfl, rx⟩ := r.one
  cases rx
  obtain ⟨hS, hz, o, es, ep, xs, h1, h2, h3, h4, h5, h6⟩ := hd
  obtain ⟨ho, _⟩ := I.hok a _ h1
  have l1 : es.size = xs.length := by rw [← Array.length_toList, h4, List.length_map]
  have l2 := kr_len h6
  have hun := hr.un
  refine Calls.call_function_entry PyProof.Rows.kind_sorted PyProof.Rows.plain_sorted PyProof.Rows.entry_sorted (PyProof.Rows.args_sorted1 _) ?_
  unfold Builtin.«sorted»
  refine wpAny_bind (m := checkCount "sorted" 1 1 _) (wpAny_pure ?_)
  refine wpAny_bind (PySem.W.kdu_collect (A := X.A.in1) (kdl_raw hS h2 h3) (I.ok.hd hc) ho (by omega) fun h' tk acc kp hacc => ?_)
  have ea : acc.toList = xs.map fun x => Value.ref x.2.1 := acc_keys h4 hacc.1 hacc.2
  generalize acc.toList = al at ea
  have hal2 : al.length = xs.length := by rw [ea, List.length_map]
  have I1 : Inv X pins σ H { s with heap := h', toks := tk } := I.kept kp
  have hlx : xs.length ≤ sizeLine := by omega
  refine wpAny_bind (wpAny_newList ?_ (by omega))
  have hoL : (h'.push (seqObj "list" al.toArray 0)).get? h'.objs.size = some (seqObj "list" al.toArray 0) := Heap.get?_push_size _ rfl
  show wpAny _ _ _ _ _ { s with heap := h'.push (seqObj "list" al.toArray 0), toks := tk }
  have D := kr_keys h6
  have V0 : Vals (xs.map fun x => V.ref x.2.1) al := by rw [ea]; exact refs_vals xs
  have er0 : PySem.W.EachIs (fun u d => ∃ as, Reads h' u d as) al (kvs.map (·.1)) := each_dp I1 (dpAll_mono sub D) V0
  have kp2 : ∀ b ob, h'.get? b = some ob → (h'.push (seqObj "list" al.toArray 0)).get? b = some ob := fun b ob e => Heap.get?_push_of_some _ e
  have hne : ∀ b ob, h'.get? b = some ob → b ≠ h'.objs.size := fun b ob e => Nat.ne_of_lt (Heap.lt_size e)
  have hn : H h'.objs.size = none := I1.hok.fresh (Nat.le_refl _)
  have hge : s.heap.objs.size ≤ h'.objs.size → True := fun _ => trivial
  have lay : ∀ (h3 : Heap) (t3 : Nat) (ys : List V) (out : List Value) (ep3 : Nat), ys.length ≤ sizeLine → Vals ys out → (∀ b ob, h'.get? b = some ob → h3.get? b = some ob) → h3.get? h'.objs.size = some { cls := .type "list", data := .seq out.toArray ep3 } → Inv X pins σ (upd H h'.objs.size (.lst ys)) { s with heap := h3, toks := t3 } :=
    fun h3 t3 ys out ep3 z1 z2 z3 z4 => I1.laid (t' := t3) (a := h'.objs.size) (o := .lst ys) z3 (Nat.le_refl _) ⟨z1, out, ep3, z2, z4⟩
  generalize hP : h'.push (seqObj "list" al.toArray 0) = hp at hoL kp2
  generalize h'.objs.size = ad at hoL hne hn lay
  have er : PySem.W.EachIs (fun u d => ∃ as, Reads (PySem.W.sortingHeap hp ad al) u d as) al (kvs.map (·.1)) := er0.mono fun u d ⟨as, rr⟩ => ⟨as, PyProof.Rows.Reads.keeps (fun b ob e => PySem.W.sortingHeap_old (hne b ob e) (kp2 b ob e)) rr⟩
  refine wpAny_bind (wpAny_holding (wpAny_call_entry PyProof.Rows.slot_list_sort ⟨_, hoL, rfl⟩ PyProof.Rows.entry_list_sort
    (lsort (s := { s with heap := hp, toks := tk }) (R := fun u d => ∃ v, RelV v u ∧ Dp X.K F v d) hoL (each_R D V0) er hal hso (fun d hd => by
      have := hdp d hd
      show X.A.units + 1 + 1 + d.depth < cLine
      omega) (by rw [hal2]; exact hlx) fun h3 out ep3 ho1 he1 kp3 hg3 => ⟨.none, rfl, ?_⟩) (PyProof.Rows.args_list_sort _)))
  obtain ⟨ys, g1, g2⟩ := each_back he1
  have gl := g1.length
  rw [ho1, List.length_map, l2] at gl
  exact wpAny_pure ⟨_, rfl, .ref ad, _, lay h3 tk ys out ep3 (by rw [gl]; exact hlx) g1 (fun b ob e => kp3 b ob (hne b ob e) (kp2 b ob e)) hg3, rfl, q _ _ hn g2⟩
end
def sortV (i : Nat) : M Ent := fun r => match r[i]? with
  | some (some (.md kvs)) => if srtOk (kvs.map (·.1)) = true then some (.ml (isrt dLe (kvs.map (·.1))), r) else none
  | _ => none
section
variable {X : Cx} {k : Nat} {p q pos : Pos} {x : Str}
theorem rx_sortV (i : Nat) (hc : X.calm = true) (hr : Room k X.A) (hg : Gl X "sorted") (hm : X.mg "sorted" = none) (hN : X.N[i]? = some x := by rfl) (hv : Vis X.env.scope x := by first | exact Or.inl rfl | exact Or.inr (Or.inl rfl) | exact Or.inr (Or.inr rfl)) (hd : (x == ("__debug__" : Str)) = false := by decide)
    (hcd : (x == ("__classdict__" : Str)) = false := by decide) (hs : starEach [.Name x q] X.env = (false, eval (.Name x q) X.env) :: starEach [] X.env := by rfl) : RX X (.Call (.Name "sorted" p) [.Name x q] [] pos) (sortV i) := by
  refine ⟨_, pe_callB (cr_sortK hc hr) hg hm boot_sorted (pa_cons (pe_var hN hv hd hcd) pa_nil hs) (by decide) (by decide) hs, fun σ H F r en r' Q S e hQ => ?_⟩
  unfold sortV at e
  split at e
  · rename_i kvs h
    split at e
    · rename_i hk
      cases e
      obtain ⟨v, h1, h2⟩ := S.ent i _ h
      cases h2 with
      | md z0 z1 =>
        refine ⟨_, h1, F, _, kvs, S.sub, rfl, z1, hk, fun a us ha D => ?_⟩
        obtain ⟨w1, w2, w3⟩ := own_new S (Go.refl (σ := σ)) ha D
        exact hQ _ _ _ w1 w2 w3
    · cases e
  · cases e
theorem rx_sortX {e : Expr} {f : M Ent} (hc : X.calm = true) (hr : Room k X.A) (hg : Gl X "sorted") (hm : X.mg "sorted" = none) (he : RX X e f) (hs : starEach [e] X.env = (false, eval e X.env) :: starEach [] X.env := by rfl) :
    RX X (.Call (.Name "sorted" p) [e] [] pos) (bnd f fun en => match en with | .md kvs => if srtOk (kvs.map (·.1)) = true then ret (.ml (isrt dLe (kvs.map (·.1)))) else fun _ => none | _ => fun _ => none) := by
  obtain ⟨t, pe, kf⟩ := he.ex
  refine ⟨_, pe_callB (cr_sortK hc hr) hg hm boot_sorted (pa_cons pe pa_nil hs) (by decide) (by decide) hs, fun σ H F r en r' Q S e hQ => ?_⟩
  obtain ⟨en1, r1, e1, e⟩ := bnd_some e
  refine kf σ H F r en1 r1 _ S e1 fun v F1 H1 S1 G1 R1 => ?_
  cases en1 with
  | md kvs =>
    simp only at e
    split at e
    · rename_i hk
      cases ret_some e
      obtain ⟨R, fr⟩ := R1
      cases R with
      | md z0 z1 =>
        refine ⟨F1, _, kvs, S1.sub, rfl, z1, hk, fun a us ha D => ?_⟩
        obtain ⟨w1, w2, w3⟩ := own_new S1 G1 ha D
        exact hQ _ _ _ w1 w2 w3
    · cases e
  | _ => cases e
end
end G65
namespace G65
open PySem PySem.Spec PyProof.Rows L2

/-! ### dicts that stay as they are -/
def frzD (e : Ent) : M Ent := match e with
  | .md kvs => ret (.fd kvs)
  | .fd kvs => ret (.fd kvs)
  | _ => fun _ => none
section
variable {P : Program} {w : World} {K : PySem.W.Frag} {F H F' H' : Hp} {σ σ' : St} {r r' : Rho}
theorem sr_freezeO (S : SR P w K F H σ r) {a : Addr} {o : HO} (h1 : F a = none) (h2 : H a = some o) (no : ¬ OwnAt r σ a) : SR P w K (upd F a o) H σ r := by
  refine ⟨fun b u e => ?_, S.len, fun i e h => ?_, S.dis⟩
  · by_cases z : b = a
    · subst z
      rw [upd_same] at e
      cases e
      exact h2
    · rw [upd_ne z] at e
      exact S.sub _ _ e
  · obtain ⟨v, q1, q2⟩ := S.ent i e h
    refine ⟨v, q1, q2.mono (same_updN h1) fun b eb eo => ⟨fun o q => q, fun z1 _ => ?_⟩⟩
    rw [upd_ne fun z => no ⟨i, e, h, eo, by rw [q1, eb, z]⟩]
    exact z1
theorem DictAt.froze {a : Addr} {kvs : Rw} (d : DictAt P w K F H a kvs) (hF : F a = none) : ∃ o, H a = some o ∧ DictAt P w K (upd F a o) (upd F a o) a kvs := by
  obtain ⟨d1, d2, o, es, ep, xs, h1, h2, h3, h4, h5, h6⟩ := d
  refine ⟨_, h1, d1, d2, o, es, ep, xs, upd_same, h2, h3, h4, h5, Paired.mapP h6 fun p q ⟨a1, a2, v, a3, a4⟩ => ⟨a1, dp_mono (same_updN hF) a2, v, a3, dp_mono (same_updN hF) a4⟩⟩
theorem DictAt.toH {a : Addr} {kvs : Rw} (d : DictAt P w K F F a kvs) (e : Same F H) : DictAt P w K F H a kvs := d.mono (Same.refl _) (e a)
end
section
variable {X : Cx} {e b : Expr} {f : M Ent} {g : M PyData} {k : Nat} {x : Str} {p q pos : Pos}
theorem rx_frzD (h : RX X e f) : RX X e (bnd f frzD) := by
  obtain ⟨t, pe, kf⟩ := h.ex
  refine ⟨t, pe, fun σ H F r en r' Q S e hQ => ?_⟩
  obtain ⟨en1, r1, e1, e⟩ := bnd_some e
  refine kf σ H F r en1 r1 _ S e1 fun v F1 H1 S1 G1 R1 => ?_
  cases en1 with
  | d x => cases e
  | ml x => cases e
  | fd kvs =>
    cases ret_some e
    obtain ⟨R, _⟩ := R1
    exact hQ v F1 H1 S1 G1 ⟨R, fun _ z => nomatch z⟩
  | md kvs =>
    cases ret_some e
    obtain ⟨R, fr⟩ := R1
    cases R with
    | @md a _ h1 h2 =>
      obtain ⟨q1, q2⟩ := fr a rfl rfl
      obtain ⟨o, ho, hd⟩ := h2.froze h1
      refine hQ (.ref a) (upd F1 a o) H1 (sr_freezeO S1 h1 ho q2) ⟨G1.same.trans (same_updN h1), fun b hb hn => ?_, G1.keep, G1.own⟩ ⟨.fd hd, fun _ z => nomatch z⟩
      rw [upd_ne fun z => ?_]
      · exact G1.nf b hb hn
      · rw [z] at hb hn
        exact q1.elim hn hb
def getF (i : Nat) (f : M PyData) : M PyData := bnd f fun kd r => match r[i]? with
  | some (some (.fd kvs)) => match keyOf kd with
    | some k => (dGet kvs k).map fun d => (d, r)
    | none => none
  | _ => none
theorem fd_at {σ : St} {H F : Hp} {r : Rho} {i : Nat} {kvs : Rw} (S : SR X.prog X.w X.K F H σ r) (h : r[i]? = some (some (.fd kvs))) : ∃ a, σ[i]? = some (some (.ref a)) ∧ DictAt X.prog X.w X.K F F a kvs := by
  obtain ⟨v, h1, h2⟩ := S.ent i _ h
  cases h2 with
  | fd h2 => exact ⟨_, h1, h2⟩
def fdI (i : Nat) (g : M PyData) : M PyData := fun r => match r[i]? with
  | some (some (.fd _)) => getF i g r
  | _ => none
theorem re_getF (i : Nat) (hr : Room k X.A) (he : RE X e g) (hs : PlainIx e) (hN : X.N[i]? = some x := by rfl) (hv : Vis X.env.scope x := by first | exact Or.inl rfl | exact Or.inr (Or.inl rfl) | exact Or.inr (Or.inr rfl)) (hd : (x == ("__debug__" : Str)) = false := by decide) (hcd : (x == ("__classdict__" : Str)) = false := by decide) :
    RE X (.Subscript (.Name x q) e pos) (fdI i g) := by
  obtain ⟨t, pe, kf⟩ := he.ex
  refine ⟨_, pe_ix (ix_dict hr) (pe_var hN hv hd hcd) pe hs, fun σ H F r d r' Q S e hQ => ?_⟩
  unfold fdI at e
  split at e
  · rename_i kv0 h0
    obtain ⟨a0, z0, _⟩ := fd_at S h0
    obtain ⟨kd, r1, e1, e⟩ := bnd_some e
    refine ⟨_, z0, kf σ H F r kd r1 _ S e1 fun v F1 H1 S1 G1 D1 => ?_⟩
    split at e
    · rename_i kvs h
      split at e
      · rename_i kk hk
        obtain ⟨d', e2, e3⟩ := Option.map_eq_some_iff.mp e
        cases e3
        obtain ⟨a1, z1, z2⟩ := fd_at S1 h
        rw [z0] at z1
        cases z1
        exact ⟨F1, _, kvs, kd, kk, _, S1.sub, rfl, z2.toH S1.sub, D1, hk, e2, fun w hw => hQ w F1 H1 S1 G1 hw⟩
      · cases e
    · cases e
  · cases e
/-! #### its keys one by one -/
def keyVs (xs : List (NestedKey × Addr × Value)) : List V := xs.map fun x => V.ref x.2.1
abbrev dHO (a : Addr) (o : Obj) : HO := .ext fun h => h.get? a = some o
def ItX (a : Addr) (o : Obj) (vs : List V) : It :=
  ⟨fun i H => H a = some (dHO a o) ∧ i < vs.length, fun i H x H' => H' = H ∧ vs[i]? = some x, fun i H => H a = some (dHO a o) ∧ vs.length ≤ i⟩
theorem turn_X {P : Program} {w : World} {K : PySem.W.Frag} {tg : Expr} {a : Addr} {o : Obj} {es : Array DictEntry} {ep : Nat} {xs : List (NestedKey × Addr × Value)} (it : Addr) (hod : o.data = .dict es ep) (hes : es.toList = xs.map (entryOfKey (nestedKind P w))) :
    Turn P w K tg (ItX a o (keyVs xs)) [it] it (fun i h => h.IsKeyIter it a i xs.length ep) := by
  have hsz : es.size = xs.length := by rw [← Array.length_toList, hes, List.length_map]
  have hvl : (keyVs xs).length = xs.length := List.length_map _
  refine { mem := List.mem_singleton.2 rfl, obj := fun i h st b hb => ?_, keep := fun i h h' st k => st.at fun oi e => k it (List.mem_singleton.2 rfl) oi e, item := ?_, done := ?_, self := fun A i s Q E st h => ?_ }
  · cases List.mem_singleton.1 hb
    obtain ⟨oi, e, c, dd⟩ := st
    exact ⟨oi, e, fun v z => by rw [dd] at z; cases z⟩
  · intro X hP hw hK hc i pins s σ H E I hf st hg
    subst hP hw hK
    obtain ⟨hd, hi⟩ := hg
    have ff := hf it (List.mem_singleton.2 rfl)
    have hgd : s.heap.get? a = some o := (I.hok a _ hd).1
    rw [hvl] at hi
    obtain ⟨b, hb⟩ : ∃ b, xs[i]? = some b := ⟨xs[i], List.getElem?_eq_getElem hi⟩
    have hen := entry_at hes i
    rw [hb] at hen
    refine next_key_item st hgd hod hsz hen fun h' st' sb => ?_
    have I1 : Inv X pins σ H { s with heap := h' } := I.turned (t' := s.toks) (fun c oc hc e => (sb.2 c hc).trans e) ff.1 ff.2.1 ff.2.2.2.1 ff.2.2.2.2.1 ff.2.2.2.2.2
    obtain ⟨oi, e, c, dd⟩ := id st'
    refine ⟨_, rfl, go_of (s := { s with heap := h' }) e c dd (by decide) ⟨.ref b.2.1, H, I1, rfl, ⟨rfl, ?_⟩, st', fun c hc => (hf c hc).1⟩⟩
    unfold keyVs
    rw [List.getElem?_map, hb]
    rfl
  · intro X hP hw hK hc i pins s σ H E I hf st hg
    subst hP hw hK
    obtain ⟨hd, hi⟩ := hg
    have ff := hf it (List.mem_singleton.2 rfl)
    have hgd : s.heap.get? a = some o := (I.hok a _ hd).1
    rw [hvl] at hi
    exact next_key_end (I.ok.hd hc) st hgd hod hsz hi fun h' eb => ⟨rfl, I.turned (t' := s.toks) (fun c oc hc e => eb c oc hc e) ff.1 ff.2.1 ff.2.2.2.1 ff.2.2.2.2.1 ff.2.2.2.2.2⟩
  · refine wpAny_pyIter_slot st.typeIs F.slot_dict_keyiterator_iter (wpAny_call_entry F.slot_dict_keyiterator_iter st.typeIs F.entry_dict_keyiterator_iter ?_ (F.args_dict_keyiterator_iter_1 _))
    show wpAny _ _ (PySem.ret (.ref it)) _ _ s
    exact wpAny_pure ⟨_, rfl, "dict_keyiterator", _, st.typeIs, F.slot_dict_keyiterator_next.lookup, h⟩
def iX (X : Cx) (td : TE) : TI := fun σ H R => td σ H fun v H1 => ∃ F a kvs, v = .ref a ∧ Same F H1 ∧ DictAt X.prog X.w X.K F F a kvs ∧ ∀ J, Yl X.K J F (kvs.map (·.1)) → R J H1
theorem pi_X {tg : Expr} {td : TE} (he : PE X e td) : PI X tg e (iX X td) := by
  refine ⟨fun pins s σ H R I h => ?_⟩
  refine thn (he.run pins s σ H _ I h) fun u s1 ⟨v, H1, I1, rv, F, a, kvs, ev, sub, hd, hR⟩ => ?_
  subst ev
  cases rv
  obtain ⟨d1, d2, o, es, ep, xs, h1, h2, h3, h4, h5, h6⟩ := hd
  have hgd : s1.heap.get? a = some o := (I1.hok a _ (sub _ _ h1)).1
  have hsz : es.size = xs.length := by rw [← Array.length_toList, h4, List.length_map]
  refine iter_keys d1 hgd h2 h3 (pi_one (tk := s1.toks) I1 _ (turn_X (K := X.K) (tg := tg) (a := a) _ h3 h4) ⟨_, Heap.get?_push_size _ rfl, rfl, by rw [hsz] <;> rfl⟩ (hR _ ?_))
  have D := kr_keys h6
  have hvl : (keyVs xs).length = (kvs.map (·.1)).length := by unfold keyVs; rw [List.length_map, List.length_map, kr_len h6]
  refine ⟨fun i d F1 H2 e s1 s2 => ?_, fun F1 H2 s1 s2 => ⟨(s1.trans s2) _ _ h1, Nat.le_of_eq hvl⟩⟩
  obtain ⟨v, e1, e2⟩ := D.get e
  refine ⟨⟨(s1.trans s2) _ _ h1, some_lt0 e1⟩, fun y H3 yy => ?_⟩
  obtain ⟨rfl, yy⟩ := yy
  have e3 : (keyVs xs)[i]? = some v := e1
  rw [yy] at e3
  cases e3
  exact ⟨F1, .refl s2, dp_mono s1 e2⟩
where
  some_lt0 {γ : Type} {l : List γ} {i : Nat} {v : γ} (h : l[i]? = some v) : i < l.length := (List.getElem?_eq_some_iff.mp h).1
def keysF (i : Nat) : M (List PyData) := fun r => match r[i]? with
  | some (some (.fd kvs)) => some (kvs.map (·.1), r)
  | _ => none
theorem ri_keysF {tg : Expr} (i : Nat) (hN : X.N[i]? = some x := by rfl) (hv : Vis X.env.scope x := by first | exact Or.inl rfl | exact Or.inr (Or.inl rfl) | exact Or.inr (Or.inr rfl)) (hd : (x == ("__debug__" : Str)) = false := by decide) (hcd : (x == ("__classdict__" : Str)) = false := by decide) :
    RI X tg (.Name x q) (keysF i) := by
  refine ⟨_, pi_X (pe_var hN hv hd hcd), fun σ H F r ds r' R S e hR => ?_⟩
  unfold keysF at e
  split at e
  · rename_i kvs h
    cases e
    obtain ⟨a, z1, z2⟩ := fd_at S h
    exact ⟨_, z1, F, a, kvs, rfl, S.sub, z2, fun J Y => hR J F H S .refl Y⟩
  · cases e
def sortF (i : Nat) : M Ent := fun r => match r[i]? with
  | some (some (.fd kvs)) => if srtOk (kvs.map (·.1)) = true then some (.ml (isrt dLe (kvs.map (·.1))), r) else none
  | _ => none
theorem rx_sortF (i : Nat) (hc : X.calm = true) (hr : Room k X.A) (hg : Gl X "sorted") (hm : X.mg "sorted" = none) (hN : X.N[i]? = some x := by rfl) (hv : Vis X.env.scope x := by first | exact Or.inl rfl | exact Or.inr (Or.inl rfl) | exact Or.inr (Or.inr rfl)) (hd : (x == ("__debug__" : Str)) = false := by decide)
    (hcd : (x == ("__classdict__" : Str)) = false := by decide) (hs : starEach [.Name x q] X.env = (false, eval (.Name x q) X.env) :: starEach [] X.env := by rfl) : RX X (.Call (.Name "sorted" p) [.Name x q] [] pos) (sortF i) := by
  refine ⟨_, pe_callB (cr_sortK hc hr) hg hm boot_sorted (pa_cons (pe_var hN hv hd hcd) pa_nil hs) (by decide) (by decide) hs, fun σ H F r en r' Q S e hQ => ?_⟩
  unfold sortF at e
  split at e
  · rename_i kvs h
    split at e
    · rename_i hk
      cases e
      obtain ⟨a, z1, z2⟩ := fd_at S h
      refine ⟨_, z1, F, _, kvs, S.sub, rfl, z2.toH S.sub, hk, fun a us ha D => ?_⟩
      obtain ⟨w1, w2, w3⟩ := own_new S (Go.refl (σ := σ)) ha D
      exact hQ _ _ _ w1 w2 w3
    · cases e
  · cases e
end
end G65
namespace G65
open PySem PySem.Spec PyProof.Rows L2

/-! ### dict comprehensions, keys tuples -/
abbrev dObj0 : Obj := { cls := .type "dict", data := .dict #[] }
def rPutX (X : Cx) (D : Addr) (y z : V) (H : Hp) (Nx : Hp → Prop) : Prop := ∃ F kvs kd kk d, Same F H ∧ F D = none ∧ DictAt X.prog X.w X.K F H D kvs ∧ Dp X.K F y kd ∧ keyOf kd = some kk ∧ Dp X.K F z d ∧ kvs.length < sizeLine ∧ ∀ ob, DictAt X.prog X.w X.K F (upd H D ob) D (dPut kvs kk kd d) → Nx (upd H D ob)
theorem set_dictX {X : Cx} {k : Nat} (hr : Room k X.A) {pins : List (Addr × Obj)} {σ : St} {H : Hp} {s : Shared} {D : Addr} {y z : V} {uy uz : Value} {Nx : Hp → Prop} {E : Value → Shared → Prop} {B : Unit → Shared → Prop} (I : Inv X pins σ H s) (ry : RelV y uy) (rz : RelV z uz) (h : rPutX X D y z H Nx) (hB : ∀ H' s', Inv X pins σ H' s' → Nx H' → B () s') :
    wpAny (model X.prog X.w) X.A (dictSet D uy uz) B E s := by
  obtain ⟨F, kvs, kd, kk, d, sub, hFa, hd, hk, e, hD, hz, q⟩ := h
  obtain ⟨b, rfl⟩ := keyOf_ref hk e
  cases ry
  obtain ⟨xs, dd, kr, hzx, hS, ob0, hob, _⟩ := dict_at I sub hd
  have hext : ∃ φ, H D = some (.ext φ) := by
    obtain ⟨_, _, o, _, _, _, h1, _⟩ := hd
    exact ⟨_, h1⟩
  obtain ⟨φ, hext⟩ := hext
  have hroom : (nestedKind X.prog X.w).room X.A := by
    show X.A.units + 8 < cLine
    have := hr.un
    omega
  refine wpAny_dictSet_heap (hsz := hzx) hroom (key_is I (dp_mono sub hk) e) dd fun h' dd' hsb => ?_
  obtain ⟨o', es', ep', z1, z2, z3, z4, z5, z6⟩ := dd'
  have I1 : Inv X pins σ (upd H D (.ext fun h => h.get? D = some o')) { s with heap := h', toks := s.toks + (nestedKind X.prog X.w).draws kk } :=
    I.write (x := D) (e := D) (by rw [hext]; exact True.intro) (.inl rfl) (fun c w hc hw => (hsb.2 c hc).trans hw) ⟨o', z1⟩ (ext_ok z1)
  refine hB _ _ I1 (q _ ⟨hS, ?_, o', es', ep', _, upd_same, z2, z3, z4, z6, kr_put kr e hk rz hD⟩)
  unfold dPut
  split
  · rw [List.length_map]; omega
  · rw [List.length_append, List.length_singleton]; omega
section
variable {X : Cx}
def tDcX (X : Cx) (wi : TI) (g : TG) (tt : TT) (tk tv : TE) (vs : List Nat) : TE := fun σ H Q => wi σ H fun J H1 => ∀ D, H1 D = none → (D == sysModules) = false → ∃ W : Nat → Nat → Hp → Prop, (∃ m, W 0 m (upd H1 D (dHO D dObj0))) ∧ ∀ i m H, W i m H →
  (J.stop i H ∧ Q (.ref D) H) ∨ (J.go i H ∧ ∃ Nx : Hp → Prop, (∀ H', Nx H' → ∃ m', m' < m ∧ W (i + 1) m' H') ∧ ∀ x H', J.yld i H x H' → g x (wipe σ vs) H' fun σ2 H2 => wipe σ2 vs = wipe σ vs ∧ tt σ2 H2 fun b H3 =>
    if b = true then tk σ2 H3 fun y H4 => tv σ2 H4 fun z H5 => rPutX X D y z H5 Nx else Nx H3)
theorem dcX_core {k : Nat} {pins : List (Addr × Obj)} {s : Shared} {σ : St} {H : Hp} {Q : VK} {kx vx tg iter : Expr} {ifs : List Expr} {scope : Scope} {own : List (Str × Nat)} {pos pos' : Pos} {wi : TI} {g : TG} {tt : TT} {tk tv : TE} {use : Option (Value → Sem Unit)} {Qf : Value → Shared → Prop} (hr : Room k X.A) (hc : X.calm = true) (hN : X.N.Nodup) (I : Inv X pins σ H s) (hi : PI X tg iter wi) (ok : BlkOk X.N X.env.scope scope own)
    (hg : ∀ (s : Shared) (H : Hp) (C : Addr) (cl : List (Str × Addr)) (fp : List Addr), PG (X.blk s H scope (compEnvC scope cl C X.env) fp) tg g) (ht : ∀ (s : Shared) (H : Hp) (C : Addr) (cl : List (Str × Addr)) (fp : List Addr), PTs (X.blk s H scope (compEnvC scope cl C X.env) fp) ifs tt)
    (hk : ∀ (s : Shared) (H : Hp) (C : Addr) (cl : List (Str × Addr)) (fp : List Addr), PE (X.blk s H scope (compEnvC scope cl C X.env) fp) kx tk) (he : ∀ (s : Shared) (H : Hp) (C : Addr) (cl : List (Str × Addr)) (fp : List Addr), PE (X.blk s H scope (compEnvC scope cl C X.env) fp) vx tv) (hs : ∀ x, foldedSetIterable iter X.env x = pure x)
    (h : tDcX X wi g tt tk tv (own.map (·.2)) σ H Q) (hEnd : ∀ D C s' m H', Inv X pins σ H' s' → Q (.ref D) H' → s'.heap.Ns C m → FpOk X pins H' C → compPost (model X.prog X.w) X.A X.xe use Qf (.ref D) C (.ok .next) s') :
    wpAny (model X.prog X.w) X.A (comprehension (.DictComp kx vx [⟨tg, iter, ifs, 0⟩] scope pos) scope X.env pos' newDict false (eval iter X.env) use) Qf X.xe s := by
  have frees : ∀ y ∈ scope.names, y.2 = .free → ∃ c, X.env.cells.lookup y.1 = some c := fun y hy e => (ok.free y hy e).elim (fun k => I.ok.has _ (.inl k)) (fun k => I.ok.has _ (.inr k))
  refine wpAny_comprehension_free (use := use) rfl hs (closure_ok frees) ok.kind (fun y hy e => by rw [ok.uniq y hy, e]) (thn (hi.run pins s σ H _ I h) fun xv sA hx => thn hx fun itv sB hB => ?_)
  obtain ⟨it, fp, tn, J, HB, e, IB, T, stB, fB, q⟩ := hB
  subst e
  refine wpAny_newObj_type (newEnv_comp ?_)
  generalize hD : sB.heap.objs.size = D
  have nD : HB D = none := IB.hok.fresh (Nat.le_of_eq hD)
  have sysD : (D == sysModules) = false := by rw [← hD]; exact beq_eq_false_iff_ne.mpr (Ne.symm (Nat.ne_of_lt IB.big))
  obtain ⟨W, ⟨m0, w0⟩, turn⟩ := q D nD sysD
  generalize hsC : ({ sB with heap := sB.heap.push dObj0 } : Shared) = sC
  have IC : Inv X pins σ (upd HB D (dHO D dObj0)) sC := by
    rw [← hsC]
    refine IB.laid (t' := sB.toks) (fun b o e => Heap.get?_push_of_some _ e) (Nat.le_of_eq hD) ?_
    rw [← hD]
    exact ext_ok (Heap.get?_push_size _ rfl)
  have heC : sC.heap = sB.heap.push dObj0 := by rw [← hsC]
  have ltB : ∀ b ∈ fp, b < sB.heap.objs.size := fun b hb => let ⟨o, e, _⟩ := T.obj _ _ stB b hb; Heap.lt_size e
  have fC : ∀ b ∈ fp, FpOk X pins (upd HB D (dHO D dObj0)) b ∧ b < sC.heap.objs.size := fun b hb => by
    refine ⟨⟨?_, (fB b hb).2⟩, by rw [heC, Heap.size_push]; exact Nat.lt_succ_of_lt (ltB b hb)⟩
    rw [upd_ne (by rw [← hD]; exact Nat.ne_of_lt (ltB b hb))]
    exact (fB b hb).1
  have stC : tn 0 sC.heap := T.keep _ _ _ stB fun b _ o e => by rw [heC]; exact Heap.get?_push_of_some _ e
  have ID := block_start IC ok hN fC
  generalize hcl : cellsFrom (sC.heap.objs.size + 1) scope.names (cloFrom X.env.cells scope.names []) = cl at ID
  have pg := hg sC (upd HB D (dHO D dObj0)) sC.heap.objs.size cl fp
  have pt := ht sC (upd HB D (dHO D dObj0)) sC.heap.objs.size cl fp
  have pk := hk sC (upd HB D (dHO D dObj0)) sC.heap.objs.size cl fp
  have pv := he sC (upd HB D (dHO D dObj0)) sC.heap.objs.size cl fp
  show codeAny _ _ (.compStart (.DictComp kx vx [⟨tg, iter, ifs, 0⟩] scope pos) 0 (.ref it) (.ref D) (compEnvC scope cl sC.heap.objs.size X.env)) (compPost (model X.prog X.w) X.A X.xe use Qf (.ref D) sC.heap.objs.size) { sC with heap := pushCells (sC.heap.push { cls := .type "dict", data := .dict #[] }) scope.names }
  have noFp : ∀ b ∈ fp, (upd HB D (dHO D dObj0)) b = none := fun b hb => (fC b hb).1.1
  generalize hce : compEnvC scope cl sC.heap.objs.size X.env = ce at ID pg pt pk pv ⊢
  have cL : ce.locals = sC.heap.objs.size := by subst hce; rfl
  generalize upd HB D (dHO D dObj0) = HC at IC ID pg pt pk pv w0 noFp fC
  generalize hsD : ({ sC with heap := pushCells (sC.heap.push { cls := .type "dict", data := .dict #[] }) scope.names } : Shared) = sD at ID ⊢
  have stD : tn 0 sD.heap := T.keep _ _ _ stC fun b _ o e => by rw [← hsD]; exact pushCells_keeps _ _ _ _ (Heap.get?_push_of_some _ e)
  have pins0 : ∀ {σ' : St} {H' : Hp} {s' : Shared}, Inv (X.blk sC HC scope ce fp) [] σ' H' s' → (∀ b ∈ fp, H' b = none) → ∀ b ∈ fp, FpOk (X.blk sC HC scope ce fp) [] H' b := fun {σ' H' s'} J' hn b hb =>
    ⟨hn b hb, (J'.ok.exf b hb).1, J'.ok.exfs b hb, .inl hb, fun x c e => (J'.ok.exf b hb).2 x c e, fun p hp => absurd (show p ∈ ([] : List (Addr × Obj)) ++ [] from hp) (by simp)⟩
  have hr2 : Room k (X.blk sC HC scope ce fp).A := hr
  have loop : codeAny (model X.prog X.w) X.A (.compLoop (.DictComp kx vx [⟨tg, iter, ifs, 0⟩] scope pos) 0 (.ref it) (.ref D) ce) (compPost (model X.prog X.w) X.A X.xe use Qf (.ref D) sC.heap.objs.size) sD := by
    refine compLoop_anyD (fun n s' => ∃ i H', Inv (X.blk sC HC scope ce fp) [] (wipe σ (own.map (·.2))) H' s' ∧ tn i s'.heap ∧ (∀ b ∈ fp, H' b = none) ∧ W i n H') ?_ m0 ⟨0, HC, ID, stD, noFp, w0⟩
    rintro n sE ⟨i, HE, IE, stE, nE, wE⟩
    rcases turn i n HE wE with ⟨stop, qq⟩ | ⟨go, Nx, hNx, step⟩
    · have td := T.done (X.blk sC HC scope ce fp) rfl rfl rfl hc i [] sE _ HE (fun _ _ => False) IE (pins0 IE nE) stE stop
      refine thnF td fun r sF ⟨hr0, IF⟩ => ?_
      subst hr0
      have IG : Inv X pins σ HE sF := IC.call' (ch := fp) IF.os IF.base IF.hok IF.bare fun b hb => let z := (fC b hb).1; ⟨z.2.2.2.1, z.2.1, z.2.2.2.2.1, z.2.2.2.2.2⟩
      have nL : HE sC.heap.objs.size = none := by
        have z : HE ce.locals = none := IF.free
        rwa [cL] at z
      obtain ⟨m, hn, _⟩ := IF.loc
      have hn : sF.heap.Ns ce.locals m := hn
      rw [cL] at hn
      exact hEnd D sC.heap.objs.size sF m HE IG qq hn (IC.fpOk (Nat.le_refl _) nL)
    · have ti := T.item (X.blk sC HC scope ce fp) rfl rfl rfl hc i [] sE _ HE (fun _ _ => False) IE (pins0 IE nE) stE go
      refine thnF ti fun r sF ⟨u, hr0, hF⟩ => ?_
      subst hr0
      refine thnF hF fun _ sG ⟨x, HG, IG, rG, yG, stG, nG⟩ => ?_
      refine thnF (pg.run _ sG _ HG x u _ (IG.pinned (pins0 IG nG) (T.obj _ _ stG)) rG (step x HG yG)) fun _ sH ⟨σH, HH, IH, hwH, qH⟩ => ?_
      refine thnF (pt.run _ sH σH HH _ IH qH) fun b sI ⟨HI, II, qI⟩ => ?_
      have fin : ∀ {s' : Shared} {H' : Hp}, Inv (X.blk sC HC scope ce fp) ([] ++ pinsAt fp sG.heap) σH H' s' → Nx H' → ∃ m, m < n ∧ ∃ i H', Inv (X.blk sC HC scope ce fp) [] (wipe σ (own.map (·.2))) H' s' ∧ tn i s'.heap ∧ (∀ b ∈ fp, H' b = none) ∧ W i m H' := fun {s' H'} J' nx => by
        obtain ⟨m', hm, w'⟩ := hNx H' nx
        have pinned : ∀ b ∈ fp, ∀ o, sG.heap.get? b = some o → s'.heap.get? b = some o ∧ H' b = none := fun b hb o e =>
          let z := J'.pin (b, o) (List.mem_append_right _ (List.mem_append_right _ (mem_pinsAt hb e)))
          ⟨z.1, z.2.1⟩
        have hl : (wipe σ (own.map (·.2))).length = σH.length := by rw [← hwH, wipe_length]
        refine ⟨m', hm, i + 1, H', (J'.unpinned (pins := [])).weak hl (fun j v e => ?_), T.keep _ _ _ stG fun b hb o e => (pinned b hb o e).1, fun b hb => ?_, w'⟩
        · rw [← hwH] at e
          exact (wipe_some e).1
        · obtain ⟨o, e, _⟩ := T.obj _ _ stG b hb
          exact (pinned b hb o e).2
      cases b with
      | false =>
        simp only [Bool.false_eq_true, if_false] at qI ⊢
        exact fin II qI
      | true =>
        simp only [if_true] at qI ⊢
        refine thnF (pk.run _ sI σH HI _ II qI) fun z sJ ⟨yk, HJ, IJ, rJ, qJ⟩ => ?_
        refine thnF (pv.run _ sJ σH HJ _ IJ qJ) fun z2 sK ⟨yv, HK, IK, rK, qK⟩ => ?_
        exact set_dictX (X := X.blk sC HC scope ce fp) hr2 IK rJ rK qK fun H' s' J' nx => fin J' nx
  exact codeAny_compStart_dict loop (T.self X.A 0 _ _ _ stD loop)
theorem pe_dcX {k : Nat} {kx vx tg iter : Expr} {ifs : List Expr} {scope : Scope} {own : List (Str × Nat)} {pos : Pos} {wi : TI} {g : TG} {tt : TT} {tk tv : TE} (hr : Room k X.A) (hc : X.calm = true) (hN : X.N.Nodup) (hi : PI X tg iter wi) (ok : BlkOk X.N X.env.scope scope own)
    (hg : ∀ (s : Shared) (H : Hp) (C : Addr) (cl : List (Str × Addr)) (fp : List Addr), PG (X.blk s H scope (compEnvC scope cl C X.env) fp) tg g) (ht : ∀ (s : Shared) (H : Hp) (C : Addr) (cl : List (Str × Addr)) (fp : List Addr), PTs (X.blk s H scope (compEnvC scope cl C X.env) fp) ifs tt)
    (hk : ∀ (s : Shared) (H : Hp) (C : Addr) (cl : List (Str × Addr)) (fp : List Addr), PE (X.blk s H scope (compEnvC scope cl C X.env) fp) kx tk) (he : ∀ (s : Shared) (H : Hp) (C : Addr) (cl : List (Str × Addr)) (fp : List Addr), PE (X.blk s H scope (compEnvC scope cl C X.env) fp) vx tv) (hs : ∀ x, foldedSetIterable iter X.env x = pure x) :
    PE X (.DictComp kx vx [⟨tg, iter, ifs, 0⟩] scope pos) (tDcX X wi g tt tk tv (own.map (·.2))) := by
  refine ⟨fun pins s σ H Q I h => ?_⟩
  rw [arm_eval_DictComp]
  refine dcX_core hr hc hN I hi ok hg ht hk he hs h fun D C s' m H' J q hn ff => ⟨m, hn, fun h'' sb => ?_⟩
  exact ⟨.ref D, H', J.turned (t' := s'.toks) (fun b o hb e => (sb.2 b hb).trans e) ff.1 ff.2.1 ff.2.2.2.1 ff.2.2.2.2.1 ff.2.2.2.2.2, rfl, q⟩
theorem ps_setDcX {k i : Nat} {y : Str} {py spos : Pos} {kx vx tg iter : Expr} {ifs : List Expr} {scope : Scope} {own : List (Str × Nat)} {pos : Pos} {wi : TI} {g : TG} {tt : TT} {tk tv : TE} (hr : Room k X.A) (hc : X.calm = true) (hN : X.N.Nodup) (hy : X.N[i]? = some y) (hyl : X.env.scope.names.lookup y = some .local) (hsw : swapsWith (.DictComp kx vx [⟨tg, iter, ifs, 0⟩] scope pos) (some (.Name y py)) spos.line X.env = pure true) (hi : PI X tg iter wi) (ok : BlkOk X.N X.env.scope scope own)
    (hg : ∀ (s : Shared) (H : Hp) (C : Addr) (cl : List (Str × Addr)) (fp : List Addr), PG (X.blk s H scope (compEnvC scope cl C X.env) fp) tg g) (ht : ∀ (s : Shared) (H : Hp) (C : Addr) (cl : List (Str × Addr)) (fp : List Addr), PTs (X.blk s H scope (compEnvC scope cl C X.env) fp) ifs tt)
    (hk : ∀ (s : Shared) (H : Hp) (C : Addr) (cl : List (Str × Addr)) (fp : List Addr), PE (X.blk s H scope (compEnvC scope cl C X.env) fp) kx tk) (he : ∀ (s : Shared) (H : Hp) (C : Addr) (cl : List (Str × Addr)) (fp : List Addr), PE (X.blk s H scope (compEnvC scope cl C X.env) fp) vx tv) (hs : ∀ x, foldedSetIterable iter X.env x = pure x) :
    PS X (.Assign [.Name y py] (.DictComp kx vx [⟨tg, iter, ifs, 0⟩] scope pos) spos) (tAsg (tDcX X wi g tt tk tv (own.map (·.2))) (gName i)) := by
  refine ⟨fun pins s σ H D I h => ?_⟩
  rw [exec_Assign_Name_used _ _ _ _ hsw]
  refine wpAny_bind (wpAny_standAt (wpAny_bind ?_))
  show wpAny _ X.A (do let _ ← comprehension (.DictComp kx vx [⟨tg, iter, ifs, 0⟩] scope pos) scope X.env (firstIterPos [⟨tg, iter, ifs, 0⟩] pos) newDict false (eval iter X.env) (some (assign (.Name y py) X.env))) _ _ s
  have h : tDcX X wi g tt tk tv (own.map (·.2)) σ H (fun x H1 => gName i x σ H1 D.nx) := h
  refine wpAny_bind (thn (dcX_core (Qf := fun _ s' => SP X pins D .next s') hr hc hN I hi ok hg ht hk he hs h fun L C s' m H' J q hn ff => ?_) fun _ s' hq => wpAny_pure (wpAny_pure hq))
  show wpAny _ _ (assign (.Name y py) X.env (.ref L)) _ _ _
  refine wpAny_assign_Name (store_ok2 (v := V.ref L) J hN hy (.inl hyl) rfl (fun s2 I2 ⟨ad, sb, ha⟩ => ?_) (.inr hyl))
  have apart : C ≠ ad := ha.elim (fun z => by rw [z]; exact ff.2.1) fun z e => ff.2.2.2.2.1 y ad z e.symm
  exact ⟨m, hn.sameBut sb apart, fun h3 sb3 => ⟨_, H', I2.turned (t' := s2.toks) (fun b o hb e => (sb3.2 b hb).trans e) ff.1 ff.2.1 ff.2.2.2.1 ff.2.2.2.2.1 ff.2.2.2.2.2, q⟩⟩
theorem sw_trueD {kx vx : Expr} {gs : List Comprehension} {scope : Scope} {pos py : Pos} {y : Str} {l : Nat} {env : Env} (hk : env.scope.kind = .function) (hy : env.scope.names.lookup y = some .local) (hl : (py.line == pos.line) = true)
    (ha : (scope.names.any fun (n, k) => n == y && (k == .local || k == .cell)) = false) : swapsWith (.DictComp kx vx gs scope pos) (some (.Name y py)) l env = pure true := by
  have ky : env.kindOf y = some .local := hy
  have kb : env.blockKind = .function := by unfold Env.blockKind; rw [hk]; rfl
  unfold swapsWith
  simp only [kb, ky, ha, Expr.pos, hl]
  rfl
end
/-! #### over data -/
structure LSd (P : Program) (w : World) (K : PySem.W.Frag) (D : Addr) (σ : St) (r0 : Rho) (F0 H0 : Hp) (F H : Hp) (r : Rho) (kvs : Rw) : Prop where
  sr : SR P w K F H σ r
  go : Go σ r0 F0 H0 σ r F H
  fD : F D = none
  hD : DictAt P w K F H D kvs
  no : ¬ OwnAt r σ D
section
variable {P : Program} {w : World} {K : PySem.W.Frag} {σ : St}
theorem lsd_go {D : Addr} {r0 r1 r2 : Rho} {σ1 : St} {F0 H0 F1 H1 F2 H2 : Hp} {kvs : Rw} (L : LSd P w K D σ r0 F0 H0 F1 H1 r1 kvs) (S2 : SR P w K F2 H2 σ1 r2) (G : Go σ r1 F1 H1 σ1 r2 F2 H2) : F2 D = none ∧ DictAt P w K F2 H2 D kvs ∧ ¬ OwnAt r2 σ1 D := by
  obtain ⟨o, ho⟩ := L.hD.has
  have hn : H1 D ≠ none := by rw [ho]; exact fun z => nomatch z
  exact ⟨(G.nf D hn L.no).trans L.fD, L.hD.mono G.same fun u hu => G.keep D u hu L.no, fun z => (G.own D z).elim L.no hn⟩
end
def stepDc (vs : List Nat) (a : Asg) (t : M Bool) (fk fv : M PyData) (d : PyData) (r : Rho) (acc : Rw) : Option (Rw × Rho) := match a d r with
  | none => none
  | some r1 => match t r1 with
    | none => none
    | some (false, r2) => some (acc, wipeR r2 vs)
    | some (true, r2) => match fk r2 with
      | none => none
      | some (kd, r3) => match fv r3 with
        | none => none
        | some (x, r4) => match keyOf kd with
          | none => none
          | some k => if acc.length < 16777216 then some (dPut acc k kd x, wipeR r4 vs) else none
def foldD (st : PyData → Rho → Rw → Option (Rw × Rho)) : List PyData → Rho → Rw → Option (Rw × Rho)
  | [], r, acc => some (acc, r)
  | d :: ds, r, acc => match st d r acc with
    | none => none
    | some (acc1, r1) => foldD st ds r1 acc1
def dcM (vs : List Nat) (fi : M (List PyData)) (st : PyData → Rho → Rw → Option (Rw × Rho)) : M Ent := bnd fi fun ds r => match foldD st ds (wipeR r vs) [] with
  | none => none
  | some (kvs, r4) => some (.md kvs, restR r r4 vs)
theorem turn_dict {X : Cx} {D : Addr} {σ : St} {r0 : Rho} {F0 H0 : Hp} (hD0 : H0 D = none) {vs is : List Nat} (hw : wipe σ vs = σ) (his : ∀ i ∈ is, i ∈ vs) {a : Asg} {t : M Bool} {fk fv : M PyData}
    (d : PyData) (x : V) (F1 H1 F H : Hp) (r r' : Rho) (acc acc' : Rw) (Nx : Hp → Prop) (L : LSd X.prog X.w X.K D σ r0 F0 H0 F1 H1 r acc) (px : Px F1 H1 F H) (Dx : Dp X.K F x d) (e : stepDc vs a t fk fv d r acc = some (acc', r'))
    (hN : ∀ F' H', LSd X.prog X.w X.K D σ r0 F0 H0 F' H' r' acc' → Nx H') :
    tGa X.prog X.w X.K is a x σ H fun σ2 H2 => wipe σ2 vs = σ ∧ tBo X.prog X.w X.K t σ2 H2 fun b H3 =>
      if b = true then tD X.prog X.w X.K fk σ2 H3 fun y H4 => tD X.prog X.w X.K fv σ2 H4 fun z H5 => rPutX X D y z H5 Nx else Nx H3 := by
  unfold stepDc at e
  split at e
  · cases e
  · rename_i r1 ea
    refine ⟨F, r, d, r1, L.sr.px px, Dx, ea, fun σ2 S2 G2 C2 => ?_⟩
    have hw2 : wipe σ2 vs = σ := (C2.wipe his).trans hw
    refine ⟨hw2, ?_⟩
    have G1' := (Go.px px).trans G2
    have G02 := L.go.trans G1'
    split at e
    · cases e
    · rename_i r2 et
      cases e
      refine ⟨F, r1, false, r2, S2, et, fun F3 H3 S3 G3 => iteF ?_⟩
      obtain ⟨m1, m2, m3⟩ := lsd_go L S3 (G1'.trans G3)
      have S4 := sr_wipe S3 vs
      rw [hw2] at S4
      have G := G02.trans G3
      have ow : ∀ b, OwnAt (wipeR r2 vs) σ b → OwnAt r2 σ2 b := fun b hb => own_wipe (vs := vs) (by rw [hw2]; exact hb)
      exact hN F3 H3 ⟨S4, ⟨G.same, G.nf, G.keep, fun b hb => G.own b (ow b hb)⟩, m1, m2, fun z => m3 (ow D z)⟩
    · rename_i r2 et
      split at e
      · cases e
      · rename_i kd r3 ek
        split at e
        · cases e
        · rename_i dv r4 ev
          split at e
          · cases e
          · rename_i kk hkk
            split at e
            · rename_i hz
              cases e
              refine ⟨F, r1, true, r2, S2, et, fun F3 H3 S3 G3 => iteT ?_⟩
              refine ⟨F3, r2, kd, r3, S3, ek, fun y F4 H4 S4 G4 D4 => ?_⟩
              refine ⟨F4, r3, dv, r4, S4, ev, fun z F5 H5 S5 G5 D5 => ?_⟩
              have G35 := G3.trans (G4.trans G5)
              obtain ⟨m1, m2, m3⟩ := lsd_go L S5 (G1'.trans G35)
              refine ⟨F5, acc, kd, kk, dv, S5.sub, m1, m2, dp_mono G5.same D4, hkk, D5, by rw [sl_eq]; exact hz, fun ob hob => ?_⟩
              have S6 := sr_wipe (sr_updD S5 (o := ob) m1 m3) vs
              rw [hw2] at S6
              have G := G02.trans G35
              have ow : ∀ b, OwnAt (wipeR r4 vs) σ b → OwnAt r4 σ2 b := fun b hb => own_wipe (vs := vs) (by rw [hw2]; exact hb)
              exact hN F5 _ ⟨S6, ⟨G.same, G.nf, fun b o hb hn => by rw [upd_ne fun z => by rw [z, hD0] at hb; cases hb]; exact G.keep b o hb hn, fun b hb => G.own b (ow b hb)⟩, m1, hob, fun z => m3 (ow D z)⟩
            · cases e
theorem dict_loop {X : Cx} {J : It} {Fs : Hp} {ds : List PyData} (Y : Yl X.K J Fs ds) {D : Addr} {σ : St} {r0 : Rho} {F0 H0 : Hp} (hs0 : Same Fs F0) (st : PyData → Rho → Rw → Option (Rw × Rho)) (Body : V → Hp → (Hp → Prop) → Prop) (NX : Hp → Prop) {rE : Rho} {acc0 out : Rw}
    (hB : ∀ d x F1 H1 F H r r' acc acc' (Nx : Hp → Prop), LSd X.prog X.w X.K D σ r0 F0 H0 F1 H1 r acc → Px F1 H1 F H → Dp X.K F x d → st d r acc = some (acc', r') → (∀ F' H', LSd X.prog X.w X.K D σ r0 F0 H0 F' H' r' acc' → Nx H') → Body x H Nx)
    {F H : Hp} {r : Rho} (L : LSd X.prog X.w X.K D σ r0 F0 H0 F H r acc0) (e : foldD st ds r acc0 = some (out, rE)) (hE : ∀ F' H', LSd X.prog X.w X.K D σ r0 F0 H0 F' H' rE out → NX H') :
    ∃ W : Nat → Nat → Hp → Prop, (∃ m, W 0 m H) ∧ ∀ i m H, W i m H → (J.stop i H ∧ NX H) ∨ (J.go i H ∧ ∃ Nx : Hp → Prop, (∀ H', Nx H' → ∃ m', m' < m ∧ W (i + 1) m' H') ∧ ∀ x H', J.yld i H x H' → Body x H' Nx) := by
  obtain ⟨Yg, Ys⟩ := Y
  refine ⟨fun i m H1 => m = ds.length - i ∧ i ≤ ds.length ∧ ∃ F1 r1 acc1, LSd X.prog X.w X.K D σ r0 F0 H0 F1 H1 r1 acc1 ∧ foldD st (ds.drop i) r1 acc1 = some (out, rE), ⟨ds.length, rfl, Nat.zero_le _, F, r, acc0, L, e⟩, ?_⟩
  rintro i m H1 ⟨rfl, hi, F1, r1, acc1, L1, e1⟩
  have s1 : Same Fs F1 := hs0.trans L1.go.same
  by_cases hlt : i < ds.length
  · rw [List.drop_eq_getElem_cons hlt] at e1
    obtain ⟨jgo, jy⟩ := Yg i ds[i] F1 H1 (List.getElem?_eq_getElem hlt) s1 L1.sr.sub
    unfold foldD at e1
    split at e1
    · cases e1
    · rename_i acc2 r2 es
      refine .inr ⟨jgo, fun H2 => ∃ F2, LSd X.prog X.w X.K D σ r0 F0 H0 F2 H2 r2 acc2, fun H2 ⟨F2, L2⟩ => ⟨ds.length - (i + 1), by omega, rfl, hlt, F2, r2, acc2, L2, e1⟩, fun x H2 yy => ?_⟩
      obtain ⟨F2, px, Dx⟩ := jy x H2 yy
      exact hB ds[i] x F1 H1 F2 H2 r1 r2 acc1 acc2 _ L1 px Dx es fun F' H' L' => ⟨F', L'⟩
  · have ei : i = ds.length := by omega
    subst ei
    rw [List.drop_length] at e1
    cases e1
    exact .inl ⟨Ys F1 H1 s1 L1.sr.sub, hE F1 H1 L1⟩
section
variable {X : Cx} {k : Nat} {kx vx tg iter : Expr} {ifs : List Expr} {scope : Scope} {own : List (Str × Nat)} {pos : Pos} {fi : M (List PyData)} {is : List Nat} {a : Asg} {p : M Bool} {fk fv : M PyData}
theorem dc_run {wi : TI} {vs : List Nat} (ki : ∀ (σ : St) (H F : Hp) (r : Rho) (ds : List PyData) (r' : Rho) (R : It → Hp → Prop), SR X.prog X.w X.K F H σ r → fi r = some (ds, r') → (∀ J F' H', SR X.prog X.w X.K F' H' σ r' → Go σ r F H σ r' F' H' → Yl X.K J F' ds → R J H') → wi σ H R) (his : ∀ i ∈ is, i ∈ vs)
    (σ : St) (H F : Hp) (r : Rho) (en : Ent) (r' : Rho) (Q : VK) (S : SR X.prog X.w X.K F H σ r) (e : dcM vs fi (stepDc vs a p fk fv) r = some (en, r')) (hQ : ∀ v F' H', SR X.prog X.w X.K F' H' σ r' → Go σ r F H σ r' F' H' → ResR X.prog X.w X.K σ r H σ r' F' H' v en → Q v H') :
    tDcX X wi (tGa X.prog X.w X.K is a) (tBo X.prog X.w X.K p) (tD X.prog X.w X.K fk) (tD X.prog X.w X.K fv) vs σ H Q := by
  obtain ⟨ds, r1, e1, e⟩ := bnd_some e
  split at e
  · cases e
  · rename_i kvs r4 ef
    cases e
    refine ki σ H F r ds r1 _ S e1 fun J F1 H1 S1 G1 Y D hD sysD => ?_
    have px := Px.newH S1.sub (dHO D dObj0) hD
    have S2 := sr_wipe (S1.px px) vs
    have nD : ¬ OwnAt (wipeR r1 vs) (wipe σ vs) D := fun z => by
      obtain ⟨_, u, hu⟩ := S1.has (own_wipe z)
      rw [hD] at hu
      cases hu
    have L0 : LSd X.prog X.w X.K D (wipe σ vs) (wipeR r1 vs) F1 H1 F1 (upd H1 D (dHO D dObj0)) (wipeR r1 vs) [] :=
      ⟨S2, Go.px px, S1.sub.free hD, ⟨sysD, Nat.zero_le _, dObj0, #[], 0, [], upd_same, ⟨rfl, rfl, rfl⟩, rfl, rfl, List.nodup_nil, .nil⟩, nD⟩
    have fin : ∀ F' H', LSd X.prog X.w X.K D (wipe σ vs) (wipeR r1 vs) F1 H1 F' H' r4 kvs → Q (.ref D) H' := fun F' H' L => by
      obtain ⟨S5, G5⟩ := sr_rest S1 L.sr L.go
      refine hQ (.ref D) F' H' S5 (G1.trans G5) ⟨.md L.fD L.hD, fun b z1 z2 => ?_⟩
      cases z2
      have hH : OwnAt r σ D ∨ H D = none := by
        by_cases ho : OwnAt r σ D
        · exact .inl ho
        · right
          cases z : H D with
          | none => rfl
          | some o => rw [G1.keep D o z ho] at hD; cases hD
      refine ⟨hH, fun z => ?_⟩
      obtain ⟨i, e', w1, w2, w3⟩ := z
      rcases restR_some w1 with ⟨y1, y2⟩ | ⟨y1, y2⟩
      · obtain ⟨_, u, hu⟩ := S1.has ⟨i, e', y2, w2, w3⟩
        rw [hD] at hu
        cases hu
      · exact L.no ⟨i, e', y2, w2, by rw [wipe_getN y1]; exact w3⟩
    exact dict_loop Y (Same.refl _) (stepDc vs a p fk fv) (fun x H' Nx => tGa X.prog X.w X.K is a x (wipe σ vs) H' fun σ2 H2 => wipe σ2 vs = wipe σ vs ∧ tBo X.prog X.w X.K p σ2 H2 fun b H3 =>
      if b = true then tD X.prog X.w X.K fk σ2 H3 fun y H4 => tD X.prog X.w X.K fv σ2 H4 fun z H5 => rPutX X D y z H5 Nx else Nx H3) (fun H' => Q (.ref D) H') (turn_dict hD (wipe_wipe σ vs) his) L0 ef fin
theorem rx_dc (hr : Room k X.A) (hc : X.calm = true) (hN : X.N.Nodup) (hi : RI X tg iter fi) (ok : BlkOk X.N X.env.scope scope own) (his : ∀ i ∈ is, i ∈ own.map (·.2))
    (hg : ∀ (s : Shared) (H : Hp) (C : Addr) (cl : List (Str × Addr)) (fp : List Addr), RG (X.blk s H scope (compEnvC scope cl C X.env) fp) is tg a) (ht : ∀ (s : Shared) (H : Hp) (C : Addr) (cl : List (Str × Addr)) (fp : List Addr), RTs (X.blk s H scope (compEnvC scope cl C X.env) fp) ifs p)
    (hk : ∀ (s : Shared) (H : Hp) (C : Addr) (cl : List (Str × Addr)) (fp : List Addr), RE (X.blk s H scope (compEnvC scope cl C X.env) fp) kx fk) (he : ∀ (s : Shared) (H : Hp) (C : Addr) (cl : List (Str × Addr)) (fp : List Addr), RE (X.blk s H scope (compEnvC scope cl C X.env) fp) vx fv) (hs : ∀ x, foldedSetIterable iter X.env x = pure x := by intro _; rfl) :
    RX X (.DictComp kx vx [⟨tg, iter, ifs, 0⟩] scope pos) (dcM (own.map (·.2)) fi (stepDc (own.map (·.2)) a p fk fv)) := by
  obtain ⟨wi, pi, ki⟩ := hi.ex
  exact ⟨_, pe_dcX (tv := tD X.prog X.w X.K fv) hr hc hN pi ok (fun s H C cl fp => (hg s H C cl fp).pg) (fun s H C cl fp => (ht s H C cl fp).ex) (fun s H C cl fp => (hk s H C cl fp).pe) (fun s H C cl fp => (he s H C cl fp).pe) hs, dc_run ki his⟩
theorem rs_setDc {n i : Nat} {y : Str} {py spos : Pos} (hn : n ≤ i) (hr : Room k X.A) (hc : X.calm = true) (hN : X.N.Nodup) (hy : X.N[i]? = some y) (hyl : X.env.scope.names.lookup y = some .local) (hsw : swapsWith (.DictComp kx vx [⟨tg, iter, ifs, 0⟩] scope pos) (some (.Name y py)) spos.line X.env = pure true) (hi : RI X tg iter fi) (ok : BlkOk X.N X.env.scope scope own) (his : ∀ i ∈ is, i ∈ own.map (·.2))
    (hg : ∀ (s : Shared) (H : Hp) (C : Addr) (cl : List (Str × Addr)) (fp : List Addr), RG (X.blk s H scope (compEnvC scope cl C X.env) fp) is tg a) (ht : ∀ (s : Shared) (H : Hp) (C : Addr) (cl : List (Str × Addr)) (fp : List Addr), RTs (X.blk s H scope (compEnvC scope cl C X.env) fp) ifs p)
    (hk : ∀ (s : Shared) (H : Hp) (C : Addr) (cl : List (Str × Addr)) (fp : List Addr), RE (X.blk s H scope (compEnvC scope cl C X.env) fp) kx fk) (he : ∀ (s : Shared) (H : Hp) (C : Addr) (cl : List (Str × Addr)) (fp : List Addr), RE (X.blk s H scope (compEnvC scope cl C X.env) fp) vx fv) (hs : ∀ x, foldedSetIterable iter X.env x = pure x := by intro _; rfl) :
    RS X n (.Assign [.Name y py] (.DictComp kx vx [⟨tg, iter, ifs, 0⟩] scope pos) spos) (sSetX i (dcM (own.map (·.2)) fi (stepDc (own.map (·.2)) a p fk fv))) := by
  obtain ⟨wi, pi, ki⟩ := hi.ex
  exact ⟨_, ps_setDcX (tv := tD X.prog X.w X.K fv) hr hc hN hy hyl hsw pi ok (fun s H C cl fp => (hg s H C cl fp).pg) (fun s H C cl fp => (ht s H C cl fp).ex) (fun s H C cl fp => (hk s H C cl fp).pe) (fun s H C cl fp => (he s H C cl fp).pe) hs, setX_run hn (dc_run ki his)⟩
end
end G65
namespace G65
open PySem PySem.Spec PyProof.Rows L2

/-! ### {k: v} -/
def tDOne (X : Cx) (tk tv : TE) : TE := fun σ H Q => ∀ D, H D = none → (D == sysModules) = false → tk σ (upd H D (dHO D dObj0)) fun y H1 => tv σ H1 fun z H2 => ∃ F kd kk d, Same F H2 ∧ F D = none ∧ H2 D = some (dHO D dObj0) ∧ Dp X.K F y kd ∧ keyOf kd = some kk ∧ Dp X.K F z d ∧ ∀ ob, DictAt X.prog X.w X.K F (upd H2 D ob) D [(kd, d)] → Q (.ref D) (upd H2 D ob)
section
variable {X : Cx} {k : Nat} {kx vx : Expr} {pos : Pos}
theorem pe_dOne {tk tv : TE} (hr : Room k X.A) (hk : PE X kx tk) (hv : PE X vx tv) : PE X (.Dict [some kx] [vx] pos) (tDOne X tk tv) := by
  refine ⟨fun pins s σ H Q I h => ?_⟩
  have hroom : (nestedKind X.prog X.w).room X.A := by
    show X.A.units + 8 < cLine
    have := hr.un
    omega
  have nD : H s.heap.objs.size = none := I.hok.fresh (Nat.le_refl _)
  have sysD : (s.heap.objs.size == sysModules) = false := beq_eq_false_iff_ne.mpr (Ne.symm (Nat.ne_of_lt I.big))
  have h := h _ nD sysD
  have I0 : Inv X pins σ (upd H s.heap.objs.size (dHO s.heap.objs.size dObj0)) { s with heap := s.heap.push dObj0 } := I.laid (t' := s.toks) (fun b o e => Heap.get?_push_of_some _ e) (Nat.le_refl _) (ext_ok (Heap.get?_push_size _ rfl))
  rw [arm_eval_Dict, show (evalEachOpt [some kx] X.env).zip ((evalEach [vx] X.env).map fun v => do let x ← v; standAt pos; pure x) = [(eval kx X.env, (do let x ← eval vx X.env; standAt pos; pure x : Sem Value))].map fun p => (some p.1, p.2) from rfl, dictDisplay_pairs _ (by simp) (by simp)]
  refine wpAny_bind (wpAny_standAt (wpAny_bind (wpAny_subDictH (knd := nestedKind X.prog X.w) hroom (by simp) ?_)))
  refine evalPairs_cons (thn (hk.run pins _ σ _ _ I0 h) fun ku s1 ⟨y, H1, I1, ry, h1⟩ => wpAny_bind (thn (hv.run pins s1 σ H1 _ I1 h1) fun vu s2 ⟨z, H2, I2, rz, F, kd, kk, d, sub, hF, hD, dy, ek, dz, q⟩ => wpAny_bind (wpAny_standAt (wpAny_pure (evalPairs_nil ?_)))))
  obtain ⟨b, rfl⟩ := keyOf_ref dy ek
  cases ry
  have hob : s2.heap.get? s.heap.objs.size = some dObj0 := (I2.hok _ _ hD).1
  refine ⟨[(kk, b, vu)], ⟨rfl, rfl, key_is I2 (dp_mono sub dy) ek, trivial⟩, ⟨dObj0, #[], 0, hob, ⟨rfl, rfl, rfl⟩, rfl, rfl, fun x hx => absurd hx (by simp), List.nodup_nil⟩, fun h' tk dd hsb => ?_⟩
  obtain ⟨o', es', ep', z1, z2, z3, z4, z5, z6⟩ := dd
  have I3 : Inv X pins σ (upd H2 s.heap.objs.size (dHO s.heap.objs.size o')) { s2 with heap := h', toks := tk } :=
    I2.write (x := s.heap.objs.size) (e := s.heap.objs.size) (by rw [hD]; exact True.intro) (.inl rfl) (fun c w hc hw => (hsb.2 c hc).trans hw) ⟨o', z1⟩ (ext_ok z1)
  exact wpAny_pure ⟨.ref _, _, I3, rfl, q _ ⟨sysD, by simp [sl_eq], o', es', ep', _, upd_same, z2, z3, z4, z6, .cons ⟨ek, dy, z, rz, dz⟩ .nil⟩⟩
def dOne (fk fv : M PyData) : M Ent := bnd fk fun kd => bnd fv fun d => match keyOf kd with
  | some _ => ret (.md [(kd, d)])
  | none => fun _ => none
theorem rx_dOne {fk fv : M PyData} (hr : Room k X.A) (hk : RE X kx fk) (hv : RE X vx fv) : RX X (.Dict [some kx] [vx] pos) (dOne fk fv) := by
  obtain ⟨tk, pk, kk⟩ := hk.ex
  obtain ⟨tv, pv, kv⟩ := hv.ex
  refine ⟨_, pe_dOne hr pk pv, fun σ H F r en r' Q S e hQ => ?_⟩
  obtain ⟨kd, r1, e1, e⟩ := bnd_some e
  obtain ⟨d, r2, e2, e⟩ := bnd_some e
  cases hkey : keyOf kd with
  | none => simp only [hkey] at e; cases e
  | some key =>
    simp only [hkey] at e
    cases ret_some e
    intro D hD sysD
    have px := Px.newH S.sub (dHO D dObj0) hD
    have nD : ¬ OwnAt r σ D := fun z => by
      obtain ⟨_, u, hu⟩ := S.has z
      rw [hD] at hu
      cases hu
    refine kk σ _ F r kd r1 _ (S.px px) e1 fun y F1 H1 S1 G1 D1 => ?_
    refine kv σ H1 F1 r1 d _ _ S1 e2 fun z F2 H2 S2 G2 D2 => ?_
    have G12 := G1.trans G2
    have h0 : (upd H D (dHO D dObj0)) D ≠ none := by rw [upd_same]; exact fun z => nomatch z
    have hF2 : F2 D = none := (G12.nf D h0 nD).trans (S.sub.free hD)
    have hH2 : H2 D = some (dHO D dObj0) := G12.keep D _ upd_same nD
    have no2 : ¬ OwnAt r' σ D := fun z => (G12.own D z).elim nD h0
    have Gx : Go σ r F H σ r' F2 H2 := (Go.px px).trans G12
    refine ⟨F2, kd, key, d, S2.sub, hF2, hH2, dp_mono G2.same D1, hkey, D2, fun ob hob => ?_⟩
    refine hQ _ F2 _ (sr_updD S2 hF2 no2) ⟨Gx.same, Gx.nf, fun b o hb hn => ?_, Gx.own⟩ ⟨.md hF2 hob, fun a _ z => ?_⟩
    · rw [upd_ne fun z => by rw [z, hD] at hb; cases hb]
      exact Gx.keep b o hb hn
    · cases z
      exact ⟨.inr hD, no2⟩
end
end G65
namespace G65
open PySem PySem.Spec PyProof.Rows L2

/-! ### isinstance(x, (A, B)) -/
section
variable {X : Cx} {e : Expr} {f : M PyData} {p q q2 pt pos : Pos} {T T2 : String} {kt : Nat}
theorem kit_isi2 {K : PySem.W.Frag} {d : PyData} (hT : isiN T = true) (hT2 : isiN T2 = true) (hd : ∀ kvs, d ≠ .dict kvs) : PySem.W.kitAny K (.type (tyN d)) [.type T, .type T2] = some (isiT T d || isiT T2 d) := by
  unfold PySem.W.kitAny
  rw [kit_isi hT hd]
  cases h : isiT T d with
  | true => rfl
  | false =>
    show PySem.W.kitAny K (.type (tyN d)) [.type T2] = _
    unfold PySem.W.kitAny
    rw [kit_isi hT2 hd]
    cases isiT T2 d <;> rfl
theorem re_isi2 (hT : isiN T = true) (hT2 : isiN T2 = true) (ha : RE X e f) (hg : Gl X "isinstance") (hm : X.mg "isinstance" = none) (hgT : Gl X (Str.ofString T)) (hmT : X.mg (Str.ofString T) = none) (hbT : bootBuiltins (Str.ofString T) = some (.type T))
    (hgT2 : Gl X (Str.ofString T2)) (hmT2 : X.mg (Str.ofString T2) = none) (hbT2 : bootBuiltins (Str.ofString T2) = some (.type T2))
    (hn : Str.ofString T ≠ "__name__" := by decide) (hdb : (Str.ofString T == ("__debug__" : Str)) = false := by decide) (hn2 : Str.ofString T2 ≠ "__name__" := by decide) (hdb2 : (Str.ofString T2 == ("__debug__" : Str)) = false := by decide)
    (hs1 : starEach [e, .Tuple [.Name (Str.ofString T) q, .Name (Str.ofString T2) q2] kt pt] X.env = (false, eval e X.env) :: starEach [.Tuple [.Name (Str.ofString T) q, .Name (Str.ofString T2) q2] kt pt] X.env := by rfl)
    (hs2 : starEach [.Tuple [.Name (Str.ofString T) q, .Name (Str.ofString T2) q2] kt pt] X.env = (false, eval (.Tuple [.Name (Str.ofString T) q, .Name (Str.ofString T2) q2] kt pt) X.env) :: starEach [] X.env := by rfl)
    (hs3 : starEach [.Name (Str.ofString T) q, .Name (Str.ofString T2) q2] X.env = (false, eval (.Name (Str.ofString T) q) X.env) :: starEach [.Name (Str.ofString T2) q2] X.env := by rfl)
    (hs4 : starEach [.Name (Str.ofString T2) q2] X.env = (false, eval (.Name (Str.ofString T2) q2) X.env) :: starEach [] X.env := by rfl)
    (hpl : (backTo pos (starEach [.Tuple [.Name (Str.ofString T) q, .Name (Str.ofString T2) q2] kt pt] X.env)).any (·.1) = false := by rfl) :
    RE X (.Call (.Name "isinstance" p) [e, .Tuple [.Name (Str.ofString T) q, .Name (Str.ofString T2) q2] kt pt] [] pos) (bnd f fun d => ret (.bool (isiT T d || isiT T2 d))) := by
  obtain ⟨t, x, k⟩ := ha.ex
  refine ⟨_, pe_callB call_isiT hg hm PyProof.Rows.boot_isinstance (pa_cons x (pa_cons (pe_tup (pa_cons (pe_bltn (v := .ty T) hgT hmT hbT rfl hn hdb) (pa_cons (pe_bltn (v := .ty T2) hgT2 hmT2 hbT2 rfl hn2 hdb2) pa_nil hs4) hs3)) pa_nil hs2) hs1) (by decide) (by decide) hs1 hpl, fun σ H F r d r' Q S e hQ => ?_⟩
  obtain ⟨d1, r1, e1, e⟩ := bnd_some e
  cases ret_some e
  refine k σ H F r d1 _ _ S e1 fun v F1 H1 S1 G1 D1 => ?_
  refine ⟨by rw [sl_eq]; exact Nat.le_of_ble_eq_true rfl, fun tp ht => ?_⟩
  have px := Px.newH S1.sub (.tup [.ty T, .ty T2]) ht
  exact ⟨v, tp, [.ty T, .ty T2], .type (tyN d1), [.type T, .type T2], isiT T d1 || isiT T2 d1, rfl, upd_same, .cons (.ty _) (.cons (.ty _) .nil), tyx_of px.sub D1, kit_isi2 hT hT2 (dp_nodict D1), hQ _ F1 _ (S1.px px) (G1.trans (.px px)) (.bl _)⟩
end
/-! ### str(i) -/
def strD : List PyData → Option PyData
  | [.int i] => if i.natAbs.log2 < 1920 then some (.str (toString i)) else none
  | _ => none
theorem cl_str {X : Cx} : ClOk X (.type "str") strD := by
  refine ⟨_, call_str_int, fun vs ds d F H Q s D e hQ => ?_⟩
  unfold strD at e
  split at e
  · split at e
    · rename_i hz
      cases e
      cases D with
      | cons D1 D2 =>
        cases D2
        cases D1
        exact ⟨_, rfl, hz, hQ _ F H (.refl s) (.str _)⟩
    · cases e
  · cases e
/-! ### x[::-1] -/
section
open HT
variable {P : Program} {w : World} {A : Around} {E : Value → Shared → Prop} {s : Shared}
theorem applied_rev {sl : Addr} {vs : Value} {n : Nat} {Q : Int × Int × Nat → Shared → Prop} (hs : s.heap.IsSliceOf sl .none .none vs) (pv : IsPart vs (some (-1))) (h : Q ((n : Int) - 1, -1, n) s) : wpAny (model P w) A (Builtin.Slice.sliceApplied (.ref sl) (pure (n : Int))) Q E s := by
  obtain ⟨os, hos, hcs, hds⟩ := id hs
  unfold Builtin.Slice.sliceApplied Builtin.Slice.sliceFields
  refine wpAny_bind (wpAny_bind (wpAny_field hos hds (x := .none) rfl (wpAny_bind (wpAny_field hos hds (x := .none) rfl (wpAny_bind (wpAny_field hos hds (x := vs) rfl (wpAny_pure ?_)))))))
  refine wpAny_bind (slicePart_ pv ?_)
  show wpAny _ _ (if ((-1 : Int) == 0) = true then _ else _) _ _ s
  rw [if_neg (by decide)]
  refine wpAny_bind (slicePart_none (wpAny_bind (slicePart_none (wpAny_bind (wpAny_pure ?_)))))
  show wpAny _ _ (pure ((n : Int) - 1, (-1 : Int), Builtin.Slice.slicePlaces ((n : Int) - 1) (-1) (-1))) _ _ s
  have e : Builtin.Slice.slicePlaces ((n : Int) - 1) (-1) (-1) = n := by
    unfold Builtin.Slice.slicePlaces
    rw [if_neg (by decide)]
    by_cases h0 : (n : Int) - 1 > -1
    · rw [if_pos h0, show (-(-1) : Int) = 1 by decide, Int.ediv_one]
      omega
    · rw [if_neg h0]
      omega
  rw [e]
  exact wpAny_pure h
theorem pick_rev (xs : Array Value) : ((List.range xs.size).filterMap fun (m : Nat) => xs[(((xs.size : Nat) : Int) - 1 + (m : Int) * (-1)).toNat]?).toArray = xs.toList.reverse.toArray := by
  have e : (fun (m : Nat) => xs[(((xs.size : Nat) : Int) - 1 + (m : Int) * (-1)).toNat]?) = (fun k => xs[k]?) ∘ fun m => xs.size - 1 - m := by
    funext m
    show xs[(((xs.size : Nat) : Int) - 1 + (m : Int) * (-1)).toNat]? = xs[xs.size - 1 - m]?
    congr 1
    omega
  rw [e, ← List.filterMap_map, PySem.W.krv_range, List.filterMap_reverse, PySem.W.krv_all]
theorem tuple_rev {t sl : Addr} {items : Array Value} {vs : Value} {Q : Value → Shared → Prop} (ht : IsTup s.heap t items) (hs : s.heap.IsSliceOf sl .none .none vs) (pv : IsPart vs (some (-1)))
    (h : Q (.ref s.heap.objs.size) { s with heap := s.heap.push { cls := .type "tuple", data := .seq items.toList.reverse.toArray } }) (hsz : items.size ≤ sizeLine) : wpAny (model P w) A (getItem (.ref t) (.ref sl)) Q E s := by
  have fits : sizeOk (.seq items.toList.reverse.toArray) := by
    show items.toList.reverse.toArray.size ≤ sizeLine
    rw [List.size_toArray, List.length_reverse, Array.length_toList]
    exact hsz
  obtain ⟨os, hos, hcs, hds⟩ := id hs
  have hTs : s.TypeIs (.ref sl) "slice" := ⟨os, hos, hcs⟩
  unfold getItem
  try with_reducible refine wpAny_holding ?_
  first | refine wpAny_bind (wpAny_pure ?_) | skip
  refine wpAny_bind (wpAny_sequenceKey ht.typeIs (by decide) ?_)
  refine wpAny_bind (wpAny_callSpecial?_slot (name := Str.ofString "__getitem__") ht.typeIs PyProof.Rows.slot_tuple_getitem (wpAny_call_entry PyProof.Rows.slot_tuple_getitem ht.typeIs entry_tuple_getitem ?_ (args_tuple_getitem _ _)))
  show wpAny _ _ (Builtin.Tuple.tupleItemsOf (.ref t) >>= _) _ _ s
  refine wpAny_bind (tupleItemsOf_ ht ?_)
  refine wpAny_bind (wpAny_typeOf hTs ?_)
  rw [if_pos (by decide)]
  refine wpAny_bind (applied_rev hs pv ?_)
  have hno : ¬ (((((items.size : Nat) : Int) - 1) == 0 && (-1 : Int) == 1 && items.size == items.size) = true) := by simp
  show wpAny _ _ (if ((((items.size : Nat) : Int) - 1) == 0 && (-1 : Int) == 1 && items.size == items.size) = true then _ else _) _ _ s
  rw [if_neg hno, pick_rev]
  first
    | exact wpAny_bind (m := Builtin.Tuple.tupleExact _) (wpAny_newObj_type (wpAny_pure ⟨_, rfl, wpAny_pure h⟩) fits)
    | exact wpAny_bind (m := Builtin.Tuple.tupleExact _) (wpAny_newObj_type (wpAny_bind (wpAny_pure (wpAny_pure ⟨_, rfl, wpAny_pure h⟩))) fits)
    | exact wpAny_bind (wpAny_bind (m := Builtin.Tuple.tupleExact _) (wpAny_newObj_type (wpAny_pure (wpAny_pure ⟨_, rfl, wpAny_pure h⟩)) fits))
    | exact wpAny_bind (wpAny_bind (m := Builtin.Tuple.tupleExact _) (wpAny_newObj_type (wpAny_pure ⟨_, rfl, wpAny_pure h⟩) fits))
end
def tRevT (K : PySem.W.Frag) (te : TE) : TE := fun σ H Q => te σ H fun x H1 => ∃ a xs, x = .ref a ∧ SqT K H1 a xs ∧ ∀ p, H1 p = none → Q (.ref p) (upd H1 p (.tup xs.reverse))
theorem vals_rev : ∀ {xs : List V} {us : List Value}, Vals xs us → Vals xs.reverse us.reverse
  | _, _, .nil => .nil
  | _, _, .cons r t => by
    rw [List.reverse_cons, List.reverse_cons]
    exact (vals_rev t).append (.cons r .nil)
section
variable {X : Cx} {e : Expr} {f : M PyData} {k : Nat} {p1 p2 p3 pos : Pos}
theorem pe_revT {te : TE} (he : PE X e te) : PE X (.Subscript e (.Slice none none (some (.UnaryOp .USub (.Constant (.int 1) k p1) p2)) p3) pos) (tRevT X.K te) := by
  refine ⟨fun pins s σ H Q I h => ?_⟩
  refine Subscript_ (thn (he.run pins s σ H _ I h) fun v sA ⟨x, HA, IA, rA, a, xs, ex, hx, q⟩ => ?_)
  subst ex
  cases rA
  have hst : PO X (some (.UnaryOp .USub (.Constant (.int 1) k p1) p2)) (tPart (tUn (rU fun i => .int (-i)) (tC (.int 1)))) := po_some (pe_un un_neg pe_int)
  refine wpAny_Slice (thn (po_none.run pins sA σ HA (fun o HB => o = none ∧ HB = HA) IA ⟨rfl, rfl⟩) fun vl sB ⟨l, HB, IB, pl, el, eB⟩ => ?_)
  subst el eB
  refine thn (po_none.run pins sB σ HB (fun o HC => o = none ∧ HC = HB) IB ⟨rfl, rfl⟩) fun vu sC ⟨u, HC, IC, pu, eu, eC⟩ => ?_
  subst eu eC
  refine thn (hst.run pins sC σ HC (fun o HD => o = some (-1) ∧ HD = HC) IC ⟨1, rfl, -1, rfl, rfl, rfl⟩) fun vs sD ⟨o, HD, ID, ps, eo, eD⟩ => ?_
  subst eo eD
  cases pl
  cases pu
  have IE : Inv X pins σ HD { sD with heap := sD.heap.push { cls := .type "slice", data := .fields #[.none, .none, vs] } } := ID.kept (t' := sD.toks) fun b ob q => Heap.get?_push_of_some _ q
  obtain ⟨its, r, ht, hz⟩ := IE.tuple hx
  have hlen := r.length
  show wpAny (model X.prog X.w) X.A (subscriptTail e (.Slice none none (some (.UnaryOp .USub (.Constant (.int 1) k p1) p2)) p3) (.ref a) (.ref sD.heap.objs.size)) (EP X pins σ Q) X.xe { sD with heap := sD.heap.push { cls := .type "slice", data := .fields #[.none, .none, vs] } }
  refine tail_any (ops := [.ref a, .ref sD.heap.objs.size]) ht.typeIs PyProof.Rows.slot_tuple_getitem.lookup ?_ (by with_unfolding_all rfl)
  refine tuple_rev ht (Heap.IsSliceOf.new _ .none .none vs) ps ?_ (by rw [List.size_toArray]; omega)
  refine ⟨.ref _, _, IE.laid (t' := sD.toks) (o := .tup xs.reverse) (fun b ob q => Heap.get?_push_of_some _ q) (Nat.le_refl _) ⟨by rw [List.length_reverse]; exact hz, its.reverse, vals_rev r, ?_⟩, rfl, q _ (IE.hok.fresh (Nat.le_refl _))⟩
  exact IsTup.new _ _
theorem PE.or {e : Expr} {t1 t2 : TE} (h1 : PE X e fun σ H Q => t1 σ H Q) (h2 : PE X e fun σ H Q => t2 σ H Q) : PE X e fun σ H Q => t1 σ H Q ∨ t2 σ H Q := ⟨fun pins s σ H Q I h => h.elim (h1.run pins s σ H Q I) (h2.run pins s σ H Q I)⟩
def revD : PyData → Option PyData
  | .list xs => some (.list xs.reverse)
  | .tuple xs => some (.tuple xs.reverse)
  | _ => none
theorem re_rev (he : RE X e f) : RE X (.Subscript e (.Slice none none (some (.UnaryOp .USub (.Constant (.int 1) k p1) p2)) p3) pos) (uop revD f) := by
  have pt := he.pe
  refine ⟨_, PE.or (pe_revL pt) (pe_revT pt), fun σ H F r d r' Q S e hQ => ?_⟩
  obtain ⟨d1, r1, e1, e⟩ := bnd_some e
  obtain ⟨d2, e2, e3⟩ := lft_some e
  cases e3
  cases d1 with
  | list xs =>
    cases e2
    left
    refine ⟨F, r, _, _, S, e1, fun v F1 H1 S1 G1 D1 => ?_⟩
    cases D1 with
    | @lst a vs _ h1 h2 =>
      refine ⟨a, vs, rfl, S1.sub.seq h1, fun p hp => ?_⟩
      have px := Px.new S1.sub (.lst vs.reverse) hp
      exact hQ _ _ _ (S1.px px) (G1.trans (.px px)) (.lst (.inl (.inl upd_same)) (dpAll_mono px.same h2.reverse))
  | tuple xs =>
    cases e2
    right
    refine ⟨F, r, _, _, S, e1, fun v F1 H1 S1 G1 D1 => ?_⟩
    cases D1 with
    | @tup a vs _ h1 h2 =>
      refine ⟨a, vs, rfl, same_seqT S1.sub h1, fun p hp => ?_⟩
      have px := Px.new S1.sub (.tup vs.reverse) hp
      exact hQ _ _ _ (S1.px px) (G1.trans (.px px)) (.tup (.inl (.inl upd_same)) (dpAll_mono px.same h2.reverse))
  | _ => cases e2
end
/-! ### xs * k, xs a list of one's own -/
def slX (f : M PyData) (l u : M (Option Int)) : M Ent := bnd f fun x => bnd l fun i => bnd u fun j => match x with
  | .list xs => ret (.ml (cutD xs i j))
  | _ => fun _ => none
def mulX (f : M Ent) (g : M PyData) : M Ent := bnd f fun en => bnd g fun d => match en, d with
  | .ml xs, .int k => if 0 ≤ k ∧ k ≤ 1000 ∧ xs.length ≤ 1000 then ret (.ml (List.replicate k.toNat xs).flatten) else fun _ => none
  | _, _ => fun _ => none
section
variable {X : Cx} {a b : Expr} {f0 : M Ent} {f g : M PyData} {l u : M (Option Int)} {lo hi : Option Expr} {pos p2 : Pos}
theorem rx_slL (ha : RE X a f) (hl : RO X lo l) (hu : RO X hi u) : RX X (.Subscript a (.Slice lo hi none p2) pos) (slX f l u) := by
  obtain ⟨t, x, k⟩ := ha.ex
  obtain ⟨tl, xl, kl⟩ := hl.ex
  obtain ⟨tu, xu, ku⟩ := hu.ex
  refine ⟨_, pe_slice sl_list x xl xu, fun σ H F r en r' Q S e hQ => ?_⟩
  obtain ⟨d1, r1, e1, e⟩ := bnd_some e
  obtain ⟨i, r2, e2, e⟩ := bnd_some e
  obtain ⟨j, r3, e3, e⟩ := bnd_some e
  refine k σ H F r d1 r1 _ S e1 fun v F1 H1 S1 G1 D1 => ?_
  refine kl σ H1 F1 r1 i r2 _ S1 e2 fun F2 H2 S2 G2 => ?_
  refine ku σ H2 F2 r2 j r3 _ S2 e3 fun F3 H3 S3 G3 => ?_
  have G := G1.trans (G2.trans G3)
  have D := dp_mono (G2.trans G3).same D1
  cases D with
  | @lst c xs ds h1 h2 =>
    cases ret_some e
    refine ⟨c, xs, rfl, S3.sub.seq h1, fun p hp => ?_⟩
    obtain ⟨w1, w2, w3⟩ := own_new S3 G hp (cutD_dp h2 i j)
    exact hQ _ _ _ w1 w2 w3
  | _ => cases e
theorem rep_len {γ : Type} (xs : List γ) : ∀ n : Nat, (List.replicate n xs).flatten.length = n * xs.length
  | 0 => by simp
  | n + 1 => by rw [List.replicate_succ, List.flatten_cons, List.length_append, rep_len xs n, Nat.succ_mul, Nat.add_comm]
theorem rx_mulL (ha : RX X a f0) (hb : RE X b g) : RX X (.BinOp a .Mult b pos) (mulX f0 g) := by
  obtain ⟨t, pa, ka⟩ := ha.ex
  obtain ⟨tb, pb, kb⟩ := hb.ex
  refine ⟨_, pe_op op_rep pa pb, fun σ H F r en r' Q S e hQ => ?_⟩
  obtain ⟨e0, r1, e1, e⟩ := bnd_some e
  obtain ⟨d, r2, e2, e⟩ := bnd_some e
  refine ka σ H F r e0 r1 _ S e1 fun v F1 H1 S1 G1 R1 => ?_
  refine kb σ H1 F1 r1 d r2 _ S1 e2 fun z F2 H2 S2 G2 D2 => ?_
  cases e0 with
  | ml xs =>
    cases D2 with
    | int k =>
      simp only at e
      split at e
      · rename_i hz
        cases ret_some e
        obtain ⟨R, fr⟩ := R1
        cases R with
        | @ml c vs _ h1 h2 h3 =>
          obtain ⟨_, no⟩ := fr c rfl rfl
          have hk := G2.keep c _ h2 no
          have h3' := dpAll_mono G2.same h3
          have hm : vs.length * k.toNat ≤ 1000 * 1000 := Nat.mul_le_mul (by rw [h3.length]; exact hz.2.2) (by omega)
          refine ⟨c, k, vs, rfl, rfl, hk, by omega, by omega, by rw [sl_eq]; omega, fun p hp => ?_⟩
          obtain ⟨w1, w2, w3⟩ := own_new S2 (G1.trans G2) hp (h3'.rep k.toNat)
          exact hQ _ _ _ w1 w2 w3
      · cases e
    | _ => cases e
  | _ => cases D2 <;> cases e
end
end G65
namespace G65
open PySem PySem.Spec PyProof.Rows L2
/-! ### what cannot raise, where something may -/
section
variable {X : Cx} {e : Expr} {es : List Expr} {n : Nat} {st : Stmt} {sts : List Stmt}
theorem ps_nox {t : TS} (h : PS X.nox st t) : PS X st t := ⟨fun pins s σ H D I hw =>
  wpAny_mono (h.run pins s σ H D (I.wish _) hw) (fun _ _ q => q.unwish) fun _ _ z => False.elim z⟩
theorem pa_nox {t : TA} (h : PA X.nox es t) : PA X es t := ⟨fun pos pins s σ H Q I hw =>
  wpAny_mono (h.run pos pins s σ H Q (I.wish _) hw) (fun _ _ ⟨vs, H', I', r, q⟩ => ⟨vs, H', I'.unwish, r, q⟩) fun _ _ z => False.elim z⟩
theorem RE.up {f : M PyData} (h : RE X.nox e f) : RE X e f := let ⟨t, x, k⟩ := h.ex; ⟨t, x.nox, k⟩
theorem RX.up {f : M Ent} (h : RX X.nox e f) : RX X e f := let ⟨t, x, k⟩ := h.ex; ⟨t, x.nox, k⟩
theorem RT.up {f : M Bool} (h : RT X.nox e f) : RT X e f := let ⟨t, x, k⟩ := h.ex; ⟨t, x.nox, k⟩
theorem RA.up {f : M (List PyData)} (h : RA X.nox es f) : RA X es f := let ⟨t, x, k⟩ := h.ex; ⟨t, pa_nox x, k⟩
theorem RS.up {f : M Out} (h : RS X.nox n st f) : RS X n st f := let ⟨t, x, k⟩ := h.ex; ⟨t, ps_nox x, k⟩
theorem RSs.up {f : M Out} (h : RSs X.nox n sts f) : RSs X n sts f := let ⟨t, x, k⟩ := h.ex; ⟨t, x.nox, k⟩
end
/-! ### what raises: Φ tells the exception -/
abbrev Phi := Value → Option Addr → Hp → Prop
structure XEx (X : Cx) (W : WX) (Φ : Phi) (e : Expr) (x : Rho → Bool) : Prop where
  ex : ∃ t : TE, PE X e t ∧ ∀ (σ : St) (H F : Hp) (r : Rho) (Q : VK), SR X.prog X.w X.K F H σ r → x r = true →
    (∀ cls d σ' r' F' H', SR X.prog X.w X.K F' H' σ' r' → Go σ r F H σ' r' F' H' → Φ cls d H' → W cls d σ' H') → t σ H Q
structure XS (X : Cx) (W : WX) (Φ : Phi) (st : Stmt) (x : Rho → Bool) : Prop where
  ex : ∃ t : TS, PS X st t ∧ ∀ (σ : St) (H F : Hp) (r : Rho) (D : Ends), SR X.prog X.w X.K F H σ r → x r = true →
    (∀ cls d σ' r' F' H', SR X.prog X.w X.K F' H' σ' r' → Go σ r F H σ' r' F' H' → Φ cls d H' → W cls d σ' H') → t D σ H
structure XSs (X : Cx) (W : WX) (Φ : Phi) (sts : List Stmt) (x : Rho → Bool) : Prop where
  ex : ∃ t : TS, PSs X sts t ∧ ∀ (σ : St) (H F : Hp) (r : Rho) (D : Ends), SR X.prog X.w X.K F H σ r → x r = true →
    (∀ cls d σ' r' F' H', SR X.prog X.w X.K F' H' σ' r' → Go σ r F H σ' r' F' H' → Φ cls d H' → W cls d σ' H') → t D σ H
def xSeq (m : M Out) (x : Rho → Bool) : Rho → Bool := fun r => match m r with
  | some (.nx, r') => x r'
  | _ => false
def xIf (m : M Bool) (x : Rho → Bool) : Rho → Bool := fun r => match m r with
  | some (true, r') => x r'
  | _ => false
section
variable {X : Cx} {W : WX} {Φ : Phi} {e : Expr} {n : Nat} {st : Stmt} {sts as bs : List Stmt} {x : Rho → Bool} {m : M Out} {p : M Bool} {pos : Pos}
theorem pss_never : PSs X sts (fun _ _ _ => False) := ⟨fun _ _ _ _ _ _ h => False.elim h⟩
theorem xss_cons (h1 : RS X n st m) (h2 : XSs X W Φ sts x) : XSs X W Φ (st :: sts) (xSeq m x) := by
  obtain ⟨t, p, k⟩ := h1.ex
  obtain ⟨u, q, l⟩ := h2.ex
  refine ⟨_, pss_cons p q, fun σ H F r D S e hW => ?_⟩
  unfold xSeq at e
  split at e
  · rename_i r1 e1
    refine k σ H F r .nx r1 _ S e1 fun σ1 F1 H1 S1 G1 P1 => ?_
    exact l σ1 H1 F1 r1 D S1 e fun cls d σ2 r2 F2 H2 S2 G2 w => hW cls d σ2 r2 F2 H2 S2 (G1.trans G2) w
  · cases e
theorem xss_now (h1 : XS X W Φ st x) : XSs X W Φ (st :: sts) x := by
  obtain ⟨t, p, k⟩ := h1.ex
  exact ⟨_, pss_cons p pss_never, fun σ H F r D S e hW => k σ H F r _ S e hW⟩
theorem xs_if {c : Expr} (hc : RT X c p) (ha : XSs X W Φ as x) : XS X W Φ (.If c as bs pos) (xIf p x) := by
  obtain ⟨t, q, k⟩ := hc.ex
  obtain ⟨u, y, l⟩ := ha.ex
  refine ⟨_, ps_if q y pss_never, fun σ H F r D S e hW => ?_⟩
  unfold xIf at e
  split at e
  · rename_i r1 e1
    refine k σ H F r true r1 _ S e1 fun F1 H1 S1 G1 => ?_
    rw [if_pos rfl]
    exact l σ H1 F1 r1 D S1 e fun cls d σ2 r2 F2 H2 S2 G2 w => hW cls d σ2 r2 F2 H2 S2 (G1.trans G2) w
  · cases e
theorem xs_ret (h : XEx X W Φ e x) : XS X W Φ (.Return (some e) pos) x := by
  obtain ⟨t, q, k⟩ := h.ex
  exact ⟨_, ps_ret q, fun σ H F r D S e hW => k σ H F r _ S e hW⟩
end
/-! ### defs that raise -/
def spX (P : Program) (w : World) (K : PySem.W.Frag) (n : Nat) (exc : List PyData → Bool) (Φ : Phi) : Sp := fun vs H _ E => ∃ F ds, ds.length = n ∧ Same F H ∧ DpAll K F vs ds ∧ exc ds = true ∧ ∀ cls d F' H', Px F H F' H' → Φ cls d H' → E cls d H'
def runX (m : Nat) (x : Rho → Bool) : List PyData → Bool := fun ds => x (ds.map (fun d => some (Ent.d d)) ++ List.replicate (m - ds.length) none)
def xCall (g : M (List PyData)) (exc : List PyData → Bool) : Rho → Bool := fun r => match g r with
  | some (ds, _) => exc ds
  | _ => false
section
variable {P : Program} {w : World} {K : PySem.W.Frag} {mg : Str → Option Value} {base : Heap}
theorem fnX {x : Str} {st : Stmt} {f : Addr} {fd : FuncData} {N ps : List Str} {k : Nat} {xM : Rho → Bool} {Φ : Phi} (F : FnP K x st f fd) (S : FnScope N ps (defScope st))
    (h : ∀ (cdv : Value) (A : Around) (outer : List Env) (s : Shared) (H : Hp) (E : XK), Room k (A.deeper (envOfC x (defScope st) s.heap.objs.size f cdv)) → XSs (cxOf (L2N.CX P w) P w K mg base N x (defScope st) f cdv A outer s H E) (fun cls d _ H' => E cls d H') Φ (defBody st) xM) :
    FnOk P w K mg base (L2N.CX P w) (k + 1) f fd ps (spX P w K ps.length (runX N.length xM) Φ) := by
  refine F.ok S (fun vs H Q E ⟨Fh, ds, h1, h2, h3, _⟩ => by rw [h3.length, h1]) fun cdv A outer s H vs Q E hr hsp => ?_
  obtain ⟨Fh, ds, hl, hs, hD, hd, hE⟩ := hsp
  obtain ⟨t, pt, kt⟩ := (h cdv A outer s H E hr).ex
  refine ⟨t, pt, ?_⟩
  obtain ⟨S0, no⟩ := sr_start0 (P := P) (w := w) (N := N) hs hD
  refine kt _ H Fh _ _ S0 hd fun cls d σ' r' F' H' S' G' w => ?_
  exact hE cls d F' H' ⟨G'.same, S'.sub, fun b o q => G'.keep b o q (no b), fun b q => G'.nf b q (no b)⟩ w
end
section
variable {X : Cx} {W : WX} {Φ : Phi} {k n : Nat} {f : Addr} {fd : FuncData} {ps : List Str} {exc : List PyData → Bool} {x : Str} {p pos : Pos} {e : Expr} {es : List Expr} {g : M (List PyData)}
theorem xe_call (tk : L2N.Takes X W) (G : FnOk X.prog X.w X.K X.mg X.base (L2N.CX X.prog X.w) k f fd ps (spX X.prog X.w X.K n exc Φ)) (hr : Room k X.A) (hg : Gl X x) (hm : X.mg x = some (.ref f)) (hk : PySem.W.keepIn X.K (.ref f) = true) (hb : Binds X.K fd ps []) (ha : RA X (e :: es) g) (hn : ∀ r ds r', g r = some (ds, r') → ds.length = n)
    (hdb : (x == ("__debug__" : Str)) = false := by decide) (he : starEach (e :: es) X.env = (false, eval e X.env) :: starEach es X.env := by rfl) (hpl : (backTo pos (starEach es X.env)).any (·.1) = false := by rfl) :
    XEx X W Φ (.Call (.Name x p) (e :: es) [] pos) (xCall g exc) := by
  obtain ⟨t, pa, ka⟩ := ha.ex
  refine ⟨_, pe_callS G hr hg hm hk hb (fun σ => L2N.passAt tk σ) pa hdb he hpl, fun σ H F r Q S e hW => ?_⟩
  unfold xCall at e
  split at e
  · rename_i ds r1 e1
    refine ka σ H F r ds r1 _ S e1 fun vs F1 H1 S1 G1 D1 => ?_
    refine ⟨F1, ds, hn _ _ _ e1, S1.sub, D1, e, fun cls d F2 H2 px w => ?_⟩
    exact hW cls d σ r1 F2 H2 (S1.px px) (G1.trans (.px px)) w
  · cases e
end
/-! ### an own exception made by its own __init__, its context None -/
theorem pmk_oexN {X : Cx} {CX : CXT} {x : Str} {e : Expr} {es : List Expr} {ta : TA} {p pos : Pos} {C fI : Addr} {k : Nat} {fd : FuncData} {ps : List Str} {sp : Sp} (T : OexC X.K C) (iC : PySem.W.findIn X.K (.ref C) "__init__" = some (some (.ref fI))) (tI : PySem.W.typeIn X.K (.ref fI) = some (.type "function"))
    (F1 : FnOk X.prog X.w X.K X.mg X.base CX k fI fd ps sp) (hr : Room (k + 1) X.A) (hb : Binds X.K fd ps []) (hx : Passes CX X (fun _ _ _ => False)) (hg : Gl X x) (hm : X.mg x = some (.ref C)) (ha : PA X (e :: es) ta)
    (hdb : (x == ("__debug__" : Str)) = false := by decide) (he : starEach (e :: es) X.env = (false, eval e X.env) :: starEach es X.env := by rfl) (hpl : (backTo pos (starEach es X.env)).any (·.1) = false := by rfl) :
    L2N.PMk X (.Call (.Name x p) (e :: es) [] pos) (tMkO C sp [] ta) := by
  intro pins s σ H Q I h
  obtain ⟨nm, q, N, bs, bm, sn, sub, ab, col, dd, k0, k1, k2, k3, k5, hC, hbm⟩ := T.cls
  refine wpAny_Call_Name_kw (ld_glob I hg hm ?_ hdb)
  refine PySem.W.callWith_K (h₀ := X.base) I.ok.mod.kin T.kC (thn (ha.run pos pins s σ H _ I h) fun us s1 ⟨vs, H1, I1, r1, hz, q1⟩ => ⟨I1.kIn, ?_⟩) he hpl
  show wpAny _ _ (call (.ref C) us) _ _ _
  obtain ⟨hp, g, dr, tk, os⟩ := s1
  generalize hA : hp.objs.size + 1 = aa at *
  have hsz : hp.objs.size ≤ aa := by rw [← hA]; exact Nat.le_succ _
  have hq := q1 aa (I1.hok.fresh hsz)
  rw [List.append_nil] at hq
  have kk : ∀ b o, hp.get? b = some o → ((hp.push (PySem.W.kdv_tup us)).push (PySem.HandSPX.excO C hp.objs.size)).get? b = some o := fun b o e => Heap.get?_push_of_some _ (Heap.get?_push_of_some _ e)
  have hget : ((hp.push (PySem.W.kdv_tup us)).push (PySem.HandSPX.excO C hp.objs.size)).get? aa = some (PySem.HandSPX.excO C hp.objs.size) := by rw [← hA]; heap_get
  have I2 : Inv X pins σ (upd H1 aa (exo aa C none)) ⟨(hp.push (PySem.W.kdv_tup us)).push (PySem.HandSPX.excO C hp.objs.size), g, dr, tk, os⟩ := I1.laid (t' := tk) (o := exo aa C none) kk hsz (exo_ok hget)
  have r2 : Vals (V.ref aa :: vs) (Value.ref aa :: us) := .cons rfl r1
  have hl : (Value.ref aa :: us ++ []).length = ps.length := by
    rw [List.append_nil, ← r2.length]
    exact F1.len _ _ _ _ hq
  have hus : us.length ≤ sizeLine := by
    rw [← Paired.length r1, sizeLine_eq]
    omega
  have b2 := hb _ (Value.ref aa :: us) I2.kIn hl
  rw [List.append_nil] at b2
  subst hA
  refine wpAny_call (PySem.HandSPX.call_own F.excBase_ValueError (fun Y => PySem.HandSPX.refsVE_contains Y bm hbm) (I1.kIn _ _ hC) (PySem.W.looks_findIn I1.kIn iC) (fun self => PySem.W.bind_fn I1.kIn self tI) hus
    (codeAny_mono (F1.run _ X.stack _ _ ⟨Value.ref (hp.objs.size + 1) :: us, []⟩ (Value.ref (hp.objs.size + 1) :: us) _ _ (fun _ _ _ => False) (hr.make C us []) (I2.env0.make C us []) b2 r2 hq) fun r s' hq' => ?_))
  cases r with
  | error er => exact hx pins σ _ _ er s' I2 hq'
  | ok fl =>
    cases fl with
    | ret u =>
      obtain ⟨v, H2, os2, bare2, un2, hok2, rv, ev, d, fs, ea, ed, hd1, q2⟩ := hq'
      subst ev
      obtain ⟨h2, g2, d2, t2, os'⟩ := s'
      obtain ⟨t0, G, J, kG, ge, hoe, na⟩ := mk_end0 (d2 := d2) (t2 := t2) I1 hsz kk un2 hok2 os2 bare2 ea ed hd1
      exact ⟨rv, ⟨hp.objs.size + 1, _, _, ⟨G, g2, d2, t2, os'⟩, _, .ref C, some d, rfl, J, kG, ge, hoe, ⟨rfl, rfl, fun vs hv => by cases hv; rfl⟩, rfl, rfl, na, rfl, bare2, raises_own T.exC T.tyC, q2⟩⟩
    | next => exact False.elim hq'
    | brk => exact False.elim hq'
    | cont => exact False.elim hq'
/-! ### raise C(e): C an own class over ValueError whose __init__ lays one field -/
def spI (C : Addr) (fn : Str) : Sp := fun vs H Q _ => ∃ (a : Addr) (y : V), vs = [.ref a, y] ∧ H a = some (exo a C none) ∧ ∀ dx, H dx = none → dx ≠ a → Q .non (upd (upd H dx (exd dx [(fn, y)])) a (exo a C (some dx)))
def PhiI (C : Addr) (fn : Str) (d0 : Int) : Phi := fun cls d H => cls = .ref C ∧ ∃ dd, d = some dd ∧ H dd = some (.xd [(fn, .int d0)])
def xRaise (g : M (List PyData)) (d0 : Int) : Rho → Bool := fun r => match g r with
  | some ([.int i], _) => decide (i = d0)
  | _ => false
theorem hp_end {H : Hp} {a dx : Addr} {u v : HO} {fs : List (Str × V)} (ha : H a = none) (hne : dx ≠ a) : upd (del (upd (upd (upd H a u) dx (exd dx fs)) a v) a) dx (.xd fs) = upd H dx (.xd fs) := by
  funext b
  by_cases h1 : b = dx
  · subst h1
    rw [upd_same, upd_same]
  · rw [upd_ne h1, upd_ne h1]
    by_cases h2 : b = a
    · subst h2
      rw [del_same, ha]
    · rw [del_ne h2, upd_ne h2, upd_ne h1, upd_ne h2]
section
variable {X : Cx} {W : WX} {k : Nat} {C fI : Addr} {fd : FuncData} {ps : List Str} {x fn : Str} {p pos pos2 : Pos} {e : Expr} {g : M (List PyData)} {d0 : Int}
theorem xs_raise (hc : X.calm = true) (tk : L2N.Takes X W) (T : OexC X.K C) (iC : PySem.W.findIn X.K (.ref C) "__init__" = some (some (.ref fI))) (tI : PySem.W.typeIn X.K (.ref fI) = some (.type "function"))
    (F1 : FnOk X.prog X.w X.K X.mg X.base CX0 k fI fd ps (spI C fn)) (hr : Room (k + 1) X.A) (hb : Binds X.K fd ps []) (hg : Gl X x) (hm : X.mg x = some (.ref C)) (ha : RA X [e] g)
    (hdb : (x == ("__debug__" : Str)) = false := by decide) (he : starEach [e] X.env = (false, eval e X.env) :: starEach [] X.env := by rfl) (hpl : (backTo pos (starEach [] X.env)).any (·.1) = false := by rfl) :
    XS X W (PhiI C fn d0) (.Raise (some (.Call (.Name x p) [e] [] pos)) none pos2) (xRaise g d0) := by
  obtain ⟨t, pa, ka⟩ := ha.ex
  refine ⟨_, L2N.ps_raise hc tk (pmk_oexN T iC tI F1 hr hb pass0 hg hm pa hdb he hpl), fun σ H F r D S e hW => ?_⟩
  unfold xRaise at e
  split at e
  · rename_i i r1 e1
    have hi := of_decide_eq_true e
    subst hi
    refine ka σ H F r _ r1 _ S e1 fun vs F1 H1 S1 G1 D1 => ?_
    cases D1 with
    | cons D1 D2 =>
      cases D2
      cases D1
      refine ⟨by simp, fun a hn => ⟨a, _, rfl, upd_same, fun dx hdx hne => ⟨rfl, dx, _, upd_same, by rw [upd_ne hne, upd_same], ?_, ?_⟩⟩⟩
      · rw [upd_ne hne] at hdx
        exact hdx
      · rw [upd_ne hne] at hdx
        rw [hp_end hn hne]
        have px := Px.newH S1.sub (.xd [(fn, .int i)]) hdx
        exact hW _ _ σ r1 _ _ (S1.px px) (G1.trans (.px px)) ⟨rfl, dx, rfl, upd_same⟩
  · cases e
end
/-! ### the class's own __init__: self.f = y -/
section
variable {P : Program} {w : World} {K : PySem.W.Frag} {mg : Str → Option Value} {base : Heap}
theorem fnI {x qual : Str} {params : Arguments} {scope : Scope} {f C : Addr} {fd : FuncData} {a y fn : Str} {p1 p2 p3 pos : Pos} {k : Nat} (F : FunD K x qual params [.Assign [.Attribute (.Name a p1) fn p2] (.Name y p3) pos] scope [] [] f fd) (S : FnScope [a, y] [a, y] scope)
    (T : OexC K C) (hno : PySem.W.findIn K (.ref C) fn = some none) (va : Vis scope a) (vy : Vis scope y) (da : (a == ("__debug__" : Str)) = false := by decide) (dy : (y == ("__debug__" : Str)) = false := by decide) (ca : (a == ("__classdict__" : Str)) = false := by decide) (cy : (y == ("__classdict__" : Str)) = false := by decide) :
    FnOk P w K mg base CX0 (k + 1) f fd [a, y] (spI C fn) := by
  refine F.ok S (fun vs H Q E ⟨_, _, e, _⟩ => by rw [e]; rfl) fun cdv A outer s H vs Q E hr hsp => ?_
  obtain ⟨b, v, rfl, hb, q⟩ := hsp
  refine ⟨_, pss_one (ps_ost (pe_var (i := 0) rfl va da ca) (pe_var (i := 1) rfl vy dy cy)), ?_⟩
  exact ⟨v, rfl, .ref b, rfl, b, C, rfl, T, hno, .inl ⟨hb, fun dx h1 h2 => q dx h1 h2⟩⟩
end
/-! ### a comprehension whose iterable raises -/
section
variable {X : Cx} {W : WX} {Φ : Phi} {tg iter elt : Expr} {ifs : List Expr} {scope : Scope} {own : List (Str × Nat)} {is : List Nat} {a : Asg} {p : M Bool} {fe : M PyData} {x : Rho → Bool} {pos : Pos}
theorem xe_lc (hc : X.calm = true) (hN : X.N.Nodup) (hi : XEx X W Φ iter x) (ok : BlkOk X.N X.env.scope scope own)
    (hg : ∀ (s : Shared) (H : Hp) (C : Addr) (cl : List (Str × Addr)) (fp : List Addr), RG (X.blk s H scope (compEnvC scope cl C X.env) fp) is tg a) (ht : ∀ (s : Shared) (H : Hp) (C : Addr) (cl : List (Str × Addr)) (fp : List Addr), RTs (X.blk s H scope (compEnvC scope cl C X.env) fp) ifs p)
    (he : ∀ (s : Shared) (H : Hp) (C : Addr) (cl : List (Str × Addr)) (fp : List Addr), RE (X.blk s H scope (compEnvC scope cl C X.env) fp) elt fe) (hs : ∀ x, foldedSetIterable iter X.env x = pure x := by intro _; rfl) :
    XEx X W Φ (.ListComp elt [⟨tg, iter, ifs, 0⟩] scope pos) x := by
  obtain ⟨t, pe, k⟩ := hi.ex
  refine ⟨_, pe_lc (te := tD X.prog X.w X.K fe) (tt := tBo X.prog X.w X.K p) (g := tGa X.prog X.w X.K is a) hc hN (pi_list pe) ok (fun s H C cl fp => (hg s H C cl fp).pg) (fun s H C cl fp => (ht s H C cl fp).ex) (fun s H C cl fp => (he s H C cl fp).pe) hs, fun σ H F r Q S e hW => ?_⟩
  exact k σ H F r _ S e hW
end
theorem takes_cx {P : Program} {w : World} {K : PySem.W.Frag} {mg : Str → Option Value} {base : Heap} {N : List Str} {qual : Str} {scope : Scope} {f : Addr} {cd : Value} {A : Around} {outer : List Env} {s : Shared} {H : Hp} {E : XK} :
    L2N.Takes (cxOf (L2N.CX P w) P w K mg base N qual scope f cd A outer s H E) (fun cls d _ H => E cls d H) := L2N.takes_of rfl rfl rfl rfl
end G65
namespace G65
open PySem PySem.Spec PyProof.Rows L2
/-! ### try with several clauses: the first one is met -/
def wAs1 (K : PySem.W.Frag) (c : Value) (i : Nat) (ts : Addr → Value → Option Addr → TS) (D : Ends) : WX := fun cls d σ H =>
  PySem.W.exmOne K cls c = some true ∧ ∀ a, H a = none → ts a cls d { nx := fun σ' H' => D.nx (σ'.set i none) H', rt := D.rt, bk := fun σ' H' => D.bk (σ'.set i none) H', ct := fun σ' H' => D.ct (σ'.set i none) H' } (σ.set i (some (.ref a))) H
section
variable {X : Cx} {x n : Str} {c : Value} {i : Nat} {body suite : List Stmt} {b₀ : Stmt} {np pos pos' : Pos} {tb : WX → TS} {ts : Addr → Value → Option Addr → TS} {hds : List ExceptHandler}
theorem ps_try_as1 (hs : X.stack = X.env :: X.outer) (hf : X.env.frame = some X.env.locals) (hN : X.N.Nodup) (hi : X.N[i]? = some n) (hln : X.env.kindOf n = some .local) (hc : Names X x c)
    (hb : ∀ (W : WX) (pn : List (Addr × Obj)) (xe : Value → Shared → Prop), L2N.Takes (X.tr pn xe) W → PassesOwn (model X.prog X.w) X.A X.env xe → PSs (X.tr pn xe) body (tb W))
    (hsu : ∀ (a : Addr) (oe : Obj) (cls : Value) (d : Option Addr) (pn : List (Addr × Obj)), L2N.Zn cls d oe → (∃ vs, oe.data = .fields vs) → PSs (X.suite a ((a, oe) :: pn)) (b₀ :: suite) (ts a cls d)) :
    PS X (.Try body (.ExceptHandler (some (.Name x np)) (some n) (b₀ :: suite) pos' :: hds) [] [] pos) (fun D σ H => tb (wAs1 X.K c i ts D) D σ H) := by
  refine ⟨fun pins s σ H D I h => ?_⟩
  have ok := I.ok
  have hfr : X.A.frames = some (X.env :: X.outer) := by rw [ok.frames, hs]
  have hloc : Loc X.env.scope n := .inl hln
  refine wpAny_Try_except ?_
  refine wpAny_mono ((hb (wAs1 X.K c i ts D) (X.pn ++ pins) (fun e s₁ => wpAny (model X.prog X.w) X.A (noteFrame e X.env) (fun _ s₂ => wpAny (model X.prog X.w) X.A (setFlight e none) (fun _ s₃ =>
    wpAny (model X.prog X.w) X.A (handleBy e X.env (.ExceptHandler (some (.Name x np)) (some n) (b₀ :: suite) pos' :: hds)) (SP X pins D) X.xe s₃) X.xe s₂) X.xe s₁) (fun u s' xx => ?_) PassesOwn.looking).run [] s σ H D (I.toTry _) h) (fun f s1 hsp => ?_) (fun e s1 he => he)
  · -- the catch
    obtain ⟨a, B, sI, pins', σ', H', cls, d, rfl, J', nb, up, sky, na, os, ag, hb1, hyes⟩ := xx
    have J : Inv X pins σ' H' sI := J'.ofTry ok
    have sky' : Sky B (X.env :: X.outer) a (L2N.Zn cls d) X.env.locals s'.heap := by rw [← hs]; exact sky
    show wpAny (model X.prog X.w) X.A (noteFrame (.ref a) X.env) _ _ _
    refine L2N.Sky.land L2N.Zn.steady hfr hf sky' fun h3 fl3 up3 => ?_
    have J3 : Inv X pins σ' H' { s' with heap := h3 } := J.landed nb fl3.1 (up.trans up3) os ag
    obtain ⟨oe3, vs3, he3, hz3, hd3⟩ := fl3.there
    have notFr : ∀ {h : Heap} {o : Obj} {vs : Array Value}, h.FunFrames B (X.env :: X.outer) → h.get? a = some o → o.data = .fields vs → a ∉ frs (X.env :: X.outer) := fun {h o vs} ff e dd hm => by
      obtain ⟨_, o', e', hnf⟩ := ff.mem hm
      rw [e] at e'; cases e'
      exact hnf _ dd
    have nfr := notFr fl3.2.2.1 he3 hd3
    have nL : a ≠ X.env.locals := fun z => nfr (List.mem_filterMap.mpr ⟨X.env, List.mem_cons_self, by rw [hf, z]⟩)
    have nF : a ∉ X.fs := fun hm => by
      obtain ⟨e, he, q⟩ := List.mem_filterMap.mp hm
      exact nfr (List.mem_filterMap.mpr ⟨e, List.mem_cons_of_mem _ he, q⟩)
    have S3 := J3.suite he3 hd3 na nL nF
    refine wpAny_handleBy_cons (codeAny_handlers_test ?_) (by intro q; cases q)
    have LT : PySem.W.Looks (model X.prog X.w) h3 (typeOf (.ref a)) cls := fun A Q E s k q => wpAny_typeOf_ref (k _ _ he3) (by rw [hz3.1]; exact q)
    have LM := PySem.W.exm_one (M := model X.prog X.w) (J3.kIn) LT hb1
    have test : ∀ {Q : Value → Shared → Prop} {E : Value → Shared → Prop}, Q c { s' with heap := h3 } → wpAny (model X.prog X.w) (X.A.mark (some (.ref a))) (eval (.Name x np) X.env) Q E { s' with heap := h3 } := fun {Q E} q => by
      obtain ⟨hg, hdbg, hm | ⟨hm, hv, hnn⟩⟩ := hc
      · exact ld_glob (X := X.suite a ((a, oe3) :: (X.pn ++ pins))) S3 hg hm q hdbg
      · exact ld_blt (X := X.suite a ((a, oe3) :: (X.pn ++ pins))) S3 hg hm hv q hnn hdbg
    refine test (LM.here ?_)
    · refine codeAny_handlers_suite_as ?_
      refine HandSPX.lands_againZ fl3 fun h4 fl4 up4 => ?_
      have J4 : Inv X pins σ' H' { s' with heap := h4 } := J.landed nb fl4.1 ((up.trans up3).trans up4) os ag
      obtain ⟨oe4, vs4, he4, hz4, hd4⟩ := fl4.there
      have S4 := J4.suite he4 hd4 na nL nF
      refine store_ok (X := X.suite a ((a, oe4) :: (X.pn ++ pins))) (v := .ref a) S4 hN hi hloc rfl (fun s5 S5 => ?_) (.inr hln)
      refine wpAny_mono ((hsu a oe4 cls d (X.pn ++ pins) hz4 ⟨_, hd4⟩).run [] s5 _ H' _ S5 (hyes a na)) (fun f s6 hsp => ?_) (fun _ _ z => False.elim z)
      have end_ : ∀ {σ6 : St} {H6 : Hp} {Q : Shared → Prop}, Inv (X.suite a ((a, oe4) :: (X.pn ++ pins))) [] σ6 H6 s6 → (∀ s7, Inv X pins (σ6.set i none) H6 s7 → Q s7) →
          wpAny (model X.prog X.w) X.A (do bindName X.env n .none; unbindBehindTheSuite X.env n pos') (fun _ s7 => Q s7) X.xe s6 := fun {σ6 H6 Q} S6 hq => gone_ok (S6.unsuite ok) hN hi hln hq
      cases f with
      | next =>
        obtain ⟨σ6, H6, S6, q6⟩ := hsp
        exact end_ S6 fun s7 J7 => ⟨_, _, J7, q6⟩
      | brk =>
        obtain ⟨σ6, H6, S6, q6⟩ := hsp
        exact end_ S6 fun s7 J7 => ⟨_, _, J7, q6⟩
      | cont =>
        obtain ⟨σ6, H6, S6, q6⟩ := hsp
        exact end_ S6 fun s7 J7 => ⟨_, _, J7, q6⟩
      | ret u =>
        obtain ⟨v6, σ6, H6, S6, r6, q6⟩ := hsp
        exact end_ S6 fun s7 J7 => ⟨_, _, _, J7, r6, q6⟩
  · cases f with
    | next =>
      obtain ⟨σ', H', J', q⟩ := hsp
      exact wpAny_execs_nil ⟨σ', H', J'.ofTry ok, q⟩
    | brk =>
      obtain ⟨σ', H', J', q⟩ := hsp
      exact ⟨σ', H', J'.ofTry ok, q⟩
    | cont =>
      obtain ⟨σ', H', J', q⟩ := hsp
      exact ⟨σ', H', J'.ofTry ok, q⟩
    | ret u =>
      obtain ⟨v, σ', H', J', r, q⟩ := hsp
      exact ⟨v, σ', H', J'.ofTry ok, r, q⟩
end
end G65
/-! Iterators that end while an exception is handled. -/
namespace G65
open PySem PySem.Spec PyProof.Rows L2 HotX
section
variable {prog : Program} {w : World} {A : Around} {E : Value → Shared → Prop} {s : Shared} {x1 : Addr}
theorem hot_keep {h h' : Heap} (hot : HotAt A x1 h) (k : ∀ o vs, h.get? x1 = some o → o.data = .fields vs → vs[2]? = some .none → h'.get? x1 = some o) : HotAt A x1 h' := by
  obtain ⟨hh, o, vs, h1, h2, h3⟩ := hot
  exact ⟨hh, o, vs, k o vs h1 h2 h3, h2, h3⟩
/-- not the exception: its third field is something else -/
theorem hot_ne {h : Heap} {b : Addr} {ob : Obj} {us : Array Value} (hot : HotAt A x1 h) (e : h.get? b = some ob) (d : ob.data = .fields us) (n : us[2]? ≠ some .none) : x1 ≠ b := fun z => by
  obtain ⟨hh, o, vs, h1, h2, h3⟩ := hot
  rw [z, e] at h1
  cases h1
  rw [d] at h2
  cases h2
  exact n h3
theorem stop_hot {α : Type} {Q : α → Shared → Prop} (hot : HotAt A x1 s.heap)
    (hE : ∀ h' e, (∀ b o, s.heap.get? b = some o → h'.get? b = some o) → (∃ o, h'.get? e = some o ∧ o.cls = .type "StopIteration") → E (.ref e) { s with heap := h' }) :
    wpAny (model prog w) A (newExc (.type "StopIteration") [] >>= fun e => (raiseNew e : Sem α)) Q E s := by
  obtain ⟨hh, o1, vs1, h1, d1, c1⟩ := hot
  refine wpAny_bind ?_
  simp only [newExc, newTuple]
  refine wpAny_bind (wpAny_newObj_type ?_ (by size_fits))
  refine wpAny_bind (m := firstArgMember _ _) (wpAny_of_eq (a := Value.none) (by first | rfl | (simp only [firstArgMember]; rfl)) ?_)
  refine wpAny_newObj_type ?_ (by size_fits)
  have h2 := Heap.get?_push_of_some { cls := .type "tuple", data := .seq ([] : List Value).toArray } h1
  refine raiseNew_hot (x1 := x1) ⟨hh, o1, vs1, Heap.get?_push_of_some _ h2, d1, c1⟩ (Nat.ne_of_lt (Heap.lt_size h2)) (Heap.get?_push_size _ rfl) rfl (by first | (simp; done) | (simp; omega) | (simp only [Array.size_append]; simp; omega)) ?_
  refine hE _ _ (fun b o e => ?_) ⟨_, Heap.get?_update_self _ (Heap.get?_push_size _ rfl) rfl, rfl⟩
  have e2 := Heap.get?_push_of_some { cls := .type "tuple", data := .seq ([] : List Value).toArray } e
  rw [Heap.get?_update_other _ _ (Nat.ne_of_gt (Heap.lt_size e2))]
  exact Heap.get?_push_of_some _ e2
theorem tupEnd_hot {it t : Addr} {i : Nat} {items : Array Value} {Q : Option Value → Shared → Prop} (hot : HotAt A x1 s.heap) (hit : s.heap.IsTupleIter it t i) (ht : s.heap.IsTuple t items) (hx : items[i]? = none)
    (hQ : ∀ h', Heap.ExtBut it s.heap h' → Q none { s with heap := h' }) : wpAny (model prog w) A (pyNext (.ref it)) Q E s := by
  obtain ⟨o, ho, hc, hd⟩ := id hit
  obtain ⟨ol, hol, _, nl, hdl⟩ := ht
  have hne : x1 ≠ it := hot_ne hot ho hd (by simp)
  unfold pyNext
  refine wpAny_bind (wpAny_attempt (wpAny_callSpecial?_slot (name := Str.ofString "__next__") hit.typeIs F.slot_tuple_iterator_next (wpAny_call_entry F.slot_tuple_iterator_next hit.typeIs F.entry_tuple_iterator_next ?_ (F.args_tuple_iterator_next_1 _))))
  show wpAny _ _ (field (.ref it) 0 >>= _) _ _ s
  refine wpAny_bind (wpAny_field ho hd (x := .ref t) rfl ?_)
  show wpAny _ _ (if (Value.ref t == Value.none) = true then _ else _) _ _ s
  rw [if_neg (show ¬ ((Value.ref t == Value.none) = true) from Bool.false_ne_true)]
  show wpAny _ _ (field (.ref it) 1 >>= _) _ _ s
  refine wpAny_bind (wpAny_field ho hd (x := .int i 0) rfl ?_)
  show wpAny _ _ (seqItems? (.ref t) >>= _) _ _ s
  refine wpAny_bind (wpAny_seqItems hol hdl ?_)
  simp only [Int.toNat_natCast, hx]
  refine wpAny_bind (wpAny_rule (wpAny_bind (wpAny_setField ho hd (by simp) ?_)))
  show wpAny _ _ (newExc (.type "StopIteration") [] >>= _) _ _ _
  refine stop_hot (A := A.in1) (x1 := x1) (hot_keep hot fun o' vs e _ _ => by rw [Heap.get?_update_other _ _ (Ne.symm hne)]; exact e) fun h' e k he => ?_
  obtain ⟨oe, hoe, hce⟩ := he
  refine wpAny_bind (wpAny_isInstance (T := "StopIteration") (b := true) ⟨oe, hoe, hce⟩ isSubtype_stop ?_)
  exact wpAny_pure (hQ _ fun b u hb e => k b u ((Heap.SameBut.update ..).extBut b u hb e))
theorem unpack_hot {t : Addr} {items : Array Value} {targets : List (Bool × (Value → Sem Unit))} {Q : Unit → Shared → Prop} (hot : HotAt A x1 s.heap) (ht : s.heap.IsTuple t items)
    (hn : targets.length = items.size) (hstar : targets.findIdx? (·.1) = none)
    (h : ∀ h', Heap.ExtBut s.heap.objs.size s.heap h' → wpAny (model prog w) A (assignInOrder (targets.map (·.2)) items.toList) Q E { s with heap := h' }) :
    wpAny (model prog w) A (unpack (.ref t) targets) Q E s := by
  have hlt : t ≠ s.heap.objs.size := by obtain ⟨o, ho, _⟩ := ht; exact Nat.ne_of_lt (Heap.lt_size ho)
  have hx1 : x1 ≠ s.heap.objs.size := by obtain ⟨_, o, _, ho, _⟩ := hot; exact Nat.ne_of_lt (Heap.lt_size ho)
  unfold unpack
  rw [hn, hstar]
  refine wpAny_bind (wpAny_holding ?_)
  unfold unpackItems
  refine wpAny_bind ?_
  unfold notIterableAtAll
  refine wpAny_bind (wpAny_specialOf ht.typeIs F.slot_tuple_iter.lookup (wpAny_pure ?_))
  simp only [Bool.false_eq_true, if_false]
  refine wpAny_bind (wpAny_holding (wpAny_pyIter_tuple ht ?_))
  refine wpAny_bind (wpAny_holding (wpAny_draw_tuple hlt items.size 0 _ _ ⟨_, Heap.get?_push_size _ rfl, rfl, rfl⟩ (ht.push _) (by omega) fun h₁ hit₁ hs₁ => ?_))
  rw [show List.take items.size (List.drop 0 items.toList) = items.toList by rw [List.drop_zero]; exact List.take_of_length_le (by simp)]
  rw [if_neg (by simp)]
  have k1 : ∀ b o, b ≠ s.heap.objs.size → s.heap.get? b = some o → h₁.get? b = some o := fun b o hb e => hs₁.extBut b o hb (Heap.get?_push_of_some _ e)
  refine wpAny_bind (wpAny_holding (tupEnd_hot (x1 := x1) (hot_keep hot fun o vs e _ _ => k1 _ _ hx1 e) hit₁ ((ht.push _).extBut hs₁.extBut hlt) (by simp) fun h₂ he₂ => ?_))
  simp only [Option.isSome_none, Bool.false_eq_true, if_false]
  exact wpAny_pure (h h₂ fun b o hb e => he₂ b o hb (k1 b o hb e))
theorem nextOf_hot {it l : Addr} {i : Nat} {items : Array Value} {Q : Value → Shared → Prop} (hot : HotAt A x1 s.heap) (hit : s.heap.IsListIter it l i) (hl : s.heap.IsList l items) (hx : items[i]? = none)
    (hE : ∀ h' e, Heap.ExtBut it s.heap h' → (∃ o, h'.get? e = some o ∧ o.cls = .type "StopIteration") → E (.ref e) { s with heap := h' }) :
    wpAny (model prog w) A (Builtin.SmallTypes.nextOf (.ref it)) Q E s := by
  obtain ⟨o, ho, hc, hd⟩ := id hit
  obtain ⟨ol, hol, _, nl, hdl⟩ := hl
  have hne : x1 ≠ it := hot_ne hot ho hd (by simp)
  unfold Builtin.SmallTypes.nextOf
  refine wpAny_bind (wpAny_callSpecial?_slot (name := Str.ofString "__next__") hit.typeIs slot_listiter_next (wpAny_call_entry slot_listiter_next hit.typeIs entry_listiter_next ?_ (args_listiter_next _)))
  show wpAny _ _ (field (.ref it) 0 >>= _) _ _ s
  refine wpAny_bind (wpAny_field ho hd (x := .ref l) rfl ?_)
  show wpAny _ _ (if (Value.ref l == Value.none) = true then _ else _) _ _ s
  rw [if_neg (show ¬ ((Value.ref l == Value.none) = true) from Bool.false_ne_true)]
  show wpAny _ _ (field (.ref it) 1 >>= _) _ _ s
  refine wpAny_bind (wpAny_field ho hd (x := .int i 0) rfl ?_)
  show wpAny _ _ (seqItems? (.ref l) >>= _) _ _ s
  refine wpAny_bind (wpAny_seqItems hol hdl ?_)
  simp only [Int.toNat_natCast, hx]
  refine wpAny_bind (wpAny_rule (wpAny_bind (wpAny_setField ho hd (by simp) ?_)))
  show wpAny _ _ (newExc (.type "StopIteration") [] >>= _) _ _ _
  refine stop_hot (A := A.in1) (x1 := x1) (hot_keep hot fun o' vs e _ _ => by rw [Heap.get?_update_other _ _ (Ne.symm hne)]; exact e) fun h' e k he => ?_
  exact hE h' e (fun b u hb q => k b u ((Heap.SameBut.update ..).extBut b u hb q)) he
end
end G65
/-! zip of two lists, a pair taken apart, a comprehension, while an exception is handled. -/
namespace G65
open PySem PySem.Spec PyProof.Rows L2 HotX L2H
section
variable {prog : Program} {w : World} {A : Around} {E : Value → Shared → Prop} {s : Shared} {x1 : Addr}
/-- the first list ends -/
theorem zipEnd_hot {z TI TO i1 i2 l1 l2 : Addr} {k1 : Nat} {xs : Array Value} {Q : Option Value → Shared → Prop} (hot : HotAt A x1 s.heap) (D : ZipApart z TI TO i1 i2 l1 l2)
    (hz : IsZip s.heap z TI TO .none) (hTI : IsPair s.heap TI (.ref i1) (.ref i2)) (h1 : s.heap.IsListIter i1 l1 k1) (hl1 : s.heap.IsList l1 xs) (hx : xs[k1]? = none)
    (hQ : ∀ h', (∀ c o, c ≠ z → c ≠ i1 → s.heap.get? c = some o → h'.get? c = some o) → Q none { s with heap := h' }) : wpAny (model prog w) A (pyNext (.ref z)) Q E s := by
  have hT : s.TypeIs (.ref z) "zip" := ⟨_, hz, rfl⟩
  have hne : x1 ≠ z := hot_ne hot hz rfl (by simp)
  unfold pyNext
  refine wpAny_bind (wpAny_attempt (wpAny_callSpecial?_slot (name := Str.ofString "__next__") hT F.slot_zip_next (wpAny_call_entry F.slot_zip_next hT F.entry_zip_next ?_ (F.args_zip_next_1 _))))
  show wpAny _ _ (field (.ref z) 2 >>= _) _ _ _
  refine wpAny_bind (wpAny_field hz rfl (x := .bool false) rfl ?_)
  show wpAny _ _ (field (.ref z) 3 >>= _) _ _ _
  refine wpAny_bind (wpAny_field hz rfl (x := .ref TI) rfl ?_)
  refine wpAny_bind (wpAny_seqItems hTI rfl ?_)
  show wpAny _ _ (Builtin.SmallTypes.ownedTupleIsFree (.ref z) >>= _) _ _ _
  refine wpAny_bind ?_
  unfold Builtin.SmallTypes.ownedTupleIsFree
  refine wpAny_bind (wpAny_field hz rfl (x := .none) rfl (wpAny_pure ?_))
  simp only [if_true]
  refine wpAny_bind (wpAny_rule ?_)
  refine wpAny_bind (wpAny_field hz rfl (x := .ref TO) rfl ?_)
  refine wpAny_bind (wpAny_setField_rec hz (by simp) fun h₁ hz₁ hs₁ => ?_)
  replace hz₁ : IsZip h₁ z TI TO .ellipsis := hz₁
  refine wpAny_bind ?_
  simp only [List.zipIdx_cons, List.zipIdx_nil, List.forIn_cons, List.forIn_nil]
  refine wpAny_bind (wpAny_bind (wpAny_onRaise ?_))
  show wpAny _ _ (Builtin.SmallTypes.nextOf (.ref i1) >>= _) _ _ _
  refine wpAny_bind (nextOf_hot (A := A.in1) (x1 := x1) (hot_keep hot fun o vs e _ _ => hs₁.extBut _ _ hne e) (h1.extBut hs₁.extBut D.i1z) (hl1.extBut hs₁.extBut D.l1z) hx fun h₂ e hs₂ he => ?_)
  obtain ⟨oe, hoe, hce⟩ := he
  have hz₂ : IsZip h₂ z TI TO .ellipsis := hs₂ _ _ D.i1z.symm hz₁
  have hez : e ≠ z := fun x => by subst x; rw [hz₂] at hoe; cases hoe; simp at hce
  refine wpAny_setField_rec hz₂ (by simp) fun h₃ _ hs₃ => ?_
  refine wpAny_bind (wpAny_isInstance (T := "StopIteration") (b := true) ⟨oe, hs₃.extBut _ _ hez hoe, hce⟩ isSubtype_stop ?_)
  exact wpAny_pure (hQ _ fun c o c1 c3 x => hs₃.extBut _ _ c1 (hs₂ _ _ c3 (hs₁.extBut _ _ c1 x)))
end
/-! ### a pair taken apart -/
theorem hot_of {X : Cx} {pins : List (Addr × Obj)} {σ : L2.St} {H : Hp} {s : Shared} {a : Addr} {oe : Obj} (hd : X.A.handled = some (.ref a)) (I : Inv X pins σ H s) (hp : (a, oe) ∈ X.pn ++ pins) (c : ∃ vs : Array Value, oe.data = .fields vs ∧ vs[2]? = some .none) : HotAt X.A a s.heap := by
  obtain ⟨vs, c1, c2⟩ := c
  exact ⟨hd, oe, vs, (I.pin _ hp).1, c1, c2⟩
/-- an assignment while an exception is handled (HotAt is told of the state) -/
structure PGH (X : Cx) (x1 : Addr) (tg : Expr) (t : TG) : Prop where
  run : ∀ (pins : List (Addr × Obj)) (s : Shared) (σ : L2.St) (H : Hp) (v : V) (u : Value) (Q : L2.St → Hp → Prop), Inv X pins σ H s → HotAt X.A x1 s.heap → RelV v u → t v σ H Q →
    wpAny (model X.prog X.w) X.A (assign tg X.env u) (fun _ s' => ∃ σ' H', Inv X pins σ' H' s' ∧ Q σ' H') X.xe s
theorem pgh_tup {X : Cx} {x1 : Addr} {es : List Expr} {k n : Nat} {t : TGs} {pos : Pos} (h : PGs X es t) (hn : (assignEach es X.env).length = n := by rfl) (hst : (assignEach es X.env).findIdx? (·.1) = none := by rfl) : PGH X x1 (.Tuple es k pos) (gTup X.K n t) := by
  refine ⟨fun pins s σ H v u Q I hot r hw => ?_⟩
  obtain ⟨a, xs, e1, hq, hl, hw⟩ := hw
  subst e1
  cases r
  obtain ⟨its, rv, ht, hz⟩ := I.tuple hq
  rw [assign_Tuple]
  refine wpAny_bind (wpAny_standAt (unpack_hot (x1 := x1) hot ht (by simp [hn, ← hl, rv.length]) hst fun h' hx => ?_))
  have I1 : Inv X pins σ H { s with heap := h' } := I.kept (t' := s.toks) fun b o e => hx b o (Nat.ne_of_lt (Heap.lt_size e)) e
  exact h.run pins _ σ H xs _ Q I1 (by simpa using rv) hw
/-! ### iterators, told of the state -/
structure TurnQ (P : Program) (w : World) (K : PySem.W.Frag) (tg : Expr) (J : It) (fp : List Addr) (it : Addr) (tn : Nat → Heap → Prop) : Prop where
  obj : ∀ i h, tn i h → ∀ b ∈ fp, ∃ o, h.get? b = some o ∧ ∀ v, o.data ≠ .cell v
  keep : ∀ i h h', tn i h → (∀ b ∈ fp, ∀ o, h.get? b = some o → h'.get? b = some o) → tn i h'
  item : ∀ (X : Cx), X.prog = P → X.w = w → X.K = K → ∀ (i : Nat) (pins : List (Addr × Obj)) (s : Shared) (σ : L2.St) (H : Hp) (E : Value → Shared → Prop), Inv X pins σ H s → (∀ b ∈ fp, FpOk X pins H b) → tn i s.heap → J.go i H →
    wpAny (model P w) X.A (pyNext (.ref it)) (fun r s1 => ∃ u, r = some u ∧ wpAny (model P w) X.A (letOwnedTupleGo tg (.ref it) u) (fun _ s2 => ∃ x H', Inv X pins σ H' s2 ∧ RelV x u ∧ J.yld i H x H' ∧ tn (i + 1) s2.heap ∧ ∀ b ∈ fp, H' b = none) E s1) E s
  done : ∀ (X : Cx), X.prog = P → X.w = w → X.K = K → ∀ (x1 : Addr) (i : Nat) (pins : List (Addr × Obj)) (s : Shared) (σ : L2.St) (H : Hp) (E : Value → Shared → Prop), HotAt X.A x1 s.heap → Inv X pins σ H s → (∀ b ∈ fp, FpOk X pins H b) → tn i s.heap → J.stop i H →
    wpAny (model P w) X.A (pyNext (.ref it)) (fun r s1 => r = none ∧ Inv X pins σ H s1) E s
  self : ∀ (A : Around) (i : Nat) (s : Shared) (Q : Value → Shared → Prop) (E : Value → Shared → Prop), tn i s.heap → Q (.ref it) s → wpAny (model P w) A (pyIter (.ref it)) Q E s
def ItQ (K : PySem.W.Frag) (a b : Addr) : It := { Itz K a b with stop := fun i H => ∃ xs : List V, SqL K H a xs ∧ xs.length ≤ i }
theorem turn_zipQ {P : Program} {w : World} {K : PySem.W.Frag} {elts : List Expr} {kk : Nat} {tpos : Pos} {a b z TI TO i1 i2 : Addr} (D : ZipApart z TI TO i1 i2 a b) :
    TurnQ P w K (.Tuple elts kk tpos) (ItQ K a b) [z, TI, TO, i1, i2] z (fun i h => IsZip h z TI TO .none ∧ IsPair h TI (.ref i1) (.ref i2) ∧ (∃ x y, IsPair h TO x y) ∧ h.IsListIter i1 a i ∧ h.IsListIter i2 b i) where
  obj := (turn_zip (P := P) (w := w) (K := K) (elts := elts) (kk := kk) (tpos := tpos) D).obj
  keep := (turn_zip (P := P) (w := w) (K := K) (elts := elts) (kk := kk) (tpos := tpos) D).keep
  self := (turn_zip (P := P) (w := w) (K := K) (elts := elts) (kk := kk) (tpos := tpos) D).self
  item := by
    intro X hP hw hK i pins s σ H E I hf st hg
    subst hP hw hK
    obtain ⟨hz, hTI, ⟨x0, y0, hTO⟩, h1, h2⟩ := st
    obtain ⟨xs, ys, x, y, hqx, hqy, hx, hy⟩ := hg
    obtain ⟨its, rv, p, _⟩ := I.list hqx
    obtain ⟨its2, rv2, p2, _⟩ := I.list hqy
    obtain ⟨u, hu, ru⟩ := rv.get hx
    obtain ⟨u2, hu2, ru2⟩ := rv2.get hy
    have hzl : z < s.heap.objs.size := Heap.lt_size hz
    have lts : ∀ c ∈ [z, TI, TO, i1, i2], c < s.heap.objs.size := fun c hc => by
      obtain ⟨o, e, _⟩ := (turn_zip (P := X.prog) (w := X.w) (K := X.K) (elts := elts) (kk := kk) (tpos := tpos) D).obj i s.heap ⟨hz, hTI, ⟨x0, y0, hTO⟩, h1, h2⟩ c hc
      exact Heap.lt_size e
    refine wpAny_pyNext_zip_item D hz hTI hTO h1 h2 p.isList p2.isList (x := u) (y := u2) (by simpa using hu) (by simpa using hu2) fun h' z' TO' h1' h2' hT hsz hk => ⟨_, rfl, wpAny_letOwnedTupleGo_zip (s := { s with heap := h' }) z' fun h'' z'' sb => ?_⟩
    have hT2 : h''.get? s.heap.objs.size = some { cls := .type "tuple", data := .seq #[u, u2] } := (sb.2 _ (Nat.ne_of_gt hzl)).trans hT
    have I1 : Inv X pins σ (upd H s.heap.objs.size (.tup [x, y])) { s with heap := h'' } :=
      I.turnedNew (t' := s.toks) (ch := [z, TI, TO, i1, i2]) (fun c o hb q => (sb.2 c (fun q' => hb (by simp [q']))).trans (hk c o (fun q' => hb (by simp [q'])) (fun q' => hb (by simp [q'])) (fun q' => hb (by simp [q'])) (fun q' => hb (by simp [q'])) q)) hf (Nat.le_refl _)
        ⟨by show 2 ≤ sizeLine; decide, [u, u2], .cons ru (.cons ru2 .nil), ⟨_, hT2, rfl, _, rfl⟩⟩
    refine ⟨.ref s.heap.objs.size, _, I1, rfl, ⟨_, x, y, rfl, I.hok.fresh (Nat.le_refl _), rfl, fun l hl => by rw [I.list_inj hl hqx]; exact hx, fun l hl => by rw [I.list_inj hl hqy]; exact hy⟩, ⟨z'', ?_, ⟨u, u2, ?_⟩, ?_, ?_⟩, fun c hcm => ?_⟩
    · exact (sb.2 _ D.TIz).trans (hk _ _ D.TIz D.TITO D.TIi1 D.TIi2 hTI)
    · exact (sb.2 _ D.TOz).trans TO'
    · exact h1'.at fun o q => (sb.2 _ D.i1z).trans q
    · exact h2'.at fun o q => (sb.2 _ D.i2z).trans q
    · rw [upd_ne (Nat.ne_of_lt (lts c hcm))]
      exact (hf c hcm).1
  done := by
    intro X hP hw hK x1 i pins s σ H E hot I hf st hg
    subst hP hw hK
    obtain ⟨hz, hTI, ⟨x0, y0, hTO⟩, h1, h2⟩ := st
    obtain ⟨xs, hqx, hend⟩ := hg
    obtain ⟨its, rv, p, _⟩ := I.list hqx
    have l1 := rv.length
    exact zipEnd_hot hot D hz hTI h1 p.isList (by simp; omega) fun h' hk => ⟨rfl, I.turnedL (t' := s.toks) (ch := [z, TI, TO, i1, i2]) (fun c o hb q => hk c o (fun q' => hb (by simp [q'])) (fun q' => hb (by simp [q'])) q) hf⟩
structure PIQ (X : Cx) (tg iter : Expr) (wi : TI) : Prop where
  run : ∀ (pins : List (Addr × Obj)) (s : Shared) (σ : L2.St) (H : Hp) (R : It → Hp → Prop), Inv X pins σ H s → wi σ H R →
    wpAny (model X.prog X.w) X.A (eval iter X.env) (fun v s1 => wpAny (model X.prog X.w) X.A (pyIter v) (fun itv s2 => ∃ (it : Addr) (fp : List Addr) (tn : Nat → Heap → Prop) (J : It) (H' : Hp), itv = .ref it ∧ Inv X pins σ H' s2 ∧ TurnQ X.prog X.w X.K tg J fp it tn ∧ tn 0 s2.heap ∧ (∀ b ∈ fp, FpOk X pins H' b) ∧ R J H') X.xe s1) X.xe s
def iZipQ (K : PySem.W.Frag) (ta : TA) : TI := fun σ H R => ta σ H fun vs H1 => ∃ a b xs ys, vs = [.ref a, .ref b] ∧ SqL K H1 a xs ∧ SqL K H1 b ys ∧ R (ItQ K a b) H1
theorem pi_zipQ {X : Cx} {e e2 : Expr} {ta : TA} {p pos tpos : Pos} {elts : List Expr} {kk : Nat} (hg : Gl X "zip") (hm : X.mg "zip" = none) (ha : PA X [e, e2] ta)
    (hs : starEach [e, e2] X.env = (false, eval e X.env) :: starEach [e2] X.env := by rfl) (hpl : (backTo pos (starEach [e2] X.env)).any (·.1) = false := by rfl) :
    PIQ X (.Tuple elts kk tpos) (.Call (.Name "zip" p) [e, e2] [] pos) (iZipQ X.K ta) := by
  refine ⟨fun pins s σ H R I h => ?_⟩
  refine Call_ (ld_blt I hg hm PyProof.Rows.boot_zip (PyProof.Rows.callWith_type1 (thn (ha.run pos pins s σ H _ I h) fun us s1 ⟨vs, H1, I1, r1, q1⟩ => ?_) hs hpl))
  obtain ⟨a, b, xs, ys, ex, hqx, hqy, q⟩ := q1
  subst ex
  cases r1 with
  | cons r rr =>
    cases rr with
    | cons r' rr =>
      cases rr
      cases r
      cases r'
      obtain ⟨its, rv, p1, _⟩ := I1.list hqx
      obtain ⟨its2, rv2, p2, _⟩ := I1.list hqy
      refine call_zip_2 p1.isList p2.isList fun h' hz hTI hTO h1 h2 hsz hk => wpAny_pyIter_zip hz ?_
      have I2 : Inv X pins σ H1 { s1 with heap := h' } := I1.kept (t' := s1.toks) hk
      refine ⟨s1.heap.objs.size + 4, [s1.heap.objs.size + 4, s1.heap.objs.size + 2, s1.heap.objs.size + 3, s1.heap.objs.size, s1.heap.objs.size + 1], _, _, H1, rfl, I2, turn_zipQ (PySem.W.ktu_apart s1.heap.objs.size a b p1.lt p2.lt), ⟨hz, hTI, ⟨_, _, hTO⟩, h1, h2⟩, fun c hcm => ?_, q⟩
      have hle : s1.heap.objs.size ≤ c := by
        simp only [List.mem_cons, List.not_mem_nil, or_false] at hcm
        rcases hcm with z | z | z | z | z <;> (rw [z]; first | exact Nat.le_add_right _ _ | exact Nat.le_refl _)
      exact I1.fpOk hle (I1.hok.fresh hle)
/-! ### [e for .. in zip(..) if ..] -/
theorem pe_lcQ {X : Cx} {elt tg iter : Expr} {ifs : List Expr} {scope : Scope} {own : List (Str × Nat)} {pos : Pos} {wi : TI} {g : TG} {tt : TT} {te : TE} (hc : HotC X) (hN : X.N.Nodup) (hi : PIQ X tg iter wi) (ok : BlkOk X.N X.env.scope scope own)
    (hg : ∀ (s : Shared) (H : Hp) (C : Addr) (cl : List (Str × Addr)) (fp : List Addr) (x1 : Addr), PGH (X.blk s H scope (compEnvC scope cl C X.env) fp) x1 tg g) (ht : ∀ (s : Shared) (H : Hp) (C : Addr) (cl : List (Str × Addr)) (fp : List Addr), PTs (X.blk s H scope (compEnvC scope cl C X.env) fp) ifs tt)
    (he : ∀ (s : Shared) (H : Hp) (C : Addr) (cl : List (Str × Addr)) (fp : List Addr), PE (X.blk s H scope (compEnvC scope cl C X.env) fp) elt te) (hs : ∀ x, foldedSetIterable iter X.env x = pure x := by intro _; rfl) :
    PE X (.ListComp elt [⟨tg, iter, ifs, 0⟩] scope pos) (tLc wi g tt te (own.map (·.2))) := by
  refine ⟨fun pins s σ H Q I h => ?_⟩
  obtain ⟨⟨x1, ox⟩, ⟨hh, vx, ex1, ex2⟩, hpn⟩ := hc
  rw [eval_ListComp]
  have hfree : ∀ y ∈ scope.names, y.2 = .free → ∃ c, X.env.cells.lookup y.1 = some c := fun y hy e => (ok.free y hy e).elim (fun k => I.ok.has _ (.inl k)) fun k => I.ok.has _ (.inr k)
  show wpAny _ X.A (comprehension (.ListComp elt [⟨tg, iter, ifs, 0⟩] scope pos) scope X.env (firstIterPos [⟨tg, iter, ifs, 0⟩] pos) (newList []) false (eval iter X.env) none) _ _ s
  refine wpAny_comprehension_free (use := none) rfl hs (closure_ok hfree) ok.kind (fun y hy e => by rw [ok.uniq y hy, e]) (thn (hi.run pins s σ H _ I h) fun xv s1 hx => thn hx fun itv s2 h2 => ?_)
  obtain ⟨it, fp, tn, J, H2, e, I2, T, st2, f2, q⟩ := h2
  subst e
  refine wpAny_newObj_type (newEnv_comp ?_) (by show 0 ≤ sizeLine; decide)
  generalize hD : s2.heap.objs.size = D
  obtain ⟨W, ⟨m0, w0⟩, turn⟩ := q D (I2.hok.fresh (Nat.le_of_eq hD))
  generalize hs3 : ({ s2 with heap := s2.heap.push { cls := .type "list", data := .seq ([] : List Value).toArray } } : Shared) = s3
  have h3 : s3.heap = s2.heap.push { cls := .type "list", data := .seq ([] : List Value).toArray } := by rw [← hs3]
  have I3 : Inv X pins σ (upd H2 D (.lst [])) s3 := by
    rw [← hs3]
    refine I2.laid (t' := s2.toks) (fun b o e => Heap.get?_push_of_some _ e) (Nat.le_of_eq hD) ⟨Nat.zero_le _, [], 0, .nil, ?_⟩
    rw [← hD]
    exact Heap.get?_push_size _ rfl
  have f3 : ∀ b ∈ fp, FpOk X pins (upd H2 D (.lst [])) b ∧ b < s3.heap.objs.size := fun b hb => by
    obtain ⟨o, e, _⟩ := T.obj _ _ st2 b hb
    have hlt : b < s2.heap.objs.size := Heap.lt_size e
    refine ⟨⟨?_, (f2 b hb).2⟩, by rw [h3, Heap.size_push]; exact Nat.lt_succ_of_lt hlt⟩
    rw [upd_ne (by rw [← hD]; exact Nat.ne_of_lt hlt)]
    exact (f2 b hb).1
  have st3 : tn 0 s3.heap := T.keep _ _ _ st2 fun b _ o e => by rw [h3]; exact Heap.get?_push_of_some _ e
  have I4 := block_start I3 ok hN f3
  have pg := hg s3 (upd H2 D (.lst [])) s3.heap.objs.size (cellsFrom (s3.heap.objs.size + 1) scope.names (cloFrom X.env.cells scope.names [])) fp x1
  have pt := ht s3 (upd H2 D (.lst [])) s3.heap.objs.size (cellsFrom (s3.heap.objs.size + 1) scope.names (cloFrom X.env.cells scope.names [])) fp
  have pe := he s3 (upd H2 D (.lst [])) s3.heap.objs.size (cellsFrom (s3.heap.objs.size + 1) scope.names (cloFrom X.env.cells scope.names [])) fp
  show codeAny _ _ (.compStart (.ListComp elt [⟨tg, iter, ifs, 0⟩] scope pos) 0 (.ref it) (.ref D) (compEnvC scope (cellsFrom (s3.heap.objs.size + 1) scope.names (cloFrom X.env.cells scope.names [])) s3.heap.objs.size X.env)) (compPost (model X.prog X.w) X.A X.xe none (EP X pins σ Q) (.ref D) s3.heap.objs.size) { s3 with heap := pushCells (s3.heap.push { cls := .type "dict", data := .dict #[] }) scope.names }
  generalize hce : compEnvC scope (cellsFrom (s3.heap.objs.size + 1) scope.names (cloFrom X.env.cells scope.names [])) s3.heap.objs.size X.env = ce at I4 pg pt pe ⊢
  have cL : ce.locals = s3.heap.objs.size := by subst hce; rfl
  generalize hH3 : upd H2 D (.lst []) = H3 at I3 I4 pg pt pe w0 f3
  generalize hs4 : ({ s3 with heap := pushCells (s3.heap.push { cls := .type "dict", data := .dict #[] }) scope.names } : Shared) = s4 at I4 ⊢
  have st4 : tn 0 s4.heap := T.keep _ _ _ st3 fun b _ o e => by rw [← hs4]; exact pushCells_keeps _ _ _ _ (Heap.get?_push_of_some _ e)
  have P3 := I3.pin (x1, ox) (List.mem_append_left _ hpn)
  have hotB : ∀ {pins' : List (Addr × Obj)} {σ' : L2.St} {H' : Hp} {s' : Shared}, Inv (X.blk s3 H3 scope ce fp) pins' σ' H' s' → HotAt X.A x1 s'.heap := fun {pins' σ' H' s'} I' =>
    ⟨hh, ox, vx, I'.base.keep x1 ox P3.1 P3.2.1 (fun z => (List.mem_cons.mp (I3.stkSub x1 z)).elim P3.2.2.1 P3.2.2.2.1) (fun z => (f3 x1 z).1.2.2.2.2.2 (x1, ox) (List.mem_append_left _ hpn) rfl), ex1, ex2⟩
  have stat : ∀ {σ' : L2.St} {H' : Hp} {s' : Shared}, Inv (X.blk s3 H3 scope ce fp) [] σ' H' s' → (∀ b ∈ fp, H' b = none) → ∀ b ∈ fp, FpOk (X.blk s3 H3 scope ce fp) [] H' b := fun {σ' H' s'} I' hn b hb =>
    ⟨hn b hb, (I'.ok.exf b hb).1, I'.ok.exfs b hb, .inl hb, fun x c e => (I'.ok.exf b hb).2 x c e, fun p hp => absurd (show p ∈ ([] : List (Addr × Obj)) ++ [] from hp) (by simp)⟩
  have loop : codeAny (model X.prog X.w) X.A (.compLoop (.ListComp elt [⟨tg, iter, ifs, 0⟩] scope pos) 0 (.ref it) (.ref D) ce) (compPost (model X.prog X.w) X.A X.xe none (EP X pins σ Q) (.ref D) s3.heap.objs.size) s4 := by
    refine compLoop_any (fun n s' => ∃ i H', Inv (X.blk s3 H3 scope ce fp) [] (wipe σ (own.map (·.2))) H' s' ∧ tn i s'.heap ∧ (∀ b ∈ fp, H' b = none) ∧ W i n H') ?_ m0 ⟨0, H3, I4, st4, fun b hb => (f3 b hb).1.1, w0⟩
    rintro n s5 ⟨i, H5, I5, st5, n5, w5⟩
    rcases turn i n H5 w5 with ⟨stop, qq⟩ | ⟨go, Nx, hNx, step⟩
    · have td := T.done (X.blk s3 H3 scope ce fp) rfl rfl rfl x1 i [] s5 _ H5 (fun _ _ => False) (hotB I5) I5 (stat I5 n5) st5 stop
      refine thnF td fun r s6 ⟨hr, I6⟩ => ?_
      subst hr
      have I7 : Inv X pins σ H5 s6 := I3.call' (ch := fp) I6.os I6.base I6.hok I6.bare fun b hb => ⟨(f3 b hb).1.2.2.2.1, (f3 b hb).1.2.1, (f3 b hb).1.2.2.2.2.1, (f3 b hb).1.2.2.2.2.2⟩
      have nC : H5 s3.heap.objs.size = none := by
        have z : H5 ce.locals = none := I6.free
        rw [cL] at z
        exact z
      obtain ⟨m, hn, _⟩ := I6.loc
      have hn : s6.heap.Ns ce.locals m := hn
      rw [cL] at hn
      obtain ⟨f0, f1, f2', f3', f4, f5⟩ := I3.fpOk (Nat.le_refl _) nC
      exact ⟨m, hn, fun h'' sb => ⟨.ref D, H5, I7.turned (t' := s6.toks) (fun b o hb e => (sb.2 b hb).trans e) f0 f1 f3' f4 f5, rfl, qq⟩⟩
    · have ti := T.item (X.blk s3 H3 scope ce fp) rfl rfl rfl i [] s5 _ H5 (fun _ _ => False) I5 (stat I5 n5) st5 go
      refine thnF ti fun r s6 ⟨u, hr, h6⟩ => ?_
      subst hr
      refine thnF h6 fun _ s7 ⟨x, H7, I7, r7, y7, st7, n7⟩ => ?_
      have I7' := I7.pinned (stat I7 n7) (T.obj _ _ st7)
      refine thnF (pg.run _ s7 _ H7 x u _ I7' (hotB I7') r7 (step x H7 y7)) fun _ s8 ⟨σ8, H8, I8, hw8, q8⟩ => ?_
      refine thnF (pt.run _ s8 σ8 H8 _ I8 q8) fun b s9 ⟨H9, I9, q9⟩ => ?_
      have fin : ∀ {s' : Shared} {H' : Hp}, Inv (X.blk s3 H3 scope ce fp) ([] ++ pinsAt fp s7.heap) σ8 H' s' → Nx H' → ∃ m, m < n ∧ ∃ i H', Inv (X.blk s3 H3 scope ce fp) [] (wipe σ (own.map (·.2))) H' s' ∧ tn i s'.heap ∧ (∀ b ∈ fp, H' b = none) ∧ W i m H' := fun {s' H'} I' nx => by
        obtain ⟨m', hm, w'⟩ := hNx H' nx
        have pin' : ∀ b ∈ fp, ∀ o, s7.heap.get? b = some o → s'.heap.get? b = some o ∧ H' b = none := fun b hb o e =>
          let z := I'.pin (b, o) (List.mem_append_right _ (List.mem_append_right _ (mem_pinsAt hb e)))
          ⟨z.1, z.2.1⟩
        have hl : (wipe σ (own.map (·.2))).length = σ8.length := by rw [← hw8, wipe_length]
        refine ⟨m', hm, i + 1, H', (I'.unpinned (pins := [])).weak hl (fun j v e => ?_), T.keep _ _ _ st7 fun b hb o e => (pin' b hb o e).1, fun b hb => ?_, w'⟩
        · rw [← hw8] at e
          exact (wipe_some e).1
        · obtain ⟨o, e, _⟩ := T.obj _ _ st7 b hb
          exact (pin' b hb o e).2
      cases b with
      | false =>
        simp only [Bool.false_eq_true, if_false] at q9 ⊢
        exact fin I9 q9
      | true =>
        simp only [if_true] at q9 ⊢
        refine thnF (pe.run _ s9 σ8 H9 _ I9 q9) fun z s10 ⟨yv, H10, I10, r10, acc, hD10, hz10, nx⟩ => ?_
        exact app_ok (X := X.blk s3 H3 scope ce fp) I10 hD10 hz10 r10 fun s11 I11 => fin I11 nx
  exact codeAny_compStart_list loop (T.self X.A 0 _ _ _ st4 loop)
end G65
/-! isinstance(e, C) of the exception that is handled; defs called then. -/
namespace PySem.W
open PySem PySem.Spec PySem.Calls PyProof.Rows
section
variable {prog : Program} {w : World} {A : Around} {E : Value → Shared → Prop} {s : Shared} {K : Frag} {x D : Addr} {ox : Obj} {od : Option Obj}
theorem g65_findO {C : Addr} {name : Str} {a g : Value} (hc : (clsIn K C).isSome = true) (ha : findIn K (.ref C) name = some (some a)) (hg : specialIn K a "__get__" = some (some g)) (ht : takesIn K a = some true) : findObj K C od name = some (.bind g a) := by
  obtain ⟨cd, hc⟩ := Option.isSome_iff_exists.mp hc
  unfold findObj
  rw [hc, Option.bind_some, ha, Option.bind_some]
  simp [hg, ht]
theorem g65_class {Q : Option Value → Shared → Prop} (T : L2.ExcC K D) (X : K.In s.heap) (I : InstAt s.heap x ox D od) (h : Q (some (.ref D)) { s with toks := s.toks + 1 }) : wpAny (model prog w) A (getAttr? (.ref x) "__class__") Q E s := by
  have hf : findObj K D od "__class__" = some (.bind (.builtin "getset_descriptor.__get__") (.builtin "object.__class__")) := g65_findO (by obtain ⟨cd, hc, _⟩ := any_some T.hd; rw [hc]; rfl) T.ha T.hn T.ht
  obtain ⟨hp, g, d, t, os⟩ := s
  have L0 := I.type (M := model prog w)
  have L1 := looks_findIn (M := model prog w) X T.hg
  have L2 := looks_findIn (M := model prog w) X T.hk
  have L3 := looks_find (M := model prog w) X I hf
  have sub : Looks (model prog w) hp (isInstance (.ref x) (.type "BaseException")) true := L0.andThen (looks_subIn X T.hs)
  have hx0 : (false && onTheHeap (Value.builtin "BaseException.__getattribute__")) = false := rfl
  have hx2 : (Value.builtin "BaseException.__getattribute__" == Value.builtin "object.__getattribute__") = false := by decide +kernel
  have hx1 : (onTheHeap (Value.ref D) && Value.builtin "BaseException.__getattribute__" == Value.builtin "object.__getattribute__") = false := by rw [hx2]; rfl
  unfold getAttr? getAttrBy? getAttrBy
  refine wpAny_bind (wpAny_mkText (wpAny_bind (wpAny_attempt (wpAny_holding (wpAny_bind (L0.at (wpAny_bind (L1.at ?_))))))))
  show wpAny _ _ (if (onTheHeap (Value.ref D) && Value.builtin "BaseException.__getattribute__" == Value.builtin "object.__getattribute__") = true then _ else _) _ _ _
  rw [hx1, if_neg Bool.false_ne_true]
  unfold getAttrByItsOwn hookBefore
  refine wpAny_bind ?_
  rw [if_pos (show onTheHeap (Value.ref D) = true from rfl)]
  refine L2.at ?_
  refine wpAny_bind (wpAny_attempt (wpAny_holding ?_))
  unfold callGetattribute
  rw [hx0, if_neg Bool.false_ne_true]
  unfold boundAndCalled
  rw [PySem.F.excAttr_ValueError.ga.bind (.ref x)]
  refine wpAny_bind (wpAny_pure ?_)
  show wpAny _ _ (call (.builtin "BaseException.__getattribute__") [.ref x, .str "__class__" t]) _ _ _
  refine wpAny_call (codeAny_call_builtin PySem.F.excAttr_ValueError.ga.plain PySem.F.entry_bexc_ga ?_)
  refine @check_slot (model prog w) _ _ ⟨hp, g, d, t + 1, os⟩ "BaseException.__getattribute__" "BaseException" "__getattribute__" (.ref x) [.str "__class__" t] [] _ (by decide +kernel) (by decide +kernel) sub (PySem.F.args_bexc_ga (.ref x) (.str "__class__" t)) ?_
  unfold Builtin.«object.__getattribute__»
  refine wpAny_bind (wpAny_of_eq (a := ((Value.ref x : Value), [Value.str "__class__" t])) (by first | rfl | (simp only [slotArgs]; rfl)) ?_)
  refine wpAny_bind (wpAny_pure (wpAny_bind (L0.at (wpAny_bind (L3.at ?_)))))
  show wpAny _ _ (holding [Value.builtin "object.__class__"] (call (.builtin "getset_descriptor.__get__") [.builtin "object.__class__", .ref x, .ref D]) >>= ret) _ _ _
  refine wpAny_bind (wpAny_holding (wpAny_call (class_get (s := ⟨hp, g, d, t + 1, os⟩) (ox := ox) (od := od) X I T.hm (wpAny_pure ?_))))
  show wpAny _ _ (handedOut (.ref D)) _ _ _
  rw [handedOut_of (v := .ref D) rfl]
  first
    | exact wpAny_pure (wpAny_pure h)
    | exact wpAny_pure h
    | exact wpAny_pure (wpAny_bind (wpAny_pure (wpAny_pure h)))
theorem g65_kitx (T : L2.ExcC K D) : KitX K (.ref x) (.ref D) (fun h => InstAt h x ox D od) := by
  obtain ⟨cdD, hcD, _⟩ := any_some T.hd
  unfold clsIn at hcD
  split at hcD
  · rename_i c' d' cd' sl' ho
    refine ⟨fun _ _ _ I => I.type, fun _ _ X _ A' Q' E' s' k q => ?_, fun h tp dd its n sl X htp => Bool.eq_false_iff.mpr fun q => ?_, fun X I k => g65_class T X I k⟩
    · unfold isType loadHead
      exact wpAny_bind (wpAny_loadPart (k _ _ (X _ _ ho)) (wpAny_pure q))
    · have e : D = tp := Value.ref.inj (beq_iff_eq.mp q)
      subst e
      cases (X _ _ ho).symm.trans htp
  · cases hcD
end
end PySem.W
namespace G65
open PySem PySem.Spec PyProof.Rows L2 HotX L2H
/-- what the heap says of an exception's own dict -/
def DiAt (d : Option Addr) (H : Hp) : Prop := match d with
  | none => True
  | some dd => ∃ fs, H dd = some (.xd fs)
theorem DiAt.mono {d : Option Addr} {H H' : Hp} (h : DiAt d H) (e : Same H H') : DiAt d H' := by
  cases d with
  | none => trivial
  | some dd => exact let ⟨fs, q⟩ := h; ⟨fs, e _ _ q⟩
def rIsO (K : PySem.W.Frag) (D a : Addr) (d : Option Addr) : List V → Hp → VK → Prop := fun xs H Q => ∃ (c : V) (cv : Value) (b : Bool), xs = [.ref a, c] ∧ (∀ u, RelV c u → u = cv) ∧ PySem.W.kitOne K (.ref D) cv = some b ∧ DiAt d H ∧ Q (.bl b) H
theorem call_isO {X : Cx} {a D : Addr} {oe : Obj} {d : Option Addr} (C : ExcC X.K D) (hz : Zc (.ref D) d oe) (hf : ∃ vs, oe.data = .fields vs) (hp : (a, oe) ∈ X.pn) : CallR X (.builtin "isinstance") (rIsO X.K D a d) := by
  intro pins s σ H xs us Q I r h
  obtain ⟨c, cv, b, rfl, hcv, e, hdi, q⟩ := h
  cases r with
  | cons rx rr =>
    cases rr with
    | cons rt rr =>
      cases rr
      cases rx
      have ec := hcv _ rt
      subst ec
      have hget := (I.pin (a, oe) (List.mem_append_left _ hp)).1
      obtain ⟨vs, hv⟩ := hf
      have J : ∃ od, PySem.W.InstAt s.heap a oe D od := by
        cases d with
        | none => exact ⟨none, hget, hz.1, by unfold PySem.W.notCls; rw [hv] <;> rfl, by rw [hz.2]; trivial⟩
        | some dd =>
          obtain ⟨fs, ea⟩ := hdi
          have hx : ObjOk X.prog X.w H s.heap dd (.xd fs) := I.hok dd _ ea
          obtain ⟨mA, hns, hr⟩ := hx
          obtain ⟨od, ho, hl⟩ := lookIn_ns hns
          exact ⟨some od, hget, hz.1, by unfold PySem.W.notCls; rw [hv] <;> rfl, by rw [hz.2]; exact ho⟩
      obtain ⟨od, J⟩ := J
      exact PySem.W.kia_one (PySem.W.g65_kitx C) I.kIn J e (fun z => nomatch z) fun tk => ⟨.bl b, H, I.kept (t' := tk) fun _ _ z => z, rfl, q⟩
/-! ### defs called while p's exception is handled -/
structure FnQ (P : Program) (w : World) (K : PySem.W.Frag) (mg : Str → Option Value) (base : Heap) (CX : CXT) (k : Nat) (f : Addr) (fd : FuncData) (ps : List Str) (sp : Addr × Obj → Sp) : Prop where
  len : ∀ p vs H Q E, sp p vs H Q E → vs.length = ps.length
  run : ∀ (A : Around) (outer : List Env) (s : Shared) (H : Hp) (args : Args) (us : List Value) (vs : List V) (Q : VK) (E : XK) (p : Addr × Obj), RoomH k A → Hot1 A p → PinOk outer H s p → Env0 P w K mg base A outer s H → BindsTo s fd args (ps.zip us) → Vals vs us → sp p vs H Q E →
    codeAny (model P w) A (.call (.ref f) args) (CR CX outer P w H s Q E) s
theorem fnQ_of {CX : CXT} {P : Program} {w : World} {K : PySem.W.Frag} {mg : Str → Option Value} {base : Heap} {k : Nat} {f : Addr} {fd : FuncData} {x : Str} {st : Stmt} {N ps : List Str} {sp : Addr × Obj → Sp} (F : FnP K x st f fd) (S : FnScope N ps (defScope st))
    (len : ∀ p vs H Q E, sp p vs H Q E → vs.length = ps.length)
    (hbody : ∀ (cdv : Value) (A : Around) (outer : List Env) (s : Shared) (H : Hp) (vs : List V) (Q : VK) (E : XK) (p : Addr × Obj), Hot1 A p → RoomH k (A.deeper (envOfC x (defScope st) s.heap.objs.size f cdv)) → sp p vs H Q E →
      ∃ t, PSs (cxH CX P w K mg base N x (defScope st) f cdv A outer s H E p) (defBody st) t ∧ t { nx := fun _ H' => Q .non H', rt := Q } (L2.start N vs) H) :
    FnQ P w K mg base CX (k + 1) f fd ps sp := by
  obtain ⟨oc, od, dV, kV, doc, pm, an, cdv, ct, osl, rfl, lk, hcd, _, _⟩ := F.ex
  refine ⟨len, fun A outer s H args us vs Q E p hr hot hpin e0 hb r hsp => ?_⟩
  have hl := len _ _ _ _ _ hsp
  have KX : K.In s.heap := e0.mod.kin.keeps fun b o e => (e0.bs b o e).1
  have lim : s.heap.NoLimit := e0.mod.nolimit.keeps fun b o e => (e0.bs b o e).1
  have hkind : ∀ y ∈ ps.zip us, (defScope st).names.lookup y.1 = some .local ∨ ((defScope st).names.lookup y.1 = some .cell ∧ ((cellsFrom (s.heap.objs.size + 1) (defScope st).names []).lookup y.1).isSome = true) := fun ⟨n, v⟩ hy =>
    (S.par n (List.of_mem_zip hy).1).elim .inl fun q => .inr ⟨q, PySem.W.cellsFrom_some _ _ _ (.inl q)⟩
  refine codeAny_call_function hr.depth (KX _ _ lk) rfl S.co S.gen rfl (PySem.W.codeRec_of KX hcd) (hb _ _ _ _ ?_)
  refine wpAny_newFunctionEnv_cells S.kind hkind fun env he s1 x => ?_
  subst he
  refine ⟨lim.keeps x.toInCall.keep, codeAny_func ?_⟩
  obtain ⟨t, ht, hq⟩ := hbody cdv A outer s H vs Q E p hot (hr.deeper _) hsp
  refine wpAny_mono (ht.run [] s1 (L2.start N vs) H _ (inv_startH S hpin e0 hl r x) hq) (fun fl s' hs => ?_) fun e s' hs => hs
  cases fl with
  | ret u => exact let ⟨v, σ', H', J, rv, q⟩ := hs; ⟨v, H', J.os, J.bare, J.base, J.hok, rv, q⟩
  | next => exact let ⟨σ', H', J, q⟩ := hs; ⟨V.non, H', J.os, J.bare, J.base, J.hok, rfl, q⟩
  | brk => exact let ⟨_, _, _, q⟩ := hs; False.elim q
  | cont => exact let ⟨_, _, _, q⟩ := hs; False.elim q
theorem pe_callQ {X : Cx} {CX : CXT} {k : Nat} {f : Addr} {fd : FuncData} {ps : List Str} {sp : Addr × Obj → Sp} {E : L2.St → XK} {x : Str} {q pos : Pos} {e : Expr} {es : List Expr} {t : TA} {p : Addr × Obj} (F : FnQ X.prog X.w X.K X.mg X.base CX k f fd ps sp) (hr : RoomH k X.A) (hot : Hot1 X.A p) (hp : p ∈ X.pn) (hg : Gl X x) (hm : X.mg x = some (.ref f)) (hk : PySem.W.keepIn X.K (.ref f) = true) (hb : Binds X.K fd ps []) (hx : ∀ σ, PassesAt CX X σ (E σ))
    (ha : PA X (e :: es) t) (hdb : (x == ("__debug__" : Str)) = false := by decide) (he : starEach (e :: es) X.env = (false, eval e X.env) :: starEach es X.env := by rfl) (hpl : (backTo pos (starEach es X.env)).any (·.1) = false := by rfl) :
    PE X (.Call (.Name x q) (e :: es) [] pos) (tCallS (sp p) E t) := by
  refine ⟨fun pins s σ H Q I h => ?_⟩
  refine wpAny_Call_Name_kw (ld_glob I hg hm ?_ hdb)
  refine PySem.W.callWith_K (h₀ := X.base) I.ok.mod.kin hk (thn (ha.run pos pins s σ H _ I h) fun us s1 ⟨vs, H1, I1, r, q⟩ => ⟨I1.kIn, ?_⟩) he hpl
  have hl : us.length = ps.length := by rw [← r.length]; exact F.len _ _ _ _ _ q
  have b := hb s1 us I1.kIn (by rw [List.append_nil]; exact hl)
  rw [List.append_nil] at b
  have P1 := I1.pin p (List.mem_append_left _ hp)
  refine wpAny_call (codeAny_mono (F.run X.A X.stack s1 H1 ⟨us, []⟩ us vs Q (E σ) p hr hot ⟨P1.1, P1.2.1, fun hm => (List.mem_cons.mp (I1.stkSub p.1 hm)).elim P1.2.2.1 P1.2.2.2.1, P1.2.2.2.2⟩ I1.env0 b r q) fun r s' hq => ?_)
  cases r with
  | error e => exact hx σ pins H1 s1 e s' I1 hq
  | ok fl =>
    cases fl with
    | ret u => exact I1.after hq
    | next => exact False.elim hq
    | brk => exact False.elim hq
    | cont => exact False.elim hq
/-! ### [name for name, good in zip(names, kinds) if good] -/
def pick (xs : List Str) (ys : List Bool) : List Str := ((xs.zip ys).filter (·.2)).map (·.1)
theorem pick_step {xs : List Str} {ys : List Bool} {n : Nat} {x : Str} {y : Bool} (hx : xs[n]? = some x) (hy : ys[n]? = some y) :
    pick (xs.take (n + 1)) (ys.take (n + 1)) = pick (xs.take n) (ys.take n) ++ (if y = true then [x] else []) := by
  have e : ∀ k, (xs.take k).zip (ys.take k) = (xs.zip ys).take k := fun k => by simp [List.zip, List.take_zipWith]
  unfold pick
  rw [e, e, List.take_add_one]
  have g : (xs.zip ys)[n]? = some (x, y) := by
    rw [List.getElem?_zip_eq_some]
    exact ⟨hx, hy⟩
  rw [g, List.filter_append, List.map_append]
  cases y <;> simp
theorem pick_all (xs : List Str) (ys : List Bool) (h : xs.length = ys.length) : pick (xs.take xs.length) (ys.take xs.length) = pick xs ys := by
  rw [List.take_of_length_le (Nat.le_refl _), List.take_of_length_le (by omega)]
theorem pick_len (xs : List Str) (ys : List Bool) : (pick xs ys).length ≤ xs.length := by
  unfold pick
  rw [List.length_map]
  refine Nat.le_trans (List.length_filter_le _ _) ?_
  rw [List.length_zip]
  omega
theorem lc_pick {K : PySem.W.Frag} {a b : Addr} {xs : List Str} {ys : List Bool} {i j : Nat} {σ : L2.St} {H1 : Hp} {Q : VK} (hl : xs.length = ys.length) (hij : i ≠ j) (hi : i < σ.length) (hj : j < σ.length) (ha : H1 a = some (.lst (xs.map V.str))) (hb : H1 b = some (.lst (ys.map V.bl)))
    (hz : xs.length < sizeLine) (hQ : ∀ D H', H1 D = none → Same H1 H' → H' D = some (.lst ((pick xs ys).map V.str)) → Q (.ref D) H') :
    ∀ D, H1 D = none → ∃ W : Nat → Nat → Hp → Prop, (∃ m, W 0 m (upd H1 D (.lst []))) ∧ ∀ n m H, W n m H →
      ((ItQ K a b).stop n H ∧ Q (.ref D) H) ∨ ((ItQ K a b).go n H ∧ ∃ Nx : Hp → Prop, (∀ H', Nx H' → ∃ m', m' < m ∧ W (n + 1) m' H') ∧ ∀ x H', (ItQ K a b).yld n H x H' → gTup K 2 (gCons (gName i) (gCons (gName j) gNil)) x (wipe σ [i, j]) H' fun σ2 H2 => wipe σ2 [i, j] = wipe σ [i, j] ∧ tB (tVar j) σ2 H2 fun b H3 =>
        if b = true then tVar i σ2 H3 fun y H4 => ∃ acc, H4 D = some (.lst acc) ∧ acc.length < sizeLine ∧ Nx (upd H4 D (.lst (acc ++ [y]))) else Nx H3) := by
  intro D hD
  let R : Nat → Hp → Prop := fun n H => Same H1 H ∧ H D = some (.lst ((pick (xs.take n) (ys.take n)).map V.str))
  refine ⟨fun n m H => m = xs.length - n ∧ n ≤ xs.length ∧ R n H, ⟨xs.length, by simp, Nat.zero_le _, same_updN hD, by rw [upd_same]; simp [pick]⟩, ?_⟩
  rintro n m H ⟨rfl, hn, hS, hd⟩
  have qa := hS _ _ ha
  have qb := hS _ _ hb
  by_cases hlt : n < xs.length
  · have hlt2 : n < ys.length := by omega
    have hx : xs[n]? = some xs[n] := List.getElem?_eq_getElem hlt
    have hy : ys[n]? = some ys[n] := List.getElem?_eq_getElem hlt2
    have hxm : (xs.map V.str)[n]? = some (V.str xs[n]) := by rw [List.getElem?_map, hx]; rfl
    have hym : (ys.map V.bl)[n]? = some (V.bl ys[n]) := by rw [List.getElem?_map, hy]; rfl
    refine .inr ⟨⟨_, _, _, _, .inl (.inl qa), .inl (.inl qb), hxm, hym⟩, R (n + 1), fun H' h => ⟨xs.length - (n + 1), by omega, rfl, hlt, h⟩, fun v H' y => ?_⟩
    obtain ⟨T, x', y', rfl, hT, rfl, f1, f2⟩ := y
    have e1 : x' = V.str xs[n] := Option.some.inj ((f1 _ (.inl (.inl qa))).symm.trans hxm)
    have e2 : y' = V.bl ys[n] := Option.some.inj ((f2 _ (.inl (.inl qb))).symm.trans hym)
    subst e1 e2
    have nDT : D ≠ T := fun z => by
      rw [z, hT] at hd
      cases hd
    have hS' : Same H1 (upd H T (.tup [V.str xs[n], V.bl ys[n]])) := hS.trans (same_updN hT)
    have hd' : upd H T (.tup [V.str xs[n], V.bl ys[n]]) D = some (.lst ((pick (xs.take n) (ys.take n)).map V.str)) := by
      rw [upd_ne nDT]
      exact hd
    have lw : (wipe σ [i, j]).length = σ.length := wipe_length _ _
    refine ⟨T, _, rfl, .inl (.inl upd_same), rfl, V.str xs[n], [V.bl ys[n]], rfl, V.bl ys[n], [], rfl, rfl, ?_, V.bl ys[n], ?_, ys[n], rfl, ?_⟩
    · refine List.ext_getElem? fun k => ?_
      by_cases h1 : i = k
      · subst h1
        simp [wipe, hi]
      · by_cases h2 : j = k
        · subst h2
          simp [wipe, h1, hj]
        · simp [wipe, h1, h2]
    · rw [List.getElem?_set_self (by rw [List.length_set, lw]; exact hj)]
    · cases hyb : ys[n] with
      | false =>
        rw [if_neg Bool.false_ne_true]
        rw [hyb] at hS' hd'
        refine ⟨hS', ?_⟩
        rw [pick_step hx hy, hyb, hd']
        simp
      | true =>
        rw [if_pos rfl]
        rw [hyb] at hS' hd'
        refine ⟨V.str xs[n], ?_, _, hd', ?_, fun c o h => ?_, ?_⟩
        · rw [List.getElem?_set_ne (Ne.symm hij), List.getElem?_set_self (by rw [lw]; exact hi)]
        · rw [List.length_map]
          refine Nat.lt_of_le_of_lt (pick_len _ _) ?_
          rw [List.length_take]
          omega
        · rw [upd_ne (ne_of_none h hD)]
          exact hS' c o h
        · rw [upd_same, pick_step hx hy, hyb]
          simp
  · have e : n = xs.length := by omega
    subst e
    exact .inl ⟨⟨_, .inl (.inl qa), by rw [List.length_map]; exact Nat.le_refl _⟩, hQ D H hD hS (by rw [hd, pick_all xs ys hl])⟩
end G65
/-! x(lambda: ..), the lambda raising: the exception's context is None. -/
namespace G65
open PySem PySem.Spec PyProof.Rows L2 LamX
def NoE : XK := fun _ _ _ => False
def lamCxN (X : Cx) (A : Around) (outer : List Env) (s : Shared) (H : Hp) (E : XK) (scope : Scope) (f c' : Addr) : Cx :=
  (lamCx X A outer s H E scope f c').wish fun e s' => wpAny (model X.prog X.w) (A.deeper (lamEnv X scope s.heap.objs.size f c')) (leaving (lamEnv X scope s.heap.objs.size f c') e) (fun _ s'' => L2N.CX X.prog X.w outer H s E e s'') (fun e' s'' => L2N.CX X.prog X.w outer H s E e' s'') s'
section
variable {X : Cx} {pins : List (Addr × Obj)} {σ : L2.St} {H : Hp} {s : Shared}
theorem pe_actN {CXg : CXT} {Eg : XK} {Ng : List Str} {qg : Str} {sg : Scope} {g f c' : Addr} {cdg pm ctv : Value} {params : Arguments} {body : Expr} {scope : Scope} {k i : Nat} {a : Str} {pn : List (Addr × Obj)} {xe : Value → Shared → Prop} {W : WX} {tb : XK → TE} {p1 p2 : Pos}
    (I : Inv X pins σ H s) (L : LamS X.env.scope scope) (hf : s.heap.get? f = some (PySem.W.kla_obj "<lambda>" (X.env.qual ++ "<lambda>") params body scope (cloFrom X.env.cells scope.names []) pm c' ctv)) (hfn : H f = none) (hfr : f ∉ frs X.stack)
    (hbind : bindArgs (PySem.W.kla_fn "<lambda>" (X.env.qual ++ "<lambda>") params body scope (cloFrom X.env.cells scope.names []) pm (.ref c') ctv) ⟨[], []⟩ = pure [])
    (tk : L2N.Takes ((cxOf CXg X.prog X.w X.K X.mg X.base Ng qg sg g cdg X.A X.stack s H Eg).tr pn xe) W) (hr : Room (k + 1) (X.A.deeper (envOfC qg sg s.heap.objs.size g cdg)))
    (hbody : ∀ (A : Around) (outer : List Env) (s : Shared) (H : Hp) (E : XK), Room k (A.deeper (lamEnv X scope s.heap.objs.size f c')) → PE (lamCxN X A outer s H E scope f c') body (tb E))
    (hN : Ng[i]? = some a) (hv : Vis sg a) (hd : (a == ("__debug__" : Str)) = false := by decide) (hcd : (a == ("__classdict__" : Str)) = false := by decide) :
    PE ((cxOf CXg X.prog X.w X.K X.mg X.base Ng qg sg g cdg X.A X.stack s H Eg).tr pn xe) (.Call (.Name a p1) [] [] p2)
      (fun σZ HZ Q => σZ[i]? = some (some (.ref f)) ∧ HZ c' = some (CodeO c' (X.env.qual ++ "<lambda>")) ∧ ∃ E : XK, (∀ cls d H', E cls d H' → W cls d σZ H') ∧ tb E σ HZ Q) := by
  refine ⟨fun pinsZ sZ σZ HZ Q IZ ⟨hs, hc, E, hW, ht⟩ => ?_⟩
  refine wpAny_Call_Name_kw (thn ((pe_var (pos := p1) (i := i) hN hv hd hcd).run pinsZ sZ σZ HZ (fun v H1 => v = .ref f ∧ H1 = HZ) IZ ⟨.ref f, hs, rfl, rfl⟩) fun u s1 ⟨v, H1, I1, r1, ev, eH⟩ => ?_)
  subst ev
  rw [eH] at I1
  obtain rfl : u = Value.ref f := r1
  have of1 : s1.heap.get? f = some (PySem.W.kla_obj "<lambda>" (X.env.qual ++ "<lambda>") params body scope (cloFrom X.env.cells scope.names []) pm c' ctv) := I1.base.keep f _ hf hfn hfr (fun z => nomatch (show f ∈ ([] : List Addr) from z))
  refine PySem.W.callWith_F0 ⟨_, _, _, _, of1⟩ ?_
  have un : Un (frs X.stack) [] H HZ s.heap s1.heap := I1.base
  obtain ⟨⟨oc, vs, t, hoc, hdc, hvc⟩, _, _⟩ := I1.hok c' _ hc
  have rc : codeAny (model X.prog X.w) (X.A.deeper (envOfC qg sg s.heap.objs.size g cdg)) (.call (.ref f) ⟨[], []⟩) (CR (L2N.CX X.prog X.w) (envOfC qg sg s.heap.objs.size g cdg :: X.stack) X.prog X.w HZ s1 Q E) s1 := by
    refine PySem.W.kla_callFunE hr.depth of1 rfl L.co L.gen rfl ⟨c', oc, vs, t, rfl, hoc, hdc, hvc⟩ ?_
    rw [hbind]
    refine wpAny_pure (wpAny_newFunctionEnv (fun y hy => (L.own y hy).2) (fun y hy => absurd hy (by simp)) (fun h₁ hns hsb => ⟨I1.nolimit.fresh _ hsb, ?_⟩) L.kind)
    show codeAny _ _ (.expr body (lamEnv X scope s1.heap.objs.size f c')) _ _
    have kp : ∀ b o, s1.heap.get? b = some o → h₁.get? b = some o := fun b o e => hsb.extBut b o (Nat.ne_of_lt (Heap.lt_size e)) (Heap.get?_push_of_some _ e)
    have J0 : Inv (lamCx X (X.A.deeper (envOfC qg sg s.heap.objs.size g cdg)) (envOfC qg sg s.heap.objs.size g cdg :: X.stack) s1 HZ E scope f c') [] σ HZ { s1 with heap := h₁, toks := s1.toks + ([] : List (Str × Value)).length } := lam_start2 I L I1.env0 hr.hd un hns kp
    have J : Inv (lamCxN X (X.A.deeper (envOfC qg sg s.heap.objs.size g cdg)) (envOfC qg sg s.heap.objs.size g cdg :: X.stack) s1 HZ E scope f c') [] σ HZ { s1 with heap := h₁, toks := s1.toks + ([] : List (Str × Value)).length } := J0.wish _
    refine PySem.W.kla_codeExpr (wpAny_mono ((hbody _ _ s1 HZ E (hr.deeper _)).run [] _ _ HZ Q J ht) (fun v s' ⟨w', H', J', rv, q⟩ => ?_) fun e s' hq => hq)
    exact ⟨w', H', J'.os, J'.bare, J'.base, J'.hok, rv, q⟩
  refine wpAny_call (codeAny_mono rc fun r s' hq => ?_)
  cases r with
  | error e => exact tk e s' (L2N.XE.of_call I1 hW hq)
  | ok fl =>
    cases fl with
    | ret u => exact I1.after hq
    | next => exact False.elim hq
    | brk => exact False.elim hq
    | cont => exact False.elim hq
end
/-- what the def that got the lambda makes of its reading -/
def GivesN (X : Cx) (k : Nat) (Ng : List Str) (x : Str) (sg : Scope) (g : Addr) (cdg : Value) (bg : List Stmt) (a : Str) (q : Str) (TT : (XK → Hp → VK → Prop) → Hp → VK → Prop) : Prop :=
  ∀ (f c' : Addr) (s : Shared) (H : Hp) (Q : VK) (tl : XK → Hp → VK → Prop), Room (k + 1) (X.A.deeper (envOfC x sg s.heap.objs.size g cdg)) →
    (∀ (W : WX) (pn : List (Addr × Obj)) (xe : Value → Shared → Prop) (p1 p2 : Pos), L2N.Takes ((cxOf L2.CX0 X.prog X.w X.K X.mg X.base Ng x sg g cdg X.A X.stack s H NoE).nox.tr pn xe) W →
      PE ((cxOf L2.CX0 X.prog X.w X.K X.mg X.base Ng x sg g cdg X.A X.stack s H NoE).nox.tr pn xe) (.Call (.Name a p1) [] [] p2) (fun σZ HZ Q => σZ[0]? = some (some (.ref f)) ∧ HZ c' = some (CodeO c' q) ∧ ∃ E : XK, (∀ cls d H', E cls d H' → W cls d σZ H') ∧ tl E HZ Q)) →
    H c' = some (CodeO c' q) → TT tl H Q →
    ∃ t, PSs (cxOf L2.CX0 X.prog X.w X.K X.mg X.base Ng x sg g cdg X.A X.stack s H NoE).nox bg t ∧ t { nx := fun _ H' => Q .non H', rt := Q } (L2.start Ng [.ref f]) H
section
variable {X : Cx}
theorem pe_lamN {T : List (Addr × Str)} {TT : (XK → Hp → VK → Prop) → Hp → VK → Prop} {x a : Str} {g c P : Addr} {k : Nat} {st : Stmt} {fd : FuncData} {Ng : List Str}
    {params : Arguments} {body : Expr} {scope : Scope} {t : XK → TE} {p lpos pos : Pos} (hg : Gl X x) (hm : X.mg x = some (.ref g)) (F : FnP X.K x st g fd) (hb : L2.Binds X.K fd [a] []) (Sg : FnScope Ng [a] (defScope st)) (hNg : Ng[0]? = some a) (hva : Vis (defScope st) a)
    (hG : ∀ cdv, GivesN X k Ng x (defScope st) g cdv (defBody st) a (X.env.qual ++ "<lambda>") TT)
    (TB : TabB X.base X.mg c P) (hcode : X.env.code = .ref c) (hmT : (P, X.env.qual ++ "<lambda>") ∈ T) (hu : ∀ p ∈ T, p.1 = P → p.2 = X.env.qual ++ "<lambda>") (hr : Room (k + 2) X.A) (L : LamS X.env.scope scope) (hdef : defaultsOf params X.env = ([], []))
    (hbind : ∀ (q : Str) (cl : List (Str × Addr)) (pm cv ctv : Value), bindArgs (PySem.W.kla_fn "<lambda>" q params body scope cl pm cv ctv) ⟨[], []⟩ = pure [])
    (hbody : ∀ (A : Around) (outer : List Env) (s : Shared) (H : Hp) (E : XK) (f c' : Addr), Room k (A.deeper (lamEnv X scope s.heap.objs.size f c')) → PE (lamCxN X A outer s H E scope f c') body (t E))
    (hdb : (x == ("__debug__" : Str)) = false := by decide) (hd : (a == ("__debug__" : Str)) = false := by decide) (hcd : (a == ("__classdict__" : Str)) = false := by decide) :
    PE X (.Call (.Name x p) [.Lambda params body scope lpos] [] pos) (tLam T TT t) := by
  obtain ⟨oc, od, dV, kV, doc, pm, an, cdv, ct, osl, rfl, lk, hcg, _, _⟩ := F.ex
  refine ⟨fun pins s σ H Q I ⟨hT, h⟩ => ?_⟩
  refine wpAny_Call_Name_kw (ld_glob I hg hm ?_ hdb)
  refine PySem.W.callWith_K (h₀ := X.base) I.ok.mod.kin F.kp ?_ (by rfl) (by rfl)
  show wpAny _ _ (spliced ((false, eval (.Lambda params body scope lpos) X.env) :: backTo pos (starEach [] X.env))) _ _ s
  refine Calls.spliced_cons (lam_make2 I TB hcode hmT hu hT hdef (L.has I.ok) fun f c' pm' ctv H1 s' I1 eN T1 hf hfn hfr hco => Calls.spliced_nil ⟨I1.kIn, ?_⟩)
  have rc : codeAny (model X.prog X.w) X.A (.call (.ref g) ⟨[.ref f], []⟩) (CR L2.CX0 X.stack X.prog X.w H1 s' Q NoE) s' := by
    refine run_ofS (N := Ng) (ps := [a]) (us := [.ref f]) (vs := [.ref f]) lk hcg Sg hr I1.env0 (hb s' [.ref f] I1.kIn rfl) (.cons rfl .nil) rfl fun hr' => ?_
    obtain ⟨t', ht', hq'⟩ := hG cdv f c' s' H1 Q (fun E H' Q' => t E σ H' Q') hr' (fun W pn xe p1 p2 tk => pe_actN (CXg := L2.CX0) (Eg := NoE) (i := 0) I1 L hf hfn hfr (hbind _ _ _ _ _) tk hr' (fun A outer s H E hr2 => hbody A outer s H E f c' hr2) hNg hva hd hcd) hco (h H1 eN T1)
    exact ⟨t', ht'.nox, hq'⟩
  refine wpAny_call (codeAny_mono rc fun r s2 hq => ?_)
  cases r with
  | error e => exact (show False from hq).elim
  | ok fl =>
    cases fl with
    | ret u => exact I1.after hq
    | next => exact False.elim hq
    | brk => exact False.elim hq
    | cont => exact False.elim hq
end
end G65
/-! Defs that raise, by name; the facts of a class by a Bool; the end of a law with a table. -/
namespace G65
open PySem PySem.Spec PyProof.Rows L2 LamX
def CFX (P : Program) (w : World) (K : PySem.W.Frag) (mg : Str → Option Value) (base : Heap) (k : Nat) (x : Str) (ps : List Str) (sp : Sp) : Prop := ∃ f fd, PySem.W.keepIn K (.ref f) = true ∧ mg x = some (.ref f) ∧ L2.Binds K fd ps [] ∧ FnOk P w K mg base (L2N.CX P w) k f fd ps sp
/-- a class made by its own __init__, self.most = most -/
def TooM (P : Program) (w : World) (K : PySem.W.Frag) (mg : Str → Option Value) (base : Heap) (C : Addr) : Prop := ∃ fI fd, OexC K C ∧ PySem.W.findIn K (.ref C) "__init__" = some (some (.ref fI)) ∧ PySem.W.typeIn K (.ref fI) = some (.type "function") ∧
  FnOk P w K mg base CX0 1 fI fd ["self", "most"] (spI C "most") ∧ L2.Binds K fd ["self", "most"] [] ∧ mg "TooMany" = some (.ref C)
section
variable {P : Program} {w : World} {K : PySem.W.Frag} {mg : Str → Option Value} {base : Heap} {Φ : Phi}
theorem cfX {x : Str} {st : Stmt} {N ps : List Str} {k : Nat} {xM : Rho → Bool} (D : DF K mg x st ps) (S : FnScope N ps (defScope st))
    (h : ∀ (f : Addr) (cdv : Value) (A : Around) (outer : List Env) (s : Shared) (H : Hp) (E : XK), Room k (A.deeper (envOfC x (defScope st) s.heap.objs.size f cdv)) → XSs (cxOf (L2N.CX P w) P w K mg base N x (defScope st) f cdv A outer s H E) (fun cls d _ H' => E cls d H') Φ (defBody st) xM) :
    CFX P w K mg base (k + 1) x ps (spX P w K ps.length (runX N.length xM) Φ) := by
  obtain ⟨f, fd, F, hm, hb⟩ := D
  exact ⟨f, fd, F.kp, hm, hb, fnX F S fun cdv A outer s H E hr => h f cdv A outer s H E hr⟩
end
section
variable {X : Cx} {W : WX} {Φ : Phi} {k j n : Nat} {ps : List Str} {exc : List PyData → Bool} {x : Str} {p pos pos2 : Pos} {e : Expr} {es : List Expr} {g : M (List PyData)} {C : Addr} {d0 : Int} {xx : Rho → Bool}
theorem xe_callC (tk : L2N.Takes X W) (G : CFX X.prog X.w X.K X.mg X.base k x ps (spX X.prog X.w X.K n exc Φ)) (hr : Room j X.A) (hkj : k ≤ j) (hg : Gl X x) (ha : RA X (e :: es) g) (hn : ∀ r ds r', g r = some (ds, r') → ds.length = n)
    (hdb : (x == ("__debug__" : Str)) = false := by decide) (he : starEach (e :: es) X.env = (false, eval e X.env) :: starEach es X.env := by rfl) (hpl : (backTo pos (starEach es X.env)).any (·.1) = false := by rfl) :
    XEx X W Φ (.Call (.Name x p) (e :: es) [] pos) (xCall g exc) := by
  obtain ⟨f, fd, h1, h2, h3, h4⟩ := G
  exact xe_call tk h4 (hr.mono hkj) hg h2 h1 h3 ha hn hdb he hpl
theorem xs_raiseC (hc : X.calm = true) (tk : L2N.Takes X W) (T : TooM X.prog X.w X.K X.mg X.base C) (hr : Room j X.A) (hkj : 2 ≤ j) (hg : Gl X "TooMany") (ha : RA X [e] g)
    (he : starEach [e] X.env = (false, eval e X.env) :: starEach [] X.env := by rfl) (hpl : (backTo pos (starEach [] X.env)).any (·.1) = false := by rfl) :
    XS X W (PhiI C "most" d0) (.Raise (some (.Call (.Name "TooMany" p) [e] [] pos)) none pos2) (xRaise g d0) := by
  obtain ⟨fI, fd, h1, h2, h3, h4, h5, h6⟩ := T
  exact xs_raise hc tk h1 h2 h3 h4 (hr.mono hkj) h5 hg h6 ha (by decide) he hpl
theorem xs_expr (h : XEx X W Φ e xx) (hs : swapsWith e none pos.line X.env = pure false := by rfl) : XS X W Φ (.Expr e pos) xx := by
  obtain ⟨t, q, k⟩ := h.ex
  exact ⟨_, ps_expr q hs, fun σ H F r D S e hW => k σ H F r _ S e hW⟩
/-! arguments, one of which raises -/
structure XA (X : Cx) (W : WX) (Φ : Phi) (es : List Expr) (x : Rho → Bool) : Prop where
  ex : ∃ t : TA, PA X es t ∧ ∀ (σ : St) (H F : Hp) (r : Rho) (Q : List V → Hp → Prop), SR X.prog X.w X.K F H σ r → x r = true →
    (∀ cls d σ' r' F' H', SR X.prog X.w X.K F' H' σ' r' → Go σ r F H σ' r' F' H' → Φ cls d H' → W cls d σ' H') → t σ H Q
theorem xs_set {i : Nat} {y : Str} {pos' : Pos} (hN : X.N.Nodup) (hi : X.N[i]? = some y) (hx : Loc X.env.scope y) (h : XEx X W Φ e xx) (hs : swapsWith e (some (.Name y pos')) pos.line X.env = pure false := by rfl) (hf : X.fn y = true ∨ X.env.scope.names.lookup y = some .local := by first | exact .inl rfl | exact .inr rfl | assumption) :
    XS X W Φ (.Assign [.Name y pos'] e pos) xx := by
  obtain ⟨t, q, k⟩ := h.ex
  exact ⟨_, ps_set hN hi hx q hs hf, fun σ H F r D S e hW => k σ H F r _ S e hW⟩
/-- the meaning of what comes ahead of what raises -/
def xBnd {α : Type} (m : M α) (x : Rho → Bool) : Rho → Bool := fun r => match m r with
  | some (_, r') => x r'
  | none => false
theorem xa_here (h : XEx X W Φ e xx) (hs : starEach (e :: es) X.env = (false, eval e X.env) :: starEach es X.env := by rfl) : XA X W Φ (e :: es) xx := by
  obtain ⟨t, q, k⟩ := h.ex
  refine ⟨_, pa_cons q (t := fun _ _ _ => False) ⟨fun _ _ _ _ _ _ _ z => False.elim z⟩ hs, fun σ H F r Q S e hW => k σ H F r _ S e hW⟩
theorem xa_next {f : M PyData} (h1 : RE X e f) (h : XA X W Φ es xx) (hs : starEach (e :: es) X.env = (false, eval e X.env) :: starEach es X.env := by rfl) : XA X W Φ (e :: es) (xBnd f xx) := by
  obtain ⟨t, q, k⟩ := h1.ex
  obtain ⟨u, p, l⟩ := h.ex
  refine ⟨_, pa_cons q p hs, fun σ H F r Q S e hW => ?_⟩
  unfold xBnd at e
  split at e
  · rename_i d r1 e1
    refine k σ H F r d r1 _ S e1 fun v F1 H1 S1 G1 D1 => ?_
    exact l σ H1 F1 r1 _ S1 e fun cls d σ2 r2 F2 H2 S2 G2 w => hW cls d σ2 r2 F2 H2 S2 (G1.trans G2) w
  · cases e
theorem xe_argC {sp : Sp} (G : CF X.prog X.w X.K X.mg X.base k x ps sp) (hr : Room j X.A) (hkj : k ≤ j) (hg : Gl X x) (ha : XA X W Φ (e :: es) xx)
    (hdb : (x == ("__debug__" : Str)) = false := by decide) (he : starEach (e :: es) X.env = (false, eval e X.env) :: starEach es X.env := by rfl) (hpl : (backTo pos (starEach es X.env)).any (·.1) = false := by rfl) :
    XEx X W Φ (.Call (.Name x p) (e :: es) [] pos) xx := by
  obtain ⟨f, fd, h1, h2, h3, h4⟩ := G
  obtain ⟨t, q, k⟩ := ha.ex
  exact ⟨_, pe_call (E := fun _ _ _ => False) h4 (hr.mono hkj) hg h2 h1 h3 .nil pass0 q hdb he hpl, fun σ H F r Q S e hW => k σ H F r _ S e hW⟩
end
/-! ### the class's facts -/
def oexB (K : PySem.W.Frag) (C : Addr) : Bool := match K.lookup C with
  | some ⟨.type "type", _, .cls cd, sl⟩ => (match cd.mro, sl.toList with
    | .ref C' :: bm, [_, _, _, _, some (.builtin n), _] => C' == C && (n == "ValueError.__new__" && (!cd.hasDel && (cd.hasDict && PySem.HandSPX.refsVE bm)))
    | _, _ => false)
  | _ => false
theorem oexB_ok {K : PySem.W.Frag} {C : Addr} (q : oexB K C = true) : ∃ nm q N bs bm sn sub ab col dd k0 k1 k2 k3 k5, K.lookup C = some (excClassObj nm q C N bs bm true sn sub ab col dd k0 k1 k2 k3 k5 "ValueError.__new__") ∧ PySem.HandSPX.refsVE bm = true := by
  unfold oexB at q
  split at q
  · rename_i dd cd sl ho
    split at q
    · rename_i C' bm k0 k1 k2 k3 n k5 hm hs
      simp only [Bool.and_eq_true, beq_iff_eq, Bool.not_eq_true'] at q
      obtain ⟨rfl, rfl, hdel, hdc, ht⟩ := q
      obtain ⟨nm, bs, mro, ns, qn, hd, sn, sub, ab, col, del⟩ := cd
      dsimp only at hm hdel hdc
      subst hm hdel hdc
      have hsl : sl = #[k0, k1, k2, k3, some (.builtin "ValueError.__new__"), k5] := by
        obtain ⟨l⟩ := sl
        simp only at hs
        rw [hs]
      subst hsl
      exact ⟨nm, qn, ns, bs, bm, sn, sub, ab, col, dd, k0, k1, k2, k3, k5, ho, ht⟩
    · cases q
  · cases q
/-! ### the law's last line -/
structure XL (X : Cx) (Pt : Addr) (sts : List Stmt) (x : Rho → Bool) : Prop where
  ex : ∃ t : TS, PSs X sts t ∧ ∀ (σ : St) (H F : Hp) (r : Rho) (D : Ends), SR X.prog X.w X.K F H σ r → H Pt = some (.tbl #[]) → ¬ OwnAt r σ Pt → x r = true → (∀ H', D.rt (.bl true) H') → t D σ H
theorem xl_cons {X : Cx} {Pt : Addr} {n : Nat} {st : Stmt} {sts : List Stmt} {m : M Out} {x : Rho → Bool} (h1 : RS X n st m) (h2 : XL X Pt sts x) : XL X Pt (st :: sts) (xSeq m x) := by
  obtain ⟨t, p, k⟩ := h1.ex
  obtain ⟨u, q, l⟩ := h2.ex
  refine ⟨_, pss_cons p q, fun σ H F r D S hP hO e hD => ?_⟩
  unfold xSeq at e
  split at e
  · rename_i r1 e1
    refine k σ H F r .nx r1 _ S e1 fun σ1 F1 H1 S1 G1 P1 => ?_
    refine l σ1 H1 F1 r1 D S1 (G1.keep _ _ hP hO) (fun z => ?_) e hD
    rcases G1.own _ z with z | z
    · exact hO z
    · rw [hP] at z
      cases z
  · cases e
/-! data without tables -/
def noTab (F : Hp) : Hp := fun b => match F b with
  | some (.tbl _) => none
  | o => o
theorem noTab_some {F : Hp} {b : Addr} {o : HO} (h : noTab F b = some o) : F b = some o ∧ ∀ ps, o ≠ .tbl ps := by
  unfold noTab at h
  split at h
  · cases h
  · rename_i n
    exact ⟨h, fun ps z => n ps (by rw [h, z])⟩
theorem noTab_of {F : Hp} {b : Addr} {o : HO} (h : F b = some o) (n : ∀ ps, o ≠ .tbl ps) : noTab F b = some o := by
  unfold noTab
  split
  · rename_i ps e
    rw [h] at e
    exact (n ps (Option.some.inj e)).elim
  · exact h
theorem noTab_none {F : Hp} {b : Addr} (h : F b = none) : noTab F b = none := by
  unfold noTab
  rw [h]
section
variable {K : PySem.W.Frag} {F : Hp}
mutual
theorem dp_noTab : ∀ {v : V} {d : PyData}, Dp K F v d → Dp K (noTab F) v d
  | _, _, .non => .non
  | _, _, .bl b => .bl b
  | _, _, .int i => .int i
  | _, _, .str x => .str x
  | _, _, .lst h q => .lst (by
      rcases h with (h | ⟨o, h⟩) | h
      · exact .inl (.inl (noTab_of h fun _ z => by cases z))
      · exact .inl (.inr ⟨o, noTab_of h fun _ z => by cases z⟩)
      · exact .inr h) (dpAll_noTab q)
  | _, _, .tup h q => .tup (by
      rcases h with (h | ⟨o, h⟩) | h
      · exact .inl (.inl (noTab_of h fun _ z => by cases z))
      · exact .inl (.inr ⟨o, noTab_of h fun _ z => by cases z⟩)
      · exact .inr h) (dpAll_noTab q)
theorem dpAll_noTab : ∀ {vs : List V} {ds : List PyData}, DpAll K F vs ds → DpAll K (noTab F) vs ds
  | _, _, .nil => .nil
  | _, _, .cons h q => .cons (dp_noTab h) (dpAll_noTab q)
end
end
theorem DictAt.noTab {P : Program} {w : World} {K : PySem.W.Frag} {F H H' : Hp} {a : Addr} {kvs : Rw} (d : DictAt P w K F H a kvs) (h : ∀ o, H a = some o → (∀ ps, o ≠ .tbl ps) → H' a = some o) : DictAt P w K (G65.noTab F) H' a kvs := by
  obtain ⟨d1, d2, o, es, ep, xs, h1, h2, h3, h4, h5, h6⟩ := d
  exact ⟨d1, d2, o, es, ep, xs, h _ h1 (fun _ z => by cases z), h2, h3, h4, h5, Paired.mapP h6 fun p q ⟨a1, a2, v, a3, a4⟩ => ⟨a1, dp_noTab a2, v, a3, dp_noTab a4⟩⟩
theorem SR.noTab {P : Program} {w : World} {K : PySem.W.Frag} {F H H1 : Hp} {σ : St} {r : Rho} (S : SR P w K F H σ r) (e : ExtN H H1) : SR P w K (G65.noTab F) H1 σ r := by
  refine ⟨fun b o h => ?_, S.len, fun i en h => ?_, S.dis⟩
  · obtain ⟨h1, h2⟩ := noTab_some h
    exact e _ _ (S.sub _ _ h1) h2
  · obtain ⟨v, h1, h2⟩ := S.ent i en h
    refine ⟨v, h1, ?_⟩
    cases h2 with
    | d q => exact .d (dp_noTab q)
    | ml a1 a2 a3 => exact .ml (noTab_none a1) (e _ _ a2 fun _ z => by cases z) (dpAll_noTab a3)
    | md a1 a2 => exact .md (noTab_none a1) (a2.noTab fun o q n => e _ _ q n)
    | fd a1 => exact .fd (a1.noTab fun o q n => noTab_of q n)
/-- what raises, as a reading by its data -/
def tX (P : Program) (w : World) (K : PySem.W.Frag) (x : Rho → Bool) (Φ : Phi) (E : XK) : TE := fun σ H _ => ∃ F r, SR P w K F H σ r ∧ x r = true ∧ ∀ cls d σ' r' F' H', SR P w K F' H' σ' r' → Go σ r F H σ' r' F' H' → Φ cls d H' → E cls d H'
theorem pe_tX {X : Cx} {e : Expr} {x : Rho → Bool} {Φ : Phi} {E : XK} (h : XEx X (fun cls d _ H => E cls d H) Φ e x) : PE X e (tX X.prog X.w X.K x Φ E) := by
  obtain ⟨t, p, k⟩ := h.ex
  exact ⟨fun pins s σ H Q I ⟨F, r, S, hx, hE⟩ => p.run pins s σ H Q I (k σ H F r Q S hx fun cls d σ' r' F' H' S' G' w => hE cls d σ' r' F' H' S' G' w)⟩
theorem takes_lam {X : Cx} {A : Around} {outer : List Env} {s : Shared} {H : Hp} {E : XK} {scope : Scope} {f c' : Addr} : L2N.Takes (lamCxN X A outer s H E scope f c') (fun cls d _ H => E cls d H) := L2N.takes_of rfl rfl rfl rfl
/-- the lambda raises TooMany(m): what _law_try tells -/
def TTry (D : Addr) (m : Int) : (XK → Hp → VK → Prop) → Hp → VK → Prop := fun tl H Q => ∀ Q', tl (fun cls d H' => cls = .ref D ∧ ∃ dd, d = some dd ∧ H' dd = some (.xd [("most", .int m)]) ∧ ∀ p H'', Same H' H'' → H'' p = some (.lst [.str "TooMany+", .int m]) → Q (.ref p) H'') H Q'
theorem xl_last {X : Cx} {Pt D : Addr} {m : Int} {q : Str} {e : Expr} {x : Rho → Bool} {j i1 i2 : Nat} {q1 q2 q3 q4 q5 : Pos} (hr : Room j X.A) (pl : PE X e (tLam [(Pt, q)] (TTry D m) (tX X.prog X.w X.K x (PhiI D "most" m))))
    (he : (eqD (.list [.str "TooMany+", .int m]) (.list [.str "TooMany+", .int m])).map PyData.bool = some (.bool true)) (hm : behindInMarks .Eq (.List [.Constant (.str "TooMany+") i1 q1, .Constant (.int m) i2 q2] q3) = false := by first | rfl | exact nomark _) (hs1 : starEach [.Constant (.str "TooMany+") i1 q1, .Constant (.int m) i2 q2] X.env = (false, eval (.Constant (.str "TooMany+") i1 q1) X.env) :: starEach [.Constant (.int m) i2 q2] X.env := by rfl) :
    XL X Pt [.Return (some (.Compare e [.Eq] [.List [.Constant (.str "TooMany+") i1 q1, .Constant (.int m) i2 q2] q3] q4)) q5] x := by
  obtain ⟨rr, ro, ko⟩ := cm_eq (X := X) hr
  refine ⟨_, pss_one (ps_ret (pe_cmpR ro pl (pe_lst (pa_cons pe_str (pa_cons pe_int pa_nil) hs1)) hm)), fun σ H F r Dn S hP hO hx hD => ?_⟩
  refine ⟨fun p hp => ?_, fun H1 eN T1 Q' => ⟨noTab F, r, S.noTab eN, hx, fun cls d σ' r' F' H' S' G' hΦ => ?_⟩⟩
  · rw [List.mem_singleton.mp hp]
    exact TabS.nil hP
  · obtain ⟨h1, dd, h2, h3⟩ := hΦ
    refine ⟨h1, dd, h2, h3, fun p H'' Sm hp => ⟨Nat.le_trans (by decide : 2 ≤ 9) (by decide), fun p2 n2 => ?_⟩⟩
    have S2 := same_updN (o := .lst [V.str "TooMany+", V.int m]) n2
    refine ko (.ref p) (.ref p2) _ _ (.bool true) _ _ Dn.rt (Same.refl _) (.lst (.inl (.inl (S2 _ _ hp))) (.cons (.str _) (.cons (.int _) .nil))) (.lst (.inl (.inl upd_same)) (.cons (.str _) (.cons (.int _) .nil))) he fun v F3 H3 _ Dv => ?_
    cases Dv
    exact hD H3
def spL (K : PySem.W.Frag) (Pt : Addr) (n : Nat) (den : List PyData → Bool) : Sp := fun vs H Q _ => ∃ F ds, ds.length = n ∧ Same F H ∧ DpAll K F vs ds ∧ H Pt = some (.tbl #[]) ∧ den ds = true ∧ ∀ H', Q (.bl true) H'
theorem fnL {P : Program} {w : World} {K : PySem.W.Frag} {mg : Str → Option Value} {base : Heap} {x : Str} {st : Stmt} {f : Addr} {fd : FuncData} {N ps : List Str} {k : Nat} {xM : Rho → Bool} {pd : He.Defn} (F : FnP K x st f fd) (S : FnScope N ps (defScope st)) (hf : f = He.fAd K pd)
    (h : ∀ (A : Around) (outer : List Env) (s : Shared) (H : Hp) (E : XK), Room k (A.deeper (envOfC x (defScope st) s.heap.objs.size f (.ref (He.cT K pd).1))) → XL (cxOf CX0 P w K mg base N x (defScope st) f (.ref (He.cT K pd).1) A outer s H E).nox (He.cT K pd).2 (defBody st) xM) :
    FnOk P w K mg base CX0 (k + 1) f fd ps (spL K (He.cT K pd).2 ps.length (runX N.length xM)) := by
  obtain ⟨oc, od, dV, kV, doc, pm, an, cdv, ct, osl, rfl, lk, hcd, _, _⟩ := F.ex
  obtain ⟨c0, rfl⟩ := He.codeIn_ref hcd
  have ec : (He.cT K pd).1 = c0 := He.codeOf_eq (by rw [← hf]; exact lk) rfl
  refine fn_of lk hcd S (fun vs H Q E ⟨Fh, ds, h1, h2, h3, _⟩ => by rw [h3.length, h1]) fun A outer s H vs Q E hr hsp => ?_
  rw [← ec] at hr ⊢
  obtain ⟨Fh, ds, hl, hs, hD, hP, hd, hQ⟩ := hsp
  obtain ⟨t, pt, kt⟩ := (h A outer s H E hr).ex
  refine ⟨t, pt.nox, ?_⟩
  obtain ⟨S0, no⟩ := sr_start0 (P := P) (w := w) (N := N) hs hD
  exact kt _ H Fh _ _ S0 hP (no _) hd hQ
theorem walk_ofTE {l : PySem.W.OpenLaw} {n k : Nat} {q : Program} {loose : List Str} {XP : (Str → Option Value) → Heap → Prop} {YP : World → Heap → Prop} {d : DefRec} {CX : CXT} {x : Str}
    (hn : l.most = some n) (hn2 : n ≤ sizeLine) (hdf : d.params.defaults = []) (hr : Room k callerA)
    (F : ∀ (w : World) (mg : Str → Option Value) (fa : Addr) (h : Heap), YP w h → h.Ns mainGlobals mg → mg d.name = some (.ref fa) → ∃ K : PySem.W.Frag, K.In h ∧ LawAtS l w K CX k n x mg fa h)
    (hCX : ∀ (H : Hp) (s : Shared) (e : Value) (s' : Shared), CX [] H s (fun _ _ _ => False) e s' → False) :
    PySem.W.WalkO q loose XP YP l.row.toRowW d [] (fun f vs => PySem.call f vs) := by
  refine Att.attach_callB hn hdf fun w s₀ s₁ mg mb fa o pm cd doc a vs ns G Y ho hd hcd hmg hobj hints hlen hbits hg => ?_
  obtain ⟨K, KX, fd, cs, sp, hT, nT, C, hb, hsp, hF⟩ := F w mg fa _ Y G.T.g hmg
  exact law_callTs KX G.T.g G.T.b G.T.builtins G.T.nolimit hg hT nT C G.T.bmain hobj hints (Nat.le_trans hlen hn2) hr hF hb (fun H hH hS => hsp H a ns hlen hbits hH hS) fun H e s' => hCX H s₁ e s'
end G65
/-! lambdas that are kept: a closure and its cells as tracked things -/
namespace G65
open PySem PySem.Spec PyProof.Rows L2 LamX
structure Clo where
  q : Str
  params : Arguments
  body : Expr
  scope : Scope
  cl : List (Str × Addr)
  c' : Addr
def CloO (f : Addr) (k : Clo) : HO := .ext fun h => ∃ pm ctv, h.get? f = some (PySem.W.kla_obj "<lambda>" k.q k.params k.body k.scope k.cl pm k.c' ctv)
def CellO (c : Addr) (v : V) : HO := .ext fun h => ∃ u, RelV v u ∧ h.IsCell c (some u)
def cellsOf (cl : List (Str × Addr)) : List Addr := cl.map (·.2)
/-- without the cells -/
def delC (cl : List (Str × Addr)) (H : Hp) : Hp := fun b => if b ∈ cellsOf cl then none else H b
/-- with them again -/
def addC (cl : List (Str × Addr)) (H H' : Hp) : Hp := fun b => if b ∈ cellsOf cl then H b else H' b
theorem lookup_cell {cl : List (Str × Addr)} {y : Str} {c : Addr} (h : cl.lookup y = some c) : c ∈ cellsOf cl := List.mem_map.2 ⟨_, PySem.mem_of_lookup h, rfl⟩
/-- the cells of a closure are tracked -/
def CellsAt (cl : List (Str × Addr)) (H : Hp) : Prop := ∀ c ∈ cellsOf cl, ∃ v, H c = some (CellO c v)
theorem delC_in {cl : List (Str × Addr)} {H : Hp} {b : Addr} (h : b ∈ cellsOf cl) : delC cl H b = none := if_pos h
theorem delC_out {cl : List (Str × Addr)} {H : Hp} {b : Addr} (h : b ∉ cellsOf cl) : delC cl H b = H b := if_neg h
theorem delC_none {cl : List (Str × Addr)} {H : Hp} {b : Addr} (h : H b = none) : delC cl H b = none := by
  unfold delC
  split
  · rfl
  · exact h
theorem CellsAt.not {cl : List (Str × Addr)} {H : Hp} (C : CellsAt cl H) {b : Addr} {o : HO} (h : H b = some o) (ne : ∀ v, o ≠ CellO b v) : b ∉ cellsOf cl := fun hb => by
  obtain ⟨v, hv⟩ := C b hb
  rw [h] at hv
  exact ne v (Option.some.inj hv)
theorem CellsAt.notN {cl : List (Str × Addr)} {H : Hp} (C : CellsAt cl H) {b : Addr} (h : H b = none) : b ∉ cellsOf cl := fun hb => by
  obtain ⟨v, hv⟩ := C b hb
  rw [h] at hv
  cases hv
section
variable {P : Program} {w : World} {K : PySem.W.Frag} {mg : Str → Option Value} {base : Heap} {A : Around} {outer : List Env} {s : Shared} {H H' : Hp} {cl : List (Str × Addr)}
theorem hok_del (C : CellsAt cl H) (x : HOk P w H s.heap) : HOk P w (delC cl H) s.heap := fun a o e => by
  have hn : a ∉ cellsOf cl := fun z => by rw [delC_in z] at e; cases e
  rw [delC_out hn] at e
  refine (x a o e).stay (fun _ _ _ q => q) (fun b q => ?_) fun b xs q => ?_
  · rw [delC_out (C.not q fun v z => by cases z)]
    exact q
  · rw [delC_out (C.not q fun v z => by cases z)]
    exact q
theorem env0_del (C : CellsAt cl H) (e : Env0 P w K mg base A outer s H) : Env0 P w K mg base A outer s (delC cl H) :=
  ⟨e.frames, e.mod, fun b o q => ⟨(e.bs b o q).1, delC_none (e.bs b o q).2⟩, e.bsz, e.funs, fun b q => delC_none (e.frf b q), hok_del C e.hok, e.bare⟩
theorem cell_at (x : HOk P w H s.heap) {c : Addr} {v : V} (h : H c = some (CellO c v)) : ∃ u, RelV v u ∧ s.heap.IsCell c (some u) := (x c _ h).1
theorem cell_nofr (x : HOk P w H s.heap) (ff : s.heap.FunFrames base outer) {c : Addr} {v : V} (h : H c = some (CellO c v)) (frf : ∀ b ∈ frs outer, H b = none) : c ∉ frs outer := fun z => by
  rw [frf c z] at h
  cases h
theorem cx_back {E : XK} {e : Value} {s' : Shared} (C : CellsAt cl H) (x : HOk P w H s.heap) (frf : ∀ b ∈ frs outer, H b = none) (c : L2N.CX P w outer (delC cl H) s E e s') : L2N.CX P w outer H s (fun cls d H'' => ∃ H', E cls d H' ∧ H'' = addC cl H H') e s' := by
  obtain ⟨a, B, H', cls, d, rfl, fl, hok, ub, na, os, ag, hE⟩ := c
  have inC : ∀ b ∈ cellsOf cl, b ∉ frs outer := fun b hb z => by
    obtain ⟨v, hv⟩ := C b hb
    rw [frf b z] at hv
    cases hv
  have cB : ∀ b ∈ cellsOf cl, ∀ o, s.heap.get? b = some o → B.get? b = some o := fun b hb o q => ub.keep b o q (delC_in hb) (inC b hb)
  have cE : ∀ b ∈ cellsOf cl, ∃ o, s.heap.get? b = some o := fun b hb => by
    obtain ⟨v, hv⟩ := C b hb
    obtain ⟨_, z, _⟩ := x b _ hv
    exact z
  have hN : ∀ b ∈ cellsOf cl, H' b = none := fun b hb => by
    obtain ⟨o, q⟩ := cE b hb
    exact ub.free b o q (delC_in hb)
  have out : ∀ b, b ∉ cellsOf cl → addC cl H H' b = H' b := fun b hb => if_neg hb
  have inn : ∀ b, b ∈ cellsOf cl → addC cl H H' b = H b := fun b hb => if_pos hb
  refine ⟨a, B, addC cl H H', cls, d, rfl, fl, fun b o q => ?_, ⟨fun b o q n hf => ub.keep b o q (delC_none n) hf, ub.slot, fun b o q n => ?_, ub.there, fun b xs q => ?_, fun b o u q => ?_, fun b ps q => ?_⟩, ?_, os, ag, H', hE, rfl⟩
  · by_cases hb : b ∈ cellsOf cl
    · rw [inn b hb] at q
      obtain ⟨v, hv⟩ := C b hb
      rw [hv] at q
      cases q
      obtain ⟨p1, ⟨o, p2⟩, p3⟩ := x b _ hv
      exact ⟨p3 _ _ p1 fun o q => cB b hb o q, ⟨o, cB b hb o p2⟩, p3⟩
    · rw [out b hb] at q
      refine (hok b o q).stay (fun _ _ _ z => z) (fun y z => ?_) fun y xs z => ?_
      · rw [out y fun hy => by rw [hN y hy] at z; cases z]
        exact z
      · rw [out y fun hy => by rw [hN y hy] at z; cases z]
        exact z
  · rw [out b (C.notN n)]
    exact ub.free b o q (delC_none n)
  · have hb := C.not q fun v z => by cases z
    rw [out b hb]
    exact ub.tups b xs (by rw [delC_out hb]; exact q)
  · have hb := C.not q fun v z => by cases z
    rw [out b hb]
    exact ub.frzs b o u (by rw [delC_out hb]; exact q)
  · have hb := C.not q fun v z => by cases z
    rw [out b hb]
    exact ub.tbls b ps (by rw [delC_out hb]; exact q)
  · have ha : a ∉ cellsOf cl := fun z => by
      obtain ⟨o, q⟩ := cE a z
      have := cB a z o q
      rw [fl.2.1] at this
      cases this
    rw [out a ha]
    exact na
end
/-! ### the lambda's own names -/
structure LamSC (scope : Scope) : Prop where
  kind : scope.kind = .function
  co : scope.isCoroutine = false
  gen : scope.isGenerator = false
  own : ∀ y ∈ scope.names, y.2 ≠ .local ∧ y.2 ≠ .cell
abbrev envC (k : Clo) (L f : Addr) : Env := PySem.W.envX k.q k.scope L f (.ref k.c') k.cl
def lamCxC (P : Program) (w : World) (K : PySem.W.Frag) (mg : Str → Option Value) (base : Heap) (k : Clo) (N : List Str) (A : Around) (outer : List Env) (s : Shared) (H : Hp) (E : XK) (f : Addr) : Cx where
  prog := P
  w := w
  K := K
  mg := mg
  base := base
  A := A.deeper (envC k s.heap.objs.size f)
  N := N
  s_0 := s
  H_0 := H
  env := envC k s.heap.objs.size f
  outer := outer
  stack := envC k s.heap.objs.size f :: outer
  ex := []
  fn := fun _ => false
  calm := true
  pn := []
  xe := fun e s' => wpAny (model P w) (A.deeper (envC k s.heap.objs.size f)) (leaving (envC k s.heap.objs.size f) e) (fun _ s'' => L2N.CX P w outer H s E e s'') (fun e' s'' => L2N.CX P w outer H s E e' s'') s'
/-- what a call of the closure asks of the heap -/
structure CloAt (H : Hp) (f : Addr) (k : Clo) (N : List Str) (σ : St) : Prop where
  clo : H f = some (CloO f k)
  code : H k.c' = some (CodeO k.c' k.q)
  cells : CellsAt k.cl H
  inj : ∀ x y c, k.cl.lookup x = some c → k.cl.lookup y = some c → x = y
  has : ∀ y, k.scope.names.lookup y = some .free → ∃ c, k.cl.lookup y = some c
  val : ∀ (i : Nat) (y : Str) (v : V), N[i]? = some y → σ[i]? = some (some v) → k.scope.names.lookup y = some .free → ∃ c, k.cl.lookup y = some c ∧ H c = some (CellO c v)
  len : σ.length = N.length
section
variable {P : Program} {w : World} {K : PySem.W.Frag} {mg : Str → Option Value} {base : Heap} {A : Around} {outer : List Env} {s1 : Shared} {HZ : Hp} {k : Clo} {N : List Str} {σ : St} {f : Addr}
theorem lam_startC {E : XK} {h₁ : Heap} {tk : Nat} (L : LamSC k.scope) (e0 : Env0 P w K mg base A outer s1 HZ) (hd : A.handled = none) (C : CloAt HZ f k N σ) (hns : h₁.Ns s1.heap.objs.size fun y => ([] : List (Str × Value)).reverse.lookup y) (kp : ∀ b o, s1.heap.get? b = some o → h₁.get? b = some o) :
    Inv (lamCxC P w K mg base k N A outer s1 (delC k.cl HZ) E f) [] σ (delC k.cl HZ) { s1 with heap := h₁, toks := tk } := by
  have e1 := env0_del C.cells e0
  have cellK : ∀ {c : Addr} {v : V}, HZ c = some (CellO c v) → ∃ u, RelV v u ∧ h₁.IsCell c (some u) := fun {c v} h => by
    obtain ⟨u, r, o, ho, hd⟩ := cell_at e0.hok h
    exact ⟨u, r, o, kp _ _ ho, hd⟩
  have noA : ∀ b : Addr, b ∉ (lamCxC P w K mg base k N A outer s1 (delC k.cl HZ) E f).ex := fun b z => absurd (show b ∈ ([] : List Addr) from z) (by simp)
  refine ⟨⟨e1.mod, L.kind, rfl, rfl, Nat.le_refl _, fun y z c e1 e2 => C.inj y z c e1 e2, fun y hy => ?_, fun y c z _ => ?_, fun _ => hd, Around.frames_deeper e1.frames, .inr ⟨rfl, rfl⟩, fun b z => absurd z (noA b), e1.bs, e1.bsz, fun b _ _ => noA b,
      fun b z => absurd z (noA b), e1.funs, e1.frf⟩,
    rfl, e1.bare, Un.kept kp, ⟨_, hns, fun i y v e1 e2 e3 => ?_⟩, fun y c e => ?_, e1.hok.fresh (Nat.le_refl _), fun y c e => ?_, fun q hq => absurd (show q ∈ ([] : List (Addr × Obj)) ++ [] from hq) (by simp), e1.hok.kept kp, C.len⟩
  · have hy : k.scope.names.lookup y = some .cell ∨ k.scope.names.lookup y = some .free := hy
    rcases hy with hy | hy
    · exact absurd rfl (L.own _ (PySem.mem_of_lookup hy)).2
    · exact C.has y hy
  · have z : false = true := z
    cases z
  · have e3 : Vis k.scope y := e3
    rcases e3 with q | q | q
    · exact absurd rfl (L.own _ (PySem.mem_of_lookup q)).1
    · exact absurd rfl (L.own _ (PySem.mem_of_lookup q)).2
    · obtain ⟨c, h1, h2⟩ := C.val i y v e1 e2 q
      obtain ⟨u, r, z⟩ := cellK h2
      exact ⟨u, r, .inr ⟨.inr q, c, h1, z⟩⟩
  · have e : k.cl.lookup y = some c := e
    obtain ⟨v, hv⟩ := C.cells c (lookup_cell e)
    obtain ⟨u, _, z⟩ := cellK hv
    exact ⟨_, z⟩
  · exact delC_in (lookup_cell e)
end
/-- x(), in a def that was handed a closure -/
theorem pe_actC {P : Program} {w : World} {K : PySem.W.Frag} {mg : Str → Option Value} {base : Heap} {A : Around} {outer : List Env} {s : Shared} {H : Hp} {CXg : CXT} {Eg : XK} {Ng : List Str} {qg : Str} {sg : Scope} {g : Addr} {cdg : Value} {kk i : Nat} {a : Str} {pn : List (Addr × Obj)} {xe : Value → Shared → Prop} {W : WX} {p1 p2 : Pos} {k : Clo} {N : List Str} {tb : XK → TE}
    (L : LamSC k.scope) (hbind : ∀ (pm cv ctv : Value), bindArgs (PySem.W.kla_fn "<lambda>" k.q k.params k.body k.scope k.cl pm cv ctv) ⟨[], []⟩ = pure [])
    (tk : L2N.Takes ((cxOf CXg P w K mg base Ng qg sg g cdg A outer s H Eg).tr pn xe) W) (hr : Room (kk + 1) (A.deeper (envOfC qg sg s.heap.objs.size g cdg)))
    (hbody : ∀ (A : Around) (outer : List Env) (s : Shared) (H : Hp) (E : XK) (f : Addr), Room kk (A.deeper (envC k s.heap.objs.size f)) → PE (lamCxC P w K mg base k N A outer s H E f) k.body (tb E))
    (hN : Ng[i]? = some a) (hv : Vis sg a) (hd : (a == ("__debug__" : Str)) = false := by decide) (hcd : (a == ("__classdict__" : Str)) = false := by decide) :
    PE ((cxOf CXg P w K mg base Ng qg sg g cdg A outer s H Eg).tr pn xe) (.Call (.Name a p1) [] [] p2)
      (fun σZ HZ Q => ∃ (f : Addr) (σ : St), σZ[i]? = some (some (.ref f)) ∧ CloAt HZ f k N σ ∧ ∃ E : XK, (∀ cls d H', E cls d H' → W cls d σZ (addC k.cl HZ H')) ∧ tb E σ (delC k.cl HZ) (fun _ _ => False)) := by
  refine ⟨fun pinsZ sZ σZ HZ Q IZ ⟨f, σ, hs, C, E, hW, ht⟩ => ?_⟩
  refine wpAny_Call_Name_kw (thn ((pe_var (pos := p1) (i := i) hN hv hd hcd).run pinsZ sZ σZ HZ (fun v H1 => v = .ref f ∧ H1 = HZ) IZ ⟨.ref f, hs, rfl, rfl⟩) fun u s1 ⟨v, H1, I1, r1, ev, eH⟩ => ?_)
  subst ev
  rw [eH] at I1
  obtain rfl : u = Value.ref f := r1
  obtain ⟨⟨pm, ctv, of1⟩, _, _⟩ := I1.hok f _ C.clo
  refine PySem.W.callWith_F0 ⟨_, _, _, _, of1⟩ ?_
  obtain ⟨⟨oc, vs, t, hoc, hdc, hvc⟩, _, _⟩ := I1.hok k.c' _ C.code
  have rc : codeAny (model P w) (A.deeper (envOfC qg sg s.heap.objs.size g cdg)) (.call (.ref f) ⟨[], []⟩) (CR (L2N.CX P w) (envOfC qg sg s.heap.objs.size g cdg :: outer) P w HZ s1 (fun _ _ => False) (fun cls d H'' => ∃ H', E cls d H' ∧ H'' = addC k.cl HZ H')) s1 := by
    refine PySem.W.kla_callFunE hr.depth of1 rfl L.co L.gen rfl ⟨k.c', oc, vs, t, rfl, hoc, hdc, hvc⟩ ?_
    rw [hbind]
    refine wpAny_pure (wpAny_newFunctionEnv (fun y hy => (L.own y hy).2) (fun y hy => absurd hy (by simp)) (fun h₁ hns hsb => ⟨I1.nolimit.fresh _ hsb, ?_⟩) L.kind)
    show codeAny _ _ (.expr k.body (envC k s1.heap.objs.size f)) _ _
    have kp : ∀ b o, s1.heap.get? b = some o → h₁.get? b = some o := fun b o e => hsb.extBut b o (Nat.ne_of_lt (Heap.lt_size e)) (Heap.get?_push_of_some _ e)
    have J : Inv (lamCxC P w K mg base k N (A.deeper (envOfC qg sg s.heap.objs.size g cdg)) (envOfC qg sg s.heap.objs.size g cdg :: outer) s1 (delC k.cl HZ) E f) [] σ (delC k.cl HZ) { s1 with heap := h₁, toks := s1.toks + ([] : List (Str × Value)).length } := lam_startC L I1.env0 hr.hd C hns kp
    refine PySem.W.kla_codeExpr (wpAny_mono ((hbody _ _ s1 (delC k.cl HZ) E f (hr.deeper _)).run [] _ _ (delC k.cl HZ) (fun _ _ => False) J ht) (fun v s' ⟨w', H', J', rv, q⟩ => q.elim) fun e s' hq => ?_)
    refine wpAny_mono hq (fun _ s'' z => ?_) fun e' s'' z => ?_
    · exact cx_back C.cells I1.hok I1.stkFree z
    · exact cx_back C.cells I1.hok I1.stkFree z
  refine wpAny_call (codeAny_mono rc fun r s' hq => ?_)
  cases r with
  | error e => exact tk e s' (L2N.XE.of_call I1 (fun cls d H'' ⟨H', h1, h2⟩ => by rw [h2]; exact hW cls d H' h1) hq)
  | ok fl =>
    cases fl with
    | ret u =>
      obtain ⟨_, _, _, _, _, _, _, z⟩ := hq
      exact z.elim
    | next => exact False.elim hq
    | brk => exact False.elim hq
    | cont => exact False.elim hq
/-! ### try with two clauses and more: the second one is met -/
def wAs2 (K : PySem.W.Frag) (c1 c : Value) (i : Nat) (ts : Addr → Value → Option Addr → TS) (D : Ends) : WX := fun cls d σ H =>
  PySem.W.exmOne K cls c1 = some false ∧ PySem.W.exmOne K cls c = some true ∧ ∀ a, H a = none → ts a cls d { nx := fun σ' H' => D.nx (σ'.set i none) H', rt := D.rt, bk := fun σ' H' => D.bk (σ'.set i none) H', ct := fun σ' H' => D.ct (σ'.set i none) H' } (σ.set i (some (.ref a))) H
section
variable {X : Cx} {x1 n1 x n : Str} {c1 c : Value} {i : Nat} {body suite : List Stmt} {b₀ : Stmt} {np np1 pos pos' pos1 : Pos} {suite1 : List Stmt} {tb : WX → TS} {ts : Addr → Value → Option Addr → TS} {hds : List ExceptHandler}
theorem ps_try_as2 (hs : X.stack = X.env :: X.outer) (hf : X.env.frame = some X.env.locals) (hN : X.N.Nodup) (hi : X.N[i]? = some n) (hln : X.env.kindOf n = some .local) (hc1 : Names X x1 c1) (hc : Names X x c)
    (hb : ∀ (W : WX) (pn : List (Addr × Obj)) (xe : Value → Shared → Prop), L2N.Takes (X.tr pn xe) W → PassesOwn (model X.prog X.w) X.A X.env xe → PSs (X.tr pn xe) body (tb W))
    (hsu : ∀ (a : Addr) (oe : Obj) (cls : Value) (d : Option Addr) (pn : List (Addr × Obj)), L2N.Zn cls d oe → (∃ vs, oe.data = .fields vs) → PSs (X.suite a ((a, oe) :: pn)) (b₀ :: suite) (ts a cls d)) :
    PS X (.Try body (.ExceptHandler (some (.Name x1 np1)) (some n1) suite1 pos1 :: .ExceptHandler (some (.Name x np)) (some n) (b₀ :: suite) pos' :: hds) [] [] pos) (fun D σ H => tb (wAs2 X.K c1 c i ts D) D σ H) := by
  refine ⟨fun pins s σ H D I h => ?_⟩
  have ok := I.ok
  have hfr : X.A.frames = some (X.env :: X.outer) := by rw [ok.frames, hs]
  have hloc : Loc X.env.scope n := .inl hln
  refine wpAny_Try_except ?_
  refine wpAny_mono ((hb (wAs2 X.K c1 c i ts D) (X.pn ++ pins) (fun e s₁ => wpAny (model X.prog X.w) X.A (noteFrame e X.env) (fun _ s₂ => wpAny (model X.prog X.w) X.A (setFlight e none) (fun _ s₃ =>
    wpAny (model X.prog X.w) X.A (handleBy e X.env (.ExceptHandler (some (.Name x1 np1)) (some n1) suite1 pos1 :: .ExceptHandler (some (.Name x np)) (some n) (b₀ :: suite) pos' :: hds)) (SP X pins D) X.xe s₃) X.xe s₂) X.xe s₁) (fun u s' xx => ?_) PassesOwn.looking).run [] s σ H D (I.toTry _) h) (fun f s1 hsp => ?_) (fun e s1 he => he)
  · -- the catch
    obtain ⟨a, B, sI, pins', σ', H', cls, d, rfl, J', nb, up, sky, na, os, ag, hb0, hb1, hyes⟩ := xx
    have J : Inv X pins σ' H' sI := J'.ofTry ok
    have sky' : Sky B (X.env :: X.outer) a (L2N.Zn cls d) X.env.locals s'.heap := by rw [← hs]; exact sky
    show wpAny (model X.prog X.w) X.A (noteFrame (.ref a) X.env) _ _ _
    refine L2N.Sky.land L2N.Zn.steady hfr hf sky' fun h3 fl3 up3 => ?_
    have J3 : Inv X pins σ' H' { s' with heap := h3 } := J.landed nb fl3.1 (up.trans up3) os ag
    obtain ⟨oe3, vs3, he3, hz3, hd3⟩ := fl3.there
    have notFr : ∀ {h : Heap} {o : Obj} {vs : Array Value}, h.FunFrames B (X.env :: X.outer) → h.get? a = some o → o.data = .fields vs → a ∉ frs (X.env :: X.outer) := fun {h o vs} ff e dd hm => by
      obtain ⟨_, o', e', hnf⟩ := ff.mem hm
      rw [e] at e'; cases e'
      exact hnf _ dd
    have nfr := notFr fl3.2.2.1 he3 hd3
    have nL : a ≠ X.env.locals := fun z => nfr (List.mem_filterMap.mpr ⟨X.env, List.mem_cons_self, by rw [hf, z]⟩)
    have nF : a ∉ X.fs := fun hm => by
      obtain ⟨e, he, q⟩ := List.mem_filterMap.mp hm
      exact nfr (List.mem_filterMap.mpr ⟨e, List.mem_cons_of_mem _ he, q⟩)
    have S3 := J3.suite he3 hd3 na nL nF
    have LT : PySem.W.Looks (model X.prog X.w) h3 (typeOf (.ref a)) cls := fun A Q E s k q => wpAny_typeOf_ref (k _ _ he3) (by rw [hz3.1]; exact q)
    have LM := PySem.W.exm_one (M := model X.prog X.w) (J3.kIn) LT hb1
    have LM0 := PySem.W.exm_one (M := model X.prog X.w) (J3.kIn) LT hb0
    have test : ∀ {x : Str} {c : Value} {np : Pos} {Q : Value → Shared → Prop} {E : Value → Shared → Prop}, Names X x c → Q c { s' with heap := h3 } → wpAny (model X.prog X.w) (X.A.mark (some (.ref a))) (eval (.Name x np) X.env) Q E { s' with heap := h3 } := fun {x c np Q E} hc q => by
      obtain ⟨hg, hdbg, hm | ⟨hm, hv, hnn⟩⟩ := hc
      · exact ld_glob (X := X.suite a ((a, oe3) :: (X.pn ++ pins))) S3 hg hm q hdbg
      · exact ld_blt (X := X.suite a ((a, oe3) :: (X.pn ++ pins))) S3 hg hm hv q hnn hdbg
    refine wpAny_handleBy_cons (codeAny_handlers_test ?_) (by intro q; cases q)
    refine test hc1 (LM0.here ?_)
    show wpAny _ X.A (handleBy (.ref a) X.env (.ExceptHandler (some (.Name x np)) (some n) (b₀ :: suite) pos' :: hds)) _ _ _
    refine wpAny_handleBy_cons (codeAny_handlers_test ?_) (by intro q; cases q)
    refine test hc (LM.here ?_)
    · refine codeAny_handlers_suite_as ?_
      refine HandSPX.lands_againZ fl3 fun h4 fl4 up4 => ?_
      have J4 : Inv X pins σ' H' { s' with heap := h4 } := J.landed nb fl4.1 ((up.trans up3).trans up4) os ag
      obtain ⟨oe4, vs4, he4, hz4, hd4⟩ := fl4.there
      have S4 := J4.suite he4 hd4 na nL nF
      refine store_ok (X := X.suite a ((a, oe4) :: (X.pn ++ pins))) (v := .ref a) S4 hN hi hloc rfl (fun s5 S5 => ?_) (.inr hln)
      refine wpAny_mono ((hsu a oe4 cls d (X.pn ++ pins) hz4 ⟨_, hd4⟩).run [] s5 _ H' _ S5 (hyes a na)) (fun f s6 hsp => ?_) (fun _ _ z => False.elim z)
      have end_ : ∀ {σ6 : St} {H6 : Hp} {Q : Shared → Prop}, Inv (X.suite a ((a, oe4) :: (X.pn ++ pins))) [] σ6 H6 s6 → (∀ s7, Inv X pins (σ6.set i none) H6 s7 → Q s7) →
          wpAny (model X.prog X.w) X.A (do bindName X.env n .none; unbindBehindTheSuite X.env n pos') (fun _ s7 => Q s7) X.xe s6 := fun {σ6 H6 Q} S6 hq => gone_ok (S6.unsuite ok) hN hi hln hq
      cases f with
      | next =>
        obtain ⟨σ6, H6, S6, q6⟩ := hsp
        exact end_ S6 fun s7 J7 => ⟨_, _, J7, q6⟩
      | brk =>
        obtain ⟨σ6, H6, S6, q6⟩ := hsp
        exact end_ S6 fun s7 J7 => ⟨_, _, J7, q6⟩
      | cont =>
        obtain ⟨σ6, H6, S6, q6⟩ := hsp
        exact end_ S6 fun s7 J7 => ⟨_, _, J7, q6⟩
      | ret u =>
        obtain ⟨v6, σ6, H6, S6, r6, q6⟩ := hsp
        exact end_ S6 fun s7 J7 => ⟨_, _, _, J7, r6, q6⟩
  · cases f with
    | next =>
      obtain ⟨σ', H', J', q⟩ := hsp
      exact wpAny_execs_nil ⟨σ', H', J'.ofTry ok, q⟩
    | brk =>
      obtain ⟨σ', H', J', q⟩ := hsp
      exact ⟨σ', H', J'.ofTry ok, q⟩
    | cont =>
      obtain ⟨σ', H', J', q⟩ := hsp
      exact ⟨σ', H', J'.ofTry ok, q⟩
    | ret u =>
      obtain ⟨v, σ', H', J', r, q⟩ := hsp
      exact ⟨v, σ', H', J'.ofTry ok, r, q⟩
end
end G65
/-! refusals: classes without an own __init__ -/
namespace G65
open PySem PySem.Spec PyProof.Rows L2 LamX
abbrev bmVE : List Value := [.type "ValueError", .type "Exception", .type "BaseException", .type "object"]
def PhiP (C : Addr) : Phi := fun cls d _ => cls = .ref C ∧ d = none
/-- what a refusal's class must say -/
structure ClsM (K : PySem.W.Frag) (mg : Str → Option Value) (x : Str) (C : Addr) : Prop where
  mg_ : mg x = some (.ref C)
  ex : PySem.W.excIn K C bmVE "ValueError.__new__" = true
  kC : PySem.W.keepIn K (.ref C) = true
  exC : PySem.W.subIn K (.ref C) (.type "BaseException") = some true
  tyC : PySem.W.typeIn K (.ref C) = some (.type "type")
section
variable {X : Cx} {W : WX} {C : Addr} {x m : Str} {j : Nat} {p p2 pos pos2 : Pos} {Φ : Phi} {sts : List Stmt} {x1 x2 : Rho → Bool}
theorem xs_raiseP (hc : X.calm = true) (tk : L2N.Takes X W) (T : ClsM X.K X.mg x C) (hg : Gl X x) (hdb : (x == ("__debug__" : Str)) = false := by decide) :
    XS X W (PhiP C) (.Raise (some (.Call (.Name x p) [.Constant (.str m) j p2] [] pos)) none pos2) (fun _ => true) := by
  refine ⟨_, L2N.ps_raise hc tk (L2N.pmk_own PySem.F.excBase_ValueError T.ex T.mg_ T.kC (raises_own T.exC T.tyC) hg hdb), fun σ H F r D S e hW => ?_⟩
  exact hW _ _ σ r F H S .refl ⟨rfl, rfl⟩
theorem xss_or (h1 : XSs X W Φ sts x1) (h2 : XSs X W Φ sts x2) : XSs X W Φ sts (fun r => x1 r || x2 r) := by
  obtain ⟨t, p, k⟩ := h1.ex
  obtain ⟨u, q, l⟩ := h2.ex
  refine ⟨fun D σ H => t D σ H ∨ u D σ H, ⟨fun pins s σ H D I z => z.elim (p.run pins s σ H D I) (q.run pins s σ H D I)⟩, fun σ H F r D S e hW => ?_⟩
  rcases Bool.or_eq_true_iff.1 e with e | e
  · exact .inl (k σ H F r D S e hW)
  · exact .inr (l σ H F r D S e hW)
end
theorem takes_lamC {P : Program} {w : World} {K : PySem.W.Frag} {mg : Str → Option Value} {base : Heap} {k : Clo} {N : List Str} {A : Around} {outer : List Env} {s : Shared} {H : Hp} {E : XK} {f : Addr} : L2N.Takes (lamCxC P w K mg base k N A outer s H E f) (fun cls d _ H => E cls d H) := L2N.takes_of rfl rfl rfl rfl
end G65
/-! lambdas are made, and kept -/
namespace G65
open PySem PySem.Spec PyProof.Rows L2 LamX
section
variable {X : Cx} {pins : List (Addr × Obj)} {σ : L2.St} {H : Hp} {s : Shared}
/-- a thing that stands there and is new to the frame is tracked from now on -/
theorem inv_track (I : Inv X pins σ H s) {f : Addr} {o : HO} (h0 : X.s_0.heap.objs.size ≤ f) (hn : H f = none) (hL : X.env.locals ≠ f) (hC : ∀ y c, X.env.cells.lookup y = some c → c ≠ f) (hP : ∀ p ∈ X.pn ++ pins, p.1 ≠ f) (new : ObjOk X.prog X.w (upd H f o) s.heap f o) : Inv X pins σ (upd H f o) s := by
  have ne : ∀ b u, H b = some u → b ≠ f := fun b u e => ne_of_none e hn
  have old : ∀ b ob, X.s_0.heap.get? b = some ob → b ≠ f := fun b ob e z => by
    rw [z] at e
    exact Nat.lt_irrefl _ (Nat.lt_of_lt_of_le (Heap.lt_size e) h0)
  refine ⟨I.ok, I.os, I.bare, ⟨I.base.keep, I.base.slot, fun b ob e n hx => ?_, I.base.there, fun b xs e => ?_, fun b ob u e => ?_, fun b ps e => ?_⟩, I.loc, I.cell, ?_, fun y c e => ?_, fun p hp => ?_, fun b u e => ?_, I.len⟩
  · rw [upd_ne (old b ob e)]
    exact I.base.free b ob e n hx
  · have := I.base.tups b xs e
    rw [upd_ne (ne b _ this)]
    exact this
  · have := I.base.frzs b ob u e
    rw [upd_ne (ne b _ this)]
    exact this
  · obtain ⟨more, this⟩ := I.base.tbls b ps e
    exact ⟨more, by rw [upd_ne (ne b _ this)]; exact this⟩
  · rw [upd_ne hL]
    exact I.free
  · rw [upd_ne (hC y c e)]
    exact I.freeC y c e
  · obtain ⟨p1, p2, p3⟩ := I.pin p hp
    exact ⟨p1, by rw [upd_ne (hP p hp)]; exact p2, p3⟩
  · by_cases hb : b = f
    · subst hb
      rw [upd_same] at e
      cases e
      exact new
    · rw [upd_ne hb] at e
      exact (I.hok b u e).stay (fun _ _ _ q => q) (fun c q => by rw [upd_ne (ne c _ q)]; exact q) fun c xs q => by rw [upd_ne (ne c _ q)]; exact q
theorem clo_ok {P : Program} {w : World} {H : Hp} {h : Heap} {f : Addr} {k : Clo} {pm ctv : Value} (e : h.get? f = some (PySem.W.kla_obj "<lambda>" k.q k.params k.body k.scope k.cl pm k.c' ctv)) : ObjOk P w H h f (CloO f k) :=
  ⟨⟨pm, ctv, e⟩, ⟨_, e⟩, fun h1 h2 ⟨pm, ctv, a⟩ st => ⟨pm, ctv, st _ a⟩⟩
/-- the lambda is made; it is new -/
theorem lam_make3 {T : List (Addr × Str)} {c P : Addr} {params : Arguments} {body : Expr} {scope : Scope} {pos : Pos} {E : Value → Shared → Prop} {Q : Value → Shared → Prop} (I : Inv X pins σ H s) (TB : TabB X.base X.mg c P) (hcode : X.env.code = .ref c)
    (hm : (P, X.env.qual ++ "<lambda>") ∈ T) (hu : ∀ p ∈ T, p.1 = P → p.2 = X.env.qual ++ "<lambda>") (hT : Tabs T H) (hdef : defaultsOf params X.env = ([], [])) (hfree : ∀ y ∈ scope.names, y.2 = .free → ∃ c, X.env.cells.lookup y.1 = some c)
    (h : ∀ (f c' : Addr) (H1 : Hp) (s' : Shared), Inv X pins σ H1 s' → ExtN H H1 → Tabs T H1 → H f = none → H1 f = some (CloO f ⟨X.env.qual ++ "<lambda>", params, body, scope, cloFrom X.env.cells scope.names [], c'⟩) → H1 c' = some (CodeO c' (X.env.qual ++ "<lambda>")) → Q (.ref f) s') :
    wpAny (model X.prog X.w) X.A (eval (.Lambda params body scope pos) X.env) Q E s := by
  obtain ⟨ps, hP, ht, ha⟩ := hT _ hm
  refine PySem.W.kla_eval hdef ?_
  have bP : s.heap.BuiltinsAt X.mg P := TB.bm.keeps I.bk
  have hP' : s.heap.get? P = some { cls := .none, data := .fields ps } := I.hok P _ hP
  have fin : ∀ (f c' : Addr) (pm ctv : Value) (H1 : Hp) (s' : Shared), s.heap.objs.size ≤ f → Inv X pins σ H1 s' → ExtN H H1 → Tabs T H1 → s'.heap.get? f = some (PySem.W.kla_obj "<lambda>" (X.env.qual ++ "<lambda>") params body scope (cloFrom X.env.cells scope.names []) pm c' ctv) → H1 f = none → H1 c' = some (CodeO c' (X.env.qual ++ "<lambda>")) → Q (.ref f) s' := by
    intro f c' pm ctv H1 s' hz I1 eN T1 hf hn hco
    have lt : ∀ b o, s.heap.get? b = some o → b ≠ f := fun b o e z => by
      rw [z] at e
      exact Nat.lt_irrefl _ (Nat.lt_of_lt_of_le (Heap.lt_size e) hz)
    have I2 := inv_track (o := CloO f ⟨X.env.qual ++ "<lambda>", params, body, scope, cloFrom X.env.cells scope.names [], c'⟩) I1 (Nat.le_trans I.sz hz) hn (fun z => Nat.lt_irrefl _ (Nat.lt_of_lt_of_le (z ▸ I.lt) hz)) (fun y c0 e => by
      obtain ⟨v, o, ho, _⟩ := I.cell y c0 e
      exact lt c0 o ho) (fun p hp => lt p.1 _ (I.pin p hp).1) (clo_ok (k := ⟨X.env.qual ++ "<lambda>", params, body, scope, cloFrom X.env.cells scope.names [], c'⟩) hf)
    have e2 : ∀ b o, H1 b = some o → upd H1 f (CloO f ⟨X.env.qual ++ "<lambda>", params, body, scope, cloFrom X.env.cells scope.names [], c'⟩) b = some o := fun b o e => by
      rw [upd_ne (ne_of_none e hn)]
      exact e
    exact h f c' _ s' I2 (eN.trans (ExtN.of e2)) (T1.ext e2) (I.hok.fresh hz) upd_same (e2 _ _ hco)
  cases hc : codeAmong pos ps.toList with
  | none =>
    refine PySem.W.kla_makeFunction (mg := X.mg) (c := c) (P := P) (ps := ps) (closure_ok hfree) I.ok.glob (I.mod.glob.keeps I.bk) hcode (TB.code.keeps I.bk) hP' ht hc TB.gP bP fun c' ctv h' tk hx hge hlt hrec htb => ?_
    obtain ⟨c2, oc, vs, t, e2, hoc, hd, hv⟩ := hrec
    cases e2
    have hsz : s.heap.objs.size ≤ h'.objs.size := Nat.le_trans hge (Nat.le_of_lt hlt)
    have nC : H c' = none := I.hok.fresh hge
    have I1 := inv_table (t' := tk) (more := #[rawInt pos.line, rawInt pos.col, .ref c']) (h' := h'.push (PySem.W.kla_obj "<lambda>" (X.env.qual ++ "<lambda>") params body scope (cloFrom X.env.cells scope.names []) ((X.mg "__name__").getD .none) c' ctv)) I hP
      (fun b o hb e => Heap.get?_push_of_some _ (hx b o hb e)) (Heap.get?_push_of_some _ htb) hge ⟨oc, vs, t, Heap.get?_push_of_some _ hoc, hd, hv⟩
    have hE : ExtN H (upd (upd H P (.tbl (ps ++ #[rawInt pos.line, rawInt pos.col, .ref c']))) c' (CodeO c' (X.env.qual ++ "<lambda>"))) := fun b o e n => by
      rw [upd_ne (ne_of_none e nC), upd_ne (fun z => n ps (Option.some.inj (e.symm.trans (by rw [z]; exact hP))))]
      exact e
    have eL : (ps ++ #[rawInt pos.line, rawInt pos.col, .ref c']).toList = ps.toList ++ [rawInt pos.line, rawInt pos.col, .ref c'] := by simp
    refine fin h'.objs.size c' ((X.mg "__name__").getD .none) ctv _ _ hsz I1 hE (fun p hp => ?_) (Heap.get?_push_size _ rfl) ?_ upd_same
    · by_cases hb : p.1 = P
      · rw [hu p hp hb, hb]
        refine ⟨_, by rw [upd_ne (ne_of_none hP nC), upd_same], by rw [eL]; exact PySem.TriplesOk_snoc _ _ _ _ ht, fun p' cv hcv => ?_⟩
        rw [eL] at hcv
        rcases among_app _ ht hcv with z | z
        · obtain ⟨c0, e1, e2⟩ := ha p' cv z
          exact ⟨c0, e1, hE _ _ e2 codeO_ne⟩
        · exact ⟨c', z, upd_same⟩
      · obtain ⟨ps', a1, a2, a3⟩ := hT p hp
        refine ⟨ps', by rw [upd_ne (ne_of_none a1 nC), upd_ne hb]; exact a1, a2, fun p' cv hcv => ?_⟩
        obtain ⟨c0, e1, e2⟩ := a3 p' cv hcv
        exact ⟨c0, e1, hE _ _ e2 codeO_ne⟩
    · have n1 : h'.objs.size ≠ c' := Nat.ne_of_gt hlt
      have n2 : h'.objs.size ≠ P := Nat.ne_of_gt (Nat.lt_of_lt_of_le (Heap.lt_size hP') hsz)
      rw [upd_ne n1, upd_ne n2]
      exact I.hok.fresh hsz
  | some cv =>
    obtain ⟨c', e, hco⟩ := ha pos cv hc
    subst e
    refine PySem.W.kla_makeFunctionHit (mg := X.mg) (c := c) (P := P) (ps := ps) (closure_ok hfree) I.ok.glob (I.mod.glob.keeps I.bk) hcode (TB.code.keeps I.bk) hP' ht hc bP fun ctv h' tk hx hsz => ?_
    have I1 : Inv X pins σ H { s with heap := h'.push (PySem.W.kla_obj "<lambda>" (X.env.qual ++ "<lambda>") params body scope (cloFrom X.env.cells scope.names []) ((X.mg "__name__").getD .none) c' ctv), toks := tk } := I.kept fun b o e => Heap.get?_push_of_some _ (hx b o e)
    exact fin h'.objs.size c' ((X.mg "__name__").getD .none) ctv H _ hsz I1 (ExtN.refl H) hT (Heap.get?_push_size _ rfl) (I.hok.fresh hsz) hco
end
/-- lambda: body, kept -/
def tLamT (T : List (Addr × Str)) (k : Addr → Clo) : TE := fun _ H Q => Tabs T H ∧ ∀ f c' H1, ExtN H H1 → Tabs T H1 → H f = none → H1 f = some (CloO f (k c')) → H1 c' = some (CodeO c' (k c').q) → Q (.ref f) H1
theorem pe_lamT {X : Cx} {T : List (Addr × Str)} {c P : Addr} {params : Arguments} {body : Expr} {scope : Scope} {pos : Pos} (TB : TabB X.base X.mg c P) (hcode : X.env.code = .ref c)
    (hm : (P, X.env.qual ++ "<lambda>") ∈ T) (hu : ∀ p ∈ T, p.1 = P → p.2 = X.env.qual ++ "<lambda>") (L : LamS X.env.scope scope) (hdef : defaultsOf params X.env = ([], [])) :
    PE X (.Lambda params body scope pos) (tLamT T fun c' => ⟨X.env.qual ++ "<lambda>", params, body, scope, cloFrom X.env.cells scope.names [], c'⟩) := by
  refine ⟨fun pins s σ H Q I ⟨hT, h⟩ => ?_⟩
  exact lam_make3 I TB hcode hm hu hT hdef (L.has I.ok) fun f c' H1 s' I1 eN T1 hn hf hco => ⟨.ref f, H1, I1, rfl, h f c' H1 eN T1 hn hf hco⟩
end G65
/-! defs that make lambdas and give them back in a list -/
namespace G65
open PySem PySem.Spec PyProof.Rows L2 LamX
structure LamA where
  params : Arguments
  body : Expr
  scope : Scope
abbrev DSpec := LamA × Option Str
abbrev cloOf (q : Str) (a : LamA) (cl : List (Str × Addr)) (c' : Addr) : Clo := ⟨q, a.params, a.body, a.scope, cl, c'⟩
def doorV (H : Hp) (v : V) (f : Addr) : Option Str → Prop
  | some w => ∃ t, v = .ref t ∧ H t = some (.tup [.ref f, .str w])
  | none => v = .ref f
def DoorI (cells : List (Str × Addr)) (q : Str) (H : Hp) (v : V) (d : DSpec) : Prop := ∃ f c', doorV H v f d.2 ∧ H f = some (CloO f (cloOf q d.1 (cloFrom cells d.1.scope.names []) c')) ∧ H c' = some (CodeO c' q)
inductive Drs (R : V → DSpec → Prop) : List V → List DSpec → Prop
  | nil : Drs R [] []
  | cons {v : V} {d : DSpec} {vs : List V} {ds : List DSpec} : R v d → Drs R vs ds → Drs R (v :: vs) (d :: ds)
theorem Drs.imp {R R' : V → DSpec → Prop} (h : ∀ v d, R v d → R' v d) {vs : List V} {ds : List DSpec} (x : Drs R vs ds) : Drs R' vs ds := by
  induction x with
  | nil => exact .nil
  | cons a _ ih => exact .cons (h _ _ a) ih
theorem Drs.app {R : V → DSpec → Prop} {vs us : List V} {ds es : List DSpec} (x : Drs R vs ds) (y : Drs R us es) : Drs R (vs ++ us) (ds ++ es) := by
  induction x with
  | nil => exact y
  | cons a _ ih => exact .cons a ih
theorem Drs.len {R : V → DSpec → Prop} {vs : List V} {ds : List DSpec} (x : Drs R vs ds) : vs.length = ds.length := by
  induction x with
  | nil => rfl
  | cons _ _ ih => simp [ih]
def KeepN (p : Addr) (H H' : Hp) : Prop := ∀ b o, H b = some o → b ≠ p → (∀ ps, o ≠ .tbl ps) → H' b = some o
theorem KeepN.refl {p : Addr} {H : Hp} : KeepN p H H := fun _ _ h _ _ => h
theorem KeepN.trans {p : Addr} {H H1 H2 : Hp} (a : KeepN p H H1) (b : KeepN p H1 H2) : KeepN p H H2 := fun c o h n t => b c o (a c o h n t) n t
theorem KeepN.of {p : Addr} {H H' : Hp} (e : ExtN H H') : KeepN p H H' := fun b o h _ t => e b o h t
theorem clo_nt {f : Addr} {k : Clo} (ps : Array Value) : CloO f k ≠ .tbl ps := fun z => by
  unfold CloO at z
  cases z
theorem cell_nt {c : Addr} {v : V} (ps : Array Value) : CellO c v ≠ .tbl ps := fun z => by
  unfold CellO at z
  cases z
theorem DoorI.mono {cells : List (Str × Addr)} {q : Str} {H H' : Hp} {p : Addr} {us : List V} (k : KeepN p H H') (hp : H p = some (.lst us)) {v : V} {d : DSpec} (x : DoorI cells q H v d) : DoorI cells q H' v d := by
  obtain ⟨f, c', h1, h2, h3⟩ := x
  have ne : ∀ b o, H b = some o → o ≠ .lst us → b ≠ p := fun b o h n z => by
    rw [z, hp] at h
    exact n (Option.some.inj h).symm
  refine ⟨f, c', ?_, k _ _ h2 (ne _ _ h2 fun z => by unfold CloO at z; cases z) clo_nt, k _ _ h3 (ne _ _ h3 fun z => by unfold CodeO at z; cases z) codeO_ne⟩
  obtain ⟨a, w⟩ := d
  cases w with
  | none => exact h1
  | some w =>
    obtain ⟨t, e1, e2⟩ := h1
    exact ⟨t, e1, k _ _ e2 (ne _ _ e2 fun z => by cases z) fun _ z => by cases z⟩
theorem DoorI.ext {cells : List (Str × Addr)} {q : Str} {H H' : Hp} (k : ExtN H H') {v : V} {d : DSpec} (x : DoorI cells q H v d) : DoorI cells q H' v d := by
  obtain ⟨f, c', h1, h2, h3⟩ := x
  refine ⟨f, c', ?_, k _ _ h2 clo_nt, k _ _ h3 codeO_ne⟩
  obtain ⟨a, w⟩ := d
  cases w with
  | none => exact h1
  | some w =>
    obtain ⟨t, e1, e2⟩ := h1
    exact ⟨t, e1, k _ _ e2 fun _ z => by cases z⟩
/-! ### a door, as an expression -/
structure PDoor (X : Cx) (T : List (Addr × Str)) (q : Str) (e : Expr) (d : DSpec) : Prop where
  ex : ∃ te : TE, PE X e te ∧ ∀ (σ : St) (H : Hp) (Q : VK), Tabs T H → (∀ v H', ExtN H H' → Tabs T H' → DoorI X.env.cells q H' v d → Q v H') → te σ H Q
section
variable {X : Cx} {T : List (Addr × Str)} {c P : Addr} {params : Arguments} {body : Expr} {scope : Scope} {pos p1 p2 : Pos} {w : Str} {j : Nat} {q : Str}
theorem pd_lam (TB : TabB X.base X.mg c P) (hcode : X.env.code = .ref c) (hq : X.env.qual ++ "<lambda>" = q) (hm : (P, q) ∈ T) (hu : ∀ p ∈ T, p.1 = P → p.2 = q) (L : LamS X.env.scope scope) (hdef : defaultsOf params X.env = ([], [])) : PDoor X T q (.Lambda params body scope pos) (⟨params, body, scope⟩, none) := by
  subst hq
  exact ⟨_, pe_lamT TB hcode hm hu L hdef, fun σ H Q hT h => ⟨hT, fun f c' H1 eN T1 hn hf hc => h (.ref f) H1 eN T1 ⟨f, c', rfl, hf, hc⟩⟩⟩
theorem pd_tup {x1} (TB : TabB X.base X.mg c P) (hcode : X.env.code = .ref c) (hq : X.env.qual ++ "<lambda>" = q) (hm : (P, q) ∈ T) (hu : ∀ p ∈ T, p.1 = P → p.2 = q) (L : LamS X.env.scope scope) (hdef : defaultsOf params X.env = ([], []))
    (hs : starEach [.Lambda params body scope pos, .Constant (.str w) j p1] X.env = (false, eval (.Lambda params body scope pos) X.env) :: starEach [.Constant (.str w) j p1] X.env := by rfl) :
    PDoor X T q (.Tuple [.Lambda params body scope pos, .Constant (.str w) j p1] x1 p2) (⟨params, body, scope⟩, some w) := by
  subst hq
  refine ⟨_, pe_tup (pa_cons (pe_lamT TB hcode hm hu L hdef) (pa_cons pe_str pa_nil) hs), fun σ H Q hT h => ⟨hT, fun f c' H1 eN T1 hn hf hc => ⟨Nat.le_trans (by decide : 2 ≤ 9) (by decide), fun t ht => ?_⟩⟩⟩
  have e2 : ∀ b o, H1 b = some o → upd H1 t (.tup [.ref f, .str w]) b = some o := fun b o e => by
    rw [upd_ne (ne_of_none e ht)]
    exact e
  exact h (.ref t) _ (eN.trans (ExtN.of e2)) (T1.ext e2) ⟨f, c', ⟨t, rfl, upd_same⟩, e2 _ _ hf, e2 _ _ hc⟩
end
/-! ### suites that end in a return, the names' values at its end -/
abbrev TR := (V → St → Hp → Prop) → St → Hp → Prop
structure PRs (X : Cx) (sts : List Stmt) (t : TR) : Prop where
  run : ∀ (pins : List (Addr × Obj)) (s : Shared) (σ : St) (H : Hp) (R : V → St → Hp → Prop), Inv X pins σ H s → t R σ H → wpAny (model X.prog X.w) X.A (execs sts X.env) (fun f s' => ∃ u v σ' H', f = .ret u ∧ Inv X pins σ' H' s' ∧ RelV v u ∧ R v σ' H') X.xe s
theorem pr_cons {X : Cx} {st : Stmt} {sts : List Stmt} {t : TS} {u : TR} (h1 : PS X st t) (h2 : PRs X sts u) : PRs X (st :: sts) (fun R => t { nx := u R, rt := fun _ _ => False }) := by
  refine ⟨fun pins s σ H R I h => ?_⟩
  refine wpAny_execs_cons (thn (h1.run pins s σ H _ I h) fun f s1 q => ?_)
  cases f with
  | next =>
    obtain ⟨σ', H', I', q⟩ := q
    exact h2.run pins s1 σ' H' R I' q
  | ret v =>
    obtain ⟨_, _, _, _, _, z⟩ := q
    exact False.elim z
  | brk =>
    obtain ⟨_, _, _, z⟩ := q
    exact False.elim z
  | cont =>
    obtain ⟨_, _, _, z⟩ := q
    exact False.elim z
theorem pr_ret {X : Cx} {e : Expr} {te : TE} {pos : Pos} (he : PE X e te) : PRs X [.Return (some e) pos] (fun R σ H => te σ H fun v H' => R v σ H') := by
  refine ⟨fun pins s σ H R I h => ?_⟩
  refine wpAny_execs_cons (wpAny_Return_some (thn (he.run pins s σ H _ I h) fun v s1 ⟨x, H1, I1, r1, q1⟩ => ?_))
  exact ⟨v, x, σ, H1, rfl, I1, r1, q1⟩
/-! ### the list of doors -/
structure MK (X : Cx) (T : List (Addr × Str)) (q : Str) (i : Nat) (sts : List Stmt) (ds : List DSpec) : Prop where
  ex : ∃ t : TR, PRs X sts t ∧ ∀ (R : V → St → Hp → Prop) (σ : St) (H : Hp) (p : Addr) (vs : List V) (done : List DSpec), σ[i]? = some (some (.ref p)) → H p = some (.lst vs) → vs.length + ds.length ≤ 100 → Drs (DoorI X.env.cells q H) vs done → Tabs T H →
    (∀ H' vs', KeepN p H H' → H' p = some (.lst vs') → Drs (DoorI X.env.cells q H') vs' (done ++ ds) → Tabs T H' → R (.ref p) σ H') → t R σ H
structure MK0 (X : Cx) (T : List (Addr × Str)) (q : Str) (i : Nat) (sts : List Stmt) (ds : List DSpec) : Prop where
  ex : ∃ t : TR, PRs X sts t ∧ ∀ (R : V → St → Hp → Prop) (σ : St) (H : Hp), i < σ.length → Tabs T H →
    (∀ p H' vs, ExtN H H' → H' p = some (.lst vs) → Drs (DoorI X.env.cells q H') vs ds → Tabs T H' → R (.ref p) (σ.set i (some (.ref p))) H') → t R σ H
section
variable {X : Cx} {T : List (Addr × Str)} {q : Str} {i : Nat} {sts : List Stmt} {ds : List DSpec} {d : DSpec} {e : Expr} {y : Str} {p1 p2 p3 pos pos' : Pos}
theorem mk_ret (hN : X.N[i]? = some y := by rfl) (hv : Vis X.env.scope y := by first | exact Or.inl rfl | exact Or.inr (Or.inl rfl) | exact Or.inr (Or.inr rfl)) (hd : (y == ("__debug__" : Str)) = false := by decide) (hcd : (y == ("__classdict__" : Str)) = false := by decide) :
    MK X T q i [.Return (some (.Name y p1)) pos] [] := ⟨_, pr_ret (pe_var hN hv hd hcd), fun R σ H p vs done hs hp hl hdn hT h => ⟨_, hs, h H vs .refl hp (by simpa using hdn) hT⟩⟩
theorem mk_app (he : PDoor X T q e d) (hr : MK X T q i sts ds) (hs0 : swapsWith (.Call (.Attribute (.Name y p1) "append" p2) [e] [] p3) none pos.line X.env = pure false := by rfl) (hs : starEach [e] X.env = (false, eval e X.env) :: starEach [] X.env := by rfl)
    (hN : X.N[i]? = some y := by rfl) (hv : Vis X.env.scope y := by first | exact Or.inl rfl | exact Or.inr (Or.inl rfl) | exact Or.inr (Or.inr rfl)) (hd : (y == ("__debug__" : Str)) = false := by decide) (hcd : (y == ("__classdict__" : Str)) = false := by decide)
    (hpe : ∀ {to : TE} {t : TA}, PE X (.Name y p1) to → PA X [e] t → PE X (.Call (.Attribute (.Name y p1) "append" p2) [e] [] p3) (tBM X.K "list" rAppend to t) := by exact fun h1 h2 => pe_bm PySem.F.plainAttrs_list PySem.F.slot_list_append PySem.F.type_list_append mt_append h1 h2) :
    MK X T q i (.Expr (.Call (.Attribute (.Name y p1) "append" p2) [e] [] p3) pos :: sts) (d :: ds) := by
  obtain ⟨te, pe, ke⟩ := he.ex
  obtain ⟨tr, pr, kr⟩ := hr.ex
  refine ⟨_, pr_cons (ps_expr (hpe (pe_var hN hv hd hcd) (pa_cons pe pa_nil hs)) hs0) pr, fun R σ H p vs done h1 h2 hl h3 hT h => ?_⟩
  refine ⟨_, h1, .inl ⟨rfl, _, .inl (.inl h2)⟩, ke σ H _ hT fun v H1 eN T1 dv => ?_⟩
  have h2' : H1 p = some (.lst vs) := eN _ _ h2 fun _ z => by cases z
  have hlen : (d :: ds).length = ds.length + 1 := rfl
  refine ⟨p, vs, v, rfl, rfl, h2', ?_, ?_⟩
  · have : vs.length ≤ 100 := by omega
    exact Nat.lt_of_le_of_lt this (by decide)
  have kk : KeepN p H1 (upd H1 p (.lst (vs ++ [v]))) := fun b o hb n _ => by
    rw [upd_ne n]
    exact hb
  have T2 : Tabs T (upd H1 p (.lst (vs ++ [v]))) := fun pp hpp => by
    obtain ⟨ps, a1, a2, a3⟩ := T1 pp hpp
    refine ⟨ps, by rw [upd_ne fun z => by rw [z, h2'] at a1; cases a1]; exact a1, a2, fun p' cv hcv => ?_⟩
    obtain ⟨c0, e1, e2⟩ := a3 p' cv hcv
    exact ⟨c0, e1, by rw [upd_ne fun z => by rw [z, h2'] at e2; cases e2]; exact e2⟩
  refine kr R σ _ p (vs ++ [v]) (done ++ [d]) h1 upd_same (by simp; omega) (Drs.app (h3.imp fun _ _ z => (z.ext eN).mono kk h2') (.cons (dv.mono kk h2') .nil)) T2 fun H' vs' k' hp' hd' T' => ?_
  exact h H' vs' ((KeepN.of eN).trans (kk.trans k')) hp' (by simpa using hd') T'
theorem mk_first (he : PDoor X T q e d) (hr : MK X T q i sts ds) (hl : ds.length ≤ 90) (hN : X.N.Nodup) (hi : X.N[i]? = some y) (hx : Loc X.env.scope y) (hsw : swapsWith (.List [e] p1) (some (.Name y pos')) pos.line X.env = pure false := by rfl) (hs : starEach [e] X.env = (false, eval e X.env) :: starEach [] X.env := by rfl)
    (hf : X.fn y = true ∨ X.env.scope.names.lookup y = some .local := by first | exact .inl rfl | exact .inr rfl | assumption) :
    MK0 X T q i (.Assign [.Name y pos'] (.List [e] p1) pos :: sts) (d :: ds) := by
  obtain ⟨te, pe, ke⟩ := he.ex
  obtain ⟨tr, pr, kr⟩ := hr.ex
  refine ⟨_, pr_cons (ps_set hN hi hx (pe_lst (pa_cons pe pa_nil hs)) hsw hf) pr, fun R σ H hlt hT h => ?_⟩
  refine ke σ H _ hT fun v H1 eN T1 dv => ⟨Nat.le_trans (by decide : 1 ≤ 9) (by decide), fun p hp => ?_⟩
  have e2 : ∀ b o, H1 b = some o → upd H1 p (.lst [v]) b = some o := fun b o e => by
    rw [upd_ne (ne_of_none e hp)]
    exact e
  refine kr R (σ.set i (some (.ref p))) _ p [v] [d] (List.getElem?_set_self hlt) upd_same (by simp; omega) (.cons (dv.ext (ExtN.of e2)) .nil) (T1.ext e2) fun H' vs' k' hp' hd' T' => ?_
  refine h p H' vs' (fun b o hb n => ?_) hp' hd' T'
  have h1 := eN b o hb n
  exact k' b o (e2 b o h1) (fun z => by rw [z, hp] at h1; cases h1) n
end
/-! ### the def's end: its cells are tracked from now on -/
theorem track_cells {P : Program} {w : World} {fs : List Addr} {H H' : Hp} {h h' : Heap} (R : Addr → V → Prop) (fn : ∀ c v v', R c v → R c v' → v = v') (hR : ∀ c v, R c v → h.objs.size ≤ c ∧ H' c = none ∧ ∃ u, RelV v u ∧ h'.IsCell c (some u)) (un : Un fs [] H H' h h') (ok : HOk P w H' h') :
    ∃ H'' : Hp, Un fs [] H H'' h h' ∧ HOk P w H'' h' ∧ (∀ c v, R c v → H'' c = some (CellO c v)) ∧ (∀ b o, H' b = some o → H'' b = some o) := by
  classical
  let H2 : Hp := fun b => if z : ∃ v, R b v then some (CellO b z.choose) else H' b
  have inn : ∀ c v, R c v → H2 c = some (CellO c v) := fun c v r => by
    have z : ∃ v, R c v := ⟨v, r⟩
    show (if z : ∃ v, R c v then some (CellO c z.choose) else H' c) = _
    rw [dif_pos z, fn c _ _ z.choose_spec r]
  have out : ∀ b, (∀ v, ¬ R b v) → H2 b = H' b := fun b n => dif_neg fun ⟨v, r⟩ => n v r
  have keep : ∀ b o, H' b = some o → H2 b = some o := fun b o e => by
    rw [out b fun v r => by rw [(hR b v r).2.1] at e; cases e]
    exact e
  refine ⟨H2, ⟨un.keep, un.slot, fun b o e n hx => ?_, un.there, fun b xs e => keep _ _ (un.tups b xs e), fun b o u e => keep _ _ (un.frzs b o u e), fun b ps e => ?_⟩, fun b o e => ?_, inn, keep⟩
  · rw [out b fun v r => Nat.lt_irrefl _ (Nat.lt_of_lt_of_le (Heap.lt_size e) (hR b v r).1)]
    exact un.free b o e n hx
  · obtain ⟨m, z⟩ := un.tbls b ps e
    exact ⟨m, keep _ _ z⟩
  · by_cases z : ∃ v, R b v
    · obtain ⟨v, r⟩ := z
      rw [inn b v r] at e
      cases e
      obtain ⟨_, _, u, ru, o, ho, hd⟩ := hR b v r
      exact ⟨⟨u, ru, o, ho, hd⟩, ⟨_, ho⟩, fun h1 h2 ⟨u, ru, o, a, hd⟩ st => ⟨u, ru, o, st _ a, hd⟩⟩
    · rw [out b fun v r => z ⟨v, r⟩] at e
      exact (ok b o e).stay (fun _ _ _ q => q) (fun c q => keep _ _ q) fun c xs q => keep _ _ q
def DoorF (q : Str) (ps : List Str) (vs : List V) (H0 H : Hp) (v : V) (d : DSpec) : Prop := ∃ f cl c', doorV H v f d.2 ∧ CloAt H f (cloOf q d.1 cl c') ps (vs.map some) ∧ ∀ c ∈ cellsOf cl, H0 c = none
def spMk (T : List (Addr × Str)) (q : Str) (ps : List Str) (ds : List DSpec) : Sp := fun vs H Q _ => vs.length = ps.length ∧ Tabs T H ∧ ∀ p H' us, ExtN H H' → H' p = some (.lst us) → Drs (DoorF q ps vs H H') us ds → Tabs T H' → Q (.ref p) H'
section
variable {P : Program} {w : World} {K : PySem.W.Frag} {mg : Str → Option Value} {base : Heap}
theorem Drs.impM {R R' : V → DSpec → Prop} {vs : List V} {ds : List DSpec} (x : Drs R vs ds) (h : ∀ v d, d ∈ ds → R v d → R' v d) : Drs R' vs ds := by
  induction x with
  | nil => exact .nil
  | cons a _ ih => exact .cons (h _ _ List.mem_cons_self a) (ih fun v d m => h v d (List.mem_cons_of_mem _ m))
theorem fnMk {x : Str} {st : Stmt} {f : Addr} {fd : FuncData} {N ps : List Str} {k i : Nat} {T : List (Addr × Str)} {q : Str} {ds : List DSpec} {pd : He.Defn} (F : FnP K x st f fd) (S : FnScope N ps (defScope st)) (hf : f = He.fAd K pd)
    (hcell : ∀ y ∈ (defScope st).names, y.2 = .cell → y.1 ∈ ps) (hL : ∀ d ∈ ds, LamS (defScope st) d.1.scope) (hi : ps.length ≤ i ∧ i < N.length)
    (h : ∀ (A : Around) (outer : List Env) (s : Shared) (H : Hp) (E : XK), Room k (A.deeper (envOfC x (defScope st) s.heap.objs.size f (.ref (He.cT K pd).1))) → MK0 (cxOf CX0 P w K mg base N x (defScope st) f (.ref (He.cT K pd).1) A outer s H E).nox T q i (defBody st) ds) :
    FnOk P w K mg base CX0 (k + 1) f fd ps (spMk T q ps ds) := by
  obtain ⟨oc, od, dV, kV, doc, pm, an, cdv, ct, osl, rfl, lk, hcd, _, _⟩ := F.ex
  obtain ⟨c0, rfl⟩ := He.codeIn_ref hcd
  have ec : (He.cT K pd).1 = c0 := He.codeOf_eq (by rw [← hf]; exact lk) rfl
  refine ⟨fun vs H Q E h => h.1, fun A outer s H args us vs Q E hr e0 hb r hsp => ?_⟩
  obtain ⟨hl, hT, hQ⟩ := hsp
  have KX : K.In s.heap := e0.mod.kin.keeps fun b o e => (e0.bs b o e).1
  have lim : s.heap.NoLimit := e0.mod.nolimit.keeps fun b o e => (e0.bs b o e).1
  have hkind : ∀ y ∈ ps.zip us, (defScope st).names.lookup y.1 = some .local ∨ ((defScope st).names.lookup y.1 = some .cell ∧ ((cellsFrom (s.heap.objs.size + 1) (defScope st).names []).lookup y.1).isSome = true) := fun ⟨n, v⟩ hy => by
    rcases S.par n (List.of_mem_zip hy).1 with q | q
    · exact .inl q
    · exact .inr ⟨q, PySem.W.cellsFrom_some _ _ _ (.inl q)⟩
  refine codeAny_call_function hr.depth (KX _ _ lk) rfl S.co S.gen rfl (PySem.W.codeRec_of KX hcd) (hb _ _ _ _ ?_)
  refine wpAny_newFunctionEnv_cells S.kind hkind fun env he s1 x1 => ?_
  subst he
  refine ⟨lim.keeps x1.toInCall.keep, codeAny_func ?_⟩
  have hr' := hr.deeper (envOfC x (defScope st) s.heap.objs.size f (.ref c0))
  rw [← ec] at hr'
  obtain ⟨t, ht, kt⟩ := (h A outer s H E hr').ex
  rw [ec] at ht kt
  have I : Inv (cxOf CX0 P w K mg base N x (defScope st) f (.ref c0) A outer s H E) [] (start N vs) H s1 := inv_start S hr.hd e0 hl r x1
  have hlen : (start N vs).length = N.length := I.len
  refine wpAny_mono (ht.run [] s1 (start N vs) H (fun v σ' H' => ∃ p vs', v = .ref p ∧ σ' = (start N vs).set i (some (.ref p)) ∧ ExtN H H' ∧ H' p = some (.lst vs') ∧ Drs (DoorI (cxOf CX0 P w K mg base N x (defScope st) f (.ref c0) A outer s H E).nox.env.cells q H') vs' ds ∧ Tabs T H') (I.wish _) (kt _ _ _ (by rw [hlen]; exact hi.2) hT fun p H' vs' a1 a2 a3 a4 => ⟨p, vs', rfl, rfl, a1, a2, a3, a4⟩)) (fun fl s' hs => ?_) fun e s' hs => False.elim hs
  obtain ⟨u, v, σ', H', rfl, J, rv, p, vs', rfl, rfl, eN, hp, hd, hT'⟩ := hs
  have J : Inv (cxOf CX0 P w K mg base N x (defScope st) f (.ref c0) A outer s H E) [] ((start N vs).set i (some (.ref p))) H' s' := J.unwish
  have ndP : ps.Nodup := by rw [← S.pre]; exact S.nd.sublist (List.take_sublist _ _)
  let cells : List (Str × Addr) := cellsFrom (s.heap.objs.size + 1) (defScope st).names []
  let R : Addr → V → Prop := fun c v => ∃ (j : Nat) (y : Str), ps[j]? = some y ∧ vs[j]? = some v ∧ cells.lookup y = some c ∧ (defScope st).names.lookup y = some .cell
  have hfn : ∀ c v v', R c v → R c v' → v = v' := fun c v v' ⟨j, y, a1, a2, a3, a4⟩ ⟨j', y', b1, b2, b3, b4⟩ => by
    have ey : y = y' := J.ok.inj y y' c a3 b3
    subst ey
    have ej : j = j' := (List.getElem?_inj (List.getElem?_eq_some_iff.1 a1).1 ndP).1 (a1.trans b1.symm)
    subst ej
    rw [a2] at b2
    exact Option.some.inj b2
  have hR : ∀ c v, R c v → s.heap.objs.size ≤ c ∧ H' c = none ∧ ∃ u, RelV v u ∧ s'.heap.IsCell c (some u) := fun c v ⟨j, y, a1, a2, a3, a4⟩ => by
    refine ⟨J.ok.cab y c rfl a3, J.freeC y c a3, ?_⟩
    obtain ⟨m, _, hl2⟩ := J.loc
    have lj : j < ps.length := (List.getElem?_eq_some_iff.1 a1).1
    have hNj : N[j]? = some y := by
      rw [← S.pre, List.getElem?_take_of_lt lj] at a1
      exact a1
    have hs2 : ((start N vs).set i (some (.ref p)))[j]? = some (some v) := by
      rw [List.getElem?_set_ne (by omega)]
      unfold L2.start
      rw [List.getElem?_append_left (by rw [List.length_map, hl]; exact lj), List.getElem?_map, a2]
      rfl
    obtain ⟨u, ru, z⟩ := hl2 j y v hNj hs2 (.inr (.inl a4))
    rcases z with ⟨z, _⟩ | ⟨_, c2, e2, z⟩
    · have z : (defScope st).names.lookup y = some .local := z
      rw [a4] at z
      cases z
    · have e2 : cells.lookup y = some c2 := e2
      rw [a3] at e2
      cases e2
      exact ⟨u, ru, z⟩
  obtain ⟨H2, un2, ok2, cel, keep⟩ := track_cells R hfn hR J.base J.hok
  refine ⟨.ref p, H2, J.os, J.bare, un2, ok2, rv, hQ p H2 vs' (eN.trans (ExtN.of keep)) (keep _ _ hp) (hd.impM fun v d hm hdi => ?_) (hT'.ext keep)⟩
  obtain ⟨f2, c2, d1, d2, d3⟩ := hdi
  have L := hL d hm
  have hfree : ∀ y ∈ d.1.scope.names, y.2 = .free → (defScope st).names.lookup y.1 = some .cell ∧ ∃ c, cells.lookup y.1 = some c := fun y hy e => by
    rcases L.free y hy e with z | z
    · exact ⟨z, cell_has z⟩
    · exact absurd rfl (S.nofree _ (PySem.mem_of_lookup z))
  have cm : ∀ {y c}, (y, c) ∈ cloFrom cells d.1.scope.names [] → cells.lookup y = some c ∧ (defScope st).names.lookup y = some .cell := fun {y c} e => by
    rcases cloFrom_mem e with hm | ⟨h1, h2⟩
    · cases hm
    · obtain ⟨hk, c1, hc⟩ := hfree _ h1 rfl
      have hc : cells.lookup y = some c1 := hc
      have e2 : c = c1 := by
        rw [h2, hc] <;> rfl
      rw [e2]
      exact ⟨hc, hk⟩
  have toR : ∀ {y c}, cells.lookup y = some c → (defScope st).names.lookup y = some .cell → ∃ v, R c v := fun {y c} e1 e2 => by
    obtain ⟨j, hj, gj⟩ := List.getElem_of_mem (hcell _ (PySem.mem_of_lookup e2) rfl)
    exact ⟨vs[j]'(by rw [hl]; exact hj), j, y, by rw [List.getElem?_eq_getElem hj, gj], List.getElem?_eq_getElem _, e1, e2⟩
  refine ⟨f2, _, c2, ?_, ⟨keep _ _ d2, keep _ _ d3, fun c hc => ?_, fun y z c e1 e2 => ?_, fun y hy => ?_, fun j y v2 e1 e2 e3 => ?_, by rw [List.length_map]; exact hl⟩, fun c hc => ?_⟩
  · obtain ⟨a, w2⟩ := d
    cases w2 with
    | none => exact d1
    | some w2 =>
      obtain ⟨t2, z1, z2⟩ := d1
      exact ⟨t2, z1, keep _ _ z2⟩
  · obtain ⟨⟨y, c3⟩, hm, rfl⟩ := List.mem_map.1 hc
    obtain ⟨z1, z2⟩ := cm hm
    obtain ⟨v3, r3⟩ := toR z1 z2
    exact ⟨v3, cel _ _ r3⟩
  · exact J.ok.inj y z c (cm (PySem.mem_of_lookup e1)).1 (cm (PySem.mem_of_lookup e2)).1
  · exact mem_lookup (cloFrom_has (cells := cells) (acc := []) (PySem.mem_of_lookup hy))
  · obtain ⟨c, hc⟩ : ∃ c, (cloFrom cells d.1.scope.names []).lookup y = some c := mem_lookup (cloFrom_has (cells := cells) (acc := []) (PySem.mem_of_lookup e3))
    obtain ⟨z1, z2⟩ := cm (PySem.mem_of_lookup hc)
    refine ⟨c, hc, cel _ _ ⟨j, y, e1, ?_, z1, z2⟩⟩
    rw [List.getElem?_map] at e2
    cases z : vs[j]? with
    | none => rw [z] at e2; cases e2
    | some a => rw [z] at e2; cases e2; rfl
  · obtain ⟨⟨y, c3⟩, hm, rfl⟩ := List.mem_map.1 hc
    obtain ⟨z1, z2⟩ := cm hm
    obtain ⟨v3, r3⟩ := toR z1 z2
    exact e0.hok.fresh (hR _ _ r3).1
end
end G65
/-! defs that make lambdas, and go on: the tables grow, all else stays -/
namespace G65
open PySem PySem.Spec PyProof.Rows L2 LamX
def NT (F : Hp) : Prop := ∀ b ps, F b ≠ some (.tbl ps)
theorem nt_noTab {F : Hp} : NT (noTab F) := fun b ps z => (noTab_some z).2 ps rfl
theorem NT.same {F F' : Hp} (n : NT F) (s : Same F F') : Same F (noTab F') := fun b o h => noTab_of (s b o h) fun ps z => n b ps (by rw [h, z])
structure GoL (σ : St) (r : Rho) (F H : Hp) (σ' : St) (r' : Rho) (F' H' : Hp) : Prop where
  same : Same F F'
  keep : ∀ b o, H b = some o → ¬ OwnAt r σ b → (∀ ps, o ≠ .tbl ps) → H' b = some o
  own : ∀ b, OwnAt r' σ' b → OwnAt r σ b ∨ ∀ o, H b = some o → ∃ ps, o = .tbl ps
section
variable {F H F' H' F1 H1 F2 H2 : Hp} {σ σ' σ1 σ2 : St} {r r' r1 r2 : Rho}
theorem GoL.refl : GoL σ r F H σ r F H := ⟨Same.refl _, fun _ _ h _ _ => h, fun _ h => .inl h⟩
theorem GoL.of (n : NT F) (g : Go σ r F H σ' r' F' H') : GoL σ r F H σ' r' (noTab F') H' := ⟨n.same g.same, fun b o h1 h2 _ => g.keep b o h1 h2, fun b h => (g.own b h).imp id fun z o h => by rw [z] at h; cases h⟩
theorem GoL.trans (a : GoL σ r F H σ1 r1 F1 H1) (b : GoL σ1 r1 F1 H1 σ2 r2 F2 H2) : GoL σ r F H σ2 r2 F2 H2 := by
  refine ⟨a.same.trans b.same, fun c o h n t => b.keep c o (a.keep c o h n t) (fun z => ?_) t, fun c h => ?_⟩
  · rcases a.own c z with q | q
    · exact n q
    · obtain ⟨ps, e⟩ := q o h
      exact t ps e
  · rcases b.own c h with q | q
    · exact a.own c q
    · by_cases ho : OwnAt r σ c
      · exact .inl ho
      · refine .inr fun o h1 => ?_
        by_cases ht : ∃ ps, o = .tbl ps
        · exact ht
        · exact q o (a.keep c o h1 ho fun ps z => ht ⟨ps, z⟩)
theorem GoL.ext (n : NT F) (e : ExtN H H') : GoL σ r F H σ r F H' := ⟨Same.refl _, fun b o h _ t => e b o h t, fun _ h => .inl h⟩
end
section
variable {P : Program} {w : World} {K : PySem.W.Frag} {F H H' : Hp} {σ : St} {r : Rho}
/-- the data stay where all but the tables stays -/
theorem SR.extN (S : SR P w K F H σ r) (n : NT F) (e : ExtN H H') : SR P w K F H' σ r := by
  refine ⟨fun b o h => e b o (S.sub b o h) fun ps z => n b ps (by rw [h, z]), S.len, fun i en h => ?_, S.dis⟩
  obtain ⟨v, h1, h2⟩ := S.ent i en h
  refine ⟨v, h1, ?_⟩
  cases h2 with
  | d q => exact .d q
  | ml a1 a2 a3 => exact .ml a1 (e _ _ a2 fun _ z => by cases z) a3
  | md a1 a2 =>
    obtain ⟨d1, d2, o, es, ep, xs, g1, g2, g3, g4, g5, g6⟩ := a2
    exact .md a1 ⟨d1, d2, o, es, ep, xs, e _ _ g1 (fun _ z => by cases z), g2, g3, g4, g5, g6⟩
  | fd a1 => exact .fd a1
theorem EntR.noTab {v : V} {en : Ent} (x : EntR P w K F H v en) : EntR P w K (G65.noTab F) H v en := by
  cases x with
  | d q => exact .d (dp_noTab q)
  | ml a1 a2 a3 => exact .ml (noTab_none a1) a2 (dpAll_noTab a3)
  | md a1 a2 => exact .md (noTab_none a1) (a2.noTab fun o q n => q)
  | fd a1 => exact .fd (a1.noTab fun o q n => noTab_of q n)
theorem own_no_tab (S : SR P w K F H σ r) {a : Addr} {ps : Array Value} (h : H a = some (.tbl ps)) : ¬ OwnAt r σ a := fun ⟨i, e, h1, h2, h3⟩ => by
  obtain ⟨v, h4, h5⟩ := S.ent i e h1
  rw [h3] at h4
  cases h4
  cases h5 with
  | d q => cases h2
  | ml a1 a2 a3 => rw [h] at a2; cases a2
  | md a1 a2 =>
    obtain ⟨_, _, _, _, _, _, z, _⟩ := a2
    rw [h] at z; cases z
  | fd a1 => cases h2
theorem own_no_code {h : Heap} (S : SR P w K F H σ r) (ok : HOk P w H h) {a : Addr} {q : Str} (hc : H a = some (CodeO a q)) : ¬ OwnAt r σ a := fun ⟨i, e, h1, h2, h3⟩ => by
  obtain ⟨v, h4, h5⟩ := S.ent i e h1
  rw [h3] at h4
  cases h4
  cases h5 with
  | d q => cases h2
  | ml a1 a2 a3 => rw [hc] at a2; unfold CodeO at a2; cases a2
  | md a1 a2 =>
    obtain ⟨_, _, o, es, ep, _, z, _, zd, _⟩ := a2
    have k1 := (ok a _ z).1
    obtain ⟨oc, vs, t, k2, k3, _⟩ := (ok a _ hc).1
    have k1 : h.get? a = some o := k1
    rw [k1] at k2
    cases k2
    rw [zd] at k3
    cases k3
  | fd a1 => cases h2
theorem Tabs.go {T : List (Addr × Str)} {F' : Hp} {σ' : St} {r' : Rho} {h : Heap} (S : SR P w K F H σ r) (ok : HOk P w H h) (t : Tabs T H) (g : Go σ r F H σ' r' F' H') : Tabs T H' := fun p hp => by
  obtain ⟨ps, a1, a2, a3⟩ := t p hp
  refine ⟨ps, g.keep _ _ a1 (own_no_tab S a1), a2, fun pos cv hcv => ?_⟩
  obtain ⟨c, e1, e2⟩ := a3 pos cv hcv
  exact ⟨c, e1, g.keep _ _ e2 (own_no_code S ok e2)⟩
end
def OutL (P : Program) (w : World) (K : PySem.W.Frag) (D : Ends) (σ' : St) (F' H' : Hp) : Out → Prop
  | .nx => D.nx σ' H'
  | .brk => D.bk σ' H'
  | .cont => D.ct σ' H'
  | .ret en => ∀ v, EntR P w K F' H' v en → D.rt v H'
def RunL (X : Cx) (T : List (Addr × Str)) (n : Nat) (t : TS) (f : M Out) : Prop := ∀ (σ : St) (H F : Hp) (r : Rho) (o : Out) (r' : Rho) (D : Ends), SR X.prog X.w X.K F H σ r → NT F → Tabs T H → f r = some (o, r') →
    (∀ σ' F' H', SR X.prog X.w X.K F' H' σ' r' → NT F' → Tabs T H' → GoL σ r F H σ' r' F' H' → Pin n σ σ' → OutL X.prog X.w X.K D σ' F' H' o) → t D σ H
structure RL (X : Cx) (T : List (Addr × Str)) (n : Nat) (st : Stmt) (f : M Out) : Prop where
  ex : ∃ t : TS, PS X st t ∧ RunL X T n t f
structure RLs (X : Cx) (T : List (Addr × Str)) (n : Nat) (sts : List Stmt) (f : M Out) : Prop where
  ex : ∃ t : TS, PSs X sts t ∧ RunL X T n t f
section
variable {X : Cx} {T : List (Addr × Str)} {n : Nat} {st : Stmt} {sts : List Stmt} {f g : M Out} {e : Expr} {pos pos' : Pos} {t : TS}
theorem run_lift (k : ∀ (σ : St) (H F : Hp) (r : Rho) (o : Out) (r' : Rho) (D : Ends), SR X.prog X.w X.K F H σ r → f r = some (o, r') →
    (∀ σ' F' H', SR X.prog X.w X.K F' H' σ' r' → Go σ r F H σ' r' F' H' → Pin n σ σ' → OutK X.prog X.w X.K D σ r H σ' r' F' H' o) → t D σ H) : RunL X T n (fun D σ H => (∃ h, HOk X.prog X.w H h) → t D σ H) f := by
  intro σ H F r o r' D S nt hT e hQ ⟨h, ok⟩
  refine k σ H F r o r' D S e fun σ' F' H' S' G' P' => ?_
  have q := hQ σ' (noTab F') H' (S'.noTab (ExtN.refl _)) nt_noTab (Tabs.go S ok hT G') (.of nt G') P'
  cases o with
  | nx => exact q
  | brk => exact q
  | cont => exact q
  | ret en => exact fun v R => q v R.1.noTab
theorem RS.rl (h : RS X n st f) : RL X T n st f := by
  obtain ⟨t, p, k⟩ := h.ex
  exact ⟨_, ⟨fun pins s σ H D I z => p.run pins s σ H D I (z ⟨_, I.hok⟩)⟩, run_lift k⟩
theorem rls_nil : RLs X T n [] sNil := ⟨_, pss_nil, fun σ H F r o r' D S nt hT e hQ => by cases ret_some e; exact hQ σ F H S nt hT .refl (.refl _ _)⟩
theorem rls_cons (h1 : RL X T n st f) (h2 : RLs X T n sts g) : RLs X T n (st :: sts) (sCons f g) := by
  obtain ⟨t, x, k⟩ := h1.ex
  obtain ⟨u, y, l⟩ := h2.ex
  refine ⟨_, pss_cons x y, fun σ H F r o r' D S nt hT e hQ => ?_⟩
  obtain ⟨o1, r1, e1, e⟩ := bnd_some e
  refine k σ H F r o1 r1 _ S nt hT e1 fun σ1 F1 H1 S1 n1 T1 G1 P1 => ?_
  cases o1 with
  | nx => exact l σ1 H1 F1 r1 o r' D S1 n1 T1 e fun σ2 F2 H2 S2 n2 T2 G2 P2 => hQ σ2 F2 H2 S2 n2 T2 (G1.trans G2) (P1.trans P2)
  | brk =>
    cases ret_some e
    exact hQ σ1 F1 H1 S1 n1 T1 G1 P1
  | cont =>
    cases ret_some e
    exact hQ σ1 F1 H1 S1 n1 T1 G1 P1
  | ret en =>
    cases ret_some e
    exact hQ σ1 F1 H1 S1 n1 T1 G1 P1
theorem rls_one (h1 : RL X T n st f) : RLs X T n [st] f := let ⟨t, x, k⟩ := h1.ex; ⟨t, pss_one x, k⟩
end
section
variable {X : Cx} {T : List (Addr × Str)} {n : Nat} {f : M Out} {pos : Pos} {tg iter : Expr} {body : List Stmt}
theorem Pin.ch {is : List Nat} {σ σ' : St} (c : Ch is σ σ') (hn : ∀ i ∈ is, n ≤ i) : Pin n σ σ' := c.pin hn
def asLst (d : PyData) : M (List PyData) := match d with
  | .list xs => ret xs
  | _ => fun _ => none
theorem rl_for {fe : M PyData} {is : List Nat} {a : Asg} (hn : ∀ i ∈ is, n ≤ i) (hp : PassesOwn (model X.prog X.w) X.A X.env X.xe) (hc : X.calm = true) (hi : RE X iter fe) (hg : RG X is tg a) (hb : RLs X T n body f)
    (hs : ∀ x, foldedSetIterable iter X.env x = pure x := by intro _; rfl) : RL X T n (.For tg iter body [] pos) (sFor (bnd fe asLst) a f) := by
  obtain ⟨wi, pi, ki⟩ := hi.ex
  obtain ⟨g, pg, kg⟩ := hg.ex
  obtain ⟨tb, pb, kb⟩ := hb.ex
  have hp0 := ps_for (pos := pos) hp hc (pi_list (tg := tg) pi) pg pb hs
  refine ⟨fun D σ H => (∃ h, HOk X.prog X.w H h) → tFor (iList X.K wi) g tb D σ H, ⟨fun pins s σ H D I z => hp0.run pins s σ H D I (z ⟨_, I.hok⟩)⟩, fun σ H F r o r' D S nt hT e hQ ⟨h, ok⟩ => ?_⟩
  obtain ⟨ds, r1, e1, e⟩ := bnd_some e
  obtain ⟨dl, r0, e0, e1⟩ := bnd_some e1
  unfold asLst at e1
  split at e1
  case h_2 => cases e1
  cases ret_some e1
  refine ki σ H F r _ _ _ S e0 fun v F0' H0 S0' G0 Dv => ?_
  have S0 : SR X.prog X.w X.K (noTab F0') H0 σ r1 := S0'.noTab (ExtN.refl _)
  have n0 : NT (noTab F0') := nt_noTab
  have T0 := Tabs.go S ok hT G0
  have GL0 : GoL σ r F H σ r1 (noTab F0') H0 := .of nt G0
  have Dv' := dp_noTab Dv
  generalize noTab F0' = F0 at S0 n0 GL0 Dv'
  cases Dv' with
  | lst h1 h2 =>
    rename_i a0 vs0
    obtain ⟨Yg, Ys⟩ := yl_list h1 h2
    refine ⟨a0, rfl, ⟨vs0, S0.sub.seq h1⟩, ?_⟩
    refine ⟨fun i m σ1 H1 => m = ds.length - i ∧ i ≤ ds.length ∧ ∃ F1 r2, SR X.prog X.w X.K F1 H1 σ1 r2 ∧ NT F1 ∧ Tabs T H1 ∧ Same F0 F1 ∧ GoL σ r F H σ1 r2 F1 H1 ∧ Pin n σ σ1 ∧ forM a f (ds.drop i) r2 = some (o, r'),
      ⟨ds.length, rfl, Nat.zero_le _, F0, r1, S0, n0, T0, Same.refl _, GL0, .refl _ _, e⟩, ?_⟩
    rintro i m σ1 H1 ⟨rfl, hi, F1, r2, S1, n1, T1, s1, G1, P1, e2⟩
    by_cases hlt : i < ds.length
    · have hd : ds.drop i = ds[i] :: ds.drop (i + 1) := List.drop_eq_getElem_cons hlt
      rw [hd] at e2
      have hget : ds[i]? = some ds[i] := List.getElem?_eq_getElem hlt
      obtain ⟨jgo, jy⟩ := Yg i ds[i] F1 H1 hget s1 S1.sub
      unfold forM at e2
      split at e2
      · cases e2
      · rename_i r3 ea
        refine .inr ⟨jgo, fun σ2 H2 => ∃ F2 r4, SR X.prog X.w X.K F2 H2 σ2 r4 ∧ NT F2 ∧ Tabs T H2 ∧ Same F0 F2 ∧ GoL σ r F H σ2 r4 F2 H2 ∧ Pin n σ σ2 ∧ forM a f (ds.drop (i + 1)) r4 = some (o, r'), fun σ2 H2 ⟨F2, r4, q⟩ => ⟨ds.length - (i + 1), by omega, rfl, hlt, F2, r4, q⟩, fun x H2 yy => ?_⟩
        obtain ⟨v, q1, q2⟩ := h2.get hget
        obtain ⟨rfl, yy⟩ := yy
        have ex := yy vs0 ((s1.trans S1.sub).seq h1)
        rw [q1] at ex
        cases ex
        refine kg σ1 H2 F1 r2 ds[i] r3 _ _ S1 (dp_mono s1 q2) ea fun σ3 S3 G3 C3 => ?_
        have G13 : GoL σ r F H σ3 r3 F1 H2 := G1.trans ⟨G3.same, fun b o h1 h2 _ => G3.keep b o h1 h2, fun b h => (G3.own b h).imp id fun z o h => by rw [z] at h; cases h⟩
        split at e2
        · cases e2
        · rename_i r4 eb
          refine kb σ3 H2 F1 r3 .nx r4 _ S3 n1 T1 eb fun σ4 F4 H4 S4 n4 T4 G4 P4 => ?_
          exact ⟨F4, r4, S4, n4, T4, s1.trans G4.same, G13.trans G4, P1.trans ((C3.pin hn).trans P4), e2⟩
        · rename_i r4 eb
          refine kb σ3 H2 F1 r3 .cont r4 _ S3 n1 T1 eb fun σ4 F4 H4 S4 n4 T4 G4 P4 => ?_
          exact ⟨F4, r4, S4, n4, T4, s1.trans G4.same, G13.trans G4, P1.trans ((C3.pin hn).trans P4), e2⟩
        · rename_i r4 eb
          cases e2
          refine kb σ3 H2 F1 r3 .brk _ _ S3 n1 T1 eb fun σ4 F4 H4 S4 n4 T4 G4 P4 => ?_
          exact hQ σ4 F4 H4 S4 n4 T4 (G13.trans G4) (P1.trans ((C3.pin hn).trans P4))
        · rename_i en r4 eb
          cases e2
          refine kb σ3 H2 F1 r3 (.ret en) _ _ S3 n1 T1 eb fun σ4 F4 H4 S4 n4 T4 G4 P4 => ?_
          exact hQ σ4 F4 H4 S4 n4 T4 (G13.trans G4) (P1.trans ((C3.pin hn).trans P4))
    · have ei : i = ds.length := by omega
      subst ei
      rw [List.drop_length] at e2
      cases e2
      exact .inl ⟨Ys F1 H1 s1 S1.sub, hQ σ1 F1 H1 S1 n1 T1 G1 P1⟩
end
end G65
/-! lists of doors: made, joined, walked; each is tried -/
namespace G65
open PySem PySem.Spec PyProof.Rows L2 LamX
structure ISpec where
  a : LamA
  w : Option Str
  q : Str
  ps : List Str
  args : List PyData
def DoorG (K : PySem.W.Frag) (F H : Hp) (v : V) (I : ISpec) : Prop := ∃ f cl c' vs, doorV H v f I.w ∧ CloAt H f (cloOf I.q I.a cl c') I.ps (vs.map some) ∧ DpAll K F vs I.args ∧ ∀ c ∈ cellsOf cl, F c = none
inductive DrG (R : V → ISpec → Prop) : List V → List ISpec → Prop
  | nil : DrG R [] []
  | cons {v : V} {d : ISpec} {vs : List V} {ds : List ISpec} : R v d → DrG R vs ds → DrG R (v :: vs) (d :: ds)
section
variable {R R' : V → ISpec → Prop} {vs us : List V} {ds es : List ISpec}
theorem DrG.imp (h : ∀ v d, R v d → R' v d) (x : DrG R vs ds) : DrG R' vs ds := by
  induction x with
  | nil => exact .nil
  | cons a _ ih => exact .cons (h _ _ a) ih
theorem DrG.app (x : DrG R vs ds) (y : DrG R us es) : DrG R (vs ++ us) (ds ++ es) := by
  induction x with
  | nil => exact y
  | cons a _ ih => exact .cons a ih
theorem DrG.len (x : DrG R vs ds) : vs.length = ds.length := by
  induction x with
  | nil => rfl
  | cons _ _ ih => simp [ih]
theorem DrG.get (x : DrG R vs ds) : ∀ {i : Nat} {d : ISpec}, ds[i]? = some d → ∃ v, vs[i]? = some v ∧ R v d := by
  induction x with
  | nil => intro i d e; simp at e
  | cons a _ ih =>
    intro i d e
    cases i with
    | zero =>
      simp at e
      subst e
      exact ⟨_, rfl, a⟩
    | succ i =>
      obtain ⟨v, h1, h2⟩ := ih (i := i) (by simpa using e)
      exact ⟨v, by simpa using h1, h2⟩
theorem Drs.toG {R : V → DSpec → Prop} {R' : V → ISpec → Prop} {vs : List V} {ds : List DSpec} {q : Str} {ps : List Str} {args : List PyData} (x : Drs R vs ds) (h : ∀ v d, R v d → R' v ⟨d.1, d.2, q, ps, args⟩) : DrG R' vs (ds.map fun d => ⟨d.1, d.2, q, ps, args⟩) := by
  induction x with
  | nil => exact .nil
  | cons a _ ih => exact .cons (h _ _ a) ih
end
theorem CloAt.ext {H H' : Hp} {f : Addr} {k : Clo} {N : List Str} {σ : St} (c : CloAt H f k N σ) (e : ExtN H H') : CloAt H' f k N σ :=
  ⟨e _ _ c.clo clo_nt, e _ _ c.code codeO_ne, fun b hb => let ⟨v, hv⟩ := c.cells b hb; ⟨v, e _ _ hv cell_nt⟩, c.inj, c.has, fun i y v h1 h2 h3 => let ⟨c0, z1, z2⟩ := c.val i y v h1 h2 h3; ⟨c0, z1, e _ _ z2 cell_nt⟩, c.len⟩
theorem DoorG.ext {K : PySem.W.Frag} {F H H' : Hp} {v : V} {I : ISpec} (x : DoorG K F H v I) (e : ExtN H H') : DoorG K F H' v I := by
  obtain ⟨f, cl, c', vs, h1, h2, h3, h4⟩ := x
  refine ⟨f, cl, c', vs, ?_, h2.ext e, h3, h4⟩
  obtain ⟨a, w, q, ps, args⟩ := I
  cases w with
  | none => exact h1
  | some w =>
    obtain ⟨t, e1, e2⟩ := h1
    exact ⟨t, e1, e _ _ e2 fun _ z => by cases z⟩
/-! names as arguments -/
def gdN : List Nat → Rho → Option (List PyData)
  | [], _ => some []
  | i :: is, r => match r[i]? with
    | some (some (.d d)) => (gdN is r).map (d :: ·)
    | _ => none
structure RV (X : Cx) (es : List Expr) (is : List Nat) : Prop where
  ex : ∃ t : TA, PA X es t ∧ ∀ (σ : St) (H F : Hp) (r : Rho) (ds : List PyData) (Q : List V → Hp → Prop), SR X.prog X.w X.K F H σ r → gdN is r = some ds → (∀ vs, DpAll X.K F vs ds → Q vs H) → t σ H Q
section
variable {X : Cx} {es : List Expr} {is : List Nat} {x : Str} {pos : Pos}
theorem rv_nil : RV X [] [] := ⟨_, pa_nil, fun σ H F r ds Q S e hQ => by cases e; exact hQ [] .nil⟩
theorem rv_cons (i : Nat) (h : RV X es is) (hN : X.N[i]? = some x := by rfl) (hv : Vis X.env.scope x := by first | exact Or.inl rfl | exact Or.inr (Or.inl rfl) | exact Or.inr (Or.inr rfl)) (hd : (x == ("__debug__" : Str)) = false := by decide)
    (hcd : (x == ("__classdict__" : Str)) = false := by decide) (hs : starEach (.Name x pos :: es) X.env = (false, eval (.Name x pos) X.env) :: starEach es X.env := by rfl) : RV X (.Name x pos :: es) (i :: is) := by
  obtain ⟨t, p, k⟩ := h.ex
  refine ⟨_, pa_cons (pe_var hN hv hd hcd) p hs, fun σ H F r ds Q S e hQ => ?_⟩
  unfold gdN at e
  split at e
  · rename_i d e1
    obtain ⟨ds', e2, rfl⟩ := Option.map_eq_some_iff.1 e
    obtain ⟨v, h1, h2⟩ := S.ent _ _ e1
    cases h2 with
    | d h2 => exact ⟨v, h1, k σ H F r ds' _ S e2 fun vs D => hQ _ (.cons h2 D)⟩
  · cases e
end
structure RD (X : Cx) (T : List (Addr × Str)) (e : Expr) (g : Rho → Option (List ISpec)) : Prop where
  ex : ∃ t : TE, PE X e t ∧ ∀ (σ : St) (H F : Hp) (r : Rho) (its : List ISpec) (Q : VK), SR X.prog X.w X.K F H σ r → NT F → Tabs T H → g r = some its →
    (∀ p us H', ExtN H H' → Tabs T H' → H' p = some (.lst us) → DrG (DoorG X.K F H') us its → Q (.ref p) H') → t σ H Q
def gMk (is : List Nat) (ds : List DSpec) (q : Str) (ps : List Str) : Rho → Option (List ISpec) := fun r => (gdN is r).map fun args => ds.map fun d => ⟨d.1, d.2, q, ps, args⟩
def gAdd (a b : Rho → Option (List ISpec)) : Rho → Option (List ISpec) := fun r => match a r, b r with
  | some x, some y => if x.length + y.length ≤ 100 then some (x ++ y) else none
  | _, _ => none
section
variable {X : Cx} {T : List (Addr × Str)} {e1 e2 e : Expr} {es : List Expr} {is : List Nat} {x q : Str} {ps : List Str} {ds : List DSpec} {k j : Nat} {p pos : Pos} {g1 g2 : Rho → Option (List ISpec)}
theorem gdN_len : ∀ {is : List Nat} {r : Rho} {ds : List PyData}, gdN is r = some ds → ds.length = is.length
  | [], _, _, e => by cases e; rfl
  | i :: is, r, ds, e => by
    unfold gdN at e
    split at e
    · obtain ⟨ds', e2, rfl⟩ := Option.map_eq_some_iff.1 e
      simp [gdN_len e2]
    · cases e
theorem rd_call (G : CF X.prog X.w X.K X.mg X.base k x ps (spMk T q ps ds)) (hr : Room j X.A) (hkj : k ≤ j) (hg : Gl X x) (ha : RV X (e :: es) is) (hl : is.length = ps.length)
    (hdb : (x == ("__debug__" : Str)) = false := by decide) (he : starEach (e :: es) X.env = (false, eval e X.env) :: starEach es X.env := by rfl) (hpl : (backTo pos (starEach es X.env)).any (·.1) = false := by rfl) :
    RD X T (.Call (.Name x p) (e :: es) [] pos) (gMk is ds q ps) := by
  obtain ⟨f, fd, h1, h2, h3, h4⟩ := G
  obtain ⟨t, pt, kt⟩ := ha.ex
  refine ⟨_, pe_call (E := fun _ _ _ => False) h4 (hr.mono hkj) hg h2 h1 h3 .nil pass0 pt hdb he hpl, fun σ H F r its Q S nt hT e hQ => ?_⟩
  obtain ⟨args, e3, rfl⟩ := Option.map_eq_some_iff.1 e
  refine kt σ H F r args _ S e3 fun vs D => ?_
  show spMk T q ps ds (vs ++ []) H Q _
  rw [List.append_nil]
  refine ⟨by rw [D.length, gdN_len e3, hl], hT, fun p H' us eN hp hd T' => hQ p us H' eN T' hp (hd.toG fun v d ⟨f, cl, c', z1, z2, z3⟩ => ⟨f, cl, c', vs, z1, z2, D, fun c hc => S.sub.free (z3 c hc)⟩)⟩
theorem rd_add (h1 : RD X T e1 g1) (h2 : RD X T e2 g2) : RD X T (.BinOp e1 .Add e2 pos) (gAdd g1 g2) := by
  obtain ⟨t, pt, kt⟩ := h1.ex
  obtain ⟨u, pu, ku⟩ := h2.ex
  refine ⟨_, pe_op op_cat pt pu, fun σ H F r its Q S nt hT e hQ => ?_⟩
  unfold gAdd at e
  split at e
  case h_2 => cases e
  rename_i x y ex ey
  split at e
  case isFalse => cases e
  rename_i hl
  cases e
  refine kt σ H F r x _ S nt hT ex fun p us H1 eN T1 hp hd => ?_
  refine ku σ H1 F r y _ (S.extN nt eN) nt T1 ey fun p2 us2 H2 eN2 T2 hp2 hd2 => ?_
  refine ⟨p, p2, us, us2, rfl, rfl, eN2 _ _ hp (fun _ z => by cases z), hp2, by rw [hd.len, hd2.len]; exact Nat.le_trans hl (by decide), fun p3 hp3 => ?_⟩
  have e3 : ∀ b o, H2 b = some o → upd H2 p3 (.lst (us ++ us2)) b = some o := same_updN hp3
  exact hQ p3 _ _ (eN.trans (eN2.trans (ExtN.of e3))) (T2.ext e3) upd_same (DrG.app (hd.imp fun v d z => z.ext (eN2.trans (ExtN.of e3))) (hd2.imp fun v d z => z.ext (ExtN.of e3)))
end
/-! ### a door is tried -/
structure DoorB (P : Program) (w : World) (K : PySem.W.Frag) (mg : Str → Option Value) (base : Heap) (kk : Nat) (k : Clo) (N : List Str) (D : Addr) (x : Rho → Bool) : Prop where
  lam : LamSC k.scope
  bind : ∀ (pm cv ctv : Value), bindArgs (PySem.W.kla_fn "<lambda>" k.q k.params k.body k.scope k.cl pm cv ctv) ⟨[], []⟩ = pure []
  body : ∀ (A : Around) (outer : List Env) (s : Shared) (H : Hp) (E : XK) (f : Addr), Room kk (A.deeper (envC k s.heap.objs.size f)) → XEx (lamCxC P w K mg base k N A outer s H E f) (fun cls d _ H => E cls d H) (PhiP D) k.body x
def spTry (P : Program) (w : World) (K : PySem.W.Frag) (mg : Str → Option Value) (base : Heap) (kk : Nat) (KW : Addr → Str → Prop) : Sp := fun vs H Q _ => ∃ (D : Addr) (word : Str) (k : Clo) (N : List Str) (x : Rho → Bool) (f : Addr) (σ : St) (F : Hp) (r : Rho),
  KW D word ∧ DoorB P w K mg base kk k N D x ∧ vs = [.ref f] ∧ CloAt H f k N σ ∧ SR P w K F (delC k.cl H) σ r ∧ (∀ b, ¬ OwnAt r σ b) ∧ x r = true ∧ ∀ H', Same H H' → Q (.str word) H'
/-- what is refused, and with which word -/
def Ref (P : Program) (w : World) (K : PySem.W.Frag) (mg : Str → Option Value) (base : Heap) (kk : Nat) (KW : Addr → Str → Prop) (word : Str) (I : ISpec) : Prop :=
  ∃ D x, KW D word ∧ (∀ cl c', DoorB P w K mg base kk (cloOf I.q I.a cl c') I.ps D x) ∧ x (I.args.map fun d => some (.d d)) = true
section
variable {P : Program} {w : World} {K : PySem.W.Frag} {F H : Hp}
theorem sr_args {vs : List V} {args : List PyData} (D : DpAll K F vs args) (s : Same F H) : SR P w K F H (vs.map some) (args.map fun d => some (Ent.d d)) ∧ ∀ b, ¬ OwnAt (args.map fun d => some (Ent.d d)) (vs.map some) b := by
  have ent : ∀ (i : Nat) (e : Ent), (args.map fun d => some (Ent.d d))[i]? = some (some e) → ∃ d, args[i]? = some d ∧ e = .d d := fun i e h => by
    rw [List.getElem?_map] at h
    cases z : args[i]? with
    | none => rw [z] at h; cases h
    | some d => rw [z] at h; cases h; exact ⟨d, rfl, rfl⟩
  refine ⟨⟨s, by rw [List.length_map, List.length_map, D.length], fun i e h => ?_, fun i j a e e' h1 h2 h3 => ?_⟩, fun b ⟨i, e, h1, h2, _⟩ => ?_⟩
  · obtain ⟨d, h1, rfl⟩ := ent i e h
    obtain ⟨v, h2, h3⟩ := D.get h1
    exact ⟨v, by rw [List.getElem?_map, h2]; rfl, .d h3⟩
  · obtain ⟨d, _, rfl⟩ := ent i e h1
    cases h3
  · obtain ⟨d, _, rfl⟩ := ent i e h1
    cases h2
theorem same_del {cl : List (Str × Addr)} (s : Same F H) (h : ∀ c ∈ cellsOf cl, F c = none) : Same F (delC cl H) := fun b o e => by
  rw [delC_out fun z => by rw [h b z] at e; cases e]
  exact s b o e
theorem same_add {cl : List (Str × Addr)} {H' : Hp} (s : ∀ b o, delC cl H b = some o → H' b = some o) : Same H (addC cl H H') := fun b o e => by
  unfold addC
  split
  · exact e
  · rename_i n
    exact s b o (by rw [delC_out n]; exact e)
/-- slots i and j are let go -/
theorem sr_drop {σ σ' : St} {r : Rho} {is : List Nat} (S : SR P w K F H σ r) (c : Ch is σ σ') : SR P w K F H σ' (is.foldl (fun r i => r.set i none) r) := by
  have get : ∀ (is : List Nat) (r : Rho) (i : Nat) (e : Ent), (is.foldl (fun r i => r.set i none) r)[i]? = some (some e) → i ∉ is ∧ r[i]? = some (some e) := by
    intro is
    induction is with
    | nil => intro r i e h; exact ⟨by simp, h⟩
    | cons j js ih =>
      intro r i e h
      obtain ⟨h1, h2⟩ := ih (r.set j none) i e h
      rcases get_set h2 with ⟨rfl, q⟩ | ⟨n, q⟩
      · cases q
      · exact ⟨by simp only [List.mem_cons, not_or]; exact ⟨fun z => n z.symm, h1⟩, q⟩
  have len : ∀ (is : List Nat) (r : Rho), (is.foldl (fun r i => r.set i none) r).length = r.length := by
    intro is
    induction is with
    | nil => intro r; rfl
    | cons j js ih => intro r; rw [List.foldl_cons, ih, List.length_set]
  refine ⟨S.sub, by rw [len, c.1]; exact S.len, fun i e h => ?_, fun i j a e e' h1 h2 h3 h4 h5 h6 => ?_⟩
  · obtain ⟨h1, h2⟩ := get is r i e h
    obtain ⟨v, h3, h4⟩ := S.ent i e h2
    exact ⟨v, by rw [c.2 i h1]; exact h3, h4⟩
  · obtain ⟨a1, a2⟩ := get is r i e h1
    obtain ⟨b1, b2⟩ := get is r j e' h2
    exact S.dis i j a e e' a2 b2 h3 h4 (by rw [← c.2 i a1]; exact h5) (by rw [← c.2 j b1]; exact h6)
theorem own_drop {σ σ' : St} {r : Rho} {is : List Nat} (c : Ch is σ σ') {b : Addr} (h : OwnAt (is.foldl (fun r i => r.set i none) r) σ' b) : OwnAt r σ b := by
  have get : ∀ (is : List Nat) (r : Rho) (i : Nat) (e : Ent), (is.foldl (fun r i => r.set i none) r)[i]? = some (some e) → i ∉ is ∧ r[i]? = some (some e) := by
    intro is
    induction is with
    | nil => intro r i e h; exact ⟨by simp, h⟩
    | cons j js ih =>
      intro r i e h
      obtain ⟨h1, h2⟩ := ih (r.set j none) i e h
      rcases get_set h2 with ⟨rfl, q⟩ | ⟨n, q⟩
      · cases q
      · exact ⟨by simp only [List.mem_cons, not_or]; exact ⟨fun z => n z.symm, h1⟩, q⟩
  obtain ⟨i, e, h1, h2, h3⟩ := h
  obtain ⟨a1, a2⟩ := get is r i e h1
  exact ⟨i, e, a2, h2, by rw [← c.2 i a1]; exact h3⟩
end
/-! ### the doors are walked -/
def sDoors (g : Rho → Option (List ISpec)) (is : List Nat) (ok : Rho → Bool) : M Out := fun r => if (g r).isSome = true ∧ ok r = true then some (.nx, is.foldl (fun r i => r.set i none) r) else none
section
variable {X : Cx} {T : List (Addr × Str)} {n iD iW kt kk j : Nat} {tg iter W : Expr} {gt : TG} {tW : TE} {is : List Nat} {g : Rho → Option (List ISpec)} {ok : Rho → Bool} {KW : Addr → Str → Prop} {dn wn : Str} {q1 q2 q3 q4 q5 q6 pos : Pos} {as : List Stmt}
theorem doors_core {okI : ISpec → Prop} {wd : ISpec → Str} (hn : ∀ i ∈ is, n ≤ i) (hp : PassesOwn (model X.prog X.w) X.A X.env X.xe) (hc : X.calm = true) (hg : RD X T iter g) (pg : PG X tg gt) (pW : PE X W tW)
    (htg : ∀ (v : V) (I : ISpec) (f : Addr) (σ : St) (H : Hp) (Q : St → Hp → Prop), okI I → doorV H v f I.w → σ.length = X.N.length → (∀ σ', Ch is σ σ' → σ'[iD]? = some (some (.ref f)) → (∀ H Q, Q (.str (wd I)) H → tW σ' H Q) → Q σ' H) → gt v σ H Q)
    (C : CF X.prog X.w X.K X.mg X.base kt "_law_try" ["door"] (spTry X.prog X.w X.K X.mg X.base kk KW)) (hr : Room j X.A) (hkj : kt ≤ j) (hgl : Gl X "_law_try")
    (hok : ∀ r its, g r = some its → ok r = true → ∀ I ∈ its, okI I ∧ Ref X.prog X.w X.K X.mg X.base kk KW (wd I) I)
    (hN : X.N[iD]? = some dn) (hv : Vis X.env.scope dn) (hd : (dn == ("__debug__" : Str)) = false) (hcd : (dn == ("__classdict__" : Str)) = false) (hm : behindInMarks .NotEq W = false)
    (hs : ∀ x, foldedSetIterable iter X.env x = pure x) (hs1 : starEach [.Name dn q2] X.env = (false, eval (.Name dn q2) X.env) :: starEach [] X.env) (hpl : (backTo q3 (starEach [] X.env)).any (·.1) = false) :
    RL X T n (.For tg iter [.If (.Compare (.Call (.Name "_law_try" q1) [.Name dn q2] [] q3) [.NotEq] [W] q5) as [] q6] [] pos) (sDoors g is ok) := by
  obtain ⟨ti, pi, ki⟩ := hg.ex
  obtain ⟨fT, fd, h1, h2, h3, h4⟩ := C
  have pb := pss_one (ps_if (pos := q6) (pt_cmpR (pos := q5) op_ne (pe_call (pos := q3) (p := q1) (E := fun _ _ _ => False) h4 (hr.mono hkj) hgl h2 h1 h3 .nil pass0 (pa_cons (pe_var (pos := q2) hN hv hd hcd) pa_nil hs1) (by decide) hs1 hpl) pW hm) (pss_never (sts := as)) pss_nil)
  have pf := ps_for (pos := pos) hp hc (pi_list (tg := tg) pi) pg pb hs
  refine ⟨fun D σ H => σ.length = X.N.length → tFor _ gt _ D σ H, ⟨fun pins s σ H D I z => pf.run pins s σ H D I (z I.len)⟩, fun σ H F r o r' D S nt hT e hQ hlen => ?_⟩
  unfold sDoors at e
  split at e
  case isFalse => cases e
  rename_i hgo
  obtain ⟨hgs, hok1⟩ := hgo
  cases e
  obtain ⟨its, hits⟩ := Option.isSome_iff_exists.1 hgs
  refine ki σ H F r its _ S nt hT hits fun p us H0 eN T0 hp0 hd0 => ?_
  have S0 := S.extN nt eN
  have hI := hok r its hits hok1
  refine ⟨p, rfl, ⟨us, .inl (.inl hp0)⟩, fun i m σ1 H1 => m = its.length - i ∧ i ≤ its.length ∧ Same H0 H1 ∧ Ch is σ σ1, ⟨its.length, rfl, Nat.zero_le _, Same.refl _, .refl _ _⟩, ?_⟩
  rintro i m σ1 H1 ⟨rfl, hi, s1, c1⟩
  by_cases hlt : i < its.length
  · have hget : its[i]? = some its[i] := List.getElem?_eq_getElem hlt
    obtain ⟨v, hv1, f, cl, c', vs, d1, d2, d3, d4⟩ := hd0.get hget
    have hp1 : SqL X.K H1 p us := .inl (.inl (s1 _ _ hp0))
    obtain ⟨i1, D0, x0, k0, b0, xr⟩ := hI its[i] (List.getElem_mem hlt)
    refine .inr ⟨⟨us, v, hp1, hv1⟩, fun σ2 H2 => Same H0 H2 ∧ Ch is σ σ2, fun σ2 H2 ⟨z1, z2⟩ => ⟨its.length - (i + 1), by omega, rfl, hlt, z1, z2⟩, fun y H2 yy => ?_⟩
    obtain ⟨rfl, yy⟩ := yy
    have ey := yy us hp1
    rw [hv1] at ey
    cases ey
    have dv : doorV H2 v f its[i].w := by
      generalize its[i].w = ww at d1 ⊢
      cases ww with
      | none => exact d1
      | some w =>
        obtain ⟨t, e1, e2⟩ := d1
        exact ⟨t, e1, s1 _ _ e2⟩
    refine htg v its[i] f σ1 H2 _ i1 dv (c1.1.trans hlen) fun σ3 c3 g3 w3 => ?_
    obtain ⟨S3, O3⟩ := sr_args (P := X.prog) (w := X.w) d3 (same_del (cl := cl) ((S0.sub).trans s1) d4)
    show tTest _ σ3 H2 _
    refine ⟨_, g3, ?_⟩
    refine ⟨D0, wd its[i], cloOf its[i].q its[i].a cl c', its[i].ps, x0, f, vs.map some, F, _, k0, b0 cl c', rfl, d2.ext (ExtN.of s1), S3, O3, xr, fun H4 s4 => ?_⟩
    refine w3 H4 _ ⟨rfl, ?_⟩
    refine ⟨_, rfl, ?_⟩
    show if (!decide (V.str (wd its[i]) = V.str (wd its[i]))) = true then _ else _
    rw [decide_eq_true rfl]
    exact ⟨s1.trans s4, c1.trans c3⟩
  · have ei : i = its.length := by omega
    subst ei
    refine .inl ⟨⟨us, .inl (.inl (s1 _ _ hp0)), by rw [hd0.len]; exact Nat.le_refl _⟩, ?_⟩
    have e1 : ExtN H H1 := eN.trans (ExtN.of s1)
    exact hQ σ1 F H1 (sr_drop (S.extN nt e1) c1) nt (T0.ext s1) ⟨Same.refl _, fun b o h _ t => e1 b o h t, fun b h => .inl (own_drop c1 h)⟩ (c1.pin hn)
/-- for door, word in ..: if _law_try(door) != "..": .. -/
theorem rl_doorsC {w : Str} {p1 p2 p3 : Pos} {k1 c4 : Nat} (hnD : n ≤ iD) (hnW : n ≤ iW) (hp : PassesOwn (model X.prog X.w) X.A X.env X.xe) (hc : X.calm = true) (nd : X.N.Nodup) (hg : RD X T iter g)
    (C : CF X.prog X.w X.K X.mg X.base kt "_law_try" ["door"] (spTry X.prog X.w X.K X.mg X.base kk KW)) (hr : Room j X.A) (hkj : kt ≤ j) (hgl : Gl X "_law_try")
    (hok : ∀ r its, g r = some its → ok r = true → ∀ I ∈ its, (∃ w', I.w = some w') ∧ Ref X.prog X.w X.K X.mg X.base kk KW w I)
    (hD : X.N[iD]? = some dn := by rfl) (hW : X.N[iW]? = some wn := by rfl) (hne : iD ≠ iW := by decide) (lD : X.env.scope.names.lookup dn = some .local := by rfl) (lW : X.env.scope.names.lookup wn = some .local := by rfl) (hd : (dn == ("__debug__" : Str)) = false := by decide) (hcd : (dn == ("__classdict__" : Str)) = false := by decide)
    (hm : behindInMarks .NotEq (.Constant (.str w) c4 q4) = false := by first | rfl | exact nomark _) (hs : ∀ x, foldedSetIterable iter X.env x = pure x := by intro _; rfl) (hs1 : starEach [.Name dn q2] X.env = (false, eval (.Name dn q2) X.env) :: starEach [] X.env := by rfl) (hpl : (backTo q3 (starEach [] X.env)).any (·.1) = false := by rfl)
    (pgD : PG X (.Tuple [.Name dn p1, .Name wn p2] k1 p3) (gTup X.K 2 (gCons (gName iD) (gCons (gName iW) gNil))) := by exact pg_tup rfl (pgs_cons (pg_name nd rfl (.inl rfl)) (pgs_cons (pg_name nd rfl (.inl rfl)) pgs_nil))) :
    RL X T n (.For (.Tuple [.Name dn p1, .Name wn p2] k1 p3) iter [.If (.Compare (.Call (.Name "_law_try" q1) [.Name dn q2] [] q3) [.NotEq] [.Constant (.str w) c4 q4] q5) as [] q6] [] pos) (sDoors g [iD, iW] ok) := by
  refine doors_core (iD := iD) (okI := fun I => ∃ w', I.w = some w') (wd := fun _ => w) (by simp; exact ⟨hnD, hnW⟩) hp hc hg pgD pe_str (fun v I f σ H Q h1 h2 h3 h4 => ?_) C hr hkj hgl hok hD (.inl lD) hd hcd hm hs hs1 hpl
  obtain ⟨w', e⟩ := h1
  rw [e] at h2
  obtain ⟨t, rfl, ht⟩ := h2
  refine ⟨t, _, rfl, .inl (.inl ht), rfl, _, _, rfl, _, _, rfl, rfl, ?_⟩
  refine h4 _ ((Ch.set (by simp)).trans (Ch.set (by simp))) ?_ fun H Q h => h
  rw [List.getElem?_set_ne (Ne.symm hne), List.getElem?_set_self (by rw [h3]; exact (List.getElem?_eq_some_iff.1 hD).1)]
/-- for door in ..: if _law_try(door) != "..": .. -/
theorem rl_doors1 {w : Str} {p1 : Pos} {c4 : Nat} (hnD : n ≤ iD) (hp : PassesOwn (model X.prog X.w) X.A X.env X.xe) (hc : X.calm = true) (nd : X.N.Nodup) (hg : RD X T iter g)
    (C : CF X.prog X.w X.K X.mg X.base kt "_law_try" ["door"] (spTry X.prog X.w X.K X.mg X.base kk KW)) (hr : Room j X.A) (hkj : kt ≤ j) (hgl : Gl X "_law_try")
    (hok : ∀ r its, g r = some its → ok r = true → ∀ I ∈ its, I.w = none ∧ Ref X.prog X.w X.K X.mg X.base kk KW w I)
    (hD : X.N[iD]? = some dn := by rfl) (lD : X.env.scope.names.lookup dn = some .local := by rfl) (hd : (dn == ("__debug__" : Str)) = false := by decide) (hcd : (dn == ("__classdict__" : Str)) = false := by decide)
    (hm : behindInMarks .NotEq (.Constant (.str w) c4 q4) = false := by first | rfl | exact nomark _) (hs : ∀ x, foldedSetIterable iter X.env x = pure x := by intro _; rfl) (hs1 : starEach [.Name dn q2] X.env = (false, eval (.Name dn q2) X.env) :: starEach [] X.env := by rfl) (hpl : (backTo q3 (starEach [] X.env)).any (·.1) = false := by rfl) :
    RL X T n (.For (.Name dn p1) iter [.If (.Compare (.Call (.Name "_law_try" q1) [.Name dn q2] [] q3) [.NotEq] [.Constant (.str w) c4 q4] q5) as [] q6] [] pos) (sDoors g [iD] ok) := by
  refine doors_core (iD := iD) (okI := fun I => I.w = none) (wd := fun _ => w) (by simpa using hnD) hp hc hg (pg_name nd hD (.inl lD) (.inr lD)) pe_str (fun v I f σ H Q h1 h2 h3 h4 => ?_) C hr hkj hgl hok hD (.inl lD) hd hcd hm hs hs1 hpl
  rw [h1] at h2
  have h2 : v = .ref f := h2
  subst h2
  exact h4 _ (Ch.set (by simp)) (List.getElem?_set_self (by rw [h3]; exact (List.getElem?_eq_some_iff.1 hD).1)) fun H Q h => h
/-- for door, word in ..: if _law_try(door) != word: .. -/
theorem rl_doorsW {p1 p2 p3 : Pos} {k1 : Nat} (hnD : n ≤ iD) (hnW : n ≤ iW) (hp : PassesOwn (model X.prog X.w) X.A X.env X.xe) (hc : X.calm = true) (nd : X.N.Nodup) (hg : RD X T iter g)
    (C : CF X.prog X.w X.K X.mg X.base kt "_law_try" ["door"] (spTry X.prog X.w X.K X.mg X.base kk KW)) (hr : Room j X.A) (hkj : kt ≤ j) (hgl : Gl X "_law_try")
    (hok : ∀ r its, g r = some its → ok r = true → ∀ I ∈ its, ∃ w', I.w = some w' ∧ Ref X.prog X.w X.K X.mg X.base kk KW w' I)
    (hD : X.N[iD]? = some dn := by rfl) (hW : X.N[iW]? = some wn := by rfl) (hne : iD ≠ iW := by decide) (lD : X.env.scope.names.lookup dn = some .local := by rfl) (lW : X.env.scope.names.lookup wn = some .local := by rfl) (hd : (dn == ("__debug__" : Str)) = false := by decide) (hcd : (dn == ("__classdict__" : Str)) = false := by decide) (hdW : (wn == ("__debug__" : Str)) = false := by decide) (hcdW : (wn == ("__classdict__" : Str)) = false := by decide)
    (hm : behindInMarks .NotEq (.Name wn q4) = false := by first | rfl | exact nomark _) (hs : ∀ x, foldedSetIterable iter X.env x = pure x := by intro _; rfl) (hs1 : starEach [.Name dn q2] X.env = (false, eval (.Name dn q2) X.env) :: starEach [] X.env := by rfl) (hpl : (backTo q3 (starEach [] X.env)).any (·.1) = false := by rfl)
    (pgD : PG X (.Tuple [.Name dn p1, .Name wn p2] k1 p3) (gTup X.K 2 (gCons (gName iD) (gCons (gName iW) gNil))) := by exact pg_tup rfl (pgs_cons (pg_name nd rfl (.inl rfl)) (pgs_cons (pg_name nd rfl (.inl rfl)) pgs_nil))) :
    RL X T n (.For (.Tuple [.Name dn p1, .Name wn p2] k1 p3) iter [.If (.Compare (.Call (.Name "_law_try" q1) [.Name dn q2] [] q3) [.NotEq] [.Name wn q4] q5) as [] q6] [] pos) (sDoors g [iD, iW] ok) := by
  refine doors_core (iD := iD) (okI := fun I => ∃ w', I.w = some w') (wd := fun I => I.w.getD "") (by simp; exact ⟨hnD, hnW⟩) hp hc hg pgD (pe_var hW (.inl lW) hdW hcdW) (fun v I f σ H Q h1 h2 h3 h4 => ?_) C hr hkj hgl (fun r its e1 e2 I hI => ?_) hD (.inl lD) hd hcd hm hs hs1 hpl
  · obtain ⟨w', e⟩ := h1
    rw [e] at h2
    obtain ⟨t, rfl, ht⟩ := h2
    refine ⟨t, _, rfl, .inl (.inl ht), rfl, _, _, rfl, _, _, rfl, rfl, ?_⟩
    refine h4 _ ((Ch.set (by simp)).trans (Ch.set (by simp))) ?_ fun H Q h => ⟨_, List.getElem?_set_self (by rw [List.length_set, h3]; exact (List.getElem?_eq_some_iff.1 hW).1), ?_⟩
    · rw [List.getElem?_set_ne (Ne.symm hne), List.getElem?_set_self (by rw [h3]; exact (List.getElem?_eq_some_iff.1 hD).1)]
    · rw [e] at h
      exact h
  · obtain ⟨w', z1, z2⟩ := hok r its e1 e2 I hI
    refine ⟨⟨w', z1⟩, ?_⟩
    show Ref _ _ _ _ _ _ _ (I.w.getD "") I
    rw [z1]
    exact z2
end
end G65
/-! lambdas that are tried at once; the ends of defs that make lambdas -/
namespace G65
open PySem PySem.Spec PyProof.Rows L2 LamX
def noOwn (r : Rho) : Bool := r.all fun e => match e with
  | some e => !e.own
  | none => true
theorem noOwn_ok {r : Rho} (h : noOwn r = true) {σ : St} (b : Addr) : ¬ OwnAt r σ b := fun ⟨i, e, h1, h2, _⟩ => by
  have := List.all_eq_true.1 h _ (List.mem_of_getElem? h1)
  simp [h2] at this
theorem noOwn_set {r : Rho} {i : Nat} (h : noOwn r = true) : noOwn (r.set i none) = true := by
  refine List.all_eq_true.2 fun e he => ?_
  rcases List.mem_or_eq_of_mem_set he with z | z
  · exact List.all_eq_true.1 h _ z
  · subst z
    rfl
/-- the lambda is refused: what _law_try tells -/
def TTryP (D : Addr) (word : Str) : (XK → Hp → VK → Prop) → Hp → VK → Prop := fun tl H Q => ∀ Q', tl (fun cls d H' => cls = .ref D ∧ d = none ∧ ∀ H'', Same H' H'' → Q (.str word) H'') H Q'
def sLam (x : Rho → Bool) (o : Out) : M Out := fun r => if noOwn r = true ∧ x r = true then some (o, r) else none
section
variable {X : Cx} {T : List (Addr × Str)} {n : Nat} {D : Addr} {word : Str} {e : Expr} {x : Rho → Bool} {q1 q2 q3 : Pos} {c : Nat} {as : List Stmt}
theorem lam_run (pl : PE X e (tLam T (TTryP D word) (tX X.prog X.w X.K x (PhiP D)))) {σ : St} {H F : Hp} {r : Rho} {Q : VK} (S : SR X.prog X.w X.K F H σ r) (nt : NT F) (hT : Tabs T H) (hx : noOwn r = true ∧ x r = true)
    (hQ : ∀ H', ExtN H H' → Tabs T H' → Q (.str word) H') : tLam T (TTryP D word) (tX X.prog X.w X.K x (PhiP D)) σ H Q := by
  refine ⟨hT, fun H1 eN T1 Q' => ⟨F, r, S.extN nt eN, hx.2, fun cls d σ' r' F' H' S' G' w => ⟨w.1, w.2, fun H2 s2 => ?_⟩⟩⟩
  have s1 : ∀ b o, H1 b = some o → H2 b = some o := fun b o h => s2 b o (G'.keep b o h (noOwn_ok hx.1 b))
  exact hQ H2 (eN.trans (ExtN.of s1)) (T1.ext s1)
theorem rl_ifLam (pl : PE X e (tLam T (TTryP D word) (tX X.prog X.w X.K x (PhiP D)))) (hm : behindInMarks .NotEq (.Constant (.str word) c q1) = false := by first | rfl | exact nomark _) :
    RL X T n (.If (.Compare e [.NotEq] [.Constant (.str word) c q1] q2) as [] q3) (sLam x .nx) := by
  refine ⟨_, ps_if (pt_cmpR op_ne pl pe_str hm) (pss_never (sts := as)) pss_nil, fun σ H F r o r' Dn S nt hT e hQ => ?_⟩
  unfold sLam at e
  split at e
  case isFalse => cases e
  rename_i hx
  cases e
  refine lam_run pl S nt hT hx fun H' eN T' => ?_
  refine ⟨rfl, _, rfl, ?_⟩
  show if (!decide (V.str word = V.str word)) = true then _ else _
  rw [decide_eq_true rfl]
  exact hQ σ F H' (S.extN nt eN) nt T' (.ext nt eN) (.refl _ _)
theorem rl_retLam (pl : PE X e (tLam T (TTryP D word) (tX X.prog X.w X.K x (PhiP D)))) (hm : behindInMarks .Eq (.Constant (.str word) c q1) = false := by first | rfl | exact nomark _) :
    RL X T n (.Return (some (.Compare e [.Eq] [.Constant (.str word) c q1] q2)) q3) (sLam x (.ret (.d (.bool true)))) := by
  refine ⟨_, ps_ret (pe_cmpR op_eq pl pe_str hm), fun σ H F r o r' Dn S nt hT e hQ => ?_⟩
  unfold sLam at e
  split at e
  case isFalse => cases e
  rename_i hx
  cases e
  refine lam_run pl S nt hT hx fun H' eN T' => ?_
  refine ⟨rfl, ?_⟩
  rw [decide_eq_true rfl]
  exact hQ σ F H' (S.extN nt eN) nt T' (.ext nt eN) (.refl _ _) _ (.d (.bl _))
end
/-! ### a local name that holds a def that raises -/
structure XExV (X : Cx) (W : WX) (Φ : Phi) (e : Expr) (i : Nat) (y : Str) (x : Rho → Bool) : Prop where
  ex : ∃ t : TE, PE X e t ∧ ∀ (σ : St) (H F : Hp) (r : Rho) (Q : VK) (f : Addr), X.mg y = some (.ref f) → σ[i]? = some (some (.ref f)) → SR X.prog X.w X.K F H σ r → x r = true →
    (∀ cls d σ' r' F' H', SR X.prog X.w X.K F' H' σ' r' → Go σ r F H σ' r' F' H' → Φ cls d H' → W cls d σ' H') → t σ H Q
section
variable {X : Cx} {W : WX} {Φ : Phi} {k j n i : Nat} {ps : List Str} {exc : List PyData → Bool} {x y : Str} {p pos : Pos} {e : Expr} {es : List Expr} {g : M (List PyData)}
theorem xv_call (tk : L2N.Takes X W) (G : CFX X.prog X.w X.K X.mg X.base k x ps (spX X.prog X.w X.K n exc Φ)) (hr : Room j X.A) (hkj : k ≤ j) (hN : X.N[i]? = some y) (hv : Vis X.env.scope y) (ha : RA X (e :: es) g) (hn : ∀ r ds r', g r = some (ds, r') → ds.length = n)
    (hdb : (y == ("__debug__" : Str)) = false := by decide) (hcd : (y == ("__classdict__" : Str)) = false := by decide) (he : starEach (e :: es) X.env = (false, eval e X.env) :: starEach es X.env := by rfl) (hpl : (backTo pos (starEach es X.env)).any (·.1) = false := by rfl) :
    XExV X W Φ (.Call (.Name y p) (e :: es) [] pos) i x (xCall g exc) := by
  obtain ⟨f, fd, hk, hm, hb, G⟩ := G
  obtain ⟨t, pa, ka⟩ := ha.ex
  refine ⟨fun σ H Q => σ[i]? = some (some (.ref f)) ∧ t σ H fun vs H1 => spX X.prog X.w X.K n exc Φ vs H1 Q (L2.WE W σ), ⟨fun pins s σ H Q I ⟨hs, ht⟩ => ?_⟩, fun σ H F r Q f' e1 e2 S e hW => ?_⟩
  · refine wpAny_Call_Name_kw (thn ((pe_var (pos := p) hN hv hdb hcd).run pins s σ H (fun v H1 => v = .ref f ∧ H1 = H) I ⟨.ref f, hs, rfl, rfl⟩) fun u s1 ⟨v, H1, I1, r1, q1⟩ => ?_)
    obtain ⟨rfl, rfl⟩ := q1
    cases r1
    refine PySem.W.callWith_K (h₀ := X.base) I.ok.mod.kin hk (thn (pa.run pos pins s1 σ _ _ I1 ht) fun us s2 ⟨vs, H2, I2, r, q⟩ => ⟨I2.kIn, ?_⟩) he hpl
    exact L2.run_fnS G (hr.mono hkj) hb (L2N.passAt tk σ) I2 r q
  · rw [hm] at e1
    cases e1
    refine ⟨e2, ?_⟩
    unfold xCall at e
    split at e
    · rename_i ds r1 e1
      refine ka σ H F r ds r1 _ S e1 fun vs F1 H1 S1 G1 D1 => ?_
      refine ⟨F1, ds, hn _ _ _ e1, S1.sub, D1, e, fun cls d F2 H2 px w => ?_⟩
      exact hW cls d σ r1 F2 H2 (S1.px px) (G1.trans (.px px)) w
    · cases e
end
def tXV (P : Program) (w : World) (K : PySem.W.Frag) (mg : Str → Option Value) (i : Nat) (y : Str) (x : Rho → Bool) (Φ : Phi) (E : XK) : TE := fun σ H Q => ∃ f, mg y = some (.ref f) ∧ σ[i]? = some (some (.ref f)) ∧ tX P w K x Φ E σ H Q
theorem pe_tXV {X : Cx} {e : Expr} {i : Nat} {y : Str} {x : Rho → Bool} {Φ : Phi} {E : XK} (h : XExV X (fun cls d _ H => E cls d H) Φ e i y x) : PE X e (tXV X.prog X.w X.K X.mg i y x Φ E) := by
  obtain ⟨t, p, k⟩ := h.ex
  exact ⟨fun pins s σ H Q I ⟨f, h1, h2, F, r, S, hx, hE⟩ => p.run pins s σ H Q I (k σ H F r Q f h1 h2 S hx fun cls d σ' r' F' H' S' G' w => hE cls d σ' r' F' H' S' G' w)⟩
theorem pe_orT {X : Cx} {e : Expr} {t u : TE} (h1 : PE X e t) (h2 : PE X e u) : PE X e (fun σ H Q => t σ H Q ∨ u σ H Q) := ⟨fun pins s σ H Q I z => z.elim (h1.run pins s σ H Q I) (h2.run pins s σ H Q I)⟩
def sFns (i : Nat) (x1 x2 : Rho → Bool) : M Out := fun r => if noOwn r = true ∧ x1 (r.set i none) = true ∧ x2 (r.set i none) = true then some (.nx, r.set i none) else none
section
variable {X : Cx} {T : List (Addr × Str)} {n i : Nat} {D : Addr} {word a1 a2 dn : Str} {e : Expr} {x1 x2 : Rho → Bool} {p1 p2 p3 p4 q1 q2 q3 pos : Pos} {c : Nat} {as : List Stmt}
/-- for door in [f, g]: if _law_try(lambda: door(..)) != "..": .. -/
theorem rl_fns (hn : n ≤ i) (hp : PassesOwn (model X.prog X.w) X.A X.env X.xe) (hc : X.calm = true) (nd : X.N.Nodup) (hi : X.N[i]? = some dn) (hl : Loc X.env.scope dn) (g1 : Gl X a1) (g2 : Gl X a2) (m1 : ∃ f, X.mg a1 = some (.ref f)) (m2 : ∃ f, X.mg a2 = some (.ref f))
    (pl : PE X e (tLam T (TTryP D word) fun E σ H Q => tXV X.prog X.w X.K X.mg i a1 x1 (PhiP D) E σ H Q ∨ tXV X.prog X.w X.K X.mg i a2 x2 (PhiP D) E σ H Q))
    (d1 : (a1 == ("__debug__" : Str)) = false := by decide) (d2 : (a2 == ("__debug__" : Str)) = false := by decide) (hf : X.fn dn = true ∨ X.env.scope.names.lookup dn = some .local := by first | exact .inl rfl | exact .inr rfl | assumption)
    (hm : behindInMarks .NotEq (.Constant (.str word) c q1) = false := by first | rfl | exact nomark _) (hs : ∀ x, foldedSetIterable (.List [.Name a1 p2, .Name a2 p3] p4) X.env x = pure x := by intro _; rfl)
    (hs1 : starEach [.Name a1 p2, .Name a2 p3] X.env = (false, eval (.Name a1 p2) X.env) :: starEach [.Name a2 p3] X.env := by rfl) (hs2 : starEach [.Name a2 p3] X.env = (false, eval (.Name a2 p3) X.env) :: starEach [] X.env := by rfl) :
    RL X T n (.For (.Name dn p1) (.List [.Name a1 p2, .Name a2 p3] p4) [.If (.Compare e [.NotEq] [.Constant (.str word) c q1] q2) as [] q3] [] pos) (sFns i x1 x2) := by
  obtain ⟨f1, m1⟩ := m1
  obtain ⟨f2, m2⟩ := m2
  have pb := pss_one (ps_if (pos := q3) (pt_cmpR (pos := q2) op_ne pl (pe_str (j := c) (pos := q1)) hm) (pss_never (sts := as)) pss_nil)
  have pf := ps_for (pos := pos) (tg := .Name dn p1) hp hc (pi_list (pe_lst (pos := p4) (pa_cons (pe_glob (pos := p2) (v := .ref f1) g1 m1 rfl d1) (pa_cons (pe_glob (pos := p3) (v := .ref f2) g2 m2 rfl d2) pa_nil hs2) hs1))) (pg_name nd hi hl hf) pb hs
  refine ⟨fun D σ H => σ.length = X.N.length → tFor _ _ _ D σ H, ⟨fun pins s σ H D I z => pf.run pins s σ H D I (z I.len)⟩, fun σ H F r o r' Dn S nt hT e hQ hlen => ?_⟩
  unfold sFns at e
  split at e
  case isFalse => cases e
  rename_i hx
  obtain ⟨hx0, hx1, hx2⟩ := hx
  cases e
  refine ⟨Nat.le_trans (by decide : 2 ≤ 9) (by decide), fun p hp => ⟨p, rfl, ⟨_, .inl (.inl upd_same)⟩, ?_⟩⟩
  have e0 : ∀ b o, H b = some o → upd H p (.lst [V.ref f1, V.ref f2]) b = some o := same_updN hp
  have hli : i < σ.length := by rw [hlen]; exact (List.getElem?_eq_some_iff.1 hi).1
  refine ⟨fun q m σ1 H1 => m = 2 - q ∧ q ≤ 2 ∧ ExtN (upd H p (.lst [V.ref f1, V.ref f2])) H1 ∧ Tabs T H1 ∧ Ch [i] σ σ1, ⟨2, rfl, Nat.zero_le _, ExtN.refl _, hT.ext e0, .refl _ _⟩, ?_⟩
  rintro q m σ1 H1 ⟨rfl, hq, e1, T1, c1⟩
  have hp1 : H1 p = some (.lst [V.ref f1, V.ref f2]) := e1 _ _ upd_same fun _ z => by cases z
  have eN : ExtN H H1 := (ExtN.of e0).trans e1
  have step : ∀ (f : Addr) (y : Str) (x : Rho → Bool), X.mg y = some (.ref f) → x (r.set i none) = true → (∀ (E : XK) (σ : St) (H : Hp) (Q : VK), tXV X.prog X.w X.K X.mg i y x (PhiP D) E σ H Q → tXV X.prog X.w X.K X.mg i a1 x1 (PhiP D) E σ H Q ∨ tXV X.prog X.w X.K X.mg i a2 x2 (PhiP D) E σ H Q) →
      ∀ (Q : VK), (∀ H', ExtN H1 H' → Tabs T H' → Q (.str word) H') → tLam T (TTryP D word) (fun E σ H Q => tXV X.prog X.w X.K X.mg i a1 x1 (PhiP D) E σ H Q ∨ tXV X.prog X.w X.K X.mg i a2 x2 (PhiP D) E σ H Q) (σ1.set i (some (.ref f))) H1 Q := by
    intro f y x hm hx up Q hQ
    have S1 : SR X.prog X.w X.K F H1 (σ1.set i (some (.ref f))) (r.set i none) := sr_drop (is := [i]) (S.extN nt eN) (c1.trans (Ch.set (by simp)))
    refine ⟨T1, fun H2 eN2 T2 Q' => up _ _ _ _ ⟨f, hm, List.getElem?_set_self (by rw [c1.1]; exact hli), F, _, S1.extN nt eN2, hx, fun cls d σ' r' F' H' S' G' w => ⟨w.1, w.2, fun H3 s3 => ?_⟩⟩⟩
    have s1 : ∀ b o, H2 b = some o → H3 b = some o := fun b o h => s3 b o (G'.keep b o h (noOwn_ok (noOwn_set hx0) b))
    exact hQ H3 (eN2.trans (ExtN.of s1)) (T2.ext s1)
  have fin : ∀ {f : Addr} {Q2 : St → Hp → Prop} {H' : Hp}, ExtN H1 H' → Tabs T H' → (ExtN (upd H p (.lst [V.ref f1, V.ref f2])) H' ∧ Tabs T H' ∧ Ch [i] σ (σ1.set i (some (.ref f)))) := fun {f Q2 H'} z1 z2 => ⟨e1.trans z1, z2, c1.trans (Ch.set (by simp))⟩
  rcases Nat.lt_or_ge q 2 with hlt | hge
  · refine .inr ⟨?_, fun σ2 H2 => ExtN (upd H p (.lst [V.ref f1, V.ref f2])) H2 ∧ Tabs T H2 ∧ Ch [i] σ σ2, fun σ2 H2 z => ⟨2 - (q + 1), by omega, rfl, hlt, z⟩, fun y H2 yy => ?_⟩
    · have : q = 0 ∨ q = 1 := by omega
      rcases this with rfl | rfl
      · exact ⟨_, _, .inl (.inl hp1), rfl⟩
      · exact ⟨_, _, .inl (.inl hp1), rfl⟩
    · obtain ⟨rfl, yy⟩ := yy
      have ey := yy _ (.inl (.inl hp1))
      have body : ∀ {f : Addr} {H' : Hp}, ExtN H2 H' → Tabs T H' → tC (V.str word) (σ1.set i (some (.ref f))) H' (fun y H3 => rNe (.str word) y H3 fun x H4 => ∃ k, x = V.bl k ∧ (if k = true then False else (ExtN (upd H p (.lst [V.ref f1, V.ref f2])) H4 ∧ Tabs T H4 ∧ Ch [i] σ (σ1.set i (some (.ref f)))))) := fun {f H'} z1 z2 => by
        refine ⟨rfl, _, rfl, ?_⟩
        show if (!decide (V.str word = V.str word)) = true then _ else _
        rw [decide_eq_true rfl]
        exact ⟨e1.trans z1, z2, c1.trans (Ch.set (by simp))⟩
      have : q = 0 ∨ q = 1 := by omega
      rcases this with rfl | rfl
      · cases ey
        exact step f1 a1 x1 m1 hx1 (fun _ _ _ _ z => .inl z) _ fun H' z1 z2 => body z1 z2
      · cases ey
        exact step f2 a2 x2 m2 hx2 (fun _ _ _ _ z => .inr z) _ fun H' z1 z2 => body z1 z2
  · have eq2 : q = 2 := by omega
    subst eq2
    refine .inl ⟨⟨_, .inl (.inl hp1), Nat.le_refl _⟩, ?_⟩
    exact hQ σ1 F H1 (sr_drop (is := [i]) (S.extN nt eN) c1) nt T1 ⟨Same.refl _, fun b o h _ t => eN b o h t, fun b h => .inl (own_drop (is := [i]) c1 h)⟩ (c1.pin (by simpa using hn))
end
/-! ### the defs' ends -/
def spLR (K : PySem.W.Frag) (T : List (Addr × Str)) (n : Nat) (den : List PyData → Bool) : Sp := fun vs H Q _ => ∃ F ds, ds.length = n ∧ Same F H ∧ NT F ∧ DpAll K F vs ds ∧ Tabs T H ∧ den ds = true ∧ ∀ H', ExtN H H' → Tabs T H' → Q (.bl true) H'
def runLT (m : Nat) (f : M Out) : List PyData → Bool := fun ds => match f (ds.map (fun d => some (Ent.d d)) ++ List.replicate (m - ds.length) none) with
  | some (.ret (.d (.bool true)), _) => true
  | _ => false
section
variable {P : Program} {w : World} {K : PySem.W.Frag} {mg : Str → Option Value} {base : Heap}
theorem fnLR {x : Str} {st : Stmt} {f : Addr} {fd : FuncData} {N ps : List Str} {k : Nat} {xM : M Out} {T : List (Addr × Str)} {pd : He.Defn} (F : FnP K x st f fd) (S : FnScope N ps (defScope st)) (hf : f = He.fAd K pd)
    (h : ∀ (A : Around) (outer : List Env) (s : Shared) (H : Hp) (E : XK), Room k (A.deeper (envOfC x (defScope st) s.heap.objs.size f (.ref (He.cT K pd).1))) → RLs (cxOf CX0 P w K mg base N x (defScope st) f (.ref (He.cT K pd).1) A outer s H E).nox T 0 (defBody st) xM) :
    FnOk P w K mg base CX0 (k + 1) f fd ps (spLR K T ps.length (runLT N.length xM)) := by
  obtain ⟨oc, od, dV, kV, doc, pm, an, cdv, ct, osl, rfl, lk, hcd, _, _⟩ := F.ex
  obtain ⟨c0, rfl⟩ := He.codeIn_ref hcd
  have ec : (He.cT K pd).1 = c0 := He.codeOf_eq (by rw [← hf]; exact lk) rfl
  refine fn_of lk hcd S (fun vs H Q E ⟨Fh, ds, h1, h2, _, h3, _⟩ => by rw [h3.length, h1]) fun A outer s H vs Q E hr hsp => ?_
  rw [← ec] at hr ⊢
  obtain ⟨Fh, ds, hl, hs, nt, hD, hT, hd, hQ⟩ := hsp
  obtain ⟨t, pt, kt⟩ := (h A outer s H E hr).ex
  refine ⟨t, pt.nox, ?_⟩
  obtain ⟨S0, no⟩ := sr_start0 (P := P) (w := w) (N := N) hs hD
  unfold runLT at hd
  split at hd
  case h_2 => cases hd
  rename_i r' e1
  refine kt _ H Fh _ _ r' _ S0 nt hT e1 fun σ' F' H' S' n' T' G' P' v hv => ?_
  cases hv with
  | d hv =>
    cases hv
    exact hQ H' (fun b o h t => G'.keep b o h (no b) t) T'
end
section
variable {X : Cx} {T : List (Addr × Str)} {n k j m : Nat} {e : Expr} {es : List Expr} {is : List Nat} {x : Str} {ps : List Str} {den : List PyData → Bool} {p pos q1 q2 : Pos} {as : List Stmt}
def sIfCall (is : List Nat) (den : List PyData → Bool) : M Out := fun r => match gdN is r with
  | some ds => if den ds = true then some (.nx, r) else none
  | none => none
theorem rl_ifCall (G : CF X.prog X.w X.K X.mg X.base k x ps (spLR X.K T m den)) (hr : Room j X.A) (hkj : k ≤ j) (hg : Gl X x) (ha : RV X (e :: es) is) (hl : is.length = m)
    (hdb : (x == ("__debug__" : Str)) = false := by decide) (he : starEach (e :: es) X.env = (false, eval e X.env) :: starEach es X.env := by rfl) (hpl : (backTo pos (starEach es X.env)).any (·.1) = false := by rfl)
    (hv : ∀ whole, isTrue (.Call (.Name x p) (e :: es) [] pos) X.env whole = (do let v ← whole; standAt (Expr.Call (.Name x p) (e :: es) [] pos).pos; holding [v] (truthy v)) := by intro _; rfl) :
    RL X T n (.If (.UnaryOp .Not (.Call (.Name x p) (e :: es) [] pos) q1) as [] q2) (sIfCall is den) := by
  obtain ⟨f, fd, h1, h2, h3, h4⟩ := G
  obtain ⟨t, pt, kt⟩ := ha.ex
  refine ⟨_, ps_if (pt_not (pt_val (pe_call (E := fun _ _ _ => False) h4 (hr.mono hkj) hg h2 h1 h3 .nil pass0 pt hdb he hpl) hv)) (pss_never (sts := as)) pss_nil, fun σ H F r o r' D S nt hT e hQ => ?_⟩
  unfold sIfCall at e
  split at e
  case h_2 => cases e
  rename_i ds eds
  split at e
  case isFalse => cases e
  rename_i hd
  cases e
  refine kt σ H F r ds _ S eds fun vs Dv => ?_
  show spLR X.K T m den (vs ++ []) H _ _
  rw [List.append_nil]
  refine ⟨F, ds, by rw [gdN_len eds, hl], S.sub, nt, Dv, hT, hd, fun H' eN T' => ⟨_, rfl, ?_⟩⟩
  show if (!true) = true then _ else _
  exact hQ σ F H' (S.extN nt eN) nt T' (.ext nt eN) (.refl _ _)
end
/-! ### names for the generated text -/
def DFA (K : PySem.W.Frag) (mg : Str → Option Value) (x : Str) (st : Stmt) (ps : List Str) : Prop := ∃ fd, FnP K x st (He.fAd K (x, none)) fd ∧ mg x = some (.ref (He.fAd K (x, none))) ∧ L2.Binds K fd ps []
theorem hu_of {T : List (Addr × Str)} (nd : (T.map (·.1)).Nodup) {P : Addr} {q : Str} (h : (P, q) ∈ T) : ∀ p ∈ T, p.1 = P → p.2 = q := by
  induction T with
  | nil => intro p hp; cases hp
  | cons a as ih =>
    intro p hp e
    rw [List.map_cons, List.nodup_cons] at nd
    rcases List.mem_cons.1 h with h1 | h1
    · rcases List.mem_cons.1 hp with h2 | h2
      · rw [h2, ← h1]
      · exact absurd (List.mem_map.2 ⟨p, h2, by rw [e, ← h1]⟩) nd.1
    · rcases List.mem_cons.1 hp with h2 | h2
      · exact absurd (List.mem_map.2 ⟨(P, q), h1, by rw [← e, h2]⟩) nd.1
      · exact ih nd.2 h1 p h2 e
def okN (is : List Nat) (b : List PyData → Bool) : Rho → Bool := fun r => match gdN is r with
  | some args => b args
  | none => false
def okAnd (a b : Rho → Bool) : Rho → Bool := fun r => a r && b r
theorem gMk_all {is : List Nat} {ds : List DSpec} {q : Str} {ps : List Str} {b : List PyData → Bool} {Φ : ISpec → Prop} (h : ∀ args, b args = true → ∀ d ∈ ds, Φ ⟨d.1, d.2, q, ps, args⟩) : ∀ r its, gMk is ds q ps r = some its → okN is b r = true → ∀ I ∈ its, Φ I := fun r its e1 e2 I hI => by
  obtain ⟨args, e3, rfl⟩ := Option.map_eq_some_iff.1 e1
  unfold okN at e2
  rw [e3] at e2
  obtain ⟨d, hd, rfl⟩ := List.mem_map.1 hI
  exact h args e2 d hd
theorem gAdd_all {g1 g2 : Rho → Option (List ISpec)} {o1 o2 : Rho → Bool} {Φ : ISpec → Prop} (h1 : ∀ r its, g1 r = some its → o1 r = true → ∀ I ∈ its, Φ I) (h2 : ∀ r its, g2 r = some its → o2 r = true → ∀ I ∈ its, Φ I) : ∀ r its, gAdd g1 g2 r = some its → okAnd o1 o2 r = true → ∀ I ∈ its, Φ I := fun r its e1 e2 I hI => by
  unfold gAdd at e1
  split at e1
  case h_2 => cases e1
  rename_i x y ex ey
  split at e1
  case isFalse => cases e1
  cases e1
  obtain ⟨a, b⟩ := Bool.and_eq_true_iff.1 e2
  rcases List.mem_append.1 hI with z | z
  · exact h1 r x ex a I z
  · exact h2 r y ey b I z
def lamOf : Expr → LamA
  | .Lambda p b s _ => ⟨p, b, s⟩
  | .Tuple (.Lambda p b s _ :: _) _ _ => ⟨p, b, s⟩
  | e => ⟨⟨[], [], none, [], [], none, []⟩, e, ⟨.function, [], false, false, []⟩⟩
def doorE : Stmt → Expr
  | .Assign _ (.List (e :: _) _) _ => e
  | .Expr (.Call _ (e :: _) _ _) _ => e
  | _ => .Constant .none 0 ⟨0, 0, 0, 0⟩
theorem lamSc {sc scope : Scope} (L : LamS sc scope) : LamSC scope := ⟨L.kind, L.co, L.gen, L.own⟩
end G65
namespace G65
open PySem PySem.Spec PyProof.Rows L2
def topS (i : Nat) : Stmt := PySem.Challenge.pw_lorehall_k13_what_is_refused.main.body.getD i (.Pass ⟨0, 0, 0, 0⟩)

structure BF (mg : Str → Option Value) : Prop where
  all_ : mg "all" = none
  bool_ : mg "bool" = none
  enumerate_ : mg "enumerate" = none
  int_ : mg "int" = none
  isinstance_ : mg "isinstance" = none
  len_ : mg "len" = none
  list_ : mg "list" = none
  range_ : mg "range" = none
  tuple_ : mg "tuple" = none
  zip_ : mg "zip" = none
  c_MOST_FOLK : ∃ t, mg "MOST_FOLK" = some (.int 4 t)
  c_MOST_THINGS : ∃ t, mg "MOST_THINGS" = some (.int 3 t)
  c_MOST_CAP : ∃ t, mg "MOST_CAP" = some (.int 3 t)
  c_MOST_MEETINGS : ∃ t, mg "MOST_MEETINGS" = some (.int 4 t)
  c_MOST_BEATS : ∃ t, mg "MOST_BEATS" = some (.int 4 t)
  c_MOST_STANDS : ∃ t, mg "MOST_STANDS" = some (.int 2000 t)
  c_FAR : ∃ t, mg "FAR" = some (.int 1000000000000000000 t)
abbrev s_is_from : Stmt := topS 18
theorem sc_is_from : FnScope ["thing", "low", "high"] ["thing", "low", "high"] (defScope s_is_from) := ⟨rfl, rfl, rfl, by decide +kernel, rfl, by decide +kernel, by decide +kernel⟩
def m_is_from (n : Nat) : M Out := sRetD (andV (bnd (gv 0) fun d => ret (.bool (isiT "int" d))) (andV (notV (bnd (gv 0) fun d => ret (.bool (isiT "bool" d)))) (asD (chn leD leD (gv 1) (gv 0) (gv 2)))))
def den_is_from (n : Nat) : Den0 := run0 3 (m_is_from n)
theorem ok_is_from {P : Program} {w : World} {K : PySem.W.Frag} {mg : Str → Option Value} {base : Heap} {n : Nat} (B : BF mg) (D : DF K mg "is_from" s_is_from ["thing", "low", "high"]) : CF P w K mg base 1 "is_from" ["thing", "low", "high"] (sp0 P w K 3 (den_is_from n)) := by
  refine cf0 D sc_is_from fun f cdv A outer s H E hr => ?_
  unfold m_is_from
  exact (rss_one (rs_retD (re_and (re_isi (T := "int") (by decide) (re_var 0) (by rfl) B.isinstance_ (by rfl) B.int_ PyProof.Rows.boot_int) (re_and (re_not (re_isi (T := "bool") (by decide) (re_var 0) (by rfl) B.isinstance_ (by rfl) B.bool_ PyProof.Rows.boot_bool)) (re_one (re_chain cm_le cm_le (re_var 1) (re_var 0) (re_var 2)))))))
abbrev s_is_tuple : Stmt := topS 19
theorem sc_is_tuple : FnScope ["thing", "least", "most"] ["thing", "least", "most"] (defScope s_is_tuple) := ⟨rfl, rfl, rfl, by decide +kernel, rfl, by decide +kernel, by decide +kernel⟩
def m_is_tuple (n : Nat) : M Out := sRetD (andV (bnd (gv 0) fun d => ret (.bool (isiT "tuple" d))) (asD (chn leD leD (gv 1) (app lenD (aCons (gv 0) (aNil))) (gv 2))))
def den_is_tuple (n : Nat) : Den0 := run0 3 (m_is_tuple n)
theorem ok_is_tuple {P : Program} {w : World} {K : PySem.W.Frag} {mg : Str → Option Value} {base : Heap} {n : Nat} (B : BF mg) (D : DF K mg "is_tuple" s_is_tuple ["thing", "least", "most"]) : CF P w K mg base 1 "is_tuple" ["thing", "least", "most"] (sp0 P w K 3 (den_is_tuple n)) := by
  refine cf0 D sc_is_tuple fun f cdv A outer s H E hr => ?_
  unfold m_is_tuple
  exact (rss_one (rs_retD (re_and (re_isi (T := "tuple") (by decide) (re_var 0) (by rfl) B.isinstance_ (by rfl) B.tuple_ PyProof.Rows.boot_tuple) (re_one (re_chain cm_le cm_le (re_var 1) (re_callB cl_len (by rfl) B.len_ PySem.boot_len (ra_cons (re_var 0) ra_nil)) (re_var 2))))))
abbrev s_is_lore : Stmt := topS 20
theorem sc_is_lore : FnScope ["thing", "at", "needs", "teach", "cap", "loss", "one", "other"] ["thing", "at"] (defScope s_is_lore) := ⟨rfl, rfl, rfl, by decide +kernel, rfl, by decide +kernel, by decide +kernel⟩
def m_is_lore (n : Nat) : M Out := sCons (sIf (orT (notT (tst (bnd (dcall (den_is_tuple n) (aCons (gv 0) (aCons (cst (.int 4)) (aCons (cst (.int 4)) (aNil))))) frz))) (notT (tst (bnd (dcall (den_is_tuple n) (aCons (bop ixD (gv 0) (cst (.int 0))) (aCons (cst (.int 0)) (aCons (gv 1) (aNil))))) frz)))) (sRetD (cst (.bool false))) (sNil)) (sCons (sAsg (gv 0) (asgT [2, 3, 4, 5])) (sCons (sIf (notT (tst (app allD (aCons (bnd (lcM [6] (bnd (gv 2) asSeq) (stepC [6] (asgN 6) (ret true) (bnd (dcall (den_is_from n) (aCons (gv 6) (aCons (cst (.int 0)) (aCons (bop subD (gv 1) (cst (.int 1))) (aNil))))) frz))) frz) (aNil))))) (sRetD (cst (.bool false))) (sNil)) (sCons (sIf (notT (tst (app allD (aCons (bnd (lcM [6, 7] (bnd (aCons (gv 2) (aCons (slc (gv 2) (bnd (cst (.int 1)) asI) (ret none)) (aNil))) asZip) (stepC [6, 7] (asgT [6, 7]) (ret true) (cmp ltD (gv 6) (gv 7)))) frz) (aNil))))) (sRetD (cst (.bool false))) (sNil)) (sRetD (andV (bnd (dcall (den_is_from n) (aCons (gv 4) (aCons (cst (.int 1)) (aCons (cst (.int 3)) (aNil))))) frz) (andV (bnd (dcall (den_is_from n) (aCons (gv 3) (aCons (cst (.int 1)) (aCons (gv 4) (aNil))))) frz) (bnd (dcall (den_is_from n) (aCons (gv 5) (aCons (cst (.int 0)) (aCons (gv 4) (aNil))))) frz)))))))
def den_is_lore (n : Nat) : Den0 := run0 8 (m_is_lore n)
theorem ok_is_lore {P : Program} {w : World} {K : PySem.W.Frag} {mg : Str → Option Value} {base : Heap} {n : Nat} (B : BF mg) (D : DF K mg "is_lore" s_is_lore ["thing", "at"]) (C_is_from : CF P w K mg base 1 "is_from" ["thing", "low", "high"] (sp0 P w K 3 (den_is_from n))) (C_is_tuple : CF P w K mg base 1 "is_tuple" ["thing", "least", "most"] (sp0 P w K 3 (den_is_tuple n))) : CF P w K mg base 2 "is_lore" ["thing", "at"] (sp0 P w K 2 (den_is_lore n)) := by
  refine cf0 D sc_is_lore fun f cdv A outer s H E hr => ?_
  unfold m_is_lore
  exact (rss_cons (rs_if ((rw_or (rt_not (rt_val (rx_callC C_is_tuple hr (by decide) (by rfl) (ra_cons (re_var 0) (ra_cons re_int (ra_cons re_int ra_nil))) (aCons_len (aCons_len (aCons_len aNil_len)))).re)) (rw_or1 (rt_not (rt_val (rx_callC C_is_tuple hr (by decide) (by rfl) (ra_cons (re_ix (re_var 0) re_int (fun _ _ => rfl)) (ra_cons re_int (ra_cons (re_var 1) ra_nil))) (aCons_len (aCons_len (aCons_len aNil_len)))).re))))).rt (rss_one (rs_retD re_bl)) rss_nil) (rss_cons (rs_asg (is := [2, 3, 4, 5]) (by decide) (re_var 0) (rg_tup (is := [2, 3, 4, 5]) rfl (rgs_cons (rg_name (i := 2) sc_is_lore.nd rfl (.inl rfl)) (rgs_cons (rg_name (i := 3) sc_is_lore.nd rfl (.inl rfl)) (rgs_cons (rg_name (i := 4) sc_is_lore.nd rfl (.inl rfl)) (rgs_cons (rg_name (i := 5) sc_is_lore.nd rfl (.inl rfl)) rgs_nil)))))) (rss_cons (rs_if (rt_not (rt_val (re_callB (cl_all rfl) (by rfl) B.all_ PyProof.Rows.boot_all (ra_cons (rx_lc (own := [("one", 6)]) (is := [6]) rfl sc_is_lore.nd (ri_seq (re_var 2)) (blkOk_by (by kernel_rfl)) (by decide) (fun _ _ _ _ _ => (rg_name (i := 6) sc_is_lore.nd rfl (by first | exact .inl rfl | exact .inr rfl))) (fun _ _ _ _ _ => rts_nil) (fun _ _ _ _ _ => (rx_callC C_is_from hr (by decide) (by rfl) (ra_cons (re_var 6) (ra_cons re_int (ra_cons (re_bop op_subD (re_var 1) re_int) ra_nil))) (aCons_len (aCons_len (aCons_len aNil_len)))).re)).re ra_nil)))) (rss_one (rs_retD re_bl)) rss_nil) (rss_cons (rs_if (rt_not (rt_val (re_callB (cl_all rfl) (by rfl) B.all_ PyProof.Rows.boot_all (ra_cons (rx_lc (own := [("one", 6), ("other", 7)]) (is := [6, 7]) rfl sc_is_lore.nd (ri_zip (by rfl) B.zip_ (ra_cons (re_var 2) (ra_cons (re_sl (re_var 2) (ro_some re_int) ro_none) ra_nil))) (blkOk_by (by kernel_rfl)) (by decide) (fun _ _ _ _ _ => (rg_tup (is := [6, 7]) rfl (rgs_cons (rg_name (i := 6) sc_is_lore.nd rfl (by first | exact .inl rfl | exact .inr rfl)) (rgs_cons (rg_name (i := 7) sc_is_lore.nd rfl (by first | exact .inl rfl | exact .inr rfl)) rgs_nil)))) (fun _ _ _ _ _ => rts_nil) (fun _ _ _ _ _ => (re_cmp cm_lt (re_var 6) (re_var 7) (nomark _)))).re ra_nil)))) (rss_one (rs_retD re_bl)) rss_nil) (rss_one (rs_retD (re_and (rx_callC C_is_from hr (by decide) (by rfl) (ra_cons (re_var 4) (ra_cons re_int (ra_cons (re_globE (by rfl) B.c_MOST_CAP) ra_nil))) (aCons_len (aCons_len (aCons_len aNil_len)))).re (re_and (rx_callC C_is_from hr (by decide) (by rfl) (ra_cons (re_var 3) (ra_cons re_int (ra_cons (re_var 4) ra_nil))) (aCons_len (aCons_len (aCons_len aNil_len)))).re (re_one (rx_callC C_is_from hr (by decide) (by rfl) (ra_cons (re_var 5) (ra_cons re_int (ra_cons (re_var 4) ra_nil))) (aCons_len (aCons_len (aCons_len aNil_len)))).re)))))))))
abbrev s_is_hall : Stmt := topS 21
theorem sc_is_hall : FnScope ["thing", "at", "one"] ["thing"] (defScope s_is_hall) := ⟨rfl, rfl, rfl, by decide +kernel, rfl, by decide +kernel, by decide +kernel⟩
def m_is_hall (n : Nat) : M Out := sCons (sIf (orT (notT (tst (bnd (dcall (den_is_tuple n) (aCons (gv 0) (aCons (cst (.int 2)) (aCons (cst (.int 2)) (aNil))))) frz))) (orT (notT (tst (bnd (dcall (den_is_from n) (aCons (bop ixD (gv 0) (cst (.int 0))) (aCons (cst (.int 2)) (aCons (cst (.int 4)) (aNil))))) frz))) (notT (tst (bnd (dcall (den_is_tuple n) (aCons (bop ixD (gv 0) (cst (.int 1))) (aCons (cst (.int 1)) (aCons (cst (.int 3)) (aNil))))) frz))))) (sRetD (cst (.bool false))) (sNil)) (sRetD (app allD (aCons (bnd (lcM [1, 2] (bnd (aCons (bop ixD (gv 0) (cst (.int 1))) (aNil)) asEnum) (stepC [1, 2] (asgT [1, 2]) (ret true) (bnd (dcall (den_is_lore n) (aCons (gv 2) (aCons (gv 1) (aNil)))) frz))) frz) (aNil))))
def den_is_hall (n : Nat) : Den0 := run0 3 (m_is_hall n)
theorem ok_is_hall {P : Program} {w : World} {K : PySem.W.Frag} {mg : Str → Option Value} {base : Heap} {n : Nat} (B : BF mg) (D : DF K mg "is_hall" s_is_hall ["thing"]) (C_is_from : CF P w K mg base 1 "is_from" ["thing", "low", "high"] (sp0 P w K 3 (den_is_from n))) (C_is_tuple : CF P w K mg base 1 "is_tuple" ["thing", "least", "most"] (sp0 P w K 3 (den_is_tuple n))) (C_is_lore : CF P w K mg base 2 "is_lore" ["thing", "at"] (sp0 P w K 2 (den_is_lore n))) : CF P w K mg base 3 "is_hall" ["thing"] (sp0 P w K 1 (den_is_hall n)) := by
  refine cf0 D sc_is_hall fun f cdv A outer s H E hr => ?_
  unfold m_is_hall
  exact (rss_cons (rs_if ((rw_or (rt_not (rt_val (rx_callC C_is_tuple hr (by decide) (by rfl) (ra_cons (re_var 0) (ra_cons re_int (ra_cons re_int ra_nil))) (aCons_len (aCons_len (aCons_len aNil_len)))).re)) (rw_or (rt_not (rt_val (rx_callC C_is_from hr (by decide) (by rfl) (ra_cons (re_ix (re_var 0) re_int (fun _ _ => rfl)) (ra_cons re_int (ra_cons (re_globE (by rfl) B.c_MOST_FOLK) ra_nil))) (aCons_len (aCons_len (aCons_len aNil_len)))).re)) (rw_or1 (rt_not (rt_val (rx_callC C_is_tuple hr (by decide) (by rfl) (ra_cons (re_ix (re_var 0) re_int (fun _ _ => rfl)) (ra_cons re_int (ra_cons (re_globE (by rfl) B.c_MOST_THINGS) ra_nil))) (aCons_len (aCons_len (aCons_len aNil_len)))).re)))))).rt (rss_one (rs_retD re_bl)) rss_nil) (rss_one (rs_retD (re_callB (cl_all rfl) (by rfl) B.all_ PyProof.Rows.boot_all (ra_cons (rx_lc (own := [("at", 1), ("one", 2)]) (is := [1, 2]) rfl sc_is_hall.nd (ri_enum (by rfl) B.enumerate_ (ra_cons (re_ix (re_var 0) re_int (fun _ _ => rfl)) ra_nil)) (blkOk_by (by kernel_rfl)) (by decide) (fun _ _ _ _ _ => (rg_tup (is := [1, 2]) rfl (rgs_cons (rg_name (i := 1) sc_is_hall.nd rfl (by first | exact .inl rfl | exact .inr rfl)) (rgs_cons (rg_name (i := 2) sc_is_hall.nd rfl (by first | exact .inl rfl | exact .inr rfl)) rgs_nil)))) (fun _ _ _ _ _ => rts_nil) (fun _ _ _ _ _ => (rx_callC C_is_lore hr (by decide) (by rfl) (ra_cons (re_var 2) (ra_cons (re_var 1) ra_nil)) (aCons_len (aCons_len aNil_len))).re)).re ra_nil)))))
abbrev s_need_hall : Stmt := topS 22
theorem sc_need_hall : FnScope ["hall"] ["hall"] (defScope s_need_hall) := ⟨rfl, rfl, rfl, by decide +kernel, rfl, by decide +kernel, by decide +kernel⟩
def m_need_hall (n : Nat) : M Out := sIf (notT (tst (bnd (dcall (den_is_hall n) (aCons (gv 0) (aNil))) frz))) (fun _ => none) (sNil)
def den_need_hall (n : Nat) : Den0 := run0 1 (m_need_hall n)
theorem ok_need_hall {P : Program} {w : World} {K : PySem.W.Frag} {mg : Str → Option Value} {base : Heap} {n : Nat} (B : BF mg) (D : DF K mg "need_hall" s_need_hall ["hall"]) (C_is_hall : CF P w K mg base 3 "is_hall" ["thing"] (sp0 P w K 1 (den_is_hall n))) : CF P w K mg base 4 "need_hall" ["hall"] (sp0 P w K 1 (den_need_hall n)) := by
  refine cf0 D sc_need_hall fun f cdv A outer s H E hr => ?_
  unfold m_need_hall
  exact (rss_one (rs_if (rt_not (rt_val (rx_callC C_is_hall hr (by decide) (by rfl) (ra_cons (re_var 0) ra_nil) (aCons_len aNil_len)).re)) (rss_one rs_never) rss_nil))
abbrev s_is_standing : Stmt := topS 23
theorem sc_is_standing : FnScope ["hall", "thing", "folk", "things", "levels", "level", "one"] ["hall", "thing"] (defScope s_is_standing) := ⟨rfl, rfl, rfl, by decide +kernel, rfl, by decide +kernel, by decide +kernel⟩
def m_is_standing (n : Nat) : M Out := sCons (sAsg (gv 0) (asgT [2, 3])) (sCons (sIf (notT (tst (bnd (dcall (den_is_tuple n) (aCons (gv 1) (aCons (gv 2) (aCons (gv 2) (aNil))))) frz))) (sRetD (cst (.bool false))) (sNil)) (sCons (sFor (bnd (gv 1) asSeq) (asgN 4) (sCons (sIf (notT (tst (bnd (dcall (den_is_tuple n) (aCons (gv 4) (aCons (app lenD (aCons (gv 3) (aNil))) (aCons (app lenD (aCons (gv 3) (aNil))) (aNil))))) frz))) (sRetD (cst (.bool false))) (sNil)) (sIf (notT (tst (app allD (aCons (bnd (lcM [5, 6] (bnd (aCons (gv 4) (aCons (gv 3) (aNil))) asZip) (stepC [5, 6] (asgT [5, 6]) (ret true) (bnd (dcall (den_is_from n) (aCons (gv 5) (aCons (cst (.int 0)) (aCons (bop ixD (gv 6) (cst (.int 2))) (aNil))))) frz))) frz) (aNil))))) (sRetD (cst (.bool false))) (sNil)))) (sRetD (cst (.bool true)))))
def den_is_standing (n : Nat) : Den0 := run0 7 (m_is_standing n)
theorem ok_is_standing {P : Program} {w : World} {K : PySem.W.Frag} {mg : Str → Option Value} {base : Heap} {n : Nat} (B : BF mg) (D : DF K mg "is_standing" s_is_standing ["hall", "thing"]) (C_is_from : CF P w K mg base 1 "is_from" ["thing", "low", "high"] (sp0 P w K 3 (den_is_from n))) (C_is_tuple : CF P w K mg base 1 "is_tuple" ["thing", "least", "most"] (sp0 P w K 3 (den_is_tuple n))) : CF P w K mg base 2 "is_standing" ["hall", "thing"] (sp0 P w K 2 (den_is_standing n)) := by
  refine cf0 D sc_is_standing fun f cdv A outer s H E hr => ?_
  unfold m_is_standing
  exact (rss_cons (rs_asg (is := [2, 3]) (by decide) (re_var 0) (rg_tup (is := [2, 3]) rfl (rgs_cons (rg_name (i := 2) sc_is_standing.nd rfl (.inl rfl)) (rgs_cons (rg_name (i := 3) sc_is_standing.nd rfl (.inl rfl)) rgs_nil)))) (rss_cons (rs_if (rt_not (rt_val (rx_callC C_is_tuple hr (by decide) (by rfl) (ra_cons (re_var 1) (ra_cons (re_var 2) (ra_cons (re_var 2) ra_nil))) (aCons_len (aCons_len (aCons_len aNil_len)))).re)) (rss_one (rs_retD re_bl)) rss_nil) (rss_cons (rs_for (is := [4]) (by decide) PassesOwn.never rfl (ri_seq (re_var 1)) (rg_name (i := 4) sc_is_standing.nd rfl (.inl rfl)) (rss_cons (rs_if (rt_not (rt_val (rx_callC C_is_tuple hr (by decide) (by rfl) (ra_cons (re_var 4) (ra_cons (re_callB cl_len (by rfl) B.len_ PySem.boot_len (ra_cons (re_var 3) ra_nil)) (ra_cons (re_callB cl_len (by rfl) B.len_ PySem.boot_len (ra_cons (re_var 3) ra_nil)) ra_nil))) (aCons_len (aCons_len (aCons_len aNil_len)))).re)) (rss_one (rs_retD re_bl)) rss_nil) (rss_one (rs_if (rt_not (rt_val (re_callB (cl_all rfl) (by rfl) B.all_ PyProof.Rows.boot_all (ra_cons (rx_lc (own := [("level", 5), ("one", 6)]) (is := [5, 6]) rfl sc_is_standing.nd (ri_zip (by rfl) B.zip_ (ra_cons (re_var 4) (ra_cons (re_var 3) ra_nil))) (blkOk_by (by kernel_rfl)) (by decide) (fun _ _ _ _ _ => (rg_tup (is := [5, 6]) rfl (rgs_cons (rg_name (i := 5) sc_is_standing.nd rfl (by first | exact .inl rfl | exact .inr rfl)) (rgs_cons (rg_name (i := 6) sc_is_standing.nd rfl (by first | exact .inl rfl | exact .inr rfl)) rgs_nil)))) (fun _ _ _ _ _ => rts_nil) (fun _ _ _ _ _ => (rx_callC C_is_from hr (by decide) (by rfl) (ra_cons (re_var 5) (ra_cons re_int (ra_cons (re_ix (re_var 6) re_int (fun _ _ => rfl)) ra_nil))) (aCons_len (aCons_len (aCons_len aNil_len)))).re)).re ra_nil)))) (rss_one (rs_retD re_bl)) rss_nil)))) (rss_one (rs_retD re_bl)))))
abbrev s_is_meeting : Stmt := topS 24
theorem sc_is_meeting : FnScope ["hall", "thing"] ["hall", "thing"] (defScope s_is_meeting) := ⟨rfl, rfl, rfl, by decide +kernel, rfl, by decide +kernel, by decide +kernel⟩
def m_is_meeting (n : Nat) : M Out := sCons (sIf (orT (notT (tst (bnd (dcall (den_is_tuple n) (aCons (gv 1) (aCons (cst (.int 3)) (aCons (cst (.int 3)) (aNil))))) frz))) (notT (tst (bnd (dcall (den_is_from n) (aCons (bop ixD (gv 1) (cst (.int 2))) (aCons (cst (.int 0)) (aCons (bop subD (app lenD (aCons (bop ixD (gv 0) (cst (.int 1))) (aNil))) (cst (.int 1))) (aNil))))) frz)))) (sRetD (cst (.bool false))) (sNil)) (sRetD (andV (bnd (dcall (den_is_from n) (aCons (bop ixD (gv 1) (cst (.int 0))) (aCons (cst (.int 0)) (aCons (bop subD (bop ixD (gv 0) (cst (.int 0))) (cst (.int 1))) (aNil))))) frz) (andV (bnd (dcall (den_is_from n) (aCons (bop ixD (gv 1) (cst (.int 1))) (aCons (cst (.int 0)) (aCons (bop subD (bop ixD (gv 0) (cst (.int 0))) (cst (.int 1))) (aNil))))) frz) (cmp neD (bop ixD (gv 1) (cst (.int 0))) (bop ixD (gv 1) (cst (.int 1)))))))
def den_is_meeting (n : Nat) : Den0 := run0 2 (m_is_meeting n)
theorem ok_is_meeting {P : Program} {w : World} {K : PySem.W.Frag} {mg : Str → Option Value} {base : Heap} {n : Nat} (B : BF mg) (D : DF K mg "is_meeting" s_is_meeting ["hall", "thing"]) (C_is_from : CF P w K mg base 1 "is_from" ["thing", "low", "high"] (sp0 P w K 3 (den_is_from n))) (C_is_tuple : CF P w K mg base 1 "is_tuple" ["thing", "least", "most"] (sp0 P w K 3 (den_is_tuple n))) : CF P w K mg base 2 "is_meeting" ["hall", "thing"] (sp0 P w K 2 (den_is_meeting n)) := by
  refine cf0 D sc_is_meeting fun f cdv A outer s H E hr => ?_
  unfold m_is_meeting
  exact (rss_cons (rs_if ((rw_or (rt_not (rt_val (rx_callC C_is_tuple hr (by decide) (by rfl) (ra_cons (re_var 1) (ra_cons re_int (ra_cons re_int ra_nil))) (aCons_len (aCons_len (aCons_len aNil_len)))).re)) (rw_or1 (rt_not (rt_val (rx_callC C_is_from hr (by decide) (by rfl) (ra_cons (re_ix (re_var 1) re_int (fun _ _ => rfl)) (ra_cons re_int (ra_cons (re_bop op_subD (re_callB cl_len (by rfl) B.len_ PySem.boot_len (ra_cons (re_ix (re_var 0) re_int (fun _ _ => rfl)) ra_nil)) re_int) ra_nil))) (aCons_len (aCons_len (aCons_len aNil_len)))).re))))).rt (rss_one (rs_retD re_bl)) rss_nil) (rss_one (rs_retD (re_and (rx_callC C_is_from hr (by decide) (by rfl) (ra_cons (re_ix (re_var 1) re_int (fun _ _ => rfl)) (ra_cons re_int (ra_cons (re_bop op_subD (re_ix (re_var 0) re_int (fun _ _ => rfl)) re_int) ra_nil))) (aCons_len (aCons_len (aCons_len aNil_len)))).re (re_and (rx_callC C_is_from hr (by decide) (by rfl) (ra_cons (re_ix (re_var 1) re_int (fun _ _ => rfl)) (ra_cons re_int (ra_cons (re_bop op_subD (re_ix (re_var 0) re_int (fun _ _ => rfl)) re_int) ra_nil))) (aCons_len (aCons_len (aCons_len aNil_len)))).re (re_one (re_cmp (cm_ne hr) (re_ix (re_var 1) re_int (fun _ _ => rfl)) (re_ix (re_var 1) re_int (fun _ _ => rfl)) (nomark _))))))))
abbrev s_is_beating : Stmt := topS 25
theorem sc_is_beating : FnScope ["hall", "thing", "one"] ["hall", "thing"] (defScope s_is_beating) := ⟨rfl, rfl, rfl, by decide +kernel, rfl, by decide +kernel, by decide +kernel⟩
def m_is_beating (n : Nat) : M Out := sRetD (andV (bnd (dcall (den_is_tuple n) (aCons (gv 1) (aCons (cst (.int 0)) (aCons (cst (.int 4)) (aNil))))) frz) (app allD (aCons (bnd (lcM [2] (bnd (gv 1) asSeq) (stepC [2] (asgN 2) (ret true) (bnd (dcall (den_is_meeting n) (aCons (gv 0) (aCons (gv 2) (aNil)))) frz))) frz) (aNil))))
def den_is_beating (n : Nat) : Den0 := run0 3 (m_is_beating n)
theorem ok_is_beating {P : Program} {w : World} {K : PySem.W.Frag} {mg : Str → Option Value} {base : Heap} {n : Nat} (B : BF mg) (D : DF K mg "is_beating" s_is_beating ["hall", "thing"]) (C_is_tuple : CF P w K mg base 1 "is_tuple" ["thing", "least", "most"] (sp0 P w K 3 (den_is_tuple n))) (C_is_meeting : CF P w K mg base 2 "is_meeting" ["hall", "thing"] (sp0 P w K 2 (den_is_meeting n))) : CF P w K mg base 3 "is_beating" ["hall", "thing"] (sp0 P w K 2 (den_is_beating n)) := by
  refine cf0 D sc_is_beating fun f cdv A outer s H E hr => ?_
  unfold m_is_beating
  exact (rss_one (rs_retD (re_and (rx_callC C_is_tuple hr (by decide) (by rfl) (ra_cons (re_var 1) (ra_cons re_int (ra_cons (re_globE (by rfl) B.c_MOST_MEETINGS) ra_nil))) (aCons_len (aCons_len (aCons_len aNil_len)))).re (re_one (re_callB (cl_all rfl) (by rfl) B.all_ PyProof.Rows.boot_all (ra_cons (rx_lc (own := [("one", 2)]) (is := [2]) rfl sc_is_beating.nd (ri_seq (re_var 1)) (blkOk_by (by kernel_rfl)) (by decide) (fun _ _ _ _ _ => (rg_name (i := 2) sc_is_beating.nd rfl (by first | exact .inl rfl | exact .inr rfl))) (fun _ _ _ _ _ => rts_nil) (fun _ _ _ _ _ => (rx_callC C_is_meeting hr (by decide) (by rfl) (ra_cons (re_var 0) (ra_cons (re_var 2) ra_nil)) (aCons_len (aCons_len aNil_len))).re)).re ra_nil))))))
abbrev s_is_planned : Stmt := topS 26
theorem sc_is_planned : FnScope ["hall", "thing", "beat"] ["hall", "thing"] (defScope s_is_planned) := ⟨rfl, rfl, rfl, by decide +kernel, rfl, by decide +kernel, by decide +kernel⟩
def m_is_planned (n : Nat) : M Out := sRetD (andV (bnd (dcall (den_is_tuple n) (aCons (gv 1) (aCons (cst (.int 1)) (aCons (cst (.int 4)) (aNil))))) frz) (app allD (aCons (bnd (lcM [2] (bnd (gv 1) asSeq) (stepC [2] (asgN 2) (ret true) (bnd (dcall (den_is_beating n) (aCons (gv 0) (aCons (gv 2) (aNil)))) frz))) frz) (aNil))))
def den_is_planned (n : Nat) : Den0 := run0 3 (m_is_planned n)
theorem ok_is_planned {P : Program} {w : World} {K : PySem.W.Frag} {mg : Str → Option Value} {base : Heap} {n : Nat} (B : BF mg) (D : DF K mg "is_planned" s_is_planned ["hall", "thing"]) (C_is_tuple : CF P w K mg base 1 "is_tuple" ["thing", "least", "most"] (sp0 P w K 3 (den_is_tuple n))) (C_is_beating : CF P w K mg base 3 "is_beating" ["hall", "thing"] (sp0 P w K 2 (den_is_beating n))) : CF P w K mg base 4 "is_planned" ["hall", "thing"] (sp0 P w K 2 (den_is_planned n)) := by
  refine cf0 D sc_is_planned fun f cdv A outer s H E hr => ?_
  unfold m_is_planned
  exact (rss_one (rs_retD (re_and (rx_callC C_is_tuple hr (by decide) (by rfl) (ra_cons (re_var 1) (ra_cons re_int (ra_cons (re_globE (by rfl) B.c_MOST_BEATS) ra_nil))) (aCons_len (aCons_len (aCons_len aNil_len)))).re (re_one (re_callB (cl_all rfl) (by rfl) B.all_ PyProof.Rows.boot_all (ra_cons (rx_lc (own := [("beat", 2)]) (is := [2]) rfl sc_is_planned.nd (ri_seq (re_var 1)) (blkOk_by (by kernel_rfl)) (by decide) (fun _ _ _ _ _ => (rg_name (i := 2) sc_is_planned.nd rfl (by first | exact .inl rfl | exact .inr rfl))) (fun _ _ _ _ _ => rts_nil) (fun _ _ _ _ _ => (rx_callC C_is_beating hr (by decide) (by rfl) (ra_cons (re_var 0) (ra_cons (re_var 2) ra_nil)) (aCons_len (aCons_len aNil_len))).re)).re ra_nil))))))
abbrev s_need_stand : Stmt := topS 27
theorem sc_need_stand : FnScope ["hall", "stand"] ["hall", "stand"] (defScope s_need_stand) := ⟨rfl, rfl, rfl, by decide +kernel, rfl, by decide +kernel, by decide +kernel⟩
def m_need_stand (n : Nat) : M Out := sIf (notT (tst (bnd (dcall (den_is_standing n) (aCons (gv 0) (aCons (gv 1) (aNil)))) frz))) (fun _ => none) (sNil)
def den_need_stand (n : Nat) : Den0 := run0 2 (m_need_stand n)
theorem ok_need_stand {P : Program} {w : World} {K : PySem.W.Frag} {mg : Str → Option Value} {base : Heap} {n : Nat} (B : BF mg) (D : DF K mg "need_stand" s_need_stand ["hall", "stand"]) (C_is_standing : CF P w K mg base 2 "is_standing" ["hall", "thing"] (sp0 P w K 2 (den_is_standing n))) : CF P w K mg base 3 "need_stand" ["hall", "stand"] (sp0 P w K 2 (den_need_stand n)) := by
  refine cf0 D sc_need_stand fun f cdv A outer s H E hr => ?_
  unfold m_need_stand
  exact (rss_one (rs_if (rt_not (rt_val (rx_callC C_is_standing hr (by decide) (by rfl) (ra_cons (re_var 0) (ra_cons (re_var 1) ra_nil)) (aCons_len (aCons_len aNil_len))).re)) (rss_one rs_never) rss_nil))
abbrev s_need_beat : Stmt := topS 28
theorem sc_need_beat : FnScope ["hall", "beat"] ["hall", "beat"] (defScope s_need_beat) := ⟨rfl, rfl, rfl, by decide +kernel, rfl, by decide +kernel, by decide +kernel⟩
def m_need_beat (n : Nat) : M Out := sIf (notT (tst (bnd (dcall (den_is_beating n) (aCons (gv 0) (aCons (gv 1) (aNil)))) frz))) (fun _ => none) (sNil)
def den_need_beat (n : Nat) : Den0 := run0 2 (m_need_beat n)
theorem ok_need_beat {P : Program} {w : World} {K : PySem.W.Frag} {mg : Str → Option Value} {base : Heap} {n : Nat} (B : BF mg) (D : DF K mg "need_beat" s_need_beat ["hall", "beat"]) (C_is_beating : CF P w K mg base 3 "is_beating" ["hall", "thing"] (sp0 P w K 2 (den_is_beating n))) : CF P w K mg base 4 "need_beat" ["hall", "beat"] (sp0 P w K 2 (den_need_beat n)) := by
  refine cf0 D sc_need_beat fun f cdv A outer s H E hr => ?_
  unfold m_need_beat
  exact (rss_one (rs_if (rt_not (rt_val (rx_callC C_is_beating hr (by decide) (by rfl) (ra_cons (re_var 0) (ra_cons (re_var 1) ra_nil)) (aCons_len (aCons_len aNil_len))).re)) (rss_one rs_never) rss_nil))
abbrev s_need_plan : Stmt := topS 29
theorem sc_need_plan : FnScope ["hall", "plan"] ["hall", "plan"] (defScope s_need_plan) := ⟨rfl, rfl, rfl, by decide +kernel, rfl, by decide +kernel, by decide +kernel⟩
def m_need_plan (n : Nat) : M Out := sIf (notT (tst (bnd (dcall (den_is_planned n) (aCons (gv 0) (aCons (gv 1) (aNil)))) frz))) (fun _ => none) (sNil)
def den_need_plan (n : Nat) : Den0 := run0 2 (m_need_plan n)
theorem ok_need_plan {P : Program} {w : World} {K : PySem.W.Frag} {mg : Str → Option Value} {base : Heap} {n : Nat} (B : BF mg) (D : DF K mg "need_plan" s_need_plan ["hall", "plan"]) (C_is_planned : CF P w K mg base 4 "is_planned" ["hall", "thing"] (sp0 P w K 2 (den_is_planned n))) : CF P w K mg base 5 "need_plan" ["hall", "plan"] (sp0 P w K 2 (den_need_plan n)) := by
  refine cf0 D sc_need_plan fun f cdv A outer s H E hr => ?_
  unfold m_need_plan
  exact (rss_one (rs_if (rt_not (rt_val (rx_callC C_is_planned hr (by decide) (by rfl) (ra_cons (re_var 0) (ra_cons (re_var 1) ra_nil)) (aCons_len (aCons_len aNil_len))).re)) (rss_one rs_never) rss_nil))
abbrev s_need_thing : Stmt := topS 30
theorem sc_need_thing : FnScope ["hall", "thing"] ["hall", "thing"] (defScope s_need_thing) := ⟨rfl, rfl, rfl, by decide +kernel, rfl, by decide +kernel, by decide +kernel⟩
def m_need_thing (n : Nat) : M Out := sIf (notT (tst (bnd (dcall (den_is_from n) (aCons (gv 1) (aCons (cst (.int 0)) (aCons (bop subD (app lenD (aCons (bop ixD (gv 0) (cst (.int 1))) (aNil))) (cst (.int 1))) (aNil))))) frz))) (fun _ => none) (sNil)
def den_need_thing (n : Nat) : Den0 := run0 2 (m_need_thing n)
theorem ok_need_thing {P : Program} {w : World} {K : PySem.W.Frag} {mg : Str → Option Value} {base : Heap} {n : Nat} (B : BF mg) (D : DF K mg "need_thing" s_need_thing ["hall", "thing"]) (C_is_from : CF P w K mg base 1 "is_from" ["thing", "low", "high"] (sp0 P w K 3 (den_is_from n))) : CF P w K mg base 2 "need_thing" ["hall", "thing"] (sp0 P w K 2 (den_need_thing n)) := by
  refine cf0 D sc_need_thing fun f cdv A outer s H E hr => ?_
  unfold m_need_thing
  exact (rss_one (rs_if (rt_not (rt_val (rx_callC C_is_from hr (by decide) (by rfl) (ra_cons (re_var 1) (ra_cons re_int (ra_cons (re_bop op_subD (re_callB cl_len (by rfl) B.len_ PySem.boot_len (ra_cons (re_ix (re_var 0) re_int (fun _ _ => rfl)) ra_nil)) re_int) ra_nil))) (aCons_len (aCons_len (aCons_len aNil_len)))).re)) (rss_one rs_never) rss_nil))
abbrev s_need_count : Stmt := topS 31
theorem sc_need_count : FnScope ["beats"] ["beats"] (defScope s_need_count) := ⟨rfl, rfl, rfl, by decide +kernel, rfl, by decide +kernel, by decide +kernel⟩
def m_need_count (n : Nat) : M Out := sIf (notT (tst (bnd (dcall (den_is_from n) (aCons (gv 0) (aCons (cst (.int 0)) (aCons (cst (.int 1000000000000000000)) (aNil))))) frz))) (fun _ => none) (sNil)
def den_need_count (n : Nat) : Den0 := run0 1 (m_need_count n)
theorem ok_need_count {P : Program} {w : World} {K : PySem.W.Frag} {mg : Str → Option Value} {base : Heap} {n : Nat} (B : BF mg) (D : DF K mg "need_count" s_need_count ["beats"]) (C_is_from : CF P w K mg base 1 "is_from" ["thing", "low", "high"] (sp0 P w K 3 (den_is_from n))) : CF P w K mg base 2 "need_count" ["beats"] (sp0 P w K 1 (den_need_count n)) := by
  refine cf0 D sc_need_count fun f cdv A outer s H E hr => ?_
  unfold m_need_count
  exact (rss_one (rs_if (rt_not (rt_val (rx_callC C_is_from hr (by decide) (by rfl) (ra_cons (re_var 0) (ra_cons re_int (ra_cons (re_globE (by rfl) B.c_FAR) ra_nil))) (aCons_len (aCons_len (aCons_len aNil_len)))).re)) (rss_one rs_never) rss_nil))
abbrev s_need_meeting : Stmt := topS 32
theorem sc_need_meeting : FnScope ["hall", "meeting"] ["hall", "meeting"] (defScope s_need_meeting) := ⟨rfl, rfl, rfl, by decide +kernel, rfl, by decide +kernel, by decide +kernel⟩
def m_need_meeting (n : Nat) : M Out := sIf (notT (tst (bnd (dcall (den_is_meeting n) (aCons (gv 0) (aCons (gv 1) (aNil)))) frz))) (fun _ => none) (sNil)
def den_need_meeting (n : Nat) : Den0 := run0 2 (m_need_meeting n)
theorem ok_need_meeting {P : Program} {w : World} {K : PySem.W.Frag} {mg : Str → Option Value} {base : Heap} {n : Nat} (B : BF mg) (D : DF K mg "need_meeting" s_need_meeting ["hall", "meeting"]) (C_is_meeting : CF P w K mg base 2 "is_meeting" ["hall", "thing"] (sp0 P w K 2 (den_is_meeting n))) : CF P w K mg base 3 "need_meeting" ["hall", "meeting"] (sp0 P w K 2 (den_need_meeting n)) := by
  refine cf0 D sc_need_meeting fun f cdv A outer s H E hr => ?_
  unfold m_need_meeting
  exact (rss_one (rs_if (rt_not (rt_val (rx_callC C_is_meeting hr (by decide) (by rfl) (ra_cons (re_var 0) (ra_cons (re_var 1) ra_nil)) (aCons_len (aCons_len aNil_len))).re)) (rss_one rs_never) rss_nil))
abbrev s_law_deck : Stmt := topS 78
theorem sc_law_deck : FnScope ["cell", "turn"] ["cell", "turn"] (defScope s_law_deck) := ⟨rfl, rfl, rfl, by decide +kernel, rfl, by decide +kernel, by decide +kernel⟩
def m_law_deck (n : Nat) : M Out := sCons (sIf (cmpT geD (gv 0) (bop powD (cst (.int 10)) (cst (.int 18)))) (sRet (mkL (aCons (bop subD (gv 0) (bop powD (cst (.int 10)) (cst (.int 18)))) (aCons (bop modD (gv 0) (cst (.int 2147483579))) (aCons (gv 1) (aNil)))))) (sNil)) (sRet (mkL (aCons (cst (.int 0)) (aCons (bop modD (gv 0) (cst (.int 2147483579))) (aCons (gv 1) (aNil))))))
def den_law_deck (n : Nat) : Den0 := run0 2 (m_law_deck n)
theorem ok_law_deck {P : Program} {w : World} {K : PySem.W.Frag} {mg : Str → Option Value} {base : Heap} {n : Nat} (B : BF mg) (D : DF K mg "_law_deck" s_law_deck ["cell", "turn"]) : CF P w K mg base 1 "_law_deck" ["cell", "turn"] (sp0 P w K 2 (den_law_deck n)) := by
  refine cf0 D sc_law_deck fun f cdv A outer s H E hr => ?_
  unfold m_law_deck
  exact (rss_cons (rs_if (rt_cmp cm_ge (re_var 0) (re_bop op_powD re_int re_int) (nomark _)) (rss_one (rs_ret (rx_lst (ra_cons (re_bop op_subD (re_var 0) (re_bop op_powD re_int re_int)) (ra_cons (re_bop op_modD (re_var 0) re_int) (ra_cons (re_var 1) ra_nil)))))) rss_nil) (rss_one (rs_ret (rx_lst (ra_cons re_int (ra_cons (re_bop op_modD (re_var 0) re_int) (ra_cons (re_var 1) ra_nil)))))))
abbrev s_law_pick : Stmt := topS 79
theorem sc_law_pick : FnScope ["deck", "size", "found", "number"] ["deck", "size"] (defScope s_law_pick) := ⟨rfl, rfl, rfl, by decide +kernel, rfl, by decide +kernel, by decide +kernel⟩
def m_law_pick (n : Nat) : M Out := sCons (sIf (cmpT gtD (ixV 0 (cst (.int 0))) (cst (.int 1))) (sCons (sSet 2 (bop modD (ixV 0 (cst (.int 0))) (gv 1))) (sCons (sSetI 0 (bop fdivD (ixV 0 (cst (.int 0))) (gv 1)) (cst (.int 0))) (sRetD (gv 2)))) (sNil)) (sCons (sSetI 0 (bop addD (ixV 0 (cst (.int 2))) (cst (.int 1))) (cst (.int 2))) (sCons (sSet 3 (bop modD (bop powD (bop addD (ixV 0 (cst (.int 1))) (bop mulD (cst (.int 15485867)) (ixV 0 (cst (.int 2))))) (cst (.int 5))) (cst (.int 2147483647)))) (sCons (sSet 2 (bop fdivD (bop modD (bop powD (bop addD (gv 3) (bop mulD (cst (.int 7919)) (ixV 0 (cst (.int 2))))) (cst (.int 3))) (cst (.int 2147483629))) (cst (.int 32)))) (sRetD (bop modD (gv 2) (gv 1))))))
def den_law_pick (n : Nat) : Den1 := run1 4 0 (m_law_pick n)
theorem ok_law_pick {P : Program} {w : World} {K : PySem.W.Frag} {mg : Str → Option Value} {base : Heap} {n : Nat} (B : BF mg) (D : DF K mg "_law_pick" s_law_pick ["deck", "size"]) : CF P w K mg base 1 "_law_pick" ["deck", "size"] (sp1 P w K 2 0 (den_law_pick n)) := by
  refine cf1 D sc_law_pick (by decide) (by decide) fun f cdv A outer s H E hr => ?_
  unfold m_law_pick
  exact (rss_cons (rs_if (rt_cmp cm_gt (re_ixV 0 re_int (fun _ _ => rfl)) re_int (nomark _)) (rss_cons (rs_set (i := 2) (by decide) sc_law_pick.nd rfl (.inl rfl) (re_bop op_modD (re_ixV 0 re_int (fun _ _ => rfl)) (re_var 1))) (rss_cons (rs_setI 0 (re_bop op_fdivD (re_ixV 0 re_int (fun _ _ => rfl)) (re_var 1)) re_int) (rss_one (rs_retD (re_var 2))))) rss_nil) (rss_cons (rs_setI 0 (re_bop op_addD (re_ixV 0 re_int (fun _ _ => rfl)) re_int) re_int) (rss_cons (rs_set (i := 3) (by decide) sc_law_pick.nd rfl (.inl rfl) (re_bop op_modD (re_bop op_powD (re_bop op_addD (re_ixV 0 re_int (fun _ _ => rfl)) (re_bop op_mulD re_int (re_ixV 0 re_int (fun _ _ => rfl)))) re_int) re_int)) (rss_cons (rs_set (i := 2) (by decide) sc_law_pick.nd rfl (.inl rfl) (re_bop op_fdivD (re_bop op_modD (re_bop op_powD (re_bop op_addD (re_var 3) (re_bop op_mulD re_int (re_ixV 0 re_int (fun _ _ => rfl)))) re_int) re_int) re_int)) (rss_one (rs_retD (re_bop op_modD (re_var 2) (re_var 1))))))))
abbrev s_law_one : Stmt := topS 80
theorem sc_law_one : FnScope ["deck", "some"] ["deck", "some"] (defScope s_law_one) := ⟨rfl, rfl, rfl, by decide +kernel, rfl, by decide +kernel, by decide +kernel⟩
def m_law_one (n : Nat) : M Out := sRetD (bop ixD (gv 1) (bnd (dcallR (den_law_pick n) 0 aNil (aCons (app lenD (aCons (gv 1) (aNil))) (aNil))) frz))
def den_law_one (n : Nat) : Den1 := run1 2 0 (m_law_one n)
theorem ok_law_one {P : Program} {w : World} {K : PySem.W.Frag} {mg : Str → Option Value} {base : Heap} {n : Nat} (B : BF mg) (D : DF K mg "_law_one" s_law_one ["deck", "some"]) (C_law_pick : CF P w K mg base 1 "_law_pick" ["deck", "size"] (sp1 P w K 2 0 (den_law_pick n))) : CF P w K mg base 2 "_law_one" ["deck", "some"] (sp1 P w K 2 0 (den_law_one n)) := by
  refine cf1 D sc_law_one (by decide) (by decide) fun f cdv A outer s H E hr => ?_
  unfold m_law_one
  exact (rss_one (rs_retD (re_ix (re_var 1) (rx_callCR 0 C_law_pick hr (by decide) (by rfl) (ra_cons (re_callB cl_len (by rfl) B.len_ PySem.boot_len (ra_cons (re_var 1) ra_nil)) ra_nil) (aCons_len aNil_len)).re (fun _ _ => rfl))))
abbrev s_law_hall : Stmt := topS 83
theorem sc_law_hall : FnScope ["deck", "shapes", "folk", "caps", "things", "at", "cap", "needs", "loss", "one"] ["deck", "shapes"] (defScope s_law_hall) := ⟨rfl, rfl, rfl, by decide +kernel, rfl, by decide +kernel, by decide +kernel⟩
def m_law_hall (n : Nat) : M Out := sCons (sAsg (bnd (dcallR (den_law_one n) 0 aNil (aCons (gv 1) (aNil))) frz) (asgT [2, 3])) (sCons (sSetX 4 (mkL (aNil))) (sCons (sFor (bnd (aCons (gv 3) (aNil)) asEnum) (asgT [5, 6]) (sCons (sSet 7 (app tupD (aCons (bnd (lcM [9] (bnd (aCons (gv 5) (aNil)) asRng) (stepC [9] (asgN 9) (cmpT eqD (bnd (dcallR (den_law_pick n) 0 aNil (aCons (cst (.int 2)) (aNil))) frz) (cst (.int 0))) (gv 9))) frz) (aNil)))) (sCons (sSet 8 (bnd (dcallR (den_law_one n) 0 aNil (aCons (bnd (mkL (aCons (cst (.int 0)) (aCons (cst (.int 1)) (aCons (cst (.int 1)) (aCons (gv 6) (aNil)))))) frz) (aNil))) frz)) (sApp 4 (mkT (aCons (gv 7) (aCons (bop addD (cst (.int 1)) (bnd (dcallR (den_law_pick n) 0 aNil (aCons (gv 6) (aNil))) frz)) (aCons (gv 6) (aCons (gv 8) (aNil)))))))))) (sRetD (mkT (aCons (gv 2) (aCons (app tupD (aCons (gv 4) (aNil))) (aNil)))))))
def den_law_hall (n : Nat) : Den1 := run1 10 0 (m_law_hall n)
theorem ok_law_hall {P : Program} {w : World} {K : PySem.W.Frag} {mg : Str → Option Value} {base : Heap} {n : Nat} (B : BF mg) (D : DF K mg "_law_hall" s_law_hall ["deck", "shapes"]) (C_law_pick : CF P w K mg base 1 "_law_pick" ["deck", "size"] (sp1 P w K 2 0 (den_law_pick n))) (C_law_one : CF P w K mg base 2 "_law_one" ["deck", "some"] (sp1 P w K 2 0 (den_law_one n))) : CF P w K mg base 3 "_law_hall" ["deck", "shapes"] (sp1 P w K 2 0 (den_law_hall n)) := by
  refine cf1 D sc_law_hall (by decide) (by decide) fun f cdv A outer s H E hr => ?_
  unfold m_law_hall
  exact (rss_cons (rs_asg (is := [2, 3]) (by decide) (rx_callCR 0 C_law_one hr (by decide) (by rfl) (ra_cons (re_var 1) ra_nil) (aCons_len aNil_len)).re (rg_tup (is := [2, 3]) rfl (rgs_cons (rg_name (i := 2) sc_law_hall.nd rfl (.inl rfl)) (rgs_cons (rg_name (i := 3) sc_law_hall.nd rfl (.inl rfl)) rgs_nil)))) (rss_cons (rs_setX (i := 4) (by decide) sc_law_hall.nd rfl (.inl rfl) (rx_lst ra_nil)) (rss_cons (rs_for (is := [5, 6]) (by decide) PassesOwn.never rfl (ri_enum (by rfl) B.enumerate_ (ra_cons (re_var 3) ra_nil)) (rg_tup (is := [5, 6]) rfl (rgs_cons (rg_name (i := 5) sc_law_hall.nd rfl (.inl rfl)) (rgs_cons (rg_name (i := 6) sc_law_hall.nd rfl (.inl rfl)) rgs_nil))) (rss_cons (rs_set (i := 7) (by decide) sc_law_hall.nd rfl (.inl rfl) (re_callTy cl_tup (by rfl) B.tuple_ PyProof.Rows.boot_tuple (ra_cons (rx_lc (own := [("one", 9)]) (is := [9]) rfl sc_law_hall.nd (ri_range1 (by rfl) B.range_ (ra_cons (re_var 5) ra_nil)) (blkOk_by (by kernel_rfl)) (by decide) (fun _ _ _ _ _ => (rg_name (i := 9) sc_law_hall.nd rfl (by first | exact .inl rfl | exact .inr rfl))) (fun _ _ _ _ _ => rts_one (rt_cmp (cm_eq hr) (rx_callCR 0 C_law_pick hr (by decide) (by rfl) (ra_cons re_int ra_nil) (aCons_len aNil_len)).re re_int (nomark _))) (fun _ _ _ _ _ => (re_var 9))).re ra_nil))) (rss_cons (rs_set (i := 8) (by decide) sc_law_hall.nd rfl (.inl rfl) (rx_callCR 0 C_law_one hr (by decide) (by rfl) (ra_cons (rx_lst (ra_cons re_int (ra_cons re_int (ra_cons re_int (ra_cons (re_var 6) ra_nil))))).re ra_nil) (aCons_len aNil_len)).re) (rss_one (rs_app 4 (re_tup (ra_cons (re_var 7) (ra_cons (re_bop op_addD re_int (rx_callCR 0 C_law_pick hr (by decide) (by rfl) (ra_cons (re_var 6) ra_nil) (aCons_len aNil_len)).re) (ra_cons (re_var 6) (ra_cons (re_var 8) ra_nil)))))))))) (rss_one (rs_retD (re_tup (ra_cons (re_var 2) (ra_cons (re_callTy cl_tup (by rfl) B.tuple_ PyProof.Rows.boot_tuple (ra_cons (re_var 4) ra_nil)) ra_nil))))))))
abbrev s_law_small : Stmt := topS 84
theorem sc_law_small : FnScope [] [] (defScope s_law_small) := ⟨rfl, rfl, rfl, by decide +kernel, rfl, by decide +kernel, by decide +kernel⟩
def m_law_small (n : Nat) : M Out := sRetD (bnd (mkL (aCons (mkT (aCons (cst (.int 2)) (aCons (bnd (mkL (aCons (cst (.int 3)) (aCons (cst (.int 1)) (aNil)))) frz) (aNil)))) (aCons (mkT (aCons (cst (.int 2)) (aCons (bnd (mkL (aCons (cst (.int 1)) (aCons (cst (.int 1)) (aCons (cst (.int 1)) (aNil))))) frz) (aNil)))) (aCons (mkT (aCons (cst (.int 3)) (aCons (bnd (mkL (aCons (cst (.int 2)) (aNil))) frz) (aNil)))) (aCons (mkT (aCons (cst (.int 3)) (aCons (bnd (mkL (aCons (cst (.int 1)) (aCons (cst (.int 1)) (aNil)))) frz) (aNil)))) (aCons (mkT (aCons (cst (.int 2)) (aCons (bnd (mkL (aCons (cst (.int 2)) (aCons (cst (.int 2)) (aNil)))) frz) (aNil)))) (aCons (mkT (aCons (cst (.int 4)) (aCons (bnd (mkL (aCons (cst (.int 1)) (aNil))) frz) (aNil)))) (aCons (mkT (aCons (cst (.int 3)) (aCons (bnd (mkL (aCons (cst (.int 3)) (aNil))) frz) (aNil)))) (aCons (mkT (aCons (cst (.int 4)) (aCons (bnd (mkL (aCons (cst (.int 2)) (aNil))) frz) (aNil)))) (aNil)))))))))) frz)
def den_law_small (n : Nat) : Den0 := run0 0 (m_law_small n)
theorem ok_law_small {P : Program} {w : World} {K : PySem.W.Frag} {mg : Str → Option Value} {base : Heap} {n : Nat} (B : BF mg) (D : DF K mg "_law_small" s_law_small []) : CF P w K mg base 1 "_law_small" [] (sp0 P w K 0 (den_law_small n)) := by
  refine cf0 D sc_law_small fun f cdv A outer s H E hr => ?_
  unfold m_law_small
  exact (rss_one (rs_retD (rx_lst (ra_cons (re_tup (ra_cons re_int (ra_cons (rx_lst (ra_cons re_int (ra_cons re_int ra_nil))).re ra_nil))) (ra_cons (re_tup (ra_cons re_int (ra_cons (rx_lst (ra_cons re_int (ra_cons re_int (ra_cons re_int ra_nil)))).re ra_nil))) (ra_cons (re_tup (ra_cons re_int (ra_cons (rx_lst (ra_cons re_int ra_nil)).re ra_nil))) (ra_cons (re_tup (ra_cons re_int (ra_cons (rx_lst (ra_cons re_int (ra_cons re_int ra_nil))).re ra_nil))) (ra_cons (re_tup (ra_cons re_int (ra_cons (rx_lst (ra_cons re_int (ra_cons re_int ra_nil))).re ra_nil))) (ra_cons (re_tup (ra_cons re_int (ra_cons (rx_lst (ra_cons re_int ra_nil)).re ra_nil))) (ra_cons (re_tup (ra_cons re_int (ra_cons (rx_lst (ra_cons re_int ra_nil)).re ra_nil))) (ra_cons (re_tup (ra_cons re_int (ra_cons (rx_lst (ra_cons re_int ra_nil)).re ra_nil))) ra_nil))))))))).re))
abbrev s_law_meeting : Stmt := topS 85
theorem sc_law_meeting : FnScope ["deck", "hall", "one", "other"] ["deck", "hall"] (defScope s_law_meeting) := ⟨rfl, rfl, rfl, by decide +kernel, rfl, by decide +kernel, by decide +kernel⟩
def m_law_meeting (n : Nat) : M Out := sCons (sSet 2 (bnd (dcallR (den_law_pick n) 0 aNil (aCons (bop ixD (gv 1) (cst (.int 0))) (aNil))) frz)) (sCons (sSet 3 (bop modD (bop addD (bop addD (gv 2) (cst (.int 1))) (bnd (dcallR (den_law_pick n) 0 aNil (aCons (bop subD (bop ixD (gv 1) (cst (.int 0))) (cst (.int 1))) (aNil))) frz)) (bop ixD (gv 1) (cst (.int 0))))) (sRetD (mkT (aCons (gv 2) (aCons (gv 3) (aCons (bnd (dcallR (den_law_pick n) 0 aNil (aCons (app lenD (aCons (bop ixD (gv 1) (cst (.int 1))) (aNil))) (aNil))) frz) (aNil)))))))
def den_law_meeting (n : Nat) : Den1 := run1 4 0 (m_law_meeting n)
theorem ok_law_meeting {P : Program} {w : World} {K : PySem.W.Frag} {mg : Str → Option Value} {base : Heap} {n : Nat} (B : BF mg) (D : DF K mg "_law_meeting" s_law_meeting ["deck", "hall"]) (C_law_pick : CF P w K mg base 1 "_law_pick" ["deck", "size"] (sp1 P w K 2 0 (den_law_pick n))) : CF P w K mg base 2 "_law_meeting" ["deck", "hall"] (sp1 P w K 2 0 (den_law_meeting n)) := by
  refine cf1 D sc_law_meeting (by decide) (by decide) fun f cdv A outer s H E hr => ?_
  unfold m_law_meeting
  exact (rss_cons (rs_set (i := 2) (by decide) sc_law_meeting.nd rfl (.inl rfl) (rx_callCR 0 C_law_pick hr (by decide) (by rfl) (ra_cons (re_ix (re_var 1) re_int (fun _ _ => rfl)) ra_nil) (aCons_len aNil_len)).re) (rss_cons (rs_set (i := 3) (by decide) sc_law_meeting.nd rfl (.inl rfl) (re_bop op_modD (re_bop op_addD (re_bop op_addD (re_var 2) re_int) (rx_callCR 0 C_law_pick hr (by decide) (by rfl) (ra_cons (re_bop op_subD (re_ix (re_var 1) re_int (fun _ _ => rfl)) re_int) ra_nil) (aCons_len aNil_len)).re) (re_ix (re_var 1) re_int (fun _ _ => rfl)))) (rss_one (rs_retD (re_tup (ra_cons (re_var 2) (ra_cons (re_var 3) (ra_cons (rx_callCR 0 C_law_pick hr (by decide) (by rfl) (ra_cons (re_callB cl_len (by rfl) B.len_ PySem.boot_len (ra_cons (re_ix (re_var 1) re_int (fun _ _ => rfl)) ra_nil)) ra_nil) (aCons_len aNil_len)).re ra_nil))))))))
abbrev s_law_beat : Stmt := topS 86
theorem sc_law_beat : FnScope ["deck", "hall", "k"] ["deck", "hall"] (defScope s_law_beat) := ⟨rfl, rfl, rfl, by decide +kernel, rfl, by decide +kernel, by decide +kernel⟩
def m_law_beat (n : Nat) : M Out := sRetD (app tupD (aCons (bnd (lcM [2] (bnd (aCons (bnd (dcallR (den_law_pick n) 0 aNil (aCons (cst (.int 5)) (aNil))) frz) (aNil)) asRng) (stepC [2] (asgN 2) (ret true) (bnd (dcallR (den_law_meeting n) 0 aNil (aCons (gv 1) (aNil))) frz))) frz) (aNil)))
def den_law_beat (n : Nat) : Den1 := run1 3 0 (m_law_beat n)
theorem ok_law_beat {P : Program} {w : World} {K : PySem.W.Frag} {mg : Str → Option Value} {base : Heap} {n : Nat} (B : BF mg) (D : DF K mg "_law_beat" s_law_beat ["deck", "hall"]) (C_law_pick : CF P w K mg base 1 "_law_pick" ["deck", "size"] (sp1 P w K 2 0 (den_law_pick n))) (C_law_meeting : CF P w K mg base 2 "_law_meeting" ["deck", "hall"] (sp1 P w K 2 0 (den_law_meeting n))) : CF P w K mg base 3 "_law_beat" ["deck", "hall"] (sp1 P w K 2 0 (den_law_beat n)) := by
  refine cf1 D sc_law_beat (by decide) (by decide) fun f cdv A outer s H E hr => ?_
  unfold m_law_beat
  exact (rss_one (rs_retD (re_callTy cl_tup (by rfl) B.tuple_ PyProof.Rows.boot_tuple (ra_cons (rx_lc (own := [("k", 2)]) (is := [2]) rfl sc_law_beat.nd (ri_range1 (by rfl) B.range_ (ra_cons (rx_callCR 0 C_law_pick hr (by decide) (by rfl) (ra_cons re_int ra_nil) (aCons_len aNil_len)).re ra_nil)) (blkOk_by (by kernel_rfl)) (by decide) (fun _ _ _ _ _ => (rg_name (i := 2) sc_law_beat.nd rfl (by first | exact .inl rfl | exact .inr rfl))) (fun _ _ _ _ _ => rts_nil) (fun _ _ _ _ _ => (rx_callCR 0 C_law_meeting hr (by decide) (by rfl) (ra_cons (re_var 1) ra_nil) (aCons_len aNil_len)).re)).re ra_nil))))
abbrev s_law_plan : Stmt := topS 87
theorem sc_law_plan : FnScope ["deck", "hall", "k"] ["deck", "hall"] (defScope s_law_plan) := ⟨rfl, rfl, rfl, by decide +kernel, rfl, by decide +kernel, by decide +kernel⟩
def m_law_plan (n : Nat) : M Out := sRetD (app tupD (aCons (bnd (lcM [2] (bnd (aCons (bop addD (cst (.int 1)) (bnd (dcallR (den_law_pick n) 0 aNil (aCons (cst (.int 4)) (aNil))) frz)) (aNil)) asRng) (stepC [2] (asgN 2) (ret true) (bnd (dcallR (den_law_beat n) 0 aNil (aCons (gv 1) (aNil))) frz))) frz) (aNil)))
def den_law_plan (n : Nat) : Den1 := run1 3 0 (m_law_plan n)
theorem ok_law_plan {P : Program} {w : World} {K : PySem.W.Frag} {mg : Str → Option Value} {base : Heap} {n : Nat} (B : BF mg) (D : DF K mg "_law_plan" s_law_plan ["deck", "hall"]) (C_law_pick : CF P w K mg base 1 "_law_pick" ["deck", "size"] (sp1 P w K 2 0 (den_law_pick n))) (C_law_beat : CF P w K mg base 3 "_law_beat" ["deck", "hall"] (sp1 P w K 2 0 (den_law_beat n))) : CF P w K mg base 4 "_law_plan" ["deck", "hall"] (sp1 P w K 2 0 (den_law_plan n)) := by
  refine cf1 D sc_law_plan (by decide) (by decide) fun f cdv A outer s H E hr => ?_
  unfold m_law_plan
  exact (rss_one (rs_retD (re_callTy cl_tup (by rfl) B.tuple_ PyProof.Rows.boot_tuple (ra_cons (rx_lc (own := [("k", 2)]) (is := [2]) rfl sc_law_plan.nd (ri_range1 (by rfl) B.range_ (ra_cons (re_bop op_addD re_int (rx_callCR 0 C_law_pick hr (by decide) (by rfl) (ra_cons re_int ra_nil) (aCons_len aNil_len)).re) ra_nil)) (blkOk_by (by kernel_rfl)) (by decide) (fun _ _ _ _ _ => (rg_name (i := 2) sc_law_plan.nd rfl (by first | exact .inl rfl | exact .inr rfl))) (fun _ _ _ _ _ => rts_nil) (fun _ _ _ _ _ => (rx_callCR 0 C_law_beat hr (by decide) (by rfl) (ra_cons (re_var 1) ra_nil) (aCons_len aNil_len)).re)).re ra_nil))))
abbrev s_law_stand : Stmt := topS 88
theorem sc_law_stand : FnScope ["deck", "hall", "rows", "who", "lore"] ["deck", "hall"] (defScope s_law_stand) := ⟨rfl, rfl, rfl, by decide +kernel, rfl, by decide +kernel, by decide +kernel⟩
def m_law_stand (n : Nat) : M Out := sCons (sSetX 2 (mkL (aNil))) (sCons (sFor (bnd (aCons (bop ixD (gv 1) (cst (.int 0))) (aNil)) asRng) (asgN 3) (sApp 2 (app tupD (aCons (bnd (lcM [4] (bnd (bop ixD (gv 1) (cst (.int 1))) asSeq) (stepC [4] (asgN 4) (ret true) (bnd (dcallR (den_law_one n) 0 aNil (aCons (bnd (mkL (aCons (cst (.int 0)) (aCons (bop ixD (gv 4) (cst (.int 2))) (aCons (bnd (dcallR (den_law_pick n) 0 aNil (aCons (bop addD (bop ixD (gv 4) (cst (.int 2))) (cst (.int 1))) (aNil))) frz) (aNil))))) frz) (aNil))) frz))) frz) (aNil))))) (sRetD (app tupD (aCons (gv 2) (aNil)))))
def den_law_stand (n : Nat) : Den1 := run1 5 0 (m_law_stand n)
theorem ok_law_stand {P : Program} {w : World} {K : PySem.W.Frag} {mg : Str → Option Value} {base : Heap} {n : Nat} (B : BF mg) (D : DF K mg "_law_stand" s_law_stand ["deck", "hall"]) (C_law_pick : CF P w K mg base 1 "_law_pick" ["deck", "size"] (sp1 P w K 2 0 (den_law_pick n))) (C_law_one : CF P w K mg base 2 "_law_one" ["deck", "some"] (sp1 P w K 2 0 (den_law_one n))) : CF P w K mg base 3 "_law_stand" ["deck", "hall"] (sp1 P w K 2 0 (den_law_stand n)) := by
  refine cf1 D sc_law_stand (by decide) (by decide) fun f cdv A outer s H E hr => ?_
  unfold m_law_stand
  exact (rss_cons (rs_setX (i := 2) (by decide) sc_law_stand.nd rfl (.inl rfl) (rx_lst ra_nil)) (rss_cons (rs_for (is := [3]) (by decide) PassesOwn.never rfl (ri_range1 (by rfl) B.range_ (ra_cons (re_ix (re_var 1) re_int (fun _ _ => rfl)) ra_nil)) (rg_name (i := 3) sc_law_stand.nd rfl (.inl rfl)) (rss_one (rs_app 2 (re_callTy cl_tup (by rfl) B.tuple_ PyProof.Rows.boot_tuple (ra_cons (rx_lc (own := [("lore", 4)]) (is := [4]) rfl sc_law_stand.nd (ri_seq (re_ix (re_var 1) re_int (fun _ _ => rfl))) (blkOk_by (by kernel_rfl)) (by decide) (fun _ _ _ _ _ => (rg_name (i := 4) sc_law_stand.nd rfl (by first | exact .inl rfl | exact .inr rfl))) (fun _ _ _ _ _ => rts_nil) (fun _ _ _ _ _ => (rx_callCR 0 C_law_one hr (by decide) (by rfl) (ra_cons (rx_lst (ra_cons re_int (ra_cons (re_ix (re_var 4) re_int (fun _ _ => rfl)) (ra_cons (rx_callCR 0 C_law_pick hr (by decide) (by rfl) (ra_cons (re_bop op_addD (re_ix (re_var 4) re_int (fun _ _ => rfl)) re_int) ra_nil) (aCons_len aNil_len)).re ra_nil)))).re ra_nil) (aCons_len aNil_len)).re)).re ra_nil))))) (rss_one (rs_retD (re_callTy cl_tup (by rfl) B.tuple_ PyProof.Rows.boot_tuple (ra_cons (re_var 2) ra_nil))))))
end G65
namespace G65
open PySem PySem.Spec PyProof.Rows L2 HotX L2H LamX
abbrev s_law_kin : Stmt := topS 81
theorem sc_law_kin : FnScope ["e", "kinds_met", "names", "name", "good"] ["e"] (defScope s_law_kin) := ⟨rfl, rfl, rfl, by decide +kernel, rfl, by decide +kernel, by decide +kernel⟩
/-- what isinstance says of a class by its name -/
def KinB (K : PySem.W.Frag) (mg : Str → Option Value) (D : Addr) (x : Str) (b : Bool) : Prop := ∃ c, mg x = some (.ref c) ∧ PySem.W.kitOne K (.ref D) (.ref c) = some b
structure KinF (K : PySem.W.Frag) (mg : Str → Option Value) (D : Addr) (b0 b1 b2 b3 b4 b5 b6 b7 b8 : Bool) : Prop where
  ex : ExcC K D
  h0 : KinB K mg D "NoHall" b0
  h1 : KinB K mg D "NoStand" b1
  h2 : KinB K mg D "NoBeat" b2
  h3 : KinB K mg D "NoPlan" b3
  h4 : KinB K mg D "NoThing" b4
  h5 : KinB K mg D "NoCount" b5
  h6 : KinB K mg D "NoMeeting" b6
  h7 : KinB K mg D "TooMany" b7
  h8 : PySem.W.kitOne K (.ref D) (.type "ValueError") = some b8
  is_ : mg "isinstance" = none
  zip_ : mg "zip" = none
  ve_ : mg "ValueError" = none
def kinNames : List Str := ["NoHall", "NoStand", "NoBeat", "NoPlan", "NoThing", "NoCount", "NoMeeting", "TooMany", "+"]
def spK (D : Addr) (d : Option Addr) (bs : List Bool) : Addr × Obj → Sp := fun p vs H Q _ => vs = [.ref p.1] ∧ Zc (.ref D) d p.2 ∧ (∃ us, p.2.data = .fields us) ∧ DiAt d H ∧ ∀ H', Same H H' → Q (.str (Txt.join "" (pick kinNames bs))) H'
theorem kin_ok {P : Program} {w : World} {K : PySem.W.Frag} {mg : Str → Option Value} {base : Heap} {f D : Addr} {fd : FuncData} {d : Option Addr} {b0 b1 b2 b3 b4 b5 b6 b7 b8 : Bool} (F : FnP K "_law_kin" s_law_kin f fd) (T : KinF K mg D b0 b1 b2 b3 b4 b5 b6 b7 b8)
    (hsum : ((pick kinNames [b0, b1, b2, b3, b4, b5, b6, b7, b8]).map (·.length)).sum ≤ 16777216) :
    FnQ P w K mg base CX0 1 f fd ["e"] (spK D d [b0, b1, b2, b3, b4, b5, b6, b7, b8]) := by
  obtain ⟨ex, ⟨c0, m0, k0⟩, ⟨c1, m1, k1⟩, ⟨c2, m2, k2⟩, ⟨c3, m3, k3⟩, ⟨c4, m4, k4⟩, ⟨c5, m5, k5⟩, ⟨c6, m6, k6⟩, ⟨c7, m7, k7⟩, k8, is_, zip_, ve_⟩ := T
  refine fnQ_of (k := 0) F sc_law_kin (fun p vs H Q E h => by rw [h.1]; rfl) fun cdv A outer s H vs Q E p hot hr h => ?_
  obtain ⟨rfl, hz, hf, hd, hQ⟩ := h
  have ci := call_isO (X := cxH CX0 P w K mg base ["e", "kinds_met", "names", "name", "good"] "_law_kin" (defScope s_law_kin) f cdv A outer s H E p) (a := p.1) ex hz hf List.mem_cons_self
  have hh : HotC (cxH CX0 P w K mg base ["e", "kinds_met", "names", "name", "good"] "_law_kin" (defScope s_law_kin) f cdv A outer s H E p) := ⟨p, hot, List.mem_cons_self⟩
  have gi : ∀ {x : Str} {c : Addr} {q1 q2 q3 q4 : Pos}, (defScope s_law_kin).names.lookup x = some .globalImplicit → mg x = some (.ref c) → (x == ("__debug__" : Str)) = false →
      PE (cxH CX0 P w K mg base ["e", "kinds_met", "names", "name", "good"] "_law_kin" (defScope s_law_kin) f cdv A outer s H E p) (.Call (.Name "isinstance" q1) [.Name "e" q2, .Name x q3] [] q4) (tCB (rIsO K D p.1 d) (tCons (tVar 0) (tCons (tC (.ref c)) tNil))) := fun {x c q1 q2 q3 q4} hg hm hdb =>
    pe_callB ci (by rfl) is_ PyProof.Rows.boot_isinstance (pa_cons (pe_var (i := 0) rfl (.inl rfl)) (pa_cons (pe_glob hg hm rfl hdb) pa_nil))
  have nd : (["e", "kinds_met", "names", "name", "good"] : List Str).Nodup := by decide
  refine ⟨_, pss_cons (ps_set (i := 1) nd rfl (.inl rfl) (pe_lst (pa_cons (gi rfl m0 (by decide)) (pa_cons (gi rfl m1 (by decide)) (pa_cons (gi rfl m2 (by decide)) (pa_cons (gi rfl m3 (by decide)) pa_nil))))))
    (pss_cons (ps_set (i := 1) nd rfl (.inl rfl) (pe_op op_cat (pe_var (i := 1) rfl (.inl rfl)) (pe_lst (pa_cons (gi rfl m4 (by decide)) (pa_cons (gi rfl m5 (by decide)) (pa_cons (gi rfl m6 (by decide)) pa_nil))))))
    (pss_cons (ps_set (i := 1) nd rfl (.inl rfl) (pe_op op_cat (pe_var (i := 1) rfl (.inl rfl)) (pe_lst (pa_cons (gi rfl m7 (by decide)) (pa_cons (pe_callB ci (by rfl) is_ PyProof.Rows.boot_isinstance (pa_cons (pe_var (i := 0) rfl (.inl rfl)) (pa_cons (pe_bltn (v := .ty "ValueError") (by rfl) ve_ (by rfl) rfl) pa_nil))) pa_nil)))))
    (pss_cons (ps_set (i := 2) nd rfl (.inl rfl) (pe_lst (pa_cons pe_str (pa_cons pe_str (pa_cons pe_str (pa_cons pe_str (pa_cons pe_str (pa_cons pe_str (pa_cons pe_str (pa_cons pe_str (pa_cons pe_str pa_nil)))))))))))
    (pss_one (ps_ret (pe_join pe_str (pe_lcQ (own := [("name", 3), ("good", 4)]) (g := gTup K 2 (gCons (gName 3) (gCons (gName 4) gNil))) (tt := tB (tVar 4)) (te := tVar 3) hh nd (pi_zipQ (by rfl) zip_ (pa_cons (pe_var (i := 2) rfl (.inl rfl)) (pa_cons (pe_var (i := 1) rfl (.inl rfl)) pa_nil))) (blkOk_by (by kernel_rfl))
      (fun _ _ _ _ _ _ => pgh_tup (n := 2) (pgs_cons (pg_name (i := 3) nd rfl (.inl rfl) (.inr rfl)) (pgs_cons (pg_name (i := 4) nd rfl (.inl rfl) (.inr rfl)) pgs_nil))) (fun _ _ _ _ _ => pts_one (pt_val (pe_var (i := 4) rfl (.inl rfl)))) (fun _ _ _ _ _ => pe_var (i := 3) rfl (.inl rfl))))))))), ?_⟩
  have sl : ∀ n, n ≤ 9 → n ≤ sizeLine := fun n h => Nat.le_trans h (by decide)
  refine ⟨_, rfl, _, _, _, rfl, fun u z => z, k0, hd, ⟨_, rfl, _, _, _, rfl, fun u z => z, k1, hd, ⟨_, rfl, _, _, _, rfl, fun u z => z, k2, hd, ⟨_, rfl, _, _, _, rfl, fun u z => z, k3, hd, sl _ (by simp), fun p1 n1 => ?_⟩⟩⟩⟩
  have hd1 := hd.mono (same_updN (o := .lst [V.bl b0, V.bl b1, V.bl b2, V.bl b3]) n1)
  refine ⟨_, rfl, ⟨_, rfl, _, _, _, rfl, fun u z => z, k4, hd1, ⟨_, rfl, _, _, _, rfl, fun u z => z, k5, hd1, ⟨_, rfl, _, _, _, rfl, fun u z => z, k6, hd1, sl _ (by simp), fun p2 n2 => ?_⟩⟩⟩⟩
  refine ⟨_, _, _, _, rfl, rfl, by rw [upd_ne (ne_of_none upd_same n2), upd_same], upd_same, sl _ (by simp), fun p3 n3 => ?_⟩
  have S3 : Same H (upd (upd (upd H p1 (.lst [V.bl b0, V.bl b1, V.bl b2, V.bl b3])) p2 (.lst [V.bl b4, V.bl b5, V.bl b6])) p3 (.lst ([V.bl b0, V.bl b1, V.bl b2, V.bl b3] ++ [V.bl b4, V.bl b5, V.bl b6]))) := (same_updN n1).trans ((same_updN n2).trans (same_updN n3))
  have q3 : upd (upd (upd H p1 (.lst [V.bl b0, V.bl b1, V.bl b2, V.bl b3])) p2 (.lst [V.bl b4, V.bl b5, V.bl b6])) p3 (.lst ([V.bl b0, V.bl b1, V.bl b2, V.bl b3] ++ [V.bl b4, V.bl b5, V.bl b6])) p3 = some (.lst [V.bl b0, V.bl b1, V.bl b2, V.bl b3, V.bl b4, V.bl b5, V.bl b6]) := upd_same
  generalize upd (upd (upd H p1 (.lst [V.bl b0, V.bl b1, V.bl b2, V.bl b3])) p2 (.lst [V.bl b4, V.bl b5, V.bl b6])) p3 (.lst ([V.bl b0, V.bl b1, V.bl b2, V.bl b3] ++ [V.bl b4, V.bl b5, V.bl b6])) = H3 at S3 q3 ⊢
  have hd3 := hd.mono S3
  refine ⟨_, rfl, ⟨_, rfl, _, _, _, rfl, fun u z => z, k7, hd3, ⟨_, rfl, _, _, _, rfl, fun u z => z, k8, hd3, sl _ (by simp), fun p4 n4 => ?_⟩⟩⟩
  refine ⟨_, _, _, _, rfl, rfl, by rw [upd_ne (ne_of_none q3 n4)]; exact q3, upd_same, sl _ (by simp), fun p5 n5 => ?_⟩
  have S5 : Same H3 (upd (upd H3 p4 (.lst [V.bl b7, V.bl b8])) p5 (.lst ([V.bl b0, V.bl b1, V.bl b2, V.bl b3, V.bl b4, V.bl b5, V.bl b6] ++ [V.bl b7, V.bl b8]))) := (same_updN n4).trans (same_updN n5)
  have q5 : upd (upd H3 p4 (.lst [V.bl b7, V.bl b8])) p5 (.lst ([V.bl b0, V.bl b1, V.bl b2, V.bl b3, V.bl b4, V.bl b5, V.bl b6] ++ [V.bl b7, V.bl b8])) p5 = some (.lst (([b0, b1, b2, b3, b4, b5, b6, b7, b8] : List Bool).map V.bl)) := upd_same
  generalize upd (upd H3 p4 (.lst [V.bl b7, V.bl b8])) p5 (.lst ([V.bl b0, V.bl b1, V.bl b2, V.bl b3, V.bl b4, V.bl b5, V.bl b6] ++ [V.bl b7, V.bl b8])) = H5 at S5 q5 ⊢
  refine ⟨sl _ (by simp), fun p6 n6 => ?_⟩
  refine ⟨⟨_, rfl⟩, ⟨_, rfl, _, rfl, p6, p5, kinNames.map V.str, ([b0, b1, b2, b3, b4, b5, b6, b7, b8] : List Bool).map V.bl, rfl, .inl (.inl upd_same), .inl (.inl ((same_updN n6) _ _ q5)), ?_⟩⟩
  refine lc_pick (Q := fun y H2 => ∃ (a : Str) (q : Addr) (ys : List Str), V.str "" = V.str a ∧ [y] = [V.ref q] ∧ (SqL K H2 q (ys.map V.str) ∨ SqT K H2 q (ys.map V.str)) ∧ (ys.map (·.length)).sum + ys.length * a.length ≤ 16777216 ∧ Q (.str (Txt.join a ys)) H2) (K := K) (xs := kinNames) (ys := [b0, b1, b2, b3, b4, b5, b6, b7, b8]) (i := 3) (j := 4) rfl (by decide) ?_ ?_ upd_same ((same_updN n6) _ _ q5) (Nat.lt_of_lt_of_le (by decide : kinNames.length < 10) (by decide)) fun D' H' n' s' e' => ?_
  · show 3 < 5
    decide
  · show 4 < 5
    decide
  exact ⟨_, D', _, rfl, rfl, .inl (.inl (.inl e')), by rw [show (Str.ofString "").length = 0 from rfl, Nat.mul_zero, Nat.add_zero]; exact hsum, hQ H' (S3.trans (S5.trans ((same_updN n6).trans s')))⟩
abbrev s_law_try : Stmt := topS 82
theorem sc_law_try : FnScope ["door", "found", "e"] ["door"] (defScope s_law_try) := ⟨rfl, rfl, rfl, by decide +kernel, rfl, by decide +kernel, by decide +kernel⟩
/-- what a refusal's class must say for _law_try to tell its word -/
structure KW (K : PySem.W.Frag) (mg : Str → Option Value) (D : Addr) (word : Str) : Prop where
  kin : ∃ b0 b1 b2 b3 b4 b5 b6 b7 b8, KinF K mg D b0 b1 b2 b3 b4 b5 b6 b7 b8 ∧ word = Txt.join "" (pick kinNames [b0, b1, b2, b3, b4, b5, b6, b7, b8]) ∧ ((pick kinNames [b0, b1, b2, b3, b4, b5, b6, b7, b8]).map (·.length)).sum ≤ 16777216
  ex0 : ∃ c, mg "TooMany" = some (.ref c) ∧ PySem.W.exmOne K (.ref D) (.ref c) = some false
  ex1 : ∃ c, mg "LoreError" = some (.ref c) ∧ PySem.W.exmOne K (.ref D) (.ref c) = some true
abbrev cxTry (P : Program) (w : World) (K : PySem.W.Frag) (mg : Str → Option Value) (base : Heap) (g : Addr) (cdv : Value) (A : Around) (outer : List Env) (s : Shared) (H : Hp) : Cx := (cxOf L2.CX0 P w K mg base ["door", "found", "e"] "_law_try" (defScope s_law_try) g cdv A outer s H NoE).nox
theorem try_core {P : Program} {w : World} {K : PySem.W.Frag} {mg : Str → Option Value} {base : Heap} {g D f2 : Addr} {fd2 : FuncData} {cdv : Value} {A : Around} {outer : List Env} {s : Shared} {H : Hp} {word : Str} {k : Nat} {tact : WX → St → Hp → Prop} (T : KW K mg D word) (F2 : FnP K "_law_kin" s_law_kin f2 fd2) (hm2 : mg "_law_kin" = some (.ref f2)) (hb2 : L2.Binds K fd2 ["e"] [])
    (hr : Room (k + 1) (A.deeper (envOfC "_law_try" (defScope s_law_try) s.heap.objs.size g cdv)))
    (hact : ∀ (W : WX) (pn : List (Addr × Obj)) (xe : Value → Shared → Prop) (p1 p2 : Pos), L2N.Takes ((cxTry P w K mg base g cdv A outer s H).tr pn xe) W → PE ((cxTry P w K mg base g cdv A outer s H).tr pn xe) (.Call (.Name "door" p1) [] [] p2) (fun σ H _ => tact W σ H)) :
    ∃ t, PSs (cxTry P w K mg base g cdv A outer s H) (defBody s_law_try) t ∧ ∀ (Dn : Ends) (v0 : V) (H0 : Hp),
      (∀ W : WX, (∀ H1, (∀ H2, Same H1 H2 → Dn.rt (.str word) H2) → W (.ref D) none [some v0, some .non, none] H1) → tact W [some v0, some .non, none] H0) → t Dn [some v0, none, none] H0 := by
  have nd : (["door", "found", "e"] : List Str).Nodup := by decide
  obtain ⟨⟨b0, b1, b2, b3, b4, b5, b6, b7, b8, kf, rfl, hsum⟩, ⟨c1, m1, x1⟩, ⟨c2, m2, x2⟩⟩ := T
  have kk : ∀ d, FnQ P w K mg base CX0 1 f2 fd2 ["e"] (spK D d [b0, b1, b2, b3, b4, b5, b6, b7, b8]) := fun d => kin_ok F2 kf hsum
  have kinE : ∀ (a : Addr) (oe : Obj) (cls : Value) (d : Option Addr) (pn : List (Addr × Obj)) (p1 p2 p3 : Pos), L2N.Zn cls d oe → (∃ vs, oe.data = .fields vs) →
      PE ((cxTry P w K mg base g cdv A outer s H).suite a ((a, oe) :: pn)) (.Call (.Name "_law_kin" p1) [.Name "e" p2] [] p3)
        (fun σ H Q => cls = .ref D ∧ σ[2]? = some (some (.ref a)) ∧ DiAt d H ∧ ∀ H', Same H H' → Q (.str (Txt.join "" (pick kinNames [b0, b1, b2, b3, b4, b5, b6, b7, b8]))) H') := fun a oe cls d pn p1 p2 p3 hz hf => ⟨fun pins s' σ H' Q I ⟨e1, e2, e3, e4⟩ => by
    subst e1
    obtain ⟨vs, hv⟩ := hf
    exact (pe_callQ (X := (cxTry P w K mg base g cdv A outer s H).suite a ((a, oe) :: pn)) (E := fun _ => NoE) (p := (a, oe)) (kk d) ((roomH_mark hr _).mono (Nat.le_add_left 1 k)) ⟨rfl, vs, hv, hz.2.2 vs hv⟩ List.mem_cons_self (by rfl) hm2 F2.kp hb2 (fun _ _ _ _ _ _ _ z => z.elim) (pa_cons (pe_var (i := 2) rfl (.inl rfl)) pa_nil)).run pins s' σ H' Q I
      ⟨_, e2, rfl, hz.zc, ⟨vs, hv⟩, e3, e4⟩⟩
  refine ⟨_, pss_cons (ps_set (i := 1) nd rfl (.inl rfl) pe_non) (pss_cons (ps_try_as2 (X := cxTry P w K mg base g cdv A outer s H) (c1 := .ref c1) (c := .ref c2) (i := 2)
      (tb := fun W D σ H => tact W σ H) rfl rfl nd rfl rfl ⟨by rfl, by decide, .inl m1⟩ ⟨by rfl, by decide, .inl m2⟩
      (fun W pn xe tk _ => ⟨fun pins s' σ H' D I h1 => ?_⟩) (fun a oe cls d pn hz hf => pss_one (ps_set (i := 1) nd rfl (.inl rfl) (kinE a oe cls d pn _ _ _ hz hf)))) (pss_one (ps_ret (pe_var (i := 1) rfl (.inl rfl))))), ?_⟩
  · exact (pss_one (ps_set (i := 1) nd rfl (.inl rfl) (pe_tup (pa_cons pe_str (pa_cons (hact W pn xe _ _ tk) pa_nil))))).run pins s' σ H' D I h1
  · intro Dn v0 H0 h
    refine h _ fun H1 hq => ⟨x1, x2, fun a na => ⟨rfl, rfl, trivial, fun H2 s2 => ?_⟩⟩
    exact ⟨_, rfl, hq H2 s2⟩
/-- a kept closure is tried -/
theorem try_ok {P : Program} {w : World} {K : PySem.W.Frag} {mg : Str → Option Value} {base : Heap} {kk : Nat} (D1 : DF K mg "_law_kin" s_law_kin ["e"]) (D2 : DF K mg "_law_try" s_law_try ["door"]) : CF P w K mg base (kk + 2) "_law_try" ["door"] (spTry P w K mg base kk (KW K mg)) := by
  obtain ⟨f2, fd2, F2, hm2, hb2⟩ := D1
  obtain ⟨g, fd, F, hm, hb⟩ := D2
  refine ⟨g, fd, F.kp, hm, hb, F.ok sc_law_try (fun vs H Q E h => ?_) fun cdv A outer s H vs Q E hr h => ?_⟩
  · obtain ⟨D, word, k, N, x, f, σ, F, r, _, _, rfl, _⟩ := h
    rfl
  · obtain ⟨D, word, k, N, x, f, σ, Fh, r, kw, B, rfl, C, S, O, hx, hQ⟩ := h
    obtain ⟨t, pt, kt⟩ := try_core (P := P) (base := base) (g := g) (cdv := cdv) (A := A) (outer := outer) (s := s) (H := H) (k := kk) (tact := fun (W : WX) (σZ : St) (HZ : Hp) => ∃ (f : Addr) (σ : St), σZ[0]? = some (some (V.ref f)) ∧ CloAt HZ f k N σ ∧ ∃ E : XK, (∀ cls d H', E cls d H' → W cls d σZ (addC k.cl HZ H')) ∧ tX P w K x (PhiP D) E σ (delC k.cl HZ) (fun _ _ => False)) kw F2 hm2 hb2 hr
      fun W pn xe p1 p2 tk => pe_actC (P := P) (w := w) (K := K) (mg := mg) (base := base) (CXg := CX0) (Eg := NoE) (s := s) (H := H) (i := 0) (tb := fun E => tX P w K x (PhiP D) E) B.lam B.bind tk hr (fun A outer s H E f hr2 => pe_tX (B.body A outer s H E f hr2)) rfl (.inl rfl)
    refine ⟨t, pt.nox, kt _ (.ref f) H fun W hW => ⟨f, σ, rfl, C, fun cls d H' => cls = .ref D ∧ d = none ∧ Same H (addC k.cl H H'), fun cls d H' ⟨e1, e2, e3⟩ => ?_, Fh, r, S, hx, fun cls d σ' r' F' H' S' G' w => ?_⟩⟩
    · subst e1 e2
      exact hW _ fun H2 s2 => hQ H2 (e3.trans s2)
    · exact ⟨w.1, w.2, same_add fun b o hb => G'.keep b o hb (O b)⟩
/-- a lambda is tried at once -/
theorem try_givesP {X : Cx} {g D f2 : Addr} {fd2 : FuncData} {cdv : Value} {q word : Str} {k : Nat} (T : KW X.K X.mg D word) (F2 : FnP X.K "_law_kin" s_law_kin f2 fd2) (hm2 : X.mg "_law_kin" = some (.ref f2)) (hb2 : L2.Binds X.K fd2 ["e"] []) :
    GivesN X k ["door", "found", "e"] "_law_try" (defScope s_law_try) g cdv (defBody s_law_try) "door" q (TTryP D word) := by
  intro f c' s H Q tl hr act hc h
  obtain ⟨t, pt, kt⟩ := try_core (P := X.prog) (w := X.w) (base := X.base) (g := g) (cdv := cdv) (A := X.A) (outer := X.stack) (s := s) (H := H) (k := k) (tact := fun (W : WX) (σZ : St) (HZ : Hp) => σZ[0]? = some (some (V.ref f)) ∧ HZ c' = some (CodeO c' q) ∧ ∃ E : XK, (∀ cls d H', E cls d H' → W cls d σZ H') ∧ ∀ Q', tl E HZ Q') T F2 hm2 hb2 hr
    fun W pn xe p1 p2 tk => ⟨fun pins s' σ H' Q' I ⟨h1, h2, E, h3, h4⟩ => (act W pn xe p1 p2 tk).run pins s' σ H' Q' I ⟨h1, h2, E, h3, h4 _⟩⟩
  refine ⟨t, pt, kt _ (.ref f) H fun W hW => ⟨rfl, hc, _, fun cls d H' he => ?_, h⟩⟩
  obtain ⟨rfl, rfl, hq⟩ := he
  exact hW H' hq
/-! ### the classes' facts, looked at in the head -/
def fB (K : PySem.W.Frag) (x y : Str) (v : Option Value) : Bool := decide (PySem.W.findIn K (.ref (He.ga K x)) y = some v)
def kB (K : PySem.W.Frag) (x y : Str) (b : Bool) : Bool := decide (PySem.W.kitOne K (.ref (He.ga K x)) (.ref (He.ga K y)) = some b)
def clsB (K : PySem.W.Frag) (x : Str) (b0 b1 b2 b3 b4 b5 b6 : Bool) : Bool := PySem.W.excIn K (He.ga K x) bmVE "ValueError.__new__" && (PySem.W.keepIn K (.ref (He.ga K x)) && (decide (PySem.W.subIn K (.ref (He.ga K x)) (.type "BaseException") = some true) && (decide (PySem.W.typeIn K (.ref (He.ga K x)) = some (.type "type")) &&
  (fB K x "__getattribute__" (some (.builtin "BaseException.__getattribute__")) && (fB K x "__getattr__" none && (PySem.W.hasDictIn K (He.ga K x) && (fB K x "__class__" (some (.builtin "object.__class__")) && (decide (PySem.W.specialIn K (.builtin "object.__class__") "__get__" = some (some (.builtin "getset_descriptor.__get__"))) &&
  (decide (PySem.W.takesIn K (.builtin "object.__class__") = some true) && (decide (PySem.W.mroIn K (He.ga K x) (.type "object") = some true) && (decide (PySem.W.exmOne K (.ref (He.ga K x)) (.ref (He.ga K "TooMany")) = some false) && (decide (PySem.W.exmOne K (.ref (He.ga K x)) (.ref (He.ga K "LoreError")) = some true) &&
  (kB K x "NoHall" b0 && (kB K x "NoStand" b1 && (kB K x "NoBeat" b2 && (kB K x "NoPlan" b3 && (kB K x "NoThing" b4 && (kB K x "NoCount" b5 && (kB K x "NoMeeting" b6 && (kB K x "TooMany" false && decide (PySem.W.kitOne K (.ref (He.ga K x)) (.type "ValueError") = some true)))))))))))))))))))))
structure ClsAll (K : PySem.W.Frag) (mg : Str → Option Value) (x : Str) (b0 b1 b2 b3 b4 b5 b6 : Bool) : Prop where
  m : ClsM K mg x (He.ga K x)
  k : KinF K mg (He.ga K x) b0 b1 b2 b3 b4 b5 b6 false true
  ex0 : ∃ c, mg "TooMany" = some (.ref c) ∧ PySem.W.exmOne K (.ref (He.ga K x)) (.ref c) = some false
  ex1 : ∃ c, mg "LoreError" = some (.ref c) ∧ PySem.W.exmOne K (.ref (He.ga K x)) (.ref c) = some true
theorem clsB_ok {K : PySem.W.Frag} {mg : Str → Option Value} {x : Str} {b0 b1 b2 b3 b4 b5 b6 : Bool} (h : clsB K x b0 b1 b2 b3 b4 b5 b6 = true) (hx : mg x = some (.ref (He.ga K x))) (g : ∀ x ∈ ["NoHall", "NoStand", "NoBeat", "NoPlan", "NoThing", "NoCount", "NoMeeting", "TooMany", "LoreError"], mg x = some (.ref (He.ga K x))) (h1 : mg "isinstance" = none) (h2 : mg "zip" = none) (h3 : mg "ValueError" = none) : ClsAll K mg x b0 b1 b2 b3 b4 b5 b6 := by
  unfold clsB fB kB at h
  simp only [Bool.and_eq_true, decide_eq_true_eq] at h
  obtain ⟨a1, a2, a3, a4, a5, a6, a7, a8, a9, a10, a11, a12, a13, b0, b1, b2, b3, b4, b5, b6, b7, b8⟩ := h
  exact ⟨⟨hx, a1, a2, a3, a4⟩, ⟨⟨a5, a6, a3, a7, a8, a9, a10, a11⟩, ⟨_, g _ (by simp), b0⟩, ⟨_, g _ (by simp), b1⟩, ⟨_, g _ (by simp), b2⟩, ⟨_, g _ (by simp), b3⟩, ⟨_, g _ (by simp), b4⟩, ⟨_, g _ (by simp), b5⟩, ⟨_, g _ (by simp), b6⟩, ⟨_, g _ (by simp), b7⟩, b8, h1, h2, h3⟩, ⟨_, g _ (by simp), a12⟩, ⟨_, g _ (by simp), a13⟩⟩
theorem ClsAll.kw {K : PySem.W.Frag} {mg : Str → Option Value} {x : Str} {b0 b1 b2 b3 b4 b5 b6 : Bool} (c : ClsAll K mg x b0 b1 b2 b3 b4 b5 b6) {word : Str} (e : word = Txt.join "" (pick kinNames [b0, b1, b2, b3, b4, b5, b6, false, true])) (hs : ((pick kinNames [b0, b1, b2, b3, b4, b5, b6, false, true]).map (·.length)).sum ≤ 16777216) : KW K mg (He.ga K x) word := ⟨⟨_, _, _, _, _, _, _, _, _, c.k, e, hs⟩, c.ex0, c.ex1⟩
theorem kwT1 : ("NoHall+" : Str) = Txt.join "" (pick kinNames [true, false, false, false, false, false, false, false, true]) := by rfl
end G65
namespace G65
open PySem PySem.Spec PyProof.Rows L2
def xm_need_hall (n : Nat) : Rho → Bool := xIf (notT (tst (bnd (dcall (den_is_hall n) (aCons (gv 0) (aNil))) frz))) (fun _ => true)
def exc_need_hall (n : Nat) : List PyData → Bool := runX 1 (xm_need_hall n)
theorem okx_need_hall {P : Program} {w : World} {K : PySem.W.Frag} {mg : Str → Option Value} {base : Heap} {n : Nat} {C : Addr} (B : BF mg) (D : DF K mg "need_hall" s_need_hall ["hall"]) (M : ClsM K mg "NoHall" C) (C_is_hall : CF P w K mg base 3 "is_hall" ["thing"] (sp0 P w K 1 (den_is_hall n))) : CFX P w K mg base 4 "need_hall" ["hall"] (spX P w K 1 (exc_need_hall n) (PhiP C)) := by
  refine cfX (k := 3) D sc_need_hall fun f cdv A outer s H E hr => ?_
  unfold xm_need_hall
  exact (xss_now (xs_if (rt_not (rt_val (rx_callC C_is_hall hr (by decide) (by rfl) (ra_cons (re_var 0) ra_nil) (aCons_len aNil_len)).re)) (xss_now (xs_raiseP rfl takes_cx M (by rfl)))))
def xm_need_stand (n : Nat) : Rho → Bool := xIf (notT (tst (bnd (dcall (den_is_standing n) (aCons (gv 0) (aCons (gv 1) (aNil)))) frz))) (fun _ => true)
def exc_need_stand (n : Nat) : List PyData → Bool := runX 2 (xm_need_stand n)
theorem okx_need_stand {P : Program} {w : World} {K : PySem.W.Frag} {mg : Str → Option Value} {base : Heap} {n : Nat} {C : Addr} (B : BF mg) (D : DF K mg "need_stand" s_need_stand ["hall", "stand"]) (M : ClsM K mg "NoStand" C) (C_is_standing : CF P w K mg base 2 "is_standing" ["hall", "thing"] (sp0 P w K 2 (den_is_standing n))) : CFX P w K mg base 3 "need_stand" ["hall", "stand"] (spX P w K 2 (exc_need_stand n) (PhiP C)) := by
  refine cfX (k := 2) D sc_need_stand fun f cdv A outer s H E hr => ?_
  unfold xm_need_stand
  exact (xss_now (xs_if (rt_not (rt_val (rx_callC C_is_standing hr (by decide) (by rfl) (ra_cons (re_var 0) (ra_cons (re_var 1) ra_nil)) (aCons_len (aCons_len aNil_len))).re)) (xss_now (xs_raiseP rfl takes_cx M (by rfl)))))
def xm_need_beat (n : Nat) : Rho → Bool := xIf (notT (tst (bnd (dcall (den_is_beating n) (aCons (gv 0) (aCons (gv 1) (aNil)))) frz))) (fun _ => true)
def exc_need_beat (n : Nat) : List PyData → Bool := runX 2 (xm_need_beat n)
theorem okx_need_beat {P : Program} {w : World} {K : PySem.W.Frag} {mg : Str → Option Value} {base : Heap} {n : Nat} {C : Addr} (B : BF mg) (D : DF K mg "need_beat" s_need_beat ["hall", "beat"]) (M : ClsM K mg "NoBeat" C) (C_is_beating : CF P w K mg base 3 "is_beating" ["hall", "thing"] (sp0 P w K 2 (den_is_beating n))) : CFX P w K mg base 4 "need_beat" ["hall", "beat"] (spX P w K 2 (exc_need_beat n) (PhiP C)) := by
  refine cfX (k := 3) D sc_need_beat fun f cdv A outer s H E hr => ?_
  unfold xm_need_beat
  exact (xss_now (xs_if (rt_not (rt_val (rx_callC C_is_beating hr (by decide) (by rfl) (ra_cons (re_var 0) (ra_cons (re_var 1) ra_nil)) (aCons_len (aCons_len aNil_len))).re)) (xss_now (xs_raiseP rfl takes_cx M (by rfl)))))
def xm_need_plan (n : Nat) : Rho → Bool := xIf (notT (tst (bnd (dcall (den_is_planned n) (aCons (gv 0) (aCons (gv 1) (aNil)))) frz))) (fun _ => true)
def exc_need_plan (n : Nat) : List PyData → Bool := runX 2 (xm_need_plan n)
theorem okx_need_plan {P : Program} {w : World} {K : PySem.W.Frag} {mg : Str → Option Value} {base : Heap} {n : Nat} {C : Addr} (B : BF mg) (D : DF K mg "need_plan" s_need_plan ["hall", "plan"]) (M : ClsM K mg "NoPlan" C) (C_is_planned : CF P w K mg base 4 "is_planned" ["hall", "thing"] (sp0 P w K 2 (den_is_planned n))) : CFX P w K mg base 5 "need_plan" ["hall", "plan"] (spX P w K 2 (exc_need_plan n) (PhiP C)) := by
  refine cfX (k := 4) D sc_need_plan fun f cdv A outer s H E hr => ?_
  unfold xm_need_plan
  exact (xss_now (xs_if (rt_not (rt_val (rx_callC C_is_planned hr (by decide) (by rfl) (ra_cons (re_var 0) (ra_cons (re_var 1) ra_nil)) (aCons_len (aCons_len aNil_len))).re)) (xss_now (xs_raiseP rfl takes_cx M (by rfl)))))
def xm_need_thing (n : Nat) : Rho → Bool := xIf (notT (tst (bnd (dcall (den_is_from n) (aCons (gv 1) (aCons (cst (.int 0)) (aCons (bop subD (app lenD (aCons (bop ixD (gv 0) (cst (.int 1))) (aNil))) (cst (.int 1))) (aNil))))) frz))) (fun _ => true)
def exc_need_thing (n : Nat) : List PyData → Bool := runX 2 (xm_need_thing n)
theorem okx_need_thing {P : Program} {w : World} {K : PySem.W.Frag} {mg : Str → Option Value} {base : Heap} {n : Nat} {C : Addr} (B : BF mg) (D : DF K mg "need_thing" s_need_thing ["hall", "thing"]) (M : ClsM K mg "NoThing" C) (C_is_from : CF P w K mg base 1 "is_from" ["thing", "low", "high"] (sp0 P w K 3 (den_is_from n))) : CFX P w K mg base 2 "need_thing" ["hall", "thing"] (spX P w K 2 (exc_need_thing n) (PhiP C)) := by
  refine cfX (k := 1) D sc_need_thing fun f cdv A outer s H E hr => ?_
  unfold xm_need_thing
  exact (xss_now (xs_if (rt_not (rt_val (rx_callC C_is_from hr (by decide) (by rfl) (ra_cons (re_var 1) (ra_cons re_int (ra_cons (re_bop op_subD (re_callB cl_len (by rfl) B.len_ PySem.boot_len (ra_cons (re_ix (re_var 0) re_int (fun _ _ => rfl)) ra_nil)) re_int) ra_nil))) (aCons_len (aCons_len (aCons_len aNil_len)))).re)) (xss_now (xs_raiseP rfl takes_cx M (by rfl)))))
def xm_need_count (n : Nat) : Rho → Bool := xIf (notT (tst (bnd (dcall (den_is_from n) (aCons (gv 0) (aCons (cst (.int 0)) (aCons (cst (.int 1000000000000000000)) (aNil))))) frz))) (fun _ => true)
def exc_need_count (n : Nat) : List PyData → Bool := runX 1 (xm_need_count n)
theorem okx_need_count {P : Program} {w : World} {K : PySem.W.Frag} {mg : Str → Option Value} {base : Heap} {n : Nat} {C : Addr} (B : BF mg) (D : DF K mg "need_count" s_need_count ["beats"]) (M : ClsM K mg "NoCount" C) (C_is_from : CF P w K mg base 1 "is_from" ["thing", "low", "high"] (sp0 P w K 3 (den_is_from n))) : CFX P w K mg base 2 "need_count" ["beats"] (spX P w K 1 (exc_need_count n) (PhiP C)) := by
  refine cfX (k := 1) D sc_need_count fun f cdv A outer s H E hr => ?_
  unfold xm_need_count
  exact (xss_now (xs_if (rt_not (rt_val (rx_callC C_is_from hr (by decide) (by rfl) (ra_cons (re_var 0) (ra_cons re_int (ra_cons (re_globE (by rfl) B.c_FAR) ra_nil))) (aCons_len (aCons_len (aCons_len aNil_len)))).re)) (xss_now (xs_raiseP rfl takes_cx M (by rfl)))))
def xm_need_meeting (n : Nat) : Rho → Bool := xIf (notT (tst (bnd (dcall (den_is_meeting n) (aCons (gv 0) (aCons (gv 1) (aNil)))) frz))) (fun _ => true)
def exc_need_meeting (n : Nat) : List PyData → Bool := runX 2 (xm_need_meeting n)
theorem okx_need_meeting {P : Program} {w : World} {K : PySem.W.Frag} {mg : Str → Option Value} {base : Heap} {n : Nat} {C : Addr} (B : BF mg) (D : DF K mg "need_meeting" s_need_meeting ["hall", "meeting"]) (M : ClsM K mg "NoMeeting" C) (C_is_meeting : CF P w K mg base 2 "is_meeting" ["hall", "thing"] (sp0 P w K 2 (den_is_meeting n))) : CFX P w K mg base 3 "need_meeting" ["hall", "meeting"] (spX P w K 2 (exc_need_meeting n) (PhiP C)) := by
  refine cfX (k := 2) D sc_need_meeting fun f cdv A outer s H E hr => ?_
  unfold xm_need_meeting
  exact (xss_now (xs_if (rt_not (rt_val (rx_callC C_is_meeting hr (by decide) (by rfl) (ra_cons (re_var 0) (ra_cons (re_var 1) ra_nil)) (aCons_len (aCons_len aNil_len))).re)) (xss_now (xs_raiseP rfl takes_cx M (by rfl)))))
abbrev s_by_beat : Stmt := topS 46
theorem sc_by_beat : FnScope ["hall", "stand", "beat"] ["hall", "stand", "beat"] (defScope s_by_beat) := ⟨rfl, rfl, rfl, by decide +kernel, rfl, by decide +kernel, by decide +kernel⟩
def xm_by_beat_NoHall (n : Nat) : Rho → Bool := xCall (aCons (gv 0) (aNil)) (exc_need_hall n)
def exc_by_beat_NoHall (n : Nat) : List PyData → Bool := runX 3 (xm_by_beat_NoHall n)
theorem okx_by_beat_NoHall {P : Program} {w : World} {K : PySem.W.Frag} {mg : Str → Option Value} {base : Heap} {n : Nat} {C : Addr} (B : BF mg) (D : DF K mg "by_beat" s_by_beat ["hall", "stand", "beat"]) (X_need_hall : CFX P w K mg base 4 "need_hall" ["hall"] (spX P w K 1 (exc_need_hall n) (PhiP C))) : CFX P w K mg base 5 "by_beat" ["hall", "stand", "beat"] (spX P w K 3 (exc_by_beat_NoHall n) (PhiP C)) := by
  refine cfX (k := 4) D sc_by_beat fun f cdv A outer s H E hr => ?_
  unfold xm_by_beat_NoHall
  exact (xss_now (xs_expr (xe_callC takes_cx X_need_hall hr (by decide) (by rfl) (ra_cons (re_var 0) ra_nil) (aCons_len aNil_len))))
def xm_by_beat_NoStand (n : Nat) : Rho → Bool := xSeq (sExpr (bnd (dcall (den_need_hall n) (aCons (gv 0) (aNil))) frz)) (xCall (aCons (gv 0) (aCons (gv 1) (aNil))) (exc_need_stand n))
def exc_by_beat_NoStand (n : Nat) : List PyData → Bool := runX 3 (xm_by_beat_NoStand n)
theorem okx_by_beat_NoStand {P : Program} {w : World} {K : PySem.W.Frag} {mg : Str → Option Value} {base : Heap} {n : Nat} {C : Addr} (B : BF mg) (D : DF K mg "by_beat" s_by_beat ["hall", "stand", "beat"]) (X_need_stand : CFX P w K mg base 3 "need_stand" ["hall", "stand"] (spX P w K 2 (exc_need_stand n) (PhiP C))) (C_need_hall : CF P w K mg base 4 "need_hall" ["hall"] (sp0 P w K 1 (den_need_hall n))) : CFX P w K mg base 5 "by_beat" ["hall", "stand", "beat"] (spX P w K 3 (exc_by_beat_NoStand n) (PhiP C)) := by
  refine cfX (k := 4) D sc_by_beat fun f cdv A outer s H E hr => ?_
  unfold xm_by_beat_NoStand
  exact (xss_cons (n := 0) (RS.up (rs_expr (rx_callC C_need_hall hr (by decide) (by rfl) (ra_cons (re_var 0) ra_nil) (aCons_len aNil_len)).re)) (xss_now (xs_expr (xe_callC takes_cx X_need_stand hr (by decide) (by rfl) (ra_cons (re_var 0) (ra_cons (re_var 1) ra_nil)) (aCons_len (aCons_len aNil_len))))))
def xm_by_beat_NoBeat (n : Nat) : Rho → Bool := xSeq (sExpr (bnd (dcall (den_need_hall n) (aCons (gv 0) (aNil))) frz)) (xSeq (sExpr (bnd (dcall (den_need_stand n) (aCons (gv 0) (aCons (gv 1) (aNil)))) frz)) (xCall (aCons (gv 0) (aCons (gv 2) (aNil))) (exc_need_beat n)))
def exc_by_beat_NoBeat (n : Nat) : List PyData → Bool := runX 3 (xm_by_beat_NoBeat n)
theorem okx_by_beat_NoBeat {P : Program} {w : World} {K : PySem.W.Frag} {mg : Str → Option Value} {base : Heap} {n : Nat} {C : Addr} (B : BF mg) (D : DF K mg "by_beat" s_by_beat ["hall", "stand", "beat"]) (X_need_beat : CFX P w K mg base 4 "need_beat" ["hall", "beat"] (spX P w K 2 (exc_need_beat n) (PhiP C))) (C_need_hall : CF P w K mg base 4 "need_hall" ["hall"] (sp0 P w K 1 (den_need_hall n))) (C_need_stand : CF P w K mg base 3 "need_stand" ["hall", "stand"] (sp0 P w K 2 (den_need_stand n))) : CFX P w K mg base 5 "by_beat" ["hall", "stand", "beat"] (spX P w K 3 (exc_by_beat_NoBeat n) (PhiP C)) := by
  refine cfX (k := 4) D sc_by_beat fun f cdv A outer s H E hr => ?_
  unfold xm_by_beat_NoBeat
  exact (xss_cons (n := 0) (RS.up (rs_expr (rx_callC C_need_hall hr (by decide) (by rfl) (ra_cons (re_var 0) ra_nil) (aCons_len aNil_len)).re)) (xss_cons (n := 0) (RS.up (rs_expr (rx_callC C_need_stand hr (by decide) (by rfl) (ra_cons (re_var 0) (ra_cons (re_var 1) ra_nil)) (aCons_len (aCons_len aNil_len))).re)) (xss_now (xs_expr (xe_callC takes_cx X_need_beat hr (by decide) (by rfl) (ra_cons (re_var 0) (ra_cons (re_var 2) ra_nil)) (aCons_len (aCons_len aNil_len)))))))
abbrev s_by_plan : Stmt := topS 48
theorem sc_by_plan : FnScope ["hall", "stand", "plan", "beats", "found", "first"] ["hall", "stand", "plan", "beats"] (defScope s_by_plan) := ⟨rfl, rfl, rfl, by decide +kernel, rfl, by decide +kernel, by decide +kernel⟩
def xm_by_plan_NoHall (n : Nat) : Rho → Bool := xCall (aCons (gv 0) (aNil)) (exc_need_hall n)
def exc_by_plan_NoHall (n : Nat) : List PyData → Bool := runX 6 (xm_by_plan_NoHall n)
theorem okx_by_plan_NoHall {P : Program} {w : World} {K : PySem.W.Frag} {mg : Str → Option Value} {base : Heap} {n : Nat} {C : Addr} (B : BF mg) (D : DF K mg "by_plan" s_by_plan ["hall", "stand", "plan", "beats"]) (X_need_hall : CFX P w K mg base 4 "need_hall" ["hall"] (spX P w K 1 (exc_need_hall n) (PhiP C))) : CFX P w K mg base 6 "by_plan" ["hall", "stand", "plan", "beats"] (spX P w K 4 (exc_by_plan_NoHall n) (PhiP C)) := by
  refine cfX (k := 5) D sc_by_plan fun f cdv A outer s H E hr => ?_
  unfold xm_by_plan_NoHall
  exact (xss_now (xs_expr (xe_callC takes_cx X_need_hall hr (by decide) (by rfl) (ra_cons (re_var 0) ra_nil) (aCons_len aNil_len))))
def xm_by_plan_NoStand (n : Nat) : Rho → Bool := xSeq (sExpr (bnd (dcall (den_need_hall n) (aCons (gv 0) (aNil))) frz)) (xCall (aCons (gv 0) (aCons (gv 1) (aNil))) (exc_need_stand n))
def exc_by_plan_NoStand (n : Nat) : List PyData → Bool := runX 6 (xm_by_plan_NoStand n)
theorem okx_by_plan_NoStand {P : Program} {w : World} {K : PySem.W.Frag} {mg : Str → Option Value} {base : Heap} {n : Nat} {C : Addr} (B : BF mg) (D : DF K mg "by_plan" s_by_plan ["hall", "stand", "plan", "beats"]) (X_need_stand : CFX P w K mg base 3 "need_stand" ["hall", "stand"] (spX P w K 2 (exc_need_stand n) (PhiP C))) (C_need_hall : CF P w K mg base 4 "need_hall" ["hall"] (sp0 P w K 1 (den_need_hall n))) : CFX P w K mg base 6 "by_plan" ["hall", "stand", "plan", "beats"] (spX P w K 4 (exc_by_plan_NoStand n) (PhiP C)) := by
  refine cfX (k := 5) D sc_by_plan fun f cdv A outer s H E hr => ?_
  unfold xm_by_plan_NoStand
  exact (xss_cons (n := 0) (RS.up (rs_expr (rx_callC C_need_hall hr (by decide) (by rfl) (ra_cons (re_var 0) ra_nil) (aCons_len aNil_len)).re)) (xss_now (xs_expr (xe_callC takes_cx X_need_stand hr (by decide) (by rfl) (ra_cons (re_var 0) (ra_cons (re_var 1) ra_nil)) (aCons_len (aCons_len aNil_len))))))
def xm_by_plan_NoPlan (n : Nat) : Rho → Bool := xSeq (sExpr (bnd (dcall (den_need_hall n) (aCons (gv 0) (aNil))) frz)) (xSeq (sExpr (bnd (dcall (den_need_stand n) (aCons (gv 0) (aCons (gv 1) (aNil)))) frz)) (xCall (aCons (gv 0) (aCons (gv 2) (aNil))) (exc_need_plan n)))
def exc_by_plan_NoPlan (n : Nat) : List PyData → Bool := runX 6 (xm_by_plan_NoPlan n)
theorem okx_by_plan_NoPlan {P : Program} {w : World} {K : PySem.W.Frag} {mg : Str → Option Value} {base : Heap} {n : Nat} {C : Addr} (B : BF mg) (D : DF K mg "by_plan" s_by_plan ["hall", "stand", "plan", "beats"]) (X_need_plan : CFX P w K mg base 5 "need_plan" ["hall", "plan"] (spX P w K 2 (exc_need_plan n) (PhiP C))) (C_need_hall : CF P w K mg base 4 "need_hall" ["hall"] (sp0 P w K 1 (den_need_hall n))) (C_need_stand : CF P w K mg base 3 "need_stand" ["hall", "stand"] (sp0 P w K 2 (den_need_stand n))) : CFX P w K mg base 6 "by_plan" ["hall", "stand", "plan", "beats"] (spX P w K 4 (exc_by_plan_NoPlan n) (PhiP C)) := by
  refine cfX (k := 5) D sc_by_plan fun f cdv A outer s H E hr => ?_
  unfold xm_by_plan_NoPlan
  exact (xss_cons (n := 0) (RS.up (rs_expr (rx_callC C_need_hall hr (by decide) (by rfl) (ra_cons (re_var 0) ra_nil) (aCons_len aNil_len)).re)) (xss_cons (n := 0) (RS.up (rs_expr (rx_callC C_need_stand hr (by decide) (by rfl) (ra_cons (re_var 0) (ra_cons (re_var 1) ra_nil)) (aCons_len (aCons_len aNil_len))).re)) (xss_now (xs_expr (xe_callC takes_cx X_need_plan hr (by decide) (by rfl) (ra_cons (re_var 0) (ra_cons (re_var 2) ra_nil)) (aCons_len (aCons_len aNil_len)))))))
def xm_by_plan_NoCount (n : Nat) : Rho → Bool := xSeq (sExpr (bnd (dcall (den_need_hall n) (aCons (gv 0) (aNil))) frz)) (xSeq (sExpr (bnd (dcall (den_need_stand n) (aCons (gv 0) (aCons (gv 1) (aNil)))) frz)) (xSeq (sExpr (bnd (dcall (den_need_plan n) (aCons (gv 0) (aCons (gv 2) (aNil)))) frz)) (xCall (aCons (gv 3) (aNil)) (exc_need_count n))))
def exc_by_plan_NoCount (n : Nat) : List PyData → Bool := runX 6 (xm_by_plan_NoCount n)
theorem okx_by_plan_NoCount {P : Program} {w : World} {K : PySem.W.Frag} {mg : Str → Option Value} {base : Heap} {n : Nat} {C : Addr} (B : BF mg) (D : DF K mg "by_plan" s_by_plan ["hall", "stand", "plan", "beats"]) (X_need_count : CFX P w K mg base 2 "need_count" ["beats"] (spX P w K 1 (exc_need_count n) (PhiP C))) (C_need_hall : CF P w K mg base 4 "need_hall" ["hall"] (sp0 P w K 1 (den_need_hall n))) (C_need_stand : CF P w K mg base 3 "need_stand" ["hall", "stand"] (sp0 P w K 2 (den_need_stand n))) (C_need_plan : CF P w K mg base 5 "need_plan" ["hall", "plan"] (sp0 P w K 2 (den_need_plan n))) : CFX P w K mg base 6 "by_plan" ["hall", "stand", "plan", "beats"] (spX P w K 4 (exc_by_plan_NoCount n) (PhiP C)) := by
  refine cfX (k := 5) D sc_by_plan fun f cdv A outer s H E hr => ?_
  unfold xm_by_plan_NoCount
  exact (xss_cons (n := 0) (RS.up (rs_expr (rx_callC C_need_hall hr (by decide) (by rfl) (ra_cons (re_var 0) ra_nil) (aCons_len aNil_len)).re)) (xss_cons (n := 0) (RS.up (rs_expr (rx_callC C_need_stand hr (by decide) (by rfl) (ra_cons (re_var 0) (ra_cons (re_var 1) ra_nil)) (aCons_len (aCons_len aNil_len))).re)) (xss_cons (n := 0) (RS.up (rs_expr (rx_callC C_need_plan hr (by decide) (by rfl) (ra_cons (re_var 0) (ra_cons (re_var 2) ra_nil)) (aCons_len (aCons_len aNil_len))).re)) (xss_now (xs_expr (xe_callC takes_cx X_need_count hr (by decide) (by rfl) (ra_cons (re_var 3) ra_nil) (aCons_len aNil_len)))))))
abbrev s_comes_round : Stmt := topS 49
theorem sc_comes_round : FnScope ["hall", "stand", "plan", "found", "first"] ["hall", "stand", "plan"] (defScope s_comes_round) := ⟨rfl, rfl, rfl, by decide +kernel, rfl, by decide +kernel, by decide +kernel⟩
def xm_comes_round_NoHall (n : Nat) : Rho → Bool := xCall (aCons (gv 0) (aNil)) (exc_need_hall n)
def exc_comes_round_NoHall (n : Nat) : List PyData → Bool := runX 5 (xm_comes_round_NoHall n)
theorem okx_comes_round_NoHall {P : Program} {w : World} {K : PySem.W.Frag} {mg : Str → Option Value} {base : Heap} {n : Nat} {C : Addr} (B : BF mg) (D : DF K mg "comes_round" s_comes_round ["hall", "stand", "plan"]) (X_need_hall : CFX P w K mg base 4 "need_hall" ["hall"] (spX P w K 1 (exc_need_hall n) (PhiP C))) : CFX P w K mg base 6 "comes_round" ["hall", "stand", "plan"] (spX P w K 3 (exc_comes_round_NoHall n) (PhiP C)) := by
  refine cfX (k := 5) D sc_comes_round fun f cdv A outer s H E hr => ?_
  unfold xm_comes_round_NoHall
  exact (xss_now (xs_expr (xe_callC takes_cx X_need_hall hr (by decide) (by rfl) (ra_cons (re_var 0) ra_nil) (aCons_len aNil_len))))
def xm_comes_round_NoStand (n : Nat) : Rho → Bool := xSeq (sExpr (bnd (dcall (den_need_hall n) (aCons (gv 0) (aNil))) frz)) (xCall (aCons (gv 0) (aCons (gv 1) (aNil))) (exc_need_stand n))
def exc_comes_round_NoStand (n : Nat) : List PyData → Bool := runX 5 (xm_comes_round_NoStand n)
theorem okx_comes_round_NoStand {P : Program} {w : World} {K : PySem.W.Frag} {mg : Str → Option Value} {base : Heap} {n : Nat} {C : Addr} (B : BF mg) (D : DF K mg "comes_round" s_comes_round ["hall", "stand", "plan"]) (X_need_stand : CFX P w K mg base 3 "need_stand" ["hall", "stand"] (spX P w K 2 (exc_need_stand n) (PhiP C))) (C_need_hall : CF P w K mg base 4 "need_hall" ["hall"] (sp0 P w K 1 (den_need_hall n))) : CFX P w K mg base 6 "comes_round" ["hall", "stand", "plan"] (spX P w K 3 (exc_comes_round_NoStand n) (PhiP C)) := by
  refine cfX (k := 5) D sc_comes_round fun f cdv A outer s H E hr => ?_
  unfold xm_comes_round_NoStand
  exact (xss_cons (n := 0) (RS.up (rs_expr (rx_callC C_need_hall hr (by decide) (by rfl) (ra_cons (re_var 0) ra_nil) (aCons_len aNil_len)).re)) (xss_now (xs_expr (xe_callC takes_cx X_need_stand hr (by decide) (by rfl) (ra_cons (re_var 0) (ra_cons (re_var 1) ra_nil)) (aCons_len (aCons_len aNil_len))))))
def xm_comes_round_NoPlan (n : Nat) : Rho → Bool := xSeq (sExpr (bnd (dcall (den_need_hall n) (aCons (gv 0) (aNil))) frz)) (xSeq (sExpr (bnd (dcall (den_need_stand n) (aCons (gv 0) (aCons (gv 1) (aNil)))) frz)) (xCall (aCons (gv 0) (aCons (gv 2) (aNil))) (exc_need_plan n)))
def exc_comes_round_NoPlan (n : Nat) : List PyData → Bool := runX 5 (xm_comes_round_NoPlan n)
theorem okx_comes_round_NoPlan {P : Program} {w : World} {K : PySem.W.Frag} {mg : Str → Option Value} {base : Heap} {n : Nat} {C : Addr} (B : BF mg) (D : DF K mg "comes_round" s_comes_round ["hall", "stand", "plan"]) (X_need_plan : CFX P w K mg base 5 "need_plan" ["hall", "plan"] (spX P w K 2 (exc_need_plan n) (PhiP C))) (C_need_hall : CF P w K mg base 4 "need_hall" ["hall"] (sp0 P w K 1 (den_need_hall n))) (C_need_stand : CF P w K mg base 3 "need_stand" ["hall", "stand"] (sp0 P w K 2 (den_need_stand n))) : CFX P w K mg base 6 "comes_round" ["hall", "stand", "plan"] (spX P w K 3 (exc_comes_round_NoPlan n) (PhiP C)) := by
  refine cfX (k := 5) D sc_comes_round fun f cdv A outer s H E hr => ?_
  unfold xm_comes_round_NoPlan
  exact (xss_cons (n := 0) (RS.up (rs_expr (rx_callC C_need_hall hr (by decide) (by rfl) (ra_cons (re_var 0) ra_nil) (aCons_len aNil_len)).re)) (xss_cons (n := 0) (RS.up (rs_expr (rx_callC C_need_stand hr (by decide) (by rfl) (ra_cons (re_var 0) (ra_cons (re_var 1) ra_nil)) (aCons_len (aCons_len aNil_len))).re)) (xss_now (xs_expr (xe_callC takes_cx X_need_plan hr (by decide) (by rfl) (ra_cons (re_var 0) (ra_cons (re_var 2) ra_nil)) (aCons_len (aCons_len aNil_len)))))))
abbrev s_kept_from : Stmt := topS 53
theorem sc_kept_from : FnScope ["hall", "stand", "plan"] ["hall", "stand", "plan"] (defScope s_kept_from) := ⟨rfl, rfl, rfl, by decide +kernel, rfl, by decide +kernel, by decide +kernel⟩
def xm_kept_from_NoHall (n : Nat) : Rho → Bool := xCall (aCons (gv 0) (aNil)) (exc_need_hall n)
def exc_kept_from_NoHall (n : Nat) : List PyData → Bool := runX 3 (xm_kept_from_NoHall n)
theorem okx_kept_from_NoHall {P : Program} {w : World} {K : PySem.W.Frag} {mg : Str → Option Value} {base : Heap} {n : Nat} {C : Addr} (B : BF mg) (D : DF K mg "kept_from" s_kept_from ["hall", "stand", "plan"]) (X_need_hall : CFX P w K mg base 4 "need_hall" ["hall"] (spX P w K 1 (exc_need_hall n) (PhiP C))) : CFX P w K mg base 6 "kept_from" ["hall", "stand", "plan"] (spX P w K 3 (exc_kept_from_NoHall n) (PhiP C)) := by
  refine cfX (k := 5) D sc_kept_from fun f cdv A outer s H E hr => ?_
  unfold xm_kept_from_NoHall
  exact (xss_now (xs_expr (xe_callC takes_cx X_need_hall hr (by decide) (by rfl) (ra_cons (re_var 0) ra_nil) (aCons_len aNil_len))))
def xm_kept_from_NoStand (n : Nat) : Rho → Bool := xSeq (sExpr (bnd (dcall (den_need_hall n) (aCons (gv 0) (aNil))) frz)) (xCall (aCons (gv 0) (aCons (gv 1) (aNil))) (exc_need_stand n))
def exc_kept_from_NoStand (n : Nat) : List PyData → Bool := runX 3 (xm_kept_from_NoStand n)
theorem okx_kept_from_NoStand {P : Program} {w : World} {K : PySem.W.Frag} {mg : Str → Option Value} {base : Heap} {n : Nat} {C : Addr} (B : BF mg) (D : DF K mg "kept_from" s_kept_from ["hall", "stand", "plan"]) (X_need_stand : CFX P w K mg base 3 "need_stand" ["hall", "stand"] (spX P w K 2 (exc_need_stand n) (PhiP C))) (C_need_hall : CF P w K mg base 4 "need_hall" ["hall"] (sp0 P w K 1 (den_need_hall n))) : CFX P w K mg base 6 "kept_from" ["hall", "stand", "plan"] (spX P w K 3 (exc_kept_from_NoStand n) (PhiP C)) := by
  refine cfX (k := 5) D sc_kept_from fun f cdv A outer s H E hr => ?_
  unfold xm_kept_from_NoStand
  exact (xss_cons (n := 0) (RS.up (rs_expr (rx_callC C_need_hall hr (by decide) (by rfl) (ra_cons (re_var 0) ra_nil) (aCons_len aNil_len)).re)) (xss_now (xs_expr (xe_callC takes_cx X_need_stand hr (by decide) (by rfl) (ra_cons (re_var 0) (ra_cons (re_var 1) ra_nil)) (aCons_len (aCons_len aNil_len))))))
def xm_kept_from_NoPlan (n : Nat) : Rho → Bool := xSeq (sExpr (bnd (dcall (den_need_hall n) (aCons (gv 0) (aNil))) frz)) (xSeq (sExpr (bnd (dcall (den_need_stand n) (aCons (gv 0) (aCons (gv 1) (aNil)))) frz)) (xCall (aCons (gv 0) (aCons (gv 2) (aNil))) (exc_need_plan n)))
def exc_kept_from_NoPlan (n : Nat) : List PyData → Bool := runX 3 (xm_kept_from_NoPlan n)
theorem okx_kept_from_NoPlan {P : Program} {w : World} {K : PySem.W.Frag} {mg : Str → Option Value} {base : Heap} {n : Nat} {C : Addr} (B : BF mg) (D : DF K mg "kept_from" s_kept_from ["hall", "stand", "plan"]) (X_need_plan : CFX P w K mg base 5 "need_plan" ["hall", "plan"] (spX P w K 2 (exc_need_plan n) (PhiP C))) (C_need_hall : CF P w K mg base 4 "need_hall" ["hall"] (sp0 P w K 1 (den_need_hall n))) (C_need_stand : CF P w K mg base 3 "need_stand" ["hall", "stand"] (sp0 P w K 2 (den_need_stand n))) : CFX P w K mg base 6 "kept_from" ["hall", "stand", "plan"] (spX P w K 3 (exc_kept_from_NoPlan n) (PhiP C)) := by
  refine cfX (k := 5) D sc_kept_from fun f cdv A outer s H E hr => ?_
  unfold xm_kept_from_NoPlan
  exact (xss_cons (n := 0) (RS.up (rs_expr (rx_callC C_need_hall hr (by decide) (by rfl) (ra_cons (re_var 0) ra_nil) (aCons_len aNil_len)).re)) (xss_cons (n := 0) (RS.up (rs_expr (rx_callC C_need_stand hr (by decide) (by rfl) (ra_cons (re_var 0) (ra_cons (re_var 1) ra_nil)) (aCons_len (aCons_len aNil_len))).re)) (xss_now (xs_expr (xe_callC takes_cx X_need_plan hr (by decide) (by rfl) (ra_cons (re_var 0) (ra_cons (re_var 2) ra_nil)) (aCons_len (aCons_len aNil_len)))))))
abbrev s_lessons : Stmt := topS 68
theorem sc_lessons : FnScope ["hall", "stand", "wish", "line", "seen", "here", "row", "longer", "meeting", "there"] ["hall", "stand", "wish"] (defScope s_lessons) := ⟨rfl, rfl, rfl, by decide +kernel, rfl, by decide +kernel, by decide +kernel⟩
def xm_lessons_NoHall (n : Nat) : Rho → Bool := xCall (aCons (gv 0) (aNil)) (exc_need_hall n)
def exc_lessons_NoHall (n : Nat) : List PyData → Bool := runX 10 (xm_lessons_NoHall n)
theorem okx_lessons_NoHall {P : Program} {w : World} {K : PySem.W.Frag} {mg : Str → Option Value} {base : Heap} {n : Nat} {C : Addr} (B : BF mg) (D : DF K mg "lessons" s_lessons ["hall", "stand", "wish"]) (X_need_hall : CFX P w K mg base 4 "need_hall" ["hall"] (spX P w K 1 (exc_need_hall n) (PhiP C))) : CFX P w K mg base 5 "lessons" ["hall", "stand", "wish"] (spX P w K 3 (exc_lessons_NoHall n) (PhiP C)) := by
  refine cfX (k := 4) D sc_lessons fun f cdv A outer s H E hr => ?_
  unfold xm_lessons_NoHall
  exact (xss_now (xs_expr (xe_callC takes_cx X_need_hall hr (by decide) (by rfl) (ra_cons (re_var 0) ra_nil) (aCons_len aNil_len))))
def xm_lessons_NoStand (n : Nat) : Rho → Bool := fun r => (xSeq (sExpr (bnd (dcall (den_need_hall n) (aCons (gv 0) (aNil))) frz)) (xCall (aCons (gv 0) (aCons (gv 1) (aNil))) (exc_need_stand n))) r || (xSeq (sExpr (bnd (dcall (den_need_hall n) (aCons (gv 0) (aNil))) frz)) (xSeq (sExpr (bnd (dcall (den_need_stand n) (aCons (gv 0) (aCons (gv 1) (aNil)))) frz)) (xCall (aCons (gv 0) (aCons (gv 2) (aNil))) (exc_need_stand n)))) r
def exc_lessons_NoStand (n : Nat) : List PyData → Bool := runX 10 (xm_lessons_NoStand n)
theorem okx_lessons_NoStand {P : Program} {w : World} {K : PySem.W.Frag} {mg : Str → Option Value} {base : Heap} {n : Nat} {C : Addr} (B : BF mg) (D : DF K mg "lessons" s_lessons ["hall", "stand", "wish"]) (X_need_stand : CFX P w K mg base 3 "need_stand" ["hall", "stand"] (spX P w K 2 (exc_need_stand n) (PhiP C))) (C_need_hall : CF P w K mg base 4 "need_hall" ["hall"] (sp0 P w K 1 (den_need_hall n))) (C_need_stand : CF P w K mg base 3 "need_stand" ["hall", "stand"] (sp0 P w K 2 (den_need_stand n))) : CFX P w K mg base 5 "lessons" ["hall", "stand", "wish"] (spX P w K 3 (exc_lessons_NoStand n) (PhiP C)) := by
  refine cfX (k := 4) D sc_lessons fun f cdv A outer s H E hr => ?_
  unfold xm_lessons_NoStand
  exact (xss_or (xss_cons (n := 0) (RS.up (rs_expr (rx_callC C_need_hall hr (by decide) (by rfl) (ra_cons (re_var 0) ra_nil) (aCons_len aNil_len)).re)) (xss_now (xs_expr (xe_callC takes_cx X_need_stand hr (by decide) (by rfl) (ra_cons (re_var 0) (ra_cons (re_var 1) ra_nil)) (aCons_len (aCons_len aNil_len)))))) (xss_cons (n := 0) (RS.up (rs_expr (rx_callC C_need_hall hr (by decide) (by rfl) (ra_cons (re_var 0) ra_nil) (aCons_len aNil_len)).re)) (xss_cons (n := 0) (RS.up (rs_expr (rx_callC C_need_stand hr (by decide) (by rfl) (ra_cons (re_var 0) (ra_cons (re_var 1) ra_nil)) (aCons_len (aCons_len aNil_len))).re)) (xss_now (xs_expr (xe_callC takes_cx X_need_stand hr (by decide) (by rfl) (ra_cons (re_var 0) (ra_cons (re_var 2) ra_nil)) (aCons_len (aCons_len aNil_len))))))))
abbrev s_is_shown : Stmt := topS 69
theorem sc_is_shown : FnScope ["hall", "stand", "wish", "paper", "last", "meeting"] ["hall", "stand", "wish", "paper"] (defScope s_is_shown) := ⟨rfl, rfl, rfl, by decide +kernel, rfl, by decide +kernel, by decide +kernel⟩
def xm_is_shown_NoHall (n : Nat) : Rho → Bool := xCall (aCons (gv 0) (aNil)) (exc_need_hall n)
def exc_is_shown_NoHall (n : Nat) : List PyData → Bool := runX 6 (xm_is_shown_NoHall n)
theorem okx_is_shown_NoHall {P : Program} {w : World} {K : PySem.W.Frag} {mg : Str → Option Value} {base : Heap} {n : Nat} {C : Addr} (B : BF mg) (D : DF K mg "is_shown" s_is_shown ["hall", "stand", "wish", "paper"]) (X_need_hall : CFX P w K mg base 4 "need_hall" ["hall"] (spX P w K 1 (exc_need_hall n) (PhiP C))) : CFX P w K mg base 5 "is_shown" ["hall", "stand", "wish", "paper"] (spX P w K 4 (exc_is_shown_NoHall n) (PhiP C)) := by
  refine cfX (k := 4) D sc_is_shown fun f cdv A outer s H E hr => ?_
  unfold xm_is_shown_NoHall
  exact (xss_now (xs_expr (xe_callC takes_cx X_need_hall hr (by decide) (by rfl) (ra_cons (re_var 0) ra_nil) (aCons_len aNil_len))))
def xm_is_shown_NoStand (n : Nat) : Rho → Bool := fun r => (xSeq (sExpr (bnd (dcall (den_need_hall n) (aCons (gv 0) (aNil))) frz)) (xCall (aCons (gv 0) (aCons (gv 1) (aNil))) (exc_need_stand n))) r || (xSeq (sExpr (bnd (dcall (den_need_hall n) (aCons (gv 0) (aNil))) frz)) (xSeq (sExpr (bnd (dcall (den_need_stand n) (aCons (gv 0) (aCons (gv 1) (aNil)))) frz)) (xCall (aCons (gv 0) (aCons (gv 2) (aNil))) (exc_need_stand n)))) r
def exc_is_shown_NoStand (n : Nat) : List PyData → Bool := runX 6 (xm_is_shown_NoStand n)
theorem okx_is_shown_NoStand {P : Program} {w : World} {K : PySem.W.Frag} {mg : Str → Option Value} {base : Heap} {n : Nat} {C : Addr} (B : BF mg) (D : DF K mg "is_shown" s_is_shown ["hall", "stand", "wish", "paper"]) (X_need_stand : CFX P w K mg base 3 "need_stand" ["hall", "stand"] (spX P w K 2 (exc_need_stand n) (PhiP C))) (C_need_hall : CF P w K mg base 4 "need_hall" ["hall"] (sp0 P w K 1 (den_need_hall n))) (C_need_stand : CF P w K mg base 3 "need_stand" ["hall", "stand"] (sp0 P w K 2 (den_need_stand n))) : CFX P w K mg base 5 "is_shown" ["hall", "stand", "wish", "paper"] (spX P w K 4 (exc_is_shown_NoStand n) (PhiP C)) := by
  refine cfX (k := 4) D sc_is_shown fun f cdv A outer s H E hr => ?_
  unfold xm_is_shown_NoStand
  exact (xss_or (xss_cons (n := 0) (RS.up (rs_expr (rx_callC C_need_hall hr (by decide) (by rfl) (ra_cons (re_var 0) ra_nil) (aCons_len aNil_len)).re)) (xss_now (xs_expr (xe_callC takes_cx X_need_stand hr (by decide) (by rfl) (ra_cons (re_var 0) (ra_cons (re_var 1) ra_nil)) (aCons_len (aCons_len aNil_len)))))) (xss_cons (n := 0) (RS.up (rs_expr (rx_callC C_need_hall hr (by decide) (by rfl) (ra_cons (re_var 0) ra_nil) (aCons_len aNil_len)).re)) (xss_cons (n := 0) (RS.up (rs_expr (rx_callC C_need_stand hr (by decide) (by rfl) (ra_cons (re_var 0) (ra_cons (re_var 1) ra_nil)) (aCons_len (aCons_len aNil_len))).re)) (xss_now (xs_expr (xe_callC takes_cx X_need_stand hr (by decide) (by rfl) (ra_cons (re_var 0) (ra_cons (re_var 2) ra_nil)) (aCons_len (aCons_len aNil_len))))))))
abbrev s_ends : Stmt := topS 72
theorem sc_ends : FnScope ["hall", "stand", "beat", "order"] ["hall", "stand", "beat"] (defScope s_ends) := ⟨rfl, rfl, rfl, by decide +kernel, rfl, by decide +kernel, by decide +kernel⟩
def xm_ends_NoHall (n : Nat) : Rho → Bool := xCall (aCons (gv 0) (aNil)) (exc_need_hall n)
def exc_ends_NoHall (n : Nat) : List PyData → Bool := runX 4 (xm_ends_NoHall n)
theorem okx_ends_NoHall {P : Program} {w : World} {K : PySem.W.Frag} {mg : Str → Option Value} {base : Heap} {n : Nat} {C : Addr} (B : BF mg) (D : DF K mg "ends" s_ends ["hall", "stand", "beat"]) (X_need_hall : CFX P w K mg base 4 "need_hall" ["hall"] (spX P w K 1 (exc_need_hall n) (PhiP C))) : CFX P w K mg base 5 "ends" ["hall", "stand", "beat"] (spX P w K 3 (exc_ends_NoHall n) (PhiP C)) := by
  refine cfX (k := 4) D sc_ends fun f cdv A outer s H E hr => ?_
  unfold xm_ends_NoHall
  exact (xss_now (xs_expr (xe_callC takes_cx X_need_hall hr (by decide) (by rfl) (ra_cons (re_var 0) ra_nil) (aCons_len aNil_len))))
def xm_ends_NoStand (n : Nat) : Rho → Bool := xSeq (sExpr (bnd (dcall (den_need_hall n) (aCons (gv 0) (aNil))) frz)) (xCall (aCons (gv 0) (aCons (gv 1) (aNil))) (exc_need_stand n))
def exc_ends_NoStand (n : Nat) : List PyData → Bool := runX 4 (xm_ends_NoStand n)
theorem okx_ends_NoStand {P : Program} {w : World} {K : PySem.W.Frag} {mg : Str → Option Value} {base : Heap} {n : Nat} {C : Addr} (B : BF mg) (D : DF K mg "ends" s_ends ["hall", "stand", "beat"]) (X_need_stand : CFX P w K mg base 3 "need_stand" ["hall", "stand"] (spX P w K 2 (exc_need_stand n) (PhiP C))) (C_need_hall : CF P w K mg base 4 "need_hall" ["hall"] (sp0 P w K 1 (den_need_hall n))) : CFX P w K mg base 5 "ends" ["hall", "stand", "beat"] (spX P w K 3 (exc_ends_NoStand n) (PhiP C)) := by
  refine cfX (k := 4) D sc_ends fun f cdv A outer s H E hr => ?_
  unfold xm_ends_NoStand
  exact (xss_cons (n := 0) (RS.up (rs_expr (rx_callC C_need_hall hr (by decide) (by rfl) (ra_cons (re_var 0) ra_nil) (aCons_len aNil_len)).re)) (xss_now (xs_expr (xe_callC takes_cx X_need_stand hr (by decide) (by rfl) (ra_cons (re_var 0) (ra_cons (re_var 1) ra_nil)) (aCons_len (aCons_len aNil_len))))))
def xm_ends_NoBeat (n : Nat) : Rho → Bool := xSeq (sExpr (bnd (dcall (den_need_hall n) (aCons (gv 0) (aNil))) frz)) (xSeq (sExpr (bnd (dcall (den_need_stand n) (aCons (gv 0) (aCons (gv 1) (aNil)))) frz)) (xCall (aCons (gv 0) (aCons (gv 2) (aNil))) (exc_need_beat n)))
def exc_ends_NoBeat (n : Nat) : List PyData → Bool := runX 4 (xm_ends_NoBeat n)
theorem okx_ends_NoBeat {P : Program} {w : World} {K : PySem.W.Frag} {mg : Str → Option Value} {base : Heap} {n : Nat} {C : Addr} (B : BF mg) (D : DF K mg "ends" s_ends ["hall", "stand", "beat"]) (X_need_beat : CFX P w K mg base 4 "need_beat" ["hall", "beat"] (spX P w K 2 (exc_need_beat n) (PhiP C))) (C_need_hall : CF P w K mg base 4 "need_hall" ["hall"] (sp0 P w K 1 (den_need_hall n))) (C_need_stand : CF P w K mg base 3 "need_stand" ["hall", "stand"] (sp0 P w K 2 (den_need_stand n))) : CFX P w K mg base 5 "ends" ["hall", "stand", "beat"] (spX P w K 3 (exc_ends_NoBeat n) (PhiP C)) := by
  refine cfX (k := 4) D sc_ends fun f cdv A outer s H E hr => ?_
  unfold xm_ends_NoBeat
  exact (xss_cons (n := 0) (RS.up (rs_expr (rx_callC C_need_hall hr (by decide) (by rfl) (ra_cons (re_var 0) ra_nil) (aCons_len aNil_len)).re)) (xss_cons (n := 0) (RS.up (rs_expr (rx_callC C_need_stand hr (by decide) (by rfl) (ra_cons (re_var 0) (ra_cons (re_var 1) ra_nil)) (aCons_len (aCons_len aNil_len))).re)) (xss_now (xs_expr (xe_callC takes_cx X_need_beat hr (by decide) (by rfl) (ra_cons (re_var 0) (ra_cons (re_var 2) ra_nil)) (aCons_len (aCons_len aNil_len)))))))
abbrev s_ahead : Stmt := topS 74
theorem sc_ahead : FnScope ["hall", "stand", "beat", "one"] ["hall", "stand", "beat"] (defScope s_ahead) := ⟨rfl, rfl, rfl, by decide +kernel, rfl, by decide +kernel, by decide +kernel⟩
def xm_ahead_NoHall (n : Nat) : Rho → Bool := xCall (aCons (gv 0) (aNil)) (exc_need_hall n)
def exc_ahead_NoHall (n : Nat) : List PyData → Bool := runX 4 (xm_ahead_NoHall n)
theorem okx_ahead_NoHall {P : Program} {w : World} {K : PySem.W.Frag} {mg : Str → Option Value} {base : Heap} {n : Nat} {C : Addr} (B : BF mg) (D : DF K mg "ahead" s_ahead ["hall", "stand", "beat"]) (X_need_hall : CFX P w K mg base 4 "need_hall" ["hall"] (spX P w K 1 (exc_need_hall n) (PhiP C))) : CFX P w K mg base 5 "ahead" ["hall", "stand", "beat"] (spX P w K 3 (exc_ahead_NoHall n) (PhiP C)) := by
  refine cfX (k := 4) D sc_ahead fun f cdv A outer s H E hr => ?_
  unfold xm_ahead_NoHall
  exact (xss_now (xs_expr (xe_callC takes_cx X_need_hall hr (by decide) (by rfl) (ra_cons (re_var 0) ra_nil) (aCons_len aNil_len))))
def xm_ahead_NoStand (n : Nat) : Rho → Bool := xSeq (sExpr (bnd (dcall (den_need_hall n) (aCons (gv 0) (aNil))) frz)) (xCall (aCons (gv 0) (aCons (gv 1) (aNil))) (exc_need_stand n))
def exc_ahead_NoStand (n : Nat) : List PyData → Bool := runX 4 (xm_ahead_NoStand n)
theorem okx_ahead_NoStand {P : Program} {w : World} {K : PySem.W.Frag} {mg : Str → Option Value} {base : Heap} {n : Nat} {C : Addr} (B : BF mg) (D : DF K mg "ahead" s_ahead ["hall", "stand", "beat"]) (X_need_stand : CFX P w K mg base 3 "need_stand" ["hall", "stand"] (spX P w K 2 (exc_need_stand n) (PhiP C))) (C_need_hall : CF P w K mg base 4 "need_hall" ["hall"] (sp0 P w K 1 (den_need_hall n))) : CFX P w K mg base 5 "ahead" ["hall", "stand", "beat"] (spX P w K 3 (exc_ahead_NoStand n) (PhiP C)) := by
  refine cfX (k := 4) D sc_ahead fun f cdv A outer s H E hr => ?_
  unfold xm_ahead_NoStand
  exact (xss_cons (n := 0) (RS.up (rs_expr (rx_callC C_need_hall hr (by decide) (by rfl) (ra_cons (re_var 0) ra_nil) (aCons_len aNil_len)).re)) (xss_now (xs_expr (xe_callC takes_cx X_need_stand hr (by decide) (by rfl) (ra_cons (re_var 0) (ra_cons (re_var 1) ra_nil)) (aCons_len (aCons_len aNil_len))))))
def xm_ahead_NoBeat (n : Nat) : Rho → Bool := xSeq (sExpr (bnd (dcall (den_need_hall n) (aCons (gv 0) (aNil))) frz)) (xSeq (sExpr (bnd (dcall (den_need_stand n) (aCons (gv 0) (aCons (gv 1) (aNil)))) frz)) (xCall (aCons (gv 0) (aCons (gv 2) (aNil))) (exc_need_beat n)))
def exc_ahead_NoBeat (n : Nat) : List PyData → Bool := runX 4 (xm_ahead_NoBeat n)
theorem okx_ahead_NoBeat {P : Program} {w : World} {K : PySem.W.Frag} {mg : Str → Option Value} {base : Heap} {n : Nat} {C : Addr} (B : BF mg) (D : DF K mg "ahead" s_ahead ["hall", "stand", "beat"]) (X_need_beat : CFX P w K mg base 4 "need_beat" ["hall", "beat"] (spX P w K 2 (exc_need_beat n) (PhiP C))) (C_need_hall : CF P w K mg base 4 "need_hall" ["hall"] (sp0 P w K 1 (den_need_hall n))) (C_need_stand : CF P w K mg base 3 "need_stand" ["hall", "stand"] (sp0 P w K 2 (den_need_stand n))) : CFX P w K mg base 5 "ahead" ["hall", "stand", "beat"] (spX P w K 3 (exc_ahead_NoBeat n) (PhiP C)) := by
  refine cfX (k := 4) D sc_ahead fun f cdv A outer s H E hr => ?_
  unfold xm_ahead_NoBeat
  exact (xss_cons (n := 0) (RS.up (rs_expr (rx_callC C_need_hall hr (by decide) (by rfl) (ra_cons (re_var 0) ra_nil) (aCons_len aNil_len)).re)) (xss_cons (n := 0) (RS.up (rs_expr (rx_callC C_need_stand hr (by decide) (by rfl) (ra_cons (re_var 0) (ra_cons (re_var 1) ra_nil)) (aCons_len (aCons_len aNil_len))).re)) (xss_now (xs_expr (xe_callC takes_cx X_need_beat hr (by decide) (by rfl) (ra_cons (re_var 0) (ra_cons (re_var 2) ra_nil)) (aCons_len (aCons_len aNil_len)))))))
abbrev s_can_be_kept : Stmt := topS 54
theorem sc_can_be_kept : FnScope ["hall", "plan"] ["hall", "plan"] (defScope s_can_be_kept) := ⟨rfl, rfl, rfl, by decide +kernel, rfl, by decide +kernel, by decide +kernel⟩
def xm_can_be_kept_NoHall (n : Nat) : Rho → Bool := xCall (aCons (gv 0) (aNil)) (exc_need_hall n)
def exc_can_be_kept_NoHall (n : Nat) : List PyData → Bool := runX 2 (xm_can_be_kept_NoHall n)
theorem okx_can_be_kept_NoHall {P : Program} {w : World} {K : PySem.W.Frag} {mg : Str → Option Value} {base : Heap} {n : Nat} {C : Addr} (B : BF mg) (D : DF K mg "can_be_kept" s_can_be_kept ["hall", "plan"]) (X_need_hall : CFX P w K mg base 4 "need_hall" ["hall"] (spX P w K 1 (exc_need_hall n) (PhiP C))) : CFX P w K mg base 6 "can_be_kept" ["hall", "plan"] (spX P w K 2 (exc_can_be_kept_NoHall n) (PhiP C)) := by
  refine cfX (k := 5) D sc_can_be_kept fun f cdv A outer s H E hr => ?_
  unfold xm_can_be_kept_NoHall
  exact (xss_now (xs_expr (xe_callC takes_cx X_need_hall hr (by decide) (by rfl) (ra_cons (re_var 0) ra_nil) (aCons_len aNil_len))))
def xm_can_be_kept_NoPlan (n : Nat) : Rho → Bool := xSeq (sExpr (bnd (dcall (den_need_hall n) (aCons (gv 0) (aNil))) frz)) (xCall (aCons (gv 0) (aCons (gv 1) (aNil))) (exc_need_plan n))
def exc_can_be_kept_NoPlan (n : Nat) : List PyData → Bool := runX 2 (xm_can_be_kept_NoPlan n)
theorem okx_can_be_kept_NoPlan {P : Program} {w : World} {K : PySem.W.Frag} {mg : Str → Option Value} {base : Heap} {n : Nat} {C : Addr} (B : BF mg) (D : DF K mg "can_be_kept" s_can_be_kept ["hall", "plan"]) (X_need_plan : CFX P w K mg base 5 "need_plan" ["hall", "plan"] (spX P w K 2 (exc_need_plan n) (PhiP C))) (C_need_hall : CF P w K mg base 4 "need_hall" ["hall"] (sp0 P w K 1 (den_need_hall n))) : CFX P w K mg base 6 "can_be_kept" ["hall", "plan"] (spX P w K 2 (exc_can_be_kept_NoPlan n) (PhiP C)) := by
  refine cfX (k := 5) D sc_can_be_kept fun f cdv A outer s H E hr => ?_
  unfold xm_can_be_kept_NoPlan
  exact (xss_cons (n := 0) (RS.up (rs_expr (rx_callC C_need_hall hr (by decide) (by rfl) (ra_cons (re_var 0) ra_nil) (aCons_len aNil_len)).re)) (xss_now (xs_expr (xe_callC takes_cx X_need_plan hr (by decide) (by rfl) (ra_cons (re_var 0) (ra_cons (re_var 1) ra_nil)) (aCons_len (aCons_len aNil_len))))))
abbrev s_greatest : Stmt := topS 56
theorem sc_greatest : FnScope ["hall", "plan"] ["hall", "plan"] (defScope s_greatest) := ⟨rfl, rfl, rfl, by decide +kernel, rfl, by decide +kernel, by decide +kernel⟩
def xm_greatest_NoHall (n : Nat) : Rho → Bool := xCall (aCons (gv 0) (aNil)) (exc_need_hall n)
def exc_greatest_NoHall (n : Nat) : List PyData → Bool := runX 2 (xm_greatest_NoHall n)
theorem okx_greatest_NoHall {P : Program} {w : World} {K : PySem.W.Frag} {mg : Str → Option Value} {base : Heap} {n : Nat} {C : Addr} (B : BF mg) (D : DF K mg "greatest" s_greatest ["hall", "plan"]) (X_need_hall : CFX P w K mg base 4 "need_hall" ["hall"] (spX P w K 1 (exc_need_hall n) (PhiP C))) : CFX P w K mg base 6 "greatest" ["hall", "plan"] (spX P w K 2 (exc_greatest_NoHall n) (PhiP C)) := by
  refine cfX (k := 5) D sc_greatest fun f cdv A outer s H E hr => ?_
  unfold xm_greatest_NoHall
  exact (xss_now (xs_expr (xe_callC takes_cx X_need_hall hr (by decide) (by rfl) (ra_cons (re_var 0) ra_nil) (aCons_len aNil_len))))
def xm_greatest_NoPlan (n : Nat) : Rho → Bool := xSeq (sExpr (bnd (dcall (den_need_hall n) (aCons (gv 0) (aNil))) frz)) (xCall (aCons (gv 0) (aCons (gv 1) (aNil))) (exc_need_plan n))
def exc_greatest_NoPlan (n : Nat) : List PyData → Bool := runX 2 (xm_greatest_NoPlan n)
theorem okx_greatest_NoPlan {P : Program} {w : World} {K : PySem.W.Frag} {mg : Str → Option Value} {base : Heap} {n : Nat} {C : Addr} (B : BF mg) (D : DF K mg "greatest" s_greatest ["hall", "plan"]) (X_need_plan : CFX P w K mg base 5 "need_plan" ["hall", "plan"] (spX P w K 2 (exc_need_plan n) (PhiP C))) (C_need_hall : CF P w K mg base 4 "need_hall" ["hall"] (sp0 P w K 1 (den_need_hall n))) : CFX P w K mg base 6 "greatest" ["hall", "plan"] (spX P w K 2 (exc_greatest_NoPlan n) (PhiP C)) := by
  refine cfX (k := 5) D sc_greatest fun f cdv A outer s H E hr => ?_
  unfold xm_greatest_NoPlan
  exact (xss_cons (n := 0) (RS.up (rs_expr (rx_callC C_need_hall hr (by decide) (by rfl) (ra_cons (re_var 0) ra_nil) (aCons_len aNil_len)).re)) (xss_now (xs_expr (xe_callC takes_cx X_need_plan hr (by decide) (by rfl) (ra_cons (re_var 0) (ra_cons (re_var 1) ra_nil)) (aCons_len (aCons_len aNil_len))))))
abbrev s_lost_paper : Stmt := topS 58
theorem sc_lost_paper : FnScope ["hall", "plan", "thing"] ["hall", "plan", "thing"] (defScope s_lost_paper) := ⟨rfl, rfl, rfl, by decide +kernel, rfl, by decide +kernel, by decide +kernel⟩
def xm_lost_paper_NoHall (n : Nat) : Rho → Bool := xCall (aCons (gv 0) (aNil)) (exc_need_hall n)
def exc_lost_paper_NoHall (n : Nat) : List PyData → Bool := runX 3 (xm_lost_paper_NoHall n)
theorem okx_lost_paper_NoHall {P : Program} {w : World} {K : PySem.W.Frag} {mg : Str → Option Value} {base : Heap} {n : Nat} {C : Addr} (B : BF mg) (D : DF K mg "lost_paper" s_lost_paper ["hall", "plan", "thing"]) (X_need_hall : CFX P w K mg base 4 "need_hall" ["hall"] (spX P w K 1 (exc_need_hall n) (PhiP C))) : CFX P w K mg base 6 "lost_paper" ["hall", "plan", "thing"] (spX P w K 3 (exc_lost_paper_NoHall n) (PhiP C)) := by
  refine cfX (k := 5) D sc_lost_paper fun f cdv A outer s H E hr => ?_
  unfold xm_lost_paper_NoHall
  exact (xss_now (xs_expr (xe_callC takes_cx X_need_hall hr (by decide) (by rfl) (ra_cons (re_var 0) ra_nil) (aCons_len aNil_len))))
def xm_lost_paper_NoPlan (n : Nat) : Rho → Bool := xSeq (sExpr (bnd (dcall (den_need_hall n) (aCons (gv 0) (aNil))) frz)) (xCall (aCons (gv 0) (aCons (gv 1) (aNil))) (exc_need_plan n))
def exc_lost_paper_NoPlan (n : Nat) : List PyData → Bool := runX 3 (xm_lost_paper_NoPlan n)
theorem okx_lost_paper_NoPlan {P : Program} {w : World} {K : PySem.W.Frag} {mg : Str → Option Value} {base : Heap} {n : Nat} {C : Addr} (B : BF mg) (D : DF K mg "lost_paper" s_lost_paper ["hall", "plan", "thing"]) (X_need_plan : CFX P w K mg base 5 "need_plan" ["hall", "plan"] (spX P w K 2 (exc_need_plan n) (PhiP C))) (C_need_hall : CF P w K mg base 4 "need_hall" ["hall"] (sp0 P w K 1 (den_need_hall n))) : CFX P w K mg base 6 "lost_paper" ["hall", "plan", "thing"] (spX P w K 3 (exc_lost_paper_NoPlan n) (PhiP C)) := by
  refine cfX (k := 5) D sc_lost_paper fun f cdv A outer s H E hr => ?_
  unfold xm_lost_paper_NoPlan
  exact (xss_cons (n := 0) (RS.up (rs_expr (rx_callC C_need_hall hr (by decide) (by rfl) (ra_cons (re_var 0) ra_nil) (aCons_len aNil_len)).re)) (xss_now (xs_expr (xe_callC takes_cx X_need_plan hr (by decide) (by rfl) (ra_cons (re_var 0) (ra_cons (re_var 1) ra_nil)) (aCons_len (aCons_len aNil_len))))))
def xm_lost_paper_NoThing (n : Nat) : Rho → Bool := xSeq (sExpr (bnd (dcall (den_need_hall n) (aCons (gv 0) (aNil))) frz)) (xSeq (sExpr (bnd (dcall (den_need_plan n) (aCons (gv 0) (aCons (gv 1) (aNil)))) frz)) (xCall (aCons (gv 0) (aCons (gv 2) (aNil))) (exc_need_thing n)))
def exc_lost_paper_NoThing (n : Nat) : List PyData → Bool := runX 3 (xm_lost_paper_NoThing n)
theorem okx_lost_paper_NoThing {P : Program} {w : World} {K : PySem.W.Frag} {mg : Str → Option Value} {base : Heap} {n : Nat} {C : Addr} (B : BF mg) (D : DF K mg "lost_paper" s_lost_paper ["hall", "plan", "thing"]) (X_need_thing : CFX P w K mg base 2 "need_thing" ["hall", "thing"] (spX P w K 2 (exc_need_thing n) (PhiP C))) (C_need_hall : CF P w K mg base 4 "need_hall" ["hall"] (sp0 P w K 1 (den_need_hall n))) (C_need_plan : CF P w K mg base 5 "need_plan" ["hall", "plan"] (sp0 P w K 2 (den_need_plan n))) : CFX P w K mg base 6 "lost_paper" ["hall", "plan", "thing"] (spX P w K 3 (exc_lost_paper_NoThing n) (PhiP C)) := by
  refine cfX (k := 5) D sc_lost_paper fun f cdv A outer s H E hr => ?_
  unfold xm_lost_paper_NoThing
  exact (xss_cons (n := 0) (RS.up (rs_expr (rx_callC C_need_hall hr (by decide) (by rfl) (ra_cons (re_var 0) ra_nil) (aCons_len aNil_len)).re)) (xss_cons (n := 0) (RS.up (rs_expr (rx_callC C_need_plan hr (by decide) (by rfl) (ra_cons (re_var 0) (ra_cons (re_var 1) ra_nil)) (aCons_len (aCons_len aNil_len))).re)) (xss_now (xs_expr (xe_callC takes_cx X_need_thing hr (by decide) (by rfl) (ra_cons (re_var 0) (ra_cons (re_var 2) ra_nil)) (aCons_len (aCons_len aNil_len)))))))
abbrev s_lost_shown : Stmt := topS 60
theorem sc_lost_shown : FnScope ["hall", "plan", "thing", "paper", "one", "other", "stand"] ["hall", "plan", "thing", "paper"] (defScope s_lost_shown) := ⟨rfl, rfl, rfl, by decide +kernel, rfl, by decide +kernel, by decide +kernel⟩
def xm_lost_shown_NoHall (n : Nat) : Rho → Bool := xCall (aCons (gv 0) (aNil)) (exc_need_hall n)
def exc_lost_shown_NoHall (n : Nat) : List PyData → Bool := runX 7 (xm_lost_shown_NoHall n)
theorem okx_lost_shown_NoHall {P : Program} {w : World} {K : PySem.W.Frag} {mg : Str → Option Value} {base : Heap} {n : Nat} {C : Addr} (B : BF mg) (D : DF K mg "lost_shown" s_lost_shown ["hall", "plan", "thing", "paper"]) (X_need_hall : CFX P w K mg base 4 "need_hall" ["hall"] (spX P w K 1 (exc_need_hall n) (PhiP C))) : CFX P w K mg base 6 "lost_shown" ["hall", "plan", "thing", "paper"] (spX P w K 4 (exc_lost_shown_NoHall n) (PhiP C)) := by
  refine cfX (k := 5) D sc_lost_shown fun f cdv A outer s H E hr => ?_
  unfold xm_lost_shown_NoHall
  exact (xss_now (xs_expr (xe_callC takes_cx X_need_hall hr (by decide) (by rfl) (ra_cons (re_var 0) ra_nil) (aCons_len aNil_len))))
def xm_lost_shown_NoPlan (n : Nat) : Rho → Bool := xSeq (sExpr (bnd (dcall (den_need_hall n) (aCons (gv 0) (aNil))) frz)) (xCall (aCons (gv 0) (aCons (gv 1) (aNil))) (exc_need_plan n))
def exc_lost_shown_NoPlan (n : Nat) : List PyData → Bool := runX 7 (xm_lost_shown_NoPlan n)
theorem okx_lost_shown_NoPlan {P : Program} {w : World} {K : PySem.W.Frag} {mg : Str → Option Value} {base : Heap} {n : Nat} {C : Addr} (B : BF mg) (D : DF K mg "lost_shown" s_lost_shown ["hall", "plan", "thing", "paper"]) (X_need_plan : CFX P w K mg base 5 "need_plan" ["hall", "plan"] (spX P w K 2 (exc_need_plan n) (PhiP C))) (C_need_hall : CF P w K mg base 4 "need_hall" ["hall"] (sp0 P w K 1 (den_need_hall n))) : CFX P w K mg base 6 "lost_shown" ["hall", "plan", "thing", "paper"] (spX P w K 4 (exc_lost_shown_NoPlan n) (PhiP C)) := by
  refine cfX (k := 5) D sc_lost_shown fun f cdv A outer s H E hr => ?_
  unfold xm_lost_shown_NoPlan
  exact (xss_cons (n := 0) (RS.up (rs_expr (rx_callC C_need_hall hr (by decide) (by rfl) (ra_cons (re_var 0) ra_nil) (aCons_len aNil_len)).re)) (xss_now (xs_expr (xe_callC takes_cx X_need_plan hr (by decide) (by rfl) (ra_cons (re_var 0) (ra_cons (re_var 1) ra_nil)) (aCons_len (aCons_len aNil_len))))))
def xm_lost_shown_NoThing (n : Nat) : Rho → Bool := xSeq (sExpr (bnd (dcall (den_need_hall n) (aCons (gv 0) (aNil))) frz)) (xSeq (sExpr (bnd (dcall (den_need_plan n) (aCons (gv 0) (aCons (gv 1) (aNil)))) frz)) (xCall (aCons (gv 0) (aCons (gv 2) (aNil))) (exc_need_thing n)))
def exc_lost_shown_NoThing (n : Nat) : List PyData → Bool := runX 7 (xm_lost_shown_NoThing n)
theorem okx_lost_shown_NoThing {P : Program} {w : World} {K : PySem.W.Frag} {mg : Str → Option Value} {base : Heap} {n : Nat} {C : Addr} (B : BF mg) (D : DF K mg "lost_shown" s_lost_shown ["hall", "plan", "thing", "paper"]) (X_need_thing : CFX P w K mg base 2 "need_thing" ["hall", "thing"] (spX P w K 2 (exc_need_thing n) (PhiP C))) (C_need_hall : CF P w K mg base 4 "need_hall" ["hall"] (sp0 P w K 1 (den_need_hall n))) (C_need_plan : CF P w K mg base 5 "need_plan" ["hall", "plan"] (sp0 P w K 2 (den_need_plan n))) : CFX P w K mg base 6 "lost_shown" ["hall", "plan", "thing", "paper"] (spX P w K 4 (exc_lost_shown_NoThing n) (PhiP C)) := by
  refine cfX (k := 5) D sc_lost_shown fun f cdv A outer s H E hr => ?_
  unfold xm_lost_shown_NoThing
  exact (xss_cons (n := 0) (RS.up (rs_expr (rx_callC C_need_hall hr (by decide) (by rfl) (ra_cons (re_var 0) ra_nil) (aCons_len aNil_len)).re)) (xss_cons (n := 0) (RS.up (rs_expr (rx_callC C_need_plan hr (by decide) (by rfl) (ra_cons (re_var 0) (ra_cons (re_var 1) ra_nil)) (aCons_len (aCons_len aNil_len))).re)) (xss_now (xs_expr (xe_callC takes_cx X_need_thing hr (by decide) (by rfl) (ra_cons (re_var 0) (ra_cons (re_var 2) ra_nil)) (aCons_len (aCons_len aNil_len)))))))
abbrev s_least_from : Stmt := topS 64
theorem sc_least_from : FnScope ["hall", "plan", "thing", "ends", "kept", "stand", "one"] ["hall", "plan", "thing"] (defScope s_least_from) := ⟨rfl, rfl, rfl, by decide +kernel, rfl, by decide +kernel, by decide +kernel⟩
def xm_least_from_NoHall (n : Nat) : Rho → Bool := xCall (aCons (gv 0) (aNil)) (exc_need_hall n)
def exc_least_from_NoHall (n : Nat) : List PyData → Bool := runX 7 (xm_least_from_NoHall n)
theorem okx_least_from_NoHall {P : Program} {w : World} {K : PySem.W.Frag} {mg : Str → Option Value} {base : Heap} {n : Nat} {C : Addr} (B : BF mg) (D : DF K mg "least_from" s_least_from ["hall", "plan", "thing"]) (X_need_hall : CFX P w K mg base 4 "need_hall" ["hall"] (spX P w K 1 (exc_need_hall n) (PhiP C))) : CFX P w K mg base 6 "least_from" ["hall", "plan", "thing"] (spX P w K 3 (exc_least_from_NoHall n) (PhiP C)) := by
  refine cfX (k := 5) D sc_least_from fun f cdv A outer s H E hr => ?_
  unfold xm_least_from_NoHall
  exact (xss_now (xs_expr (xe_callC takes_cx X_need_hall hr (by decide) (by rfl) (ra_cons (re_var 0) ra_nil) (aCons_len aNil_len))))
def xm_least_from_NoPlan (n : Nat) : Rho → Bool := xSeq (sExpr (bnd (dcall (den_need_hall n) (aCons (gv 0) (aNil))) frz)) (xCall (aCons (gv 0) (aCons (gv 1) (aNil))) (exc_need_plan n))
def exc_least_from_NoPlan (n : Nat) : List PyData → Bool := runX 7 (xm_least_from_NoPlan n)
theorem okx_least_from_NoPlan {P : Program} {w : World} {K : PySem.W.Frag} {mg : Str → Option Value} {base : Heap} {n : Nat} {C : Addr} (B : BF mg) (D : DF K mg "least_from" s_least_from ["hall", "plan", "thing"]) (X_need_plan : CFX P w K mg base 5 "need_plan" ["hall", "plan"] (spX P w K 2 (exc_need_plan n) (PhiP C))) (C_need_hall : CF P w K mg base 4 "need_hall" ["hall"] (sp0 P w K 1 (den_need_hall n))) : CFX P w K mg base 6 "least_from" ["hall", "plan", "thing"] (spX P w K 3 (exc_least_from_NoPlan n) (PhiP C)) := by
  refine cfX (k := 5) D sc_least_from fun f cdv A outer s H E hr => ?_
  unfold xm_least_from_NoPlan
  exact (xss_cons (n := 0) (RS.up (rs_expr (rx_callC C_need_hall hr (by decide) (by rfl) (ra_cons (re_var 0) ra_nil) (aCons_len aNil_len)).re)) (xss_now (xs_expr (xe_callC takes_cx X_need_plan hr (by decide) (by rfl) (ra_cons (re_var 0) (ra_cons (re_var 1) ra_nil)) (aCons_len (aCons_len aNil_len))))))
def xm_least_from_NoThing (n : Nat) : Rho → Bool := xSeq (sExpr (bnd (dcall (den_need_hall n) (aCons (gv 0) (aNil))) frz)) (xSeq (sExpr (bnd (dcall (den_need_plan n) (aCons (gv 0) (aCons (gv 1) (aNil)))) frz)) (xCall (aCons (gv 0) (aCons (gv 2) (aNil))) (exc_need_thing n)))
def exc_least_from_NoThing (n : Nat) : List PyData → Bool := runX 7 (xm_least_from_NoThing n)
theorem okx_least_from_NoThing {P : Program} {w : World} {K : PySem.W.Frag} {mg : Str → Option Value} {base : Heap} {n : Nat} {C : Addr} (B : BF mg) (D : DF K mg "least_from" s_least_from ["hall", "plan", "thing"]) (X_need_thing : CFX P w K mg base 2 "need_thing" ["hall", "thing"] (spX P w K 2 (exc_need_thing n) (PhiP C))) (C_need_hall : CF P w K mg base 4 "need_hall" ["hall"] (sp0 P w K 1 (den_need_hall n))) (C_need_plan : CF P w K mg base 5 "need_plan" ["hall", "plan"] (sp0 P w K 2 (den_need_plan n))) : CFX P w K mg base 6 "least_from" ["hall", "plan", "thing"] (spX P w K 3 (exc_least_from_NoThing n) (PhiP C)) := by
  refine cfX (k := 5) D sc_least_from fun f cdv A outer s H E hr => ?_
  unfold xm_least_from_NoThing
  exact (xss_cons (n := 0) (RS.up (rs_expr (rx_callC C_need_hall hr (by decide) (by rfl) (ra_cons (re_var 0) ra_nil) (aCons_len aNil_len)).re)) (xss_cons (n := 0) (RS.up (rs_expr (rx_callC C_need_plan hr (by decide) (by rfl) (ra_cons (re_var 0) (ra_cons (re_var 1) ra_nil)) (aCons_len (aCons_len aNil_len))).re)) (xss_now (xs_expr (xe_callC takes_cx X_need_thing hr (by decide) (by rfl) (ra_cons (re_var 0) (ra_cons (re_var 2) ra_nil)) (aCons_len (aCons_len aNil_len)))))))
abbrev s_parted : Stmt := topS 76
theorem sc_parted : FnScope ["hall", "one", "other", "begun", "now", "seen", "beats", "spot", "first", "second", "later", "stand", "here"] ["hall", "one", "other"] (defScope s_parted) := ⟨rfl, rfl, rfl, by decide +kernel, rfl, by decide +kernel, by decide +kernel⟩
def xm_parted_NoHall (n : Nat) : Rho → Bool := xCall (aCons (gv 0) (aNil)) (exc_need_hall n)
def exc_parted_NoHall (n : Nat) : List PyData → Bool := runX 13 (xm_parted_NoHall n)
theorem okx_parted_NoHall {P : Program} {w : World} {K : PySem.W.Frag} {mg : Str → Option Value} {base : Heap} {n : Nat} {C : Addr} (B : BF mg) (D : DF K mg "parted" s_parted ["hall", "one", "other"]) (X_need_hall : CFX P w K mg base 4 "need_hall" ["hall"] (spX P w K 1 (exc_need_hall n) (PhiP C))) : CFX P w K mg base 6 "parted" ["hall", "one", "other"] (spX P w K 3 (exc_parted_NoHall n) (PhiP C)) := by
  refine cfX (k := 5) D sc_parted fun f cdv A outer s H E hr => ?_
  unfold xm_parted_NoHall
  exact (xss_now (xs_expr (xe_callC takes_cx X_need_hall hr (by decide) (by rfl) (ra_cons (re_var 0) ra_nil) (aCons_len aNil_len))))
def xm_parted_NoPlan (n : Nat) : Rho → Bool := fun r => (xSeq (sExpr (bnd (dcall (den_need_hall n) (aCons (gv 0) (aNil))) frz)) (xCall (aCons (gv 0) (aCons (gv 1) (aNil))) (exc_need_plan n))) r || (xSeq (sExpr (bnd (dcall (den_need_hall n) (aCons (gv 0) (aNil))) frz)) (xSeq (sExpr (bnd (dcall (den_need_plan n) (aCons (gv 0) (aCons (gv 1) (aNil)))) frz)) (xCall (aCons (gv 0) (aCons (gv 2) (aNil))) (exc_need_plan n)))) r
def exc_parted_NoPlan (n : Nat) : List PyData → Bool := runX 13 (xm_parted_NoPlan n)
theorem okx_parted_NoPlan {P : Program} {w : World} {K : PySem.W.Frag} {mg : Str → Option Value} {base : Heap} {n : Nat} {C : Addr} (B : BF mg) (D : DF K mg "parted" s_parted ["hall", "one", "other"]) (X_need_plan : CFX P w K mg base 5 "need_plan" ["hall", "plan"] (spX P w K 2 (exc_need_plan n) (PhiP C))) (C_need_hall : CF P w K mg base 4 "need_hall" ["hall"] (sp0 P w K 1 (den_need_hall n))) (C_need_plan : CF P w K mg base 5 "need_plan" ["hall", "plan"] (sp0 P w K 2 (den_need_plan n))) : CFX P w K mg base 6 "parted" ["hall", "one", "other"] (spX P w K 3 (exc_parted_NoPlan n) (PhiP C)) := by
  refine cfX (k := 5) D sc_parted fun f cdv A outer s H E hr => ?_
  unfold xm_parted_NoPlan
  exact (xss_or (xss_cons (n := 0) (RS.up (rs_expr (rx_callC C_need_hall hr (by decide) (by rfl) (ra_cons (re_var 0) ra_nil) (aCons_len aNil_len)).re)) (xss_now (xs_expr (xe_callC takes_cx X_need_plan hr (by decide) (by rfl) (ra_cons (re_var 0) (ra_cons (re_var 1) ra_nil)) (aCons_len (aCons_len aNil_len)))))) (xss_cons (n := 0) (RS.up (rs_expr (rx_callC C_need_hall hr (by decide) (by rfl) (ra_cons (re_var 0) ra_nil) (aCons_len aNil_len)).re)) (xss_cons (n := 0) (RS.up (rs_expr (rx_callC C_need_plan hr (by decide) (by rfl) (ra_cons (re_var 0) (ra_cons (re_var 1) ra_nil)) (aCons_len (aCons_len aNil_len))).re)) (xss_now (xs_expr (xe_callC takes_cx X_need_plan hr (by decide) (by rfl) (ra_cons (re_var 0) (ra_cons (re_var 2) ra_nil)) (aCons_len (aCons_len aNil_len))))))))
abbrev s_is_stand : Stmt := topS 33
theorem sc_is_stand : FnScope ["hall", "thing"] ["hall", "thing"] (defScope s_is_stand) := ⟨rfl, rfl, rfl, by decide +kernel, rfl, by decide +kernel, by decide +kernel⟩
def xm_is_stand_NoHall (n : Nat) : Rho → Bool := xCall (aCons (gv 0) (aNil)) (exc_need_hall n)
def exc_is_stand_NoHall (n : Nat) : List PyData → Bool := runX 2 (xm_is_stand_NoHall n)
theorem okx_is_stand_NoHall {P : Program} {w : World} {K : PySem.W.Frag} {mg : Str → Option Value} {base : Heap} {n : Nat} {C : Addr} (B : BF mg) (D : DF K mg "is_stand" s_is_stand ["hall", "thing"]) (X_need_hall : CFX P w K mg base 4 "need_hall" ["hall"] (spX P w K 1 (exc_need_hall n) (PhiP C))) : CFX P w K mg base 5 "is_stand" ["hall", "thing"] (spX P w K 2 (exc_is_stand_NoHall n) (PhiP C)) := by
  refine cfX (k := 4) D sc_is_stand fun f cdv A outer s H E hr => ?_
  unfold xm_is_stand_NoHall
  exact (xss_now (xs_expr (xe_callC takes_cx X_need_hall hr (by decide) (by rfl) (ra_cons (re_var 0) ra_nil) (aCons_len aNil_len))))
abbrev s_is_beat : Stmt := topS 34
theorem sc_is_beat : FnScope ["hall", "thing"] ["hall", "thing"] (defScope s_is_beat) := ⟨rfl, rfl, rfl, by decide +kernel, rfl, by decide +kernel, by decide +kernel⟩
def xm_is_beat_NoHall (n : Nat) : Rho → Bool := xCall (aCons (gv 0) (aNil)) (exc_need_hall n)
def exc_is_beat_NoHall (n : Nat) : List PyData → Bool := runX 2 (xm_is_beat_NoHall n)
theorem okx_is_beat_NoHall {P : Program} {w : World} {K : PySem.W.Frag} {mg : Str → Option Value} {base : Heap} {n : Nat} {C : Addr} (B : BF mg) (D : DF K mg "is_beat" s_is_beat ["hall", "thing"]) (X_need_hall : CFX P w K mg base 4 "need_hall" ["hall"] (spX P w K 1 (exc_need_hall n) (PhiP C))) : CFX P w K mg base 5 "is_beat" ["hall", "thing"] (spX P w K 2 (exc_is_beat_NoHall n) (PhiP C)) := by
  refine cfX (k := 4) D sc_is_beat fun f cdv A outer s H E hr => ?_
  unfold xm_is_beat_NoHall
  exact (xss_now (xs_expr (xe_callC takes_cx X_need_hall hr (by decide) (by rfl) (ra_cons (re_var 0) ra_nil) (aCons_len aNil_len))))
abbrev s_is_plan : Stmt := topS 35
theorem sc_is_plan : FnScope ["hall", "thing"] ["hall", "thing"] (defScope s_is_plan) := ⟨rfl, rfl, rfl, by decide +kernel, rfl, by decide +kernel, by decide +kernel⟩
def xm_is_plan_NoHall (n : Nat) : Rho → Bool := xCall (aCons (gv 0) (aNil)) (exc_need_hall n)
def exc_is_plan_NoHall (n : Nat) : List PyData → Bool := runX 2 (xm_is_plan_NoHall n)
theorem okx_is_plan_NoHall {P : Program} {w : World} {K : PySem.W.Frag} {mg : Str → Option Value} {base : Heap} {n : Nat} {C : Addr} (B : BF mg) (D : DF K mg "is_plan" s_is_plan ["hall", "thing"]) (X_need_hall : CFX P w K mg base 4 "need_hall" ["hall"] (spX P w K 1 (exc_need_hall n) (PhiP C))) : CFX P w K mg base 5 "is_plan" ["hall", "thing"] (spX P w K 2 (exc_is_plan_NoHall n) (PhiP C)) := by
  refine cfX (k := 4) D sc_is_plan fun f cdv A outer s H E hr => ?_
  unfold xm_is_plan_NoHall
  exact (xss_now (xs_expr (xe_callC takes_cx X_need_hall hr (by decide) (by rfl) (ra_cons (re_var 0) ra_nil) (aCons_len aNil_len))))
abbrev s_full : Stmt := topS 37
theorem sc_full : FnScope ["hall"] ["hall"] (defScope s_full) := ⟨rfl, rfl, rfl, by decide +kernel, rfl, by decide +kernel, by decide +kernel⟩
def xm_full_NoHall (n : Nat) : Rho → Bool := xCall (aCons (gv 0) (aNil)) (exc_need_hall n)
def exc_full_NoHall (n : Nat) : List PyData → Bool := runX 1 (xm_full_NoHall n)
theorem okx_full_NoHall {P : Program} {w : World} {K : PySem.W.Frag} {mg : Str → Option Value} {base : Heap} {n : Nat} {C : Addr} (B : BF mg) (D : DF K mg "full" s_full ["hall"]) (X_need_hall : CFX P w K mg base 4 "need_hall" ["hall"] (spX P w K 1 (exc_need_hall n) (PhiP C))) : CFX P w K mg base 5 "full" ["hall"] (spX P w K 1 (exc_full_NoHall n) (PhiP C)) := by
  refine cfX (k := 4) D sc_full fun f cdv A outer s H E hr => ?_
  unfold xm_full_NoHall
  exact (xss_now (xs_expr (xe_callC takes_cx X_need_hall hr (by decide) (by rfl) (ra_cons (re_var 0) ra_nil) (aCons_len aNil_len))))
abbrev s_bare : Stmt := topS 38
theorem sc_bare : FnScope ["hall"] ["hall"] (defScope s_bare) := ⟨rfl, rfl, rfl, by decide +kernel, rfl, by decide +kernel, by decide +kernel⟩
def xm_bare_NoHall (n : Nat) : Rho → Bool := xCall (aCons (gv 0) (aNil)) (exc_need_hall n)
def exc_bare_NoHall (n : Nat) : List PyData → Bool := runX 1 (xm_bare_NoHall n)
theorem okx_bare_NoHall {P : Program} {w : World} {K : PySem.W.Frag} {mg : Str → Option Value} {base : Heap} {n : Nat} {C : Addr} (B : BF mg) (D : DF K mg "bare" s_bare ["hall"]) (X_need_hall : CFX P w K mg base 4 "need_hall" ["hall"] (spX P w K 1 (exc_need_hall n) (PhiP C))) : CFX P w K mg base 5 "bare" ["hall"] (spX P w K 1 (exc_bare_NoHall n) (PhiP C)) := by
  refine cfX (k := 4) D sc_bare fun f cdv A outer s H E hr => ?_
  unfold xm_bare_NoHall
  exact (xss_now (xs_expr (xe_callC takes_cx X_need_hall hr (by decide) (by rfl) (ra_cons (re_var 0) ra_nil) (aCons_len aNil_len))))
abbrev s_are_free : Stmt := topS 73
theorem sc_are_free : FnScope ["hall", "meeting", "second", "one", "other", "stand"] ["hall", "meeting", "second"] (defScope s_are_free) := ⟨rfl, rfl, rfl, by decide +kernel, rfl, by decide +kernel, by decide +kernel⟩
def xm_are_free_NoHall (n : Nat) : Rho → Bool := xCall (aCons (gv 0) (aNil)) (exc_need_hall n)
def exc_are_free_NoHall (n : Nat) : List PyData → Bool := runX 6 (xm_are_free_NoHall n)
theorem okx_are_free_NoHall {P : Program} {w : World} {K : PySem.W.Frag} {mg : Str → Option Value} {base : Heap} {n : Nat} {C : Addr} (B : BF mg) (D : DF K mg "are_free" s_are_free ["hall", "meeting", "second"]) (X_need_hall : CFX P w K mg base 4 "need_hall" ["hall"] (spX P w K 1 (exc_need_hall n) (PhiP C))) : CFX P w K mg base 5 "are_free" ["hall", "meeting", "second"] (spX P w K 3 (exc_are_free_NoHall n) (PhiP C)) := by
  refine cfX (k := 4) D sc_are_free fun f cdv A outer s H E hr => ?_
  unfold xm_are_free_NoHall
  exact (xss_now (xs_expr (xe_callC takes_cx X_need_hall hr (by decide) (by rfl) (ra_cons (re_var 0) ra_nil) (aCons_len aNil_len))))
def xm_are_free_NoMeeting (n : Nat) : Rho → Bool := fun r => (xSeq (sExpr (bnd (dcall (den_need_hall n) (aCons (gv 0) (aNil))) frz)) (xCall (aCons (gv 0) (aCons (gv 1) (aNil))) (exc_need_meeting n))) r || (xSeq (sExpr (bnd (dcall (den_need_hall n) (aCons (gv 0) (aNil))) frz)) (xSeq (sExpr (bnd (dcall (den_need_meeting n) (aCons (gv 0) (aCons (gv 1) (aNil)))) frz)) (xCall (aCons (gv 0) (aCons (gv 2) (aNil))) (exc_need_meeting n)))) r
def exc_are_free_NoMeeting (n : Nat) : List PyData → Bool := runX 6 (xm_are_free_NoMeeting n)
theorem okx_are_free_NoMeeting {P : Program} {w : World} {K : PySem.W.Frag} {mg : Str → Option Value} {base : Heap} {n : Nat} {C : Addr} (B : BF mg) (D : DF K mg "are_free" s_are_free ["hall", "meeting", "second"]) (X_need_meeting : CFX P w K mg base 3 "need_meeting" ["hall", "meeting"] (spX P w K 2 (exc_need_meeting n) (PhiP C))) (C_need_hall : CF P w K mg base 4 "need_hall" ["hall"] (sp0 P w K 1 (den_need_hall n))) (C_need_meeting : CF P w K mg base 3 "need_meeting" ["hall", "meeting"] (sp0 P w K 2 (den_need_meeting n))) : CFX P w K mg base 5 "are_free" ["hall", "meeting", "second"] (spX P w K 3 (exc_are_free_NoMeeting n) (PhiP C)) := by
  refine cfX (k := 4) D sc_are_free fun f cdv A outer s H E hr => ?_
  unfold xm_are_free_NoMeeting
  exact (xss_or (xss_cons (n := 0) (RS.up (rs_expr (rx_callC C_need_hall hr (by decide) (by rfl) (ra_cons (re_var 0) ra_nil) (aCons_len aNil_len)).re)) (xss_now (xs_expr (xe_callC takes_cx X_need_meeting hr (by decide) (by rfl) (ra_cons (re_var 0) (ra_cons (re_var 1) ra_nil)) (aCons_len (aCons_len aNil_len)))))) (xss_cons (n := 0) (RS.up (rs_expr (rx_callC C_need_hall hr (by decide) (by rfl) (ra_cons (re_var 0) ra_nil) (aCons_len aNil_len)).re)) (xss_cons (n := 0) (RS.up (rs_expr (rx_callC C_need_meeting hr (by decide) (by rfl) (ra_cons (re_var 0) (ra_cons (re_var 1) ra_nil)) (aCons_len (aCons_len aNil_len))).re)) (xss_now (xs_expr (xe_callC takes_cx X_need_meeting hr (by decide) (by rfl) (ra_cons (re_var 0) (ra_cons (re_var 2) ra_nil)) (aCons_len (aCons_len aNil_len))))))))
abbrev s_law_doors : Stmt := topS 89
theorem sc_law_doors : FnScope ["hall", "stand", "beat", "plan", "found"] ["hall", "stand", "beat", "plan"] (defScope s_law_doors) := ⟨rfl, rfl, rfl, by decide +kernel, rfl, by decide +kernel, by decide +kernel⟩
abbrev lam_law_doors0 : LamA := lamOf (doorE ((defBody s_law_doors).getD 0 (.Pass ⟨0, 0, 0, 0⟩)))
abbrev lam_law_doors1 : LamA := lamOf (doorE ((defBody s_law_doors).getD 1 (.Pass ⟨0, 0, 0, 0⟩)))
abbrev lam_law_doors2 : LamA := lamOf (doorE ((defBody s_law_doors).getD 2 (.Pass ⟨0, 0, 0, 0⟩)))
abbrev lam_law_doors3 : LamA := lamOf (doorE ((defBody s_law_doors).getD 3 (.Pass ⟨0, 0, 0, 0⟩)))
abbrev lam_law_doors4 : LamA := lamOf (doorE ((defBody s_law_doors).getD 4 (.Pass ⟨0, 0, 0, 0⟩)))
abbrev lam_law_doors5 : LamA := lamOf (doorE ((defBody s_law_doors).getD 5 (.Pass ⟨0, 0, 0, 0⟩)))
abbrev lam_law_doors6 : LamA := lamOf (doorE ((defBody s_law_doors).getD 6 (.Pass ⟨0, 0, 0, 0⟩)))
abbrev lam_law_doors7 : LamA := lamOf (doorE ((defBody s_law_doors).getD 7 (.Pass ⟨0, 0, 0, 0⟩)))
def ds_law_doors : List DSpec := [(lam_law_doors0, some "NoBeat+"), (lam_law_doors1, some "NoPlan+"), (lam_law_doors2, some "NoPlan+"), (lam_law_doors3, some "NoPlan+"), (lam_law_doors4, some "NoStand+"), (lam_law_doors5, some "NoStand+"), (lam_law_doors6, some "NoBeat+"), (lam_law_doors7, some "NoBeat+")]
abbrev s_law_plans : Stmt := topS 90
theorem sc_law_plans : FnScope ["hall", "plan", "found"] ["hall", "plan"] (defScope s_law_plans) := ⟨rfl, rfl, rfl, by decide +kernel, rfl, by decide +kernel, by decide +kernel⟩
abbrev lam_law_plans0 : LamA := lamOf (doorE ((defBody s_law_plans).getD 0 (.Pass ⟨0, 0, 0, 0⟩)))
abbrev lam_law_plans1 : LamA := lamOf (doorE ((defBody s_law_plans).getD 1 (.Pass ⟨0, 0, 0, 0⟩)))
abbrev lam_law_plans2 : LamA := lamOf (doorE ((defBody s_law_plans).getD 2 (.Pass ⟨0, 0, 0, 0⟩)))
abbrev lam_law_plans3 : LamA := lamOf (doorE ((defBody s_law_plans).getD 3 (.Pass ⟨0, 0, 0, 0⟩)))
abbrev lam_law_plans4 : LamA := lamOf (doorE ((defBody s_law_plans).getD 4 (.Pass ⟨0, 0, 0, 0⟩)))
abbrev lam_law_plans5 : LamA := lamOf (doorE ((defBody s_law_plans).getD 5 (.Pass ⟨0, 0, 0, 0⟩)))
def ds_law_plans : List DSpec := [(lam_law_plans0, some "NoPlan+"), (lam_law_plans1, some "NoPlan+"), (lam_law_plans2, some "NoPlan+"), (lam_law_plans3, some "NoPlan+"), (lam_law_plans4, some "NoPlan+"), (lam_law_plans5, some "NoPlan+")]
abbrev s_law_by_hall : Stmt := topS 91
theorem sc_law_by_hall : FnScope ["hall", "found"] ["hall"] (defScope s_law_by_hall) := ⟨rfl, rfl, rfl, by decide +kernel, rfl, by decide +kernel, by decide +kernel⟩
abbrev lam_law_by_hall0 : LamA := lamOf (doorE ((defBody s_law_by_hall).getD 0 (.Pass ⟨0, 0, 0, 0⟩)))
abbrev lam_law_by_hall1 : LamA := lamOf (doorE ((defBody s_law_by_hall).getD 1 (.Pass ⟨0, 0, 0, 0⟩)))
abbrev lam_law_by_hall2 : LamA := lamOf (doorE ((defBody s_law_by_hall).getD 2 (.Pass ⟨0, 0, 0, 0⟩)))
abbrev lam_law_by_hall3 : LamA := lamOf (doorE ((defBody s_law_by_hall).getD 3 (.Pass ⟨0, 0, 0, 0⟩)))
abbrev lam_law_by_hall4 : LamA := lamOf (doorE ((defBody s_law_by_hall).getD 4 (.Pass ⟨0, 0, 0, 0⟩)))
abbrev lam_law_by_hall5 : LamA := lamOf (doorE ((defBody s_law_by_hall).getD 5 (.Pass ⟨0, 0, 0, 0⟩)))
def ds_law_by_hall : List DSpec := [(lam_law_by_hall0, none), (lam_law_by_hall1, none), (lam_law_by_hall2, none), (lam_law_by_hall3, none), (lam_law_by_hall4, none), (lam_law_by_hall5, none)]
def q_law_doors : Str := (envOfC "_law_doors" (defScope (topS 89)) 0 0 Value.none).qual ++ "<lambda>"
def q_law_plans : Str := (envOfC "_law_plans" (defScope (topS 90)) 0 0 Value.none).qual ++ "<lambda>"
def q_law_by_hall : Str := (envOfC "_law_by_hall" (defScope (topS 91)) 0 0 Value.none).qual ++ "<lambda>"
def q_law_last_right : Str := (envOfC "_law_last_right" (defScope (topS 92)) 0 0 Value.none).qual ++ "<lambda>"
def TT (K : PySem.W.Frag) : List (Addr × Str) := [((He.cT K ("_law_doors", none)).2, q_law_doors), ((He.cT K ("_law_plans", none)).2, q_law_plans), ((He.cT K ("_law_by_hall", none)).2, q_law_by_hall), ((He.cT K ("_law_last_right", none)).2, q_law_last_right)]
theorem ok_law_doors {P : Program} {w : World} {K : PySem.W.Frag} {mg : Str → Option Value} {base : Heap} {n : Nat} (D : DFA K mg "_law_doors" s_law_doors ["hall", "stand", "beat", "plan"]) (TB : LamX.TabB base mg (He.cT K ("_law_doors", none)).1 (He.cT K ("_law_doors", none)).2) (ND : ((TT K).map (·.1)).Nodup) : CF P w K mg base 1 "_law_doors" ["hall", "stand", "beat", "plan"] (spMk (TT K) q_law_doors ["hall", "stand", "beat", "plan"] ds_law_doors) := by
  obtain ⟨fd, F, hm, hb⟩ := D
  have hT : ((He.cT K ("_law_doors", none)).2, q_law_doors) ∈ TT K := by unfold TT; simp
  have hu := hu_of ND hT
  refine ⟨_, fd, F.kp, hm, hb, fnMk (k := 0) (i := 4) F sc_law_doors rfl (by decide +kernel) (fun d hd => ?_) (by decide) fun A outer s H E hr => ?_⟩
  · revert d
    exact List.forall_mem_cons.2 ⟨LamX.lamS_by (by kernel_rfl), List.forall_mem_cons.2 ⟨LamX.lamS_by (by kernel_rfl), List.forall_mem_cons.2 ⟨LamX.lamS_by (by kernel_rfl), List.forall_mem_cons.2 ⟨LamX.lamS_by (by kernel_rfl), List.forall_mem_cons.2 ⟨LamX.lamS_by (by kernel_rfl), List.forall_mem_cons.2 ⟨LamX.lamS_by (by kernel_rfl), List.forall_mem_cons.2 ⟨LamX.lamS_by (by kernel_rfl), List.forall_mem_cons.2 ⟨LamX.lamS_by (by kernel_rfl), fun _ h => nomatch h⟩⟩⟩⟩⟩⟩⟩⟩
  · exact mk_first (pd_tup TB rfl rfl hT hu (LamX.lamS_by (by kernel_rfl)) rfl) (mk_app (pd_tup TB rfl rfl hT hu (LamX.lamS_by (by kernel_rfl)) rfl) (mk_app (pd_tup TB rfl rfl hT hu (LamX.lamS_by (by kernel_rfl)) rfl) (mk_app (pd_tup TB rfl rfl hT hu (LamX.lamS_by (by kernel_rfl)) rfl) (mk_app (pd_tup TB rfl rfl hT hu (LamX.lamS_by (by kernel_rfl)) rfl) (mk_app (pd_tup TB rfl rfl hT hu (LamX.lamS_by (by kernel_rfl)) rfl) (mk_app (pd_tup TB rfl rfl hT hu (LamX.lamS_by (by kernel_rfl)) rfl) (mk_app (pd_tup TB rfl rfl hT hu (LamX.lamS_by (by kernel_rfl)) rfl) mk_ret))))))) (by decide) sc_law_doors.nd rfl (.inl rfl)
theorem ok_law_plans {P : Program} {w : World} {K : PySem.W.Frag} {mg : Str → Option Value} {base : Heap} {n : Nat} (D : DFA K mg "_law_plans" s_law_plans ["hall", "plan"]) (TB : LamX.TabB base mg (He.cT K ("_law_plans", none)).1 (He.cT K ("_law_plans", none)).2) (ND : ((TT K).map (·.1)).Nodup) : CF P w K mg base 1 "_law_plans" ["hall", "plan"] (spMk (TT K) q_law_plans ["hall", "plan"] ds_law_plans) := by
  obtain ⟨fd, F, hm, hb⟩ := D
  have hT : ((He.cT K ("_law_plans", none)).2, q_law_plans) ∈ TT K := by unfold TT; simp
  have hu := hu_of ND hT
  refine ⟨_, fd, F.kp, hm, hb, fnMk (k := 0) (i := 2) F sc_law_plans rfl (by decide +kernel) (fun d hd => ?_) (by decide) fun A outer s H E hr => ?_⟩
  · revert d
    exact List.forall_mem_cons.2 ⟨LamX.lamS_by (by kernel_rfl), List.forall_mem_cons.2 ⟨LamX.lamS_by (by kernel_rfl), List.forall_mem_cons.2 ⟨LamX.lamS_by (by kernel_rfl), List.forall_mem_cons.2 ⟨LamX.lamS_by (by kernel_rfl), List.forall_mem_cons.2 ⟨LamX.lamS_by (by kernel_rfl), List.forall_mem_cons.2 ⟨LamX.lamS_by (by kernel_rfl), fun _ h => nomatch h⟩⟩⟩⟩⟩⟩
  · exact mk_first (pd_tup TB rfl rfl hT hu (LamX.lamS_by (by kernel_rfl)) rfl) (mk_app (pd_tup TB rfl rfl hT hu (LamX.lamS_by (by kernel_rfl)) rfl) (mk_app (pd_tup TB rfl rfl hT hu (LamX.lamS_by (by kernel_rfl)) rfl) (mk_app (pd_tup TB rfl rfl hT hu (LamX.lamS_by (by kernel_rfl)) rfl) (mk_app (pd_tup TB rfl rfl hT hu (LamX.lamS_by (by kernel_rfl)) rfl) (mk_app (pd_tup TB rfl rfl hT hu (LamX.lamS_by (by kernel_rfl)) rfl) mk_ret))))) (by decide) sc_law_plans.nd rfl (.inl rfl)
theorem ok_law_by_hall {P : Program} {w : World} {K : PySem.W.Frag} {mg : Str → Option Value} {base : Heap} {n : Nat} (D : DFA K mg "_law_by_hall" s_law_by_hall ["hall"]) (TB : LamX.TabB base mg (He.cT K ("_law_by_hall", none)).1 (He.cT K ("_law_by_hall", none)).2) (ND : ((TT K).map (·.1)).Nodup) : CF P w K mg base 1 "_law_by_hall" ["hall"] (spMk (TT K) q_law_by_hall ["hall"] ds_law_by_hall) := by
  obtain ⟨fd, F, hm, hb⟩ := D
  have hT : ((He.cT K ("_law_by_hall", none)).2, q_law_by_hall) ∈ TT K := by unfold TT; simp
  have hu := hu_of ND hT
  refine ⟨_, fd, F.kp, hm, hb, fnMk (k := 0) (i := 1) F sc_law_by_hall rfl (by decide +kernel) (fun d hd => ?_) (by decide) fun A outer s H E hr => ?_⟩
  · revert d
    exact List.forall_mem_cons.2 ⟨LamX.lamS_by (by kernel_rfl), List.forall_mem_cons.2 ⟨LamX.lamS_by (by kernel_rfl), List.forall_mem_cons.2 ⟨LamX.lamS_by (by kernel_rfl), List.forall_mem_cons.2 ⟨LamX.lamS_by (by kernel_rfl), List.forall_mem_cons.2 ⟨LamX.lamS_by (by kernel_rfl), List.forall_mem_cons.2 ⟨LamX.lamS_by (by kernel_rfl), fun _ h => nomatch h⟩⟩⟩⟩⟩⟩
  · exact mk_first (pd_lam TB rfl rfl hT hu (LamX.lamS_by (by kernel_rfl)) rfl) (mk_app (pd_lam TB rfl rfl hT hu (LamX.lamS_by (by kernel_rfl)) rfl) (mk_app (pd_lam TB rfl rfl hT hu (LamX.lamS_by (by kernel_rfl)) rfl) (mk_app (pd_lam TB rfl rfl hT hu (LamX.lamS_by (by kernel_rfl)) rfl) (mk_app (pd_lam TB rfl rfl hT hu (LamX.lamS_by (by kernel_rfl)) rfl) (mk_app (pd_lam TB rfl rfl hT hu (LamX.lamS_by (by kernel_rfl)) rfl) mk_ret))))) (by decide) sc_law_by_hall.nd rfl (.inl rfl)
def xl_law_doors_NoHall0 (n : Nat) : Rho → Bool := xCall (aCons (gv 0) (aCons (gv 1) (aCons (gv 2) (aNil)))) (exc_by_beat_NoHall n)
def xl_law_doors_NoHall1 (n : Nat) : Rho → Bool := xCall (aCons (gv 0) (aCons (gv 1) (aCons (gv 3) (aCons (cst .none) (aNil))))) (exc_by_plan_NoHall n)
def xl_law_doors_NoHall2 (n : Nat) : Rho → Bool := xCall (aCons (gv 0) (aCons (gv 1) (aCons (gv 3) (aNil)))) (exc_comes_round_NoHall n)
def xl_law_doors_NoHall3 (n : Nat) : Rho → Bool := xCall (aCons (gv 0) (aCons (gv 1) (aCons (gv 3) (aNil)))) (exc_kept_from_NoHall n)
def xl_law_doors_NoHall4 (n : Nat) : Rho → Bool := xCall (aCons (gv 0) (aCons (gv 1) (aCons (cst .none) (aNil)))) (exc_lessons_NoHall n)
def xl_law_doors_NoHall5 (n : Nat) : Rho → Bool := xCall (aCons (gv 0) (aCons (gv 1) (aCons (cst .none) (aCons (cst .none) (aNil))))) (exc_is_shown_NoHall n)
def xl_law_doors_NoHall6 (n : Nat) : Rho → Bool := xCall (aCons (gv 0) (aCons (gv 1) (aCons (gv 2) (aNil)))) (exc_ends_NoHall n)
def xl_law_doors_NoHall7 (n : Nat) : Rho → Bool := xCall (aCons (gv 0) (aCons (gv 1) (aCons (gv 2) (aNil)))) (exc_ahead_NoHall n)
def exB_law_doors_NoHall (n : Nat) : List PyData → Bool := fun args => (xl_law_doors_NoHall0 n (args.map fun d => some (.d d)) && (xl_law_doors_NoHall1 n (args.map fun d => some (.d d)) && (xl_law_doors_NoHall2 n (args.map fun d => some (.d d)) && (xl_law_doors_NoHall3 n (args.map fun d => some (.d d)) && (xl_law_doors_NoHall4 n (args.map fun d => some (.d d)) && (xl_law_doors_NoHall5 n (args.map fun d => some (.d d)) && (xl_law_doors_NoHall6 n (args.map fun d => some (.d d)) && (xl_law_doors_NoHall7 n (args.map fun d => some (.d d))))))))))
theorem ref_law_doors_NoHall {P : Program} {w : World} {K : PySem.W.Frag} {mg : Str → Option Value} {base : Heap} {n : Nat} {C_NoHall : Addr} (kw_NoHall : KW K mg C_NoHall "NoHall+") (X_by_beat_NoHall : CFX P w K mg base 5 "by_beat" ["hall", "stand", "beat"] (spX P w K 3 (exc_by_beat_NoHall n) (PhiP C_NoHall))) (X_by_plan_NoHall : CFX P w K mg base 6 "by_plan" ["hall", "stand", "plan", "beats"] (spX P w K 4 (exc_by_plan_NoHall n) (PhiP C_NoHall))) (X_comes_round_NoHall : CFX P w K mg base 6 "comes_round" ["hall", "stand", "plan"] (spX P w K 3 (exc_comes_round_NoHall n) (PhiP C_NoHall))) (X_kept_from_NoHall : CFX P w K mg base 6 "kept_from" ["hall", "stand", "plan"] (spX P w K 3 (exc_kept_from_NoHall n) (PhiP C_NoHall))) (X_lessons_NoHall : CFX P w K mg base 5 "lessons" ["hall", "stand", "wish"] (spX P w K 3 (exc_lessons_NoHall n) (PhiP C_NoHall))) (X_is_shown_NoHall : CFX P w K mg base 5 "is_shown" ["hall", "stand", "wish", "paper"] (spX P w K 4 (exc_is_shown_NoHall n) (PhiP C_NoHall))) (X_ends_NoHall : CFX P w K mg base 5 "ends" ["hall", "stand", "beat"] (spX P w K 3 (exc_ends_NoHall n) (PhiP C_NoHall))) (X_ahead_NoHall : CFX P w K mg base 5 "ahead" ["hall", "stand", "beat"] (spX P w K 3 (exc_ahead_NoHall n) (PhiP C_NoHall))) : ∀ args : List PyData, exB_law_doors_NoHall n args = true → ∀ d ∈ ds_law_doors, (∃ w', d.2 = some w') ∧ Ref P w K mg base 6 (KW K mg) "NoHall+" ⟨d.1, d.2, q_law_doors, ["hall", "stand", "beat", "plan"], args⟩ := by
  intro args h
  unfold exB_law_doors_NoHall at h
  simp only [Bool.and_eq_true] at h
  obtain ⟨h0, h1, h2, h3, h4, h5, h6, h7⟩ := h
  exact List.forall_mem_cons.2 ⟨⟨⟨_, rfl⟩, ⟨C_NoHall, xl_law_doors_NoHall0 n, kw_NoHall, fun cl c' => ⟨lamSc (LamX.lamS_by (by kernel_rfl) : LamX.LamS (defScope s_law_doors) lam_law_doors0.scope), fun _ _ _ => rfl, fun A outer s H E f hr => by unfold xl_law_doors_NoHall0; exact (xe_callC takes_lamC X_by_beat_NoHall hr (by decide) (by rfl) (ra_cons (re_var 0) (ra_cons (re_var 1) (ra_cons (re_var 2) ra_nil))) (aCons_len (aCons_len (aCons_len aNil_len))))⟩, h0⟩⟩, List.forall_mem_cons.2 ⟨⟨⟨_, rfl⟩, ⟨C_NoHall, xl_law_doors_NoHall1 n, kw_NoHall, fun cl c' => ⟨lamSc (LamX.lamS_by (by kernel_rfl) : LamX.LamS (defScope s_law_doors) lam_law_doors1.scope), fun _ _ _ => rfl, fun A outer s H E f hr => by unfold xl_law_doors_NoHall1; exact (xe_callC takes_lamC X_by_plan_NoHall hr (by decide) (by rfl) (ra_cons (re_var 0) (ra_cons (re_var 1) (ra_cons (re_var 3) (ra_cons re_non ra_nil)))) (aCons_len (aCons_len (aCons_len (aCons_len aNil_len)))))⟩, h1⟩⟩, List.forall_mem_cons.2 ⟨⟨⟨_, rfl⟩, ⟨C_NoHall, xl_law_doors_NoHall2 n, kw_NoHall, fun cl c' => ⟨lamSc (LamX.lamS_by (by kernel_rfl) : LamX.LamS (defScope s_law_doors) lam_law_doors2.scope), fun _ _ _ => rfl, fun A outer s H E f hr => by unfold xl_law_doors_NoHall2; exact (xe_callC takes_lamC X_comes_round_NoHall hr (by decide) (by rfl) (ra_cons (re_var 0) (ra_cons (re_var 1) (ra_cons (re_var 3) ra_nil))) (aCons_len (aCons_len (aCons_len aNil_len))))⟩, h2⟩⟩, List.forall_mem_cons.2 ⟨⟨⟨_, rfl⟩, ⟨C_NoHall, xl_law_doors_NoHall3 n, kw_NoHall, fun cl c' => ⟨lamSc (LamX.lamS_by (by kernel_rfl) : LamX.LamS (defScope s_law_doors) lam_law_doors3.scope), fun _ _ _ => rfl, fun A outer s H E f hr => by unfold xl_law_doors_NoHall3; exact (xe_callC takes_lamC X_kept_from_NoHall hr (by decide) (by rfl) (ra_cons (re_var 0) (ra_cons (re_var 1) (ra_cons (re_var 3) ra_nil))) (aCons_len (aCons_len (aCons_len aNil_len))))⟩, h3⟩⟩, List.forall_mem_cons.2 ⟨⟨⟨_, rfl⟩, ⟨C_NoHall, xl_law_doors_NoHall4 n, kw_NoHall, fun cl c' => ⟨lamSc (LamX.lamS_by (by kernel_rfl) : LamX.LamS (defScope s_law_doors) lam_law_doors4.scope), fun _ _ _ => rfl, fun A outer s H E f hr => by unfold xl_law_doors_NoHall4; exact (xe_callC takes_lamC X_lessons_NoHall hr (by decide) (by rfl) (ra_cons (re_var 0) (ra_cons (re_var 1) (ra_cons re_non ra_nil))) (aCons_len (aCons_len (aCons_len aNil_len))))⟩, h4⟩⟩, List.forall_mem_cons.2 ⟨⟨⟨_, rfl⟩, ⟨C_NoHall, xl_law_doors_NoHall5 n, kw_NoHall, fun cl c' => ⟨lamSc (LamX.lamS_by (by kernel_rfl) : LamX.LamS (defScope s_law_doors) lam_law_doors5.scope), fun _ _ _ => rfl, fun A outer s H E f hr => by unfold xl_law_doors_NoHall5; exact (xe_callC takes_lamC X_is_shown_NoHall hr (by decide) (by rfl) (ra_cons (re_var 0) (ra_cons (re_var 1) (ra_cons re_non (ra_cons re_non ra_nil)))) (aCons_len (aCons_len (aCons_len (aCons_len aNil_len)))))⟩, h5⟩⟩, List.forall_mem_cons.2 ⟨⟨⟨_, rfl⟩, ⟨C_NoHall, xl_law_doors_NoHall6 n, kw_NoHall, fun cl c' => ⟨lamSc (LamX.lamS_by (by kernel_rfl) : LamX.LamS (defScope s_law_doors) lam_law_doors6.scope), fun _ _ _ => rfl, fun A outer s H E f hr => by unfold xl_law_doors_NoHall6; exact (xe_callC takes_lamC X_ends_NoHall hr (by decide) (by rfl) (ra_cons (re_var 0) (ra_cons (re_var 1) (ra_cons (re_var 2) ra_nil))) (aCons_len (aCons_len (aCons_len aNil_len))))⟩, h6⟩⟩, List.forall_mem_cons.2 ⟨⟨⟨_, rfl⟩, ⟨C_NoHall, xl_law_doors_NoHall7 n, kw_NoHall, fun cl c' => ⟨lamSc (LamX.lamS_by (by kernel_rfl) : LamX.LamS (defScope s_law_doors) lam_law_doors7.scope), fun _ _ _ => rfl, fun A outer s H E f hr => by unfold xl_law_doors_NoHall7; exact (xe_callC takes_lamC X_ahead_NoHall hr (by decide) (by rfl) (ra_cons (re_var 0) (ra_cons (re_var 1) (ra_cons (re_var 2) ra_nil))) (aCons_len (aCons_len (aCons_len aNil_len))))⟩, h7⟩⟩, fun _ h => nomatch h⟩⟩⟩⟩⟩⟩⟩⟩
def xl_law_plans_NoHall0 (n : Nat) : Rho → Bool := xCall (aCons (gv 0) (aCons (gv 1) (aNil))) (exc_can_be_kept_NoHall n)
def xl_law_plans_NoHall1 (n : Nat) : Rho → Bool := xCall (aCons (gv 0) (aCons (gv 1) (aNil))) (exc_greatest_NoHall n)
def xl_law_plans_NoHall2 (n : Nat) : Rho → Bool := xCall (aCons (gv 0) (aCons (gv 1) (aCons (cst .none) (aNil)))) (exc_lost_paper_NoHall n)
def xl_law_plans_NoHall3 (n : Nat) : Rho → Bool := xCall (aCons (gv 0) (aCons (gv 1) (aCons (cst .none) (aCons (cst .none) (aNil))))) (exc_lost_shown_NoHall n)
def xl_law_plans_NoHall4 (n : Nat) : Rho → Bool := xCall (aCons (gv 0) (aCons (gv 1) (aCons (cst .none) (aNil)))) (exc_least_from_NoHall n)
def xl_law_plans_NoHall5 (n : Nat) : Rho → Bool := xCall (aCons (gv 0) (aCons (gv 1) (aCons (cst .none) (aNil)))) (exc_parted_NoHall n)
def exB_law_plans_NoHall (n : Nat) : List PyData → Bool := fun args => (xl_law_plans_NoHall0 n (args.map fun d => some (.d d)) && (xl_law_plans_NoHall1 n (args.map fun d => some (.d d)) && (xl_law_plans_NoHall2 n (args.map fun d => some (.d d)) && (xl_law_plans_NoHall3 n (args.map fun d => some (.d d)) && (xl_law_plans_NoHall4 n (args.map fun d => some (.d d)) && (xl_law_plans_NoHall5 n (args.map fun d => some (.d d))))))))
theorem ref_law_plans_NoHall {P : Program} {w : World} {K : PySem.W.Frag} {mg : Str → Option Value} {base : Heap} {n : Nat} {C_NoHall : Addr} (kw_NoHall : KW K mg C_NoHall "NoHall+") (X_can_be_kept_NoHall : CFX P w K mg base 6 "can_be_kept" ["hall", "plan"] (spX P w K 2 (exc_can_be_kept_NoHall n) (PhiP C_NoHall))) (X_greatest_NoHall : CFX P w K mg base 6 "greatest" ["hall", "plan"] (spX P w K 2 (exc_greatest_NoHall n) (PhiP C_NoHall))) (X_lost_paper_NoHall : CFX P w K mg base 6 "lost_paper" ["hall", "plan", "thing"] (spX P w K 3 (exc_lost_paper_NoHall n) (PhiP C_NoHall))) (X_lost_shown_NoHall : CFX P w K mg base 6 "lost_shown" ["hall", "plan", "thing", "paper"] (spX P w K 4 (exc_lost_shown_NoHall n) (PhiP C_NoHall))) (X_least_from_NoHall : CFX P w K mg base 6 "least_from" ["hall", "plan", "thing"] (spX P w K 3 (exc_least_from_NoHall n) (PhiP C_NoHall))) (X_parted_NoHall : CFX P w K mg base 6 "parted" ["hall", "one", "other"] (spX P w K 3 (exc_parted_NoHall n) (PhiP C_NoHall))) : ∀ args : List PyData, exB_law_plans_NoHall n args = true → ∀ d ∈ ds_law_plans, (∃ w', d.2 = some w') ∧ Ref P w K mg base 6 (KW K mg) "NoHall+" ⟨d.1, d.2, q_law_plans, ["hall", "plan"], args⟩ := by
  intro args h
  unfold exB_law_plans_NoHall at h
  simp only [Bool.and_eq_true] at h
  obtain ⟨h0, h1, h2, h3, h4, h5⟩ := h
  exact List.forall_mem_cons.2 ⟨⟨⟨_, rfl⟩, ⟨C_NoHall, xl_law_plans_NoHall0 n, kw_NoHall, fun cl c' => ⟨lamSc (LamX.lamS_by (by kernel_rfl) : LamX.LamS (defScope s_law_plans) lam_law_plans0.scope), fun _ _ _ => rfl, fun A outer s H E f hr => by unfold xl_law_plans_NoHall0; exact (xe_callC takes_lamC X_can_be_kept_NoHall hr (by decide) (by rfl) (ra_cons (re_var 0) (ra_cons (re_var 1) ra_nil)) (aCons_len (aCons_len aNil_len)))⟩, h0⟩⟩, List.forall_mem_cons.2 ⟨⟨⟨_, rfl⟩, ⟨C_NoHall, xl_law_plans_NoHall1 n, kw_NoHall, fun cl c' => ⟨lamSc (LamX.lamS_by (by kernel_rfl) : LamX.LamS (defScope s_law_plans) lam_law_plans1.scope), fun _ _ _ => rfl, fun A outer s H E f hr => by unfold xl_law_plans_NoHall1; exact (xe_callC takes_lamC X_greatest_NoHall hr (by decide) (by rfl) (ra_cons (re_var 0) (ra_cons (re_var 1) ra_nil)) (aCons_len (aCons_len aNil_len)))⟩, h1⟩⟩, List.forall_mem_cons.2 ⟨⟨⟨_, rfl⟩, ⟨C_NoHall, xl_law_plans_NoHall2 n, kw_NoHall, fun cl c' => ⟨lamSc (LamX.lamS_by (by kernel_rfl) : LamX.LamS (defScope s_law_plans) lam_law_plans2.scope), fun _ _ _ => rfl, fun A outer s H E f hr => by unfold xl_law_plans_NoHall2; exact (xe_callC takes_lamC X_lost_paper_NoHall hr (by decide) (by rfl) (ra_cons (re_var 0) (ra_cons (re_var 1) (ra_cons re_non ra_nil))) (aCons_len (aCons_len (aCons_len aNil_len))))⟩, h2⟩⟩, List.forall_mem_cons.2 ⟨⟨⟨_, rfl⟩, ⟨C_NoHall, xl_law_plans_NoHall3 n, kw_NoHall, fun cl c' => ⟨lamSc (LamX.lamS_by (by kernel_rfl) : LamX.LamS (defScope s_law_plans) lam_law_plans3.scope), fun _ _ _ => rfl, fun A outer s H E f hr => by unfold xl_law_plans_NoHall3; exact (xe_callC takes_lamC X_lost_shown_NoHall hr (by decide) (by rfl) (ra_cons (re_var 0) (ra_cons (re_var 1) (ra_cons re_non (ra_cons re_non ra_nil)))) (aCons_len (aCons_len (aCons_len (aCons_len aNil_len)))))⟩, h3⟩⟩, List.forall_mem_cons.2 ⟨⟨⟨_, rfl⟩, ⟨C_NoHall, xl_law_plans_NoHall4 n, kw_NoHall, fun cl c' => ⟨lamSc (LamX.lamS_by (by kernel_rfl) : LamX.LamS (defScope s_law_plans) lam_law_plans4.scope), fun _ _ _ => rfl, fun A outer s H E f hr => by unfold xl_law_plans_NoHall4; exact (xe_callC takes_lamC X_least_from_NoHall hr (by decide) (by rfl) (ra_cons (re_var 0) (ra_cons (re_var 1) (ra_cons re_non ra_nil))) (aCons_len (aCons_len (aCons_len aNil_len))))⟩, h4⟩⟩, List.forall_mem_cons.2 ⟨⟨⟨_, rfl⟩, ⟨C_NoHall, xl_law_plans_NoHall5 n, kw_NoHall, fun cl c' => ⟨lamSc (LamX.lamS_by (by kernel_rfl) : LamX.LamS (defScope s_law_plans) lam_law_plans5.scope), fun _ _ _ => rfl, fun A outer s H E f hr => by unfold xl_law_plans_NoHall5; exact (xe_callC takes_lamC X_parted_NoHall hr (by decide) (by rfl) (ra_cons (re_var 0) (ra_cons (re_var 1) (ra_cons re_non ra_nil))) (aCons_len (aCons_len (aCons_len aNil_len))))⟩, h5⟩⟩, fun _ h => nomatch h⟩⟩⟩⟩⟩⟩
def xl_law_by_hall_NoHall0 (n : Nat) : Rho → Bool := xCall (aCons (gv 0) (aCons (cst .none) (aNil))) (exc_is_stand_NoHall n)
def xl_law_by_hall_NoHall1 (n : Nat) : Rho → Bool := xCall (aCons (gv 0) (aCons (cst .none) (aNil))) (exc_is_beat_NoHall n)
def xl_law_by_hall_NoHall2 (n : Nat) : Rho → Bool := xCall (aCons (gv 0) (aCons (cst .none) (aNil))) (exc_is_plan_NoHall n)
def xl_law_by_hall_NoHall3 (n : Nat) : Rho → Bool := xCall (aCons (gv 0) (aNil)) (exc_full_NoHall n)
def xl_law_by_hall_NoHall4 (n : Nat) : Rho → Bool := xCall (aCons (gv 0) (aNil)) (exc_bare_NoHall n)
def xl_law_by_hall_NoHall5 (n : Nat) : Rho → Bool := xCall (aCons (gv 0) (aCons (cst .none) (aCons (cst .none) (aNil)))) (exc_are_free_NoHall n)
def exB_law_by_hall_NoHall (n : Nat) : List PyData → Bool := fun args => (xl_law_by_hall_NoHall0 n (args.map fun d => some (.d d)) && (xl_law_by_hall_NoHall1 n (args.map fun d => some (.d d)) && (xl_law_by_hall_NoHall2 n (args.map fun d => some (.d d)) && (xl_law_by_hall_NoHall3 n (args.map fun d => some (.d d)) && (xl_law_by_hall_NoHall4 n (args.map fun d => some (.d d)) && (xl_law_by_hall_NoHall5 n (args.map fun d => some (.d d))))))))
theorem ref_law_by_hall_NoHall {P : Program} {w : World} {K : PySem.W.Frag} {mg : Str → Option Value} {base : Heap} {n : Nat} {C_NoHall : Addr} (kw_NoHall : KW K mg C_NoHall "NoHall+") (X_is_stand_NoHall : CFX P w K mg base 5 "is_stand" ["hall", "thing"] (spX P w K 2 (exc_is_stand_NoHall n) (PhiP C_NoHall))) (X_is_beat_NoHall : CFX P w K mg base 5 "is_beat" ["hall", "thing"] (spX P w K 2 (exc_is_beat_NoHall n) (PhiP C_NoHall))) (X_is_plan_NoHall : CFX P w K mg base 5 "is_plan" ["hall", "thing"] (spX P w K 2 (exc_is_plan_NoHall n) (PhiP C_NoHall))) (X_full_NoHall : CFX P w K mg base 5 "full" ["hall"] (spX P w K 1 (exc_full_NoHall n) (PhiP C_NoHall))) (X_bare_NoHall : CFX P w K mg base 5 "bare" ["hall"] (spX P w K 1 (exc_bare_NoHall n) (PhiP C_NoHall))) (X_are_free_NoHall : CFX P w K mg base 5 "are_free" ["hall", "meeting", "second"] (spX P w K 3 (exc_are_free_NoHall n) (PhiP C_NoHall))) : ∀ args : List PyData, exB_law_by_hall_NoHall n args = true → ∀ d ∈ ds_law_by_hall, d.2 = none ∧ Ref P w K mg base 6 (KW K mg) "NoHall+" ⟨d.1, d.2, q_law_by_hall, ["hall"], args⟩ := by
  intro args h
  unfold exB_law_by_hall_NoHall at h
  simp only [Bool.and_eq_true] at h
  obtain ⟨h0, h1, h2, h3, h4, h5⟩ := h
  exact List.forall_mem_cons.2 ⟨⟨rfl, ⟨C_NoHall, xl_law_by_hall_NoHall0 n, kw_NoHall, fun cl c' => ⟨lamSc (LamX.lamS_by (by kernel_rfl) : LamX.LamS (defScope s_law_by_hall) lam_law_by_hall0.scope), fun _ _ _ => rfl, fun A outer s H E f hr => by unfold xl_law_by_hall_NoHall0; exact (xe_callC takes_lamC X_is_stand_NoHall hr (by decide) (by rfl) (ra_cons (re_var 0) (ra_cons re_non ra_nil)) (aCons_len (aCons_len aNil_len)))⟩, h0⟩⟩, List.forall_mem_cons.2 ⟨⟨rfl, ⟨C_NoHall, xl_law_by_hall_NoHall1 n, kw_NoHall, fun cl c' => ⟨lamSc (LamX.lamS_by (by kernel_rfl) : LamX.LamS (defScope s_law_by_hall) lam_law_by_hall1.scope), fun _ _ _ => rfl, fun A outer s H E f hr => by unfold xl_law_by_hall_NoHall1; exact (xe_callC takes_lamC X_is_beat_NoHall hr (by decide) (by rfl) (ra_cons (re_var 0) (ra_cons re_non ra_nil)) (aCons_len (aCons_len aNil_len)))⟩, h1⟩⟩, List.forall_mem_cons.2 ⟨⟨rfl, ⟨C_NoHall, xl_law_by_hall_NoHall2 n, kw_NoHall, fun cl c' => ⟨lamSc (LamX.lamS_by (by kernel_rfl) : LamX.LamS (defScope s_law_by_hall) lam_law_by_hall2.scope), fun _ _ _ => rfl, fun A outer s H E f hr => by unfold xl_law_by_hall_NoHall2; exact (xe_callC takes_lamC X_is_plan_NoHall hr (by decide) (by rfl) (ra_cons (re_var 0) (ra_cons re_non ra_nil)) (aCons_len (aCons_len aNil_len)))⟩, h2⟩⟩, List.forall_mem_cons.2 ⟨⟨rfl, ⟨C_NoHall, xl_law_by_hall_NoHall3 n, kw_NoHall, fun cl c' => ⟨lamSc (LamX.lamS_by (by kernel_rfl) : LamX.LamS (defScope s_law_by_hall) lam_law_by_hall3.scope), fun _ _ _ => rfl, fun A outer s H E f hr => by unfold xl_law_by_hall_NoHall3; exact (xe_callC takes_lamC X_full_NoHall hr (by decide) (by rfl) (ra_cons (re_var 0) ra_nil) (aCons_len aNil_len))⟩, h3⟩⟩, List.forall_mem_cons.2 ⟨⟨rfl, ⟨C_NoHall, xl_law_by_hall_NoHall4 n, kw_NoHall, fun cl c' => ⟨lamSc (LamX.lamS_by (by kernel_rfl) : LamX.LamS (defScope s_law_by_hall) lam_law_by_hall4.scope), fun _ _ _ => rfl, fun A outer s H E f hr => by unfold xl_law_by_hall_NoHall4; exact (xe_callC takes_lamC X_bare_NoHall hr (by decide) (by rfl) (ra_cons (re_var 0) ra_nil) (aCons_len aNil_len))⟩, h4⟩⟩, List.forall_mem_cons.2 ⟨⟨rfl, ⟨C_NoHall, xl_law_by_hall_NoHall5 n, kw_NoHall, fun cl c' => ⟨lamSc (LamX.lamS_by (by kernel_rfl) : LamX.LamS (defScope s_law_by_hall) lam_law_by_hall5.scope), fun _ _ _ => rfl, fun A outer s H E f hr => by unfold xl_law_by_hall_NoHall5; exact (xe_callC takes_lamC X_are_free_NoHall hr (by decide) (by rfl) (ra_cons (re_var 0) (ra_cons re_non (ra_cons re_non ra_nil))) (aCons_len (aCons_len (aCons_len aNil_len))))⟩, h5⟩⟩, fun _ h => nomatch h⟩⟩⟩⟩⟩⟩
def xl_law_doors_NoStand0 (n : Nat) : Rho → Bool := xCall (aCons (gv 0) (aCons (gv 1) (aCons (gv 2) (aNil)))) (exc_by_beat_NoStand n)
def xl_law_doors_NoStand1 (n : Nat) : Rho → Bool := xCall (aCons (gv 0) (aCons (gv 1) (aCons (gv 3) (aCons (cst .none) (aNil))))) (exc_by_plan_NoStand n)
def xl_law_doors_NoStand2 (n : Nat) : Rho → Bool := xCall (aCons (gv 0) (aCons (gv 1) (aCons (gv 3) (aNil)))) (exc_comes_round_NoStand n)
def xl_law_doors_NoStand3 (n : Nat) : Rho → Bool := xCall (aCons (gv 0) (aCons (gv 1) (aCons (gv 3) (aNil)))) (exc_kept_from_NoStand n)
def xl_law_doors_NoStand4 (n : Nat) : Rho → Bool := xCall (aCons (gv 0) (aCons (gv 1) (aCons (cst .none) (aNil)))) (exc_lessons_NoStand n)
def xl_law_doors_NoStand5 (n : Nat) : Rho → Bool := xCall (aCons (gv 0) (aCons (gv 1) (aCons (cst .none) (aCons (cst .none) (aNil))))) (exc_is_shown_NoStand n)
def xl_law_doors_NoStand6 (n : Nat) : Rho → Bool := xCall (aCons (gv 0) (aCons (gv 1) (aCons (gv 2) (aNil)))) (exc_ends_NoStand n)
def xl_law_doors_NoStand7 (n : Nat) : Rho → Bool := xCall (aCons (gv 0) (aCons (gv 1) (aCons (gv 2) (aNil)))) (exc_ahead_NoStand n)
def exB_law_doors_NoStand (n : Nat) : List PyData → Bool := fun args => (xl_law_doors_NoStand0 n (args.map fun d => some (.d d)) && (xl_law_doors_NoStand1 n (args.map fun d => some (.d d)) && (xl_law_doors_NoStand2 n (args.map fun d => some (.d d)) && (xl_law_doors_NoStand3 n (args.map fun d => some (.d d)) && (xl_law_doors_NoStand4 n (args.map fun d => some (.d d)) && (xl_law_doors_NoStand5 n (args.map fun d => some (.d d)) && (xl_law_doors_NoStand6 n (args.map fun d => some (.d d)) && (xl_law_doors_NoStand7 n (args.map fun d => some (.d d))))))))))
theorem ref_law_doors_NoStand {P : Program} {w : World} {K : PySem.W.Frag} {mg : Str → Option Value} {base : Heap} {n : Nat} {C_NoStand : Addr} (kw_NoStand : KW K mg C_NoStand "NoStand+") (X_by_beat_NoStand : CFX P w K mg base 5 "by_beat" ["hall", "stand", "beat"] (spX P w K 3 (exc_by_beat_NoStand n) (PhiP C_NoStand))) (X_by_plan_NoStand : CFX P w K mg base 6 "by_plan" ["hall", "stand", "plan", "beats"] (spX P w K 4 (exc_by_plan_NoStand n) (PhiP C_NoStand))) (X_comes_round_NoStand : CFX P w K mg base 6 "comes_round" ["hall", "stand", "plan"] (spX P w K 3 (exc_comes_round_NoStand n) (PhiP C_NoStand))) (X_kept_from_NoStand : CFX P w K mg base 6 "kept_from" ["hall", "stand", "plan"] (spX P w K 3 (exc_kept_from_NoStand n) (PhiP C_NoStand))) (X_lessons_NoStand : CFX P w K mg base 5 "lessons" ["hall", "stand", "wish"] (spX P w K 3 (exc_lessons_NoStand n) (PhiP C_NoStand))) (X_is_shown_NoStand : CFX P w K mg base 5 "is_shown" ["hall", "stand", "wish", "paper"] (spX P w K 4 (exc_is_shown_NoStand n) (PhiP C_NoStand))) (X_ends_NoStand : CFX P w K mg base 5 "ends" ["hall", "stand", "beat"] (spX P w K 3 (exc_ends_NoStand n) (PhiP C_NoStand))) (X_ahead_NoStand : CFX P w K mg base 5 "ahead" ["hall", "stand", "beat"] (spX P w K 3 (exc_ahead_NoStand n) (PhiP C_NoStand))) : ∀ args : List PyData, exB_law_doors_NoStand n args = true → ∀ d ∈ ds_law_doors, (∃ w', d.2 = some w') ∧ Ref P w K mg base 6 (KW K mg) "NoStand+" ⟨d.1, d.2, q_law_doors, ["hall", "stand", "beat", "plan"], args⟩ := by
  intro args h
  unfold exB_law_doors_NoStand at h
  simp only [Bool.and_eq_true] at h
  obtain ⟨h0, h1, h2, h3, h4, h5, h6, h7⟩ := h
  exact List.forall_mem_cons.2 ⟨⟨⟨_, rfl⟩, ⟨C_NoStand, xl_law_doors_NoStand0 n, kw_NoStand, fun cl c' => ⟨lamSc (LamX.lamS_by (by kernel_rfl) : LamX.LamS (defScope s_law_doors) lam_law_doors0.scope), fun _ _ _ => rfl, fun A outer s H E f hr => by unfold xl_law_doors_NoStand0; exact (xe_callC takes_lamC X_by_beat_NoStand hr (by decide) (by rfl) (ra_cons (re_var 0) (ra_cons (re_var 1) (ra_cons (re_var 2) ra_nil))) (aCons_len (aCons_len (aCons_len aNil_len))))⟩, h0⟩⟩, List.forall_mem_cons.2 ⟨⟨⟨_, rfl⟩, ⟨C_NoStand, xl_law_doors_NoStand1 n, kw_NoStand, fun cl c' => ⟨lamSc (LamX.lamS_by (by kernel_rfl) : LamX.LamS (defScope s_law_doors) lam_law_doors1.scope), fun _ _ _ => rfl, fun A outer s H E f hr => by unfold xl_law_doors_NoStand1; exact (xe_callC takes_lamC X_by_plan_NoStand hr (by decide) (by rfl) (ra_cons (re_var 0) (ra_cons (re_var 1) (ra_cons (re_var 3) (ra_cons re_non ra_nil)))) (aCons_len (aCons_len (aCons_len (aCons_len aNil_len)))))⟩, h1⟩⟩, List.forall_mem_cons.2 ⟨⟨⟨_, rfl⟩, ⟨C_NoStand, xl_law_doors_NoStand2 n, kw_NoStand, fun cl c' => ⟨lamSc (LamX.lamS_by (by kernel_rfl) : LamX.LamS (defScope s_law_doors) lam_law_doors2.scope), fun _ _ _ => rfl, fun A outer s H E f hr => by unfold xl_law_doors_NoStand2; exact (xe_callC takes_lamC X_comes_round_NoStand hr (by decide) (by rfl) (ra_cons (re_var 0) (ra_cons (re_var 1) (ra_cons (re_var 3) ra_nil))) (aCons_len (aCons_len (aCons_len aNil_len))))⟩, h2⟩⟩, List.forall_mem_cons.2 ⟨⟨⟨_, rfl⟩, ⟨C_NoStand, xl_law_doors_NoStand3 n, kw_NoStand, fun cl c' => ⟨lamSc (LamX.lamS_by (by kernel_rfl) : LamX.LamS (defScope s_law_doors) lam_law_doors3.scope), fun _ _ _ => rfl, fun A outer s H E f hr => by unfold xl_law_doors_NoStand3; exact (xe_callC takes_lamC X_kept_from_NoStand hr (by decide) (by rfl) (ra_cons (re_var 0) (ra_cons (re_var 1) (ra_cons (re_var 3) ra_nil))) (aCons_len (aCons_len (aCons_len aNil_len))))⟩, h3⟩⟩, List.forall_mem_cons.2 ⟨⟨⟨_, rfl⟩, ⟨C_NoStand, xl_law_doors_NoStand4 n, kw_NoStand, fun cl c' => ⟨lamSc (LamX.lamS_by (by kernel_rfl) : LamX.LamS (defScope s_law_doors) lam_law_doors4.scope), fun _ _ _ => rfl, fun A outer s H E f hr => by unfold xl_law_doors_NoStand4; exact (xe_callC takes_lamC X_lessons_NoStand hr (by decide) (by rfl) (ra_cons (re_var 0) (ra_cons (re_var 1) (ra_cons re_non ra_nil))) (aCons_len (aCons_len (aCons_len aNil_len))))⟩, h4⟩⟩, List.forall_mem_cons.2 ⟨⟨⟨_, rfl⟩, ⟨C_NoStand, xl_law_doors_NoStand5 n, kw_NoStand, fun cl c' => ⟨lamSc (LamX.lamS_by (by kernel_rfl) : LamX.LamS (defScope s_law_doors) lam_law_doors5.scope), fun _ _ _ => rfl, fun A outer s H E f hr => by unfold xl_law_doors_NoStand5; exact (xe_callC takes_lamC X_is_shown_NoStand hr (by decide) (by rfl) (ra_cons (re_var 0) (ra_cons (re_var 1) (ra_cons re_non (ra_cons re_non ra_nil)))) (aCons_len (aCons_len (aCons_len (aCons_len aNil_len)))))⟩, h5⟩⟩, List.forall_mem_cons.2 ⟨⟨⟨_, rfl⟩, ⟨C_NoStand, xl_law_doors_NoStand6 n, kw_NoStand, fun cl c' => ⟨lamSc (LamX.lamS_by (by kernel_rfl) : LamX.LamS (defScope s_law_doors) lam_law_doors6.scope), fun _ _ _ => rfl, fun A outer s H E f hr => by unfold xl_law_doors_NoStand6; exact (xe_callC takes_lamC X_ends_NoStand hr (by decide) (by rfl) (ra_cons (re_var 0) (ra_cons (re_var 1) (ra_cons (re_var 2) ra_nil))) (aCons_len (aCons_len (aCons_len aNil_len))))⟩, h6⟩⟩, List.forall_mem_cons.2 ⟨⟨⟨_, rfl⟩, ⟨C_NoStand, xl_law_doors_NoStand7 n, kw_NoStand, fun cl c' => ⟨lamSc (LamX.lamS_by (by kernel_rfl) : LamX.LamS (defScope s_law_doors) lam_law_doors7.scope), fun _ _ _ => rfl, fun A outer s H E f hr => by unfold xl_law_doors_NoStand7; exact (xe_callC takes_lamC X_ahead_NoStand hr (by decide) (by rfl) (ra_cons (re_var 0) (ra_cons (re_var 1) (ra_cons (re_var 2) ra_nil))) (aCons_len (aCons_len (aCons_len aNil_len))))⟩, h7⟩⟩, fun _ h => nomatch h⟩⟩⟩⟩⟩⟩⟩⟩
def xl_law_doors_word0 (n : Nat) : Rho → Bool := xCall (aCons (gv 0) (aCons (gv 1) (aCons (gv 2) (aNil)))) (exc_by_beat_NoBeat n)
def xl_law_doors_word1 (n : Nat) : Rho → Bool := xCall (aCons (gv 0) (aCons (gv 1) (aCons (gv 3) (aCons (cst .none) (aNil))))) (exc_by_plan_NoPlan n)
def xl_law_doors_word2 (n : Nat) : Rho → Bool := xCall (aCons (gv 0) (aCons (gv 1) (aCons (gv 3) (aNil)))) (exc_comes_round_NoPlan n)
def xl_law_doors_word3 (n : Nat) : Rho → Bool := xCall (aCons (gv 0) (aCons (gv 1) (aCons (gv 3) (aNil)))) (exc_kept_from_NoPlan n)
def xl_law_doors_word4 (n : Nat) : Rho → Bool := xCall (aCons (gv 0) (aCons (gv 1) (aCons (cst .none) (aNil)))) (exc_lessons_NoStand n)
def xl_law_doors_word5 (n : Nat) : Rho → Bool := xCall (aCons (gv 0) (aCons (gv 1) (aCons (cst .none) (aCons (cst .none) (aNil))))) (exc_is_shown_NoStand n)
def xl_law_doors_word6 (n : Nat) : Rho → Bool := xCall (aCons (gv 0) (aCons (gv 1) (aCons (gv 2) (aNil)))) (exc_ends_NoBeat n)
def xl_law_doors_word7 (n : Nat) : Rho → Bool := xCall (aCons (gv 0) (aCons (gv 1) (aCons (gv 2) (aNil)))) (exc_ahead_NoBeat n)
def exB_law_doors_word (n : Nat) : List PyData → Bool := fun args => (xl_law_doors_word0 n (args.map fun d => some (.d d)) && (xl_law_doors_word1 n (args.map fun d => some (.d d)) && (xl_law_doors_word2 n (args.map fun d => some (.d d)) && (xl_law_doors_word3 n (args.map fun d => some (.d d)) && (xl_law_doors_word4 n (args.map fun d => some (.d d)) && (xl_law_doors_word5 n (args.map fun d => some (.d d)) && (xl_law_doors_word6 n (args.map fun d => some (.d d)) && (xl_law_doors_word7 n (args.map fun d => some (.d d))))))))))
theorem ref_law_doors_word {P : Program} {w : World} {K : PySem.W.Frag} {mg : Str → Option Value} {base : Heap} {n : Nat} {C_NoBeat : Addr} {C_NoPlan : Addr} {C_NoStand : Addr} (kw_NoBeat : KW K mg C_NoBeat "NoBeat+") (kw_NoPlan : KW K mg C_NoPlan "NoPlan+") (kw_NoStand : KW K mg C_NoStand "NoStand+") (X_by_beat_NoBeat : CFX P w K mg base 5 "by_beat" ["hall", "stand", "beat"] (spX P w K 3 (exc_by_beat_NoBeat n) (PhiP C_NoBeat))) (X_by_plan_NoPlan : CFX P w K mg base 6 "by_plan" ["hall", "stand", "plan", "beats"] (spX P w K 4 (exc_by_plan_NoPlan n) (PhiP C_NoPlan))) (X_comes_round_NoPlan : CFX P w K mg base 6 "comes_round" ["hall", "stand", "plan"] (spX P w K 3 (exc_comes_round_NoPlan n) (PhiP C_NoPlan))) (X_kept_from_NoPlan : CFX P w K mg base 6 "kept_from" ["hall", "stand", "plan"] (spX P w K 3 (exc_kept_from_NoPlan n) (PhiP C_NoPlan))) (X_lessons_NoStand : CFX P w K mg base 5 "lessons" ["hall", "stand", "wish"] (spX P w K 3 (exc_lessons_NoStand n) (PhiP C_NoStand))) (X_is_shown_NoStand : CFX P w K mg base 5 "is_shown" ["hall", "stand", "wish", "paper"] (spX P w K 4 (exc_is_shown_NoStand n) (PhiP C_NoStand))) (X_ends_NoBeat : CFX P w K mg base 5 "ends" ["hall", "stand", "beat"] (spX P w K 3 (exc_ends_NoBeat n) (PhiP C_NoBeat))) (X_ahead_NoBeat : CFX P w K mg base 5 "ahead" ["hall", "stand", "beat"] (spX P w K 3 (exc_ahead_NoBeat n) (PhiP C_NoBeat))) : ∀ args : List PyData, exB_law_doors_word n args = true → ∀ d ∈ ds_law_doors, ∃ w', d.2 = some w' ∧ Ref P w K mg base 6 (KW K mg) w' ⟨d.1, d.2, q_law_doors, ["hall", "stand", "beat", "plan"], args⟩ := by
  intro args h
  unfold exB_law_doors_word at h
  simp only [Bool.and_eq_true] at h
  obtain ⟨h0, h1, h2, h3, h4, h5, h6, h7⟩ := h
  exact List.forall_mem_cons.2 ⟨⟨_, rfl, ⟨C_NoBeat, xl_law_doors_word0 n, kw_NoBeat, fun cl c' => ⟨lamSc (LamX.lamS_by (by kernel_rfl) : LamX.LamS (defScope s_law_doors) lam_law_doors0.scope), fun _ _ _ => rfl, fun A outer s H E f hr => by unfold xl_law_doors_word0; exact (xe_callC takes_lamC X_by_beat_NoBeat hr (by decide) (by rfl) (ra_cons (re_var 0) (ra_cons (re_var 1) (ra_cons (re_var 2) ra_nil))) (aCons_len (aCons_len (aCons_len aNil_len))))⟩, h0⟩⟩, List.forall_mem_cons.2 ⟨⟨_, rfl, ⟨C_NoPlan, xl_law_doors_word1 n, kw_NoPlan, fun cl c' => ⟨lamSc (LamX.lamS_by (by kernel_rfl) : LamX.LamS (defScope s_law_doors) lam_law_doors1.scope), fun _ _ _ => rfl, fun A outer s H E f hr => by unfold xl_law_doors_word1; exact (xe_callC takes_lamC X_by_plan_NoPlan hr (by decide) (by rfl) (ra_cons (re_var 0) (ra_cons (re_var 1) (ra_cons (re_var 3) (ra_cons re_non ra_nil)))) (aCons_len (aCons_len (aCons_len (aCons_len aNil_len)))))⟩, h1⟩⟩, List.forall_mem_cons.2 ⟨⟨_, rfl, ⟨C_NoPlan, xl_law_doors_word2 n, kw_NoPlan, fun cl c' => ⟨lamSc (LamX.lamS_by (by kernel_rfl) : LamX.LamS (defScope s_law_doors) lam_law_doors2.scope), fun _ _ _ => rfl, fun A outer s H E f hr => by unfold xl_law_doors_word2; exact (xe_callC takes_lamC X_comes_round_NoPlan hr (by decide) (by rfl) (ra_cons (re_var 0) (ra_cons (re_var 1) (ra_cons (re_var 3) ra_nil))) (aCons_len (aCons_len (aCons_len aNil_len))))⟩, h2⟩⟩, List.forall_mem_cons.2 ⟨⟨_, rfl, ⟨C_NoPlan, xl_law_doors_word3 n, kw_NoPlan, fun cl c' => ⟨lamSc (LamX.lamS_by (by kernel_rfl) : LamX.LamS (defScope s_law_doors) lam_law_doors3.scope), fun _ _ _ => rfl, fun A outer s H E f hr => by unfold xl_law_doors_word3; exact (xe_callC takes_lamC X_kept_from_NoPlan hr (by decide) (by rfl) (ra_cons (re_var 0) (ra_cons (re_var 1) (ra_cons (re_var 3) ra_nil))) (aCons_len (aCons_len (aCons_len aNil_len))))⟩, h3⟩⟩, List.forall_mem_cons.2 ⟨⟨_, rfl, ⟨C_NoStand, xl_law_doors_word4 n, kw_NoStand, fun cl c' => ⟨lamSc (LamX.lamS_by (by kernel_rfl) : LamX.LamS (defScope s_law_doors) lam_law_doors4.scope), fun _ _ _ => rfl, fun A outer s H E f hr => by unfold xl_law_doors_word4; exact (xe_callC takes_lamC X_lessons_NoStand hr (by decide) (by rfl) (ra_cons (re_var 0) (ra_cons (re_var 1) (ra_cons re_non ra_nil))) (aCons_len (aCons_len (aCons_len aNil_len))))⟩, h4⟩⟩, List.forall_mem_cons.2 ⟨⟨_, rfl, ⟨C_NoStand, xl_law_doors_word5 n, kw_NoStand, fun cl c' => ⟨lamSc (LamX.lamS_by (by kernel_rfl) : LamX.LamS (defScope s_law_doors) lam_law_doors5.scope), fun _ _ _ => rfl, fun A outer s H E f hr => by unfold xl_law_doors_word5; exact (xe_callC takes_lamC X_is_shown_NoStand hr (by decide) (by rfl) (ra_cons (re_var 0) (ra_cons (re_var 1) (ra_cons re_non (ra_cons re_non ra_nil)))) (aCons_len (aCons_len (aCons_len (aCons_len aNil_len)))))⟩, h5⟩⟩, List.forall_mem_cons.2 ⟨⟨_, rfl, ⟨C_NoBeat, xl_law_doors_word6 n, kw_NoBeat, fun cl c' => ⟨lamSc (LamX.lamS_by (by kernel_rfl) : LamX.LamS (defScope s_law_doors) lam_law_doors6.scope), fun _ _ _ => rfl, fun A outer s H E f hr => by unfold xl_law_doors_word6; exact (xe_callC takes_lamC X_ends_NoBeat hr (by decide) (by rfl) (ra_cons (re_var 0) (ra_cons (re_var 1) (ra_cons (re_var 2) ra_nil))) (aCons_len (aCons_len (aCons_len aNil_len))))⟩, h6⟩⟩, List.forall_mem_cons.2 ⟨⟨_, rfl, ⟨C_NoBeat, xl_law_doors_word7 n, kw_NoBeat, fun cl c' => ⟨lamSc (LamX.lamS_by (by kernel_rfl) : LamX.LamS (defScope s_law_doors) lam_law_doors7.scope), fun _ _ _ => rfl, fun A outer s H E f hr => by unfold xl_law_doors_word7; exact (xe_callC takes_lamC X_ahead_NoBeat hr (by decide) (by rfl) (ra_cons (re_var 0) (ra_cons (re_var 1) (ra_cons (re_var 2) ra_nil))) (aCons_len (aCons_len (aCons_len aNil_len))))⟩, h7⟩⟩, fun _ h => nomatch h⟩⟩⟩⟩⟩⟩⟩⟩
def xl_law_plans_word0 (n : Nat) : Rho → Bool := xCall (aCons (gv 0) (aCons (gv 1) (aNil))) (exc_can_be_kept_NoPlan n)
def xl_law_plans_word1 (n : Nat) : Rho → Bool := xCall (aCons (gv 0) (aCons (gv 1) (aNil))) (exc_greatest_NoPlan n)
def xl_law_plans_word2 (n : Nat) : Rho → Bool := xCall (aCons (gv 0) (aCons (gv 1) (aCons (cst .none) (aNil)))) (exc_lost_paper_NoPlan n)
def xl_law_plans_word3 (n : Nat) : Rho → Bool := xCall (aCons (gv 0) (aCons (gv 1) (aCons (cst .none) (aCons (cst .none) (aNil))))) (exc_lost_shown_NoPlan n)
def xl_law_plans_word4 (n : Nat) : Rho → Bool := xCall (aCons (gv 0) (aCons (gv 1) (aCons (cst .none) (aNil)))) (exc_least_from_NoPlan n)
def xl_law_plans_word5 (n : Nat) : Rho → Bool := xCall (aCons (gv 0) (aCons (gv 1) (aCons (cst .none) (aNil)))) (exc_parted_NoPlan n)
def exB_law_plans_word (n : Nat) : List PyData → Bool := fun args => (xl_law_plans_word0 n (args.map fun d => some (.d d)) && (xl_law_plans_word1 n (args.map fun d => some (.d d)) && (xl_law_plans_word2 n (args.map fun d => some (.d d)) && (xl_law_plans_word3 n (args.map fun d => some (.d d)) && (xl_law_plans_word4 n (args.map fun d => some (.d d)) && (xl_law_plans_word5 n (args.map fun d => some (.d d))))))))
theorem ref_law_plans_word {P : Program} {w : World} {K : PySem.W.Frag} {mg : Str → Option Value} {base : Heap} {n : Nat} {C_NoPlan : Addr} (kw_NoPlan : KW K mg C_NoPlan "NoPlan+") (X_can_be_kept_NoPlan : CFX P w K mg base 6 "can_be_kept" ["hall", "plan"] (spX P w K 2 (exc_can_be_kept_NoPlan n) (PhiP C_NoPlan))) (X_greatest_NoPlan : CFX P w K mg base 6 "greatest" ["hall", "plan"] (spX P w K 2 (exc_greatest_NoPlan n) (PhiP C_NoPlan))) (X_lost_paper_NoPlan : CFX P w K mg base 6 "lost_paper" ["hall", "plan", "thing"] (spX P w K 3 (exc_lost_paper_NoPlan n) (PhiP C_NoPlan))) (X_lost_shown_NoPlan : CFX P w K mg base 6 "lost_shown" ["hall", "plan", "thing", "paper"] (spX P w K 4 (exc_lost_shown_NoPlan n) (PhiP C_NoPlan))) (X_least_from_NoPlan : CFX P w K mg base 6 "least_from" ["hall", "plan", "thing"] (spX P w K 3 (exc_least_from_NoPlan n) (PhiP C_NoPlan))) (X_parted_NoPlan : CFX P w K mg base 6 "parted" ["hall", "one", "other"] (spX P w K 3 (exc_parted_NoPlan n) (PhiP C_NoPlan))) : ∀ args : List PyData, exB_law_plans_word n args = true → ∀ d ∈ ds_law_plans, ∃ w', d.2 = some w' ∧ Ref P w K mg base 6 (KW K mg) w' ⟨d.1, d.2, q_law_plans, ["hall", "plan"], args⟩ := by
  intro args h
  unfold exB_law_plans_word at h
  simp only [Bool.and_eq_true] at h
  obtain ⟨h0, h1, h2, h3, h4, h5⟩ := h
  exact List.forall_mem_cons.2 ⟨⟨_, rfl, ⟨C_NoPlan, xl_law_plans_word0 n, kw_NoPlan, fun cl c' => ⟨lamSc (LamX.lamS_by (by kernel_rfl) : LamX.LamS (defScope s_law_plans) lam_law_plans0.scope), fun _ _ _ => rfl, fun A outer s H E f hr => by unfold xl_law_plans_word0; exact (xe_callC takes_lamC X_can_be_kept_NoPlan hr (by decide) (by rfl) (ra_cons (re_var 0) (ra_cons (re_var 1) ra_nil)) (aCons_len (aCons_len aNil_len)))⟩, h0⟩⟩, List.forall_mem_cons.2 ⟨⟨_, rfl, ⟨C_NoPlan, xl_law_plans_word1 n, kw_NoPlan, fun cl c' => ⟨lamSc (LamX.lamS_by (by kernel_rfl) : LamX.LamS (defScope s_law_plans) lam_law_plans1.scope), fun _ _ _ => rfl, fun A outer s H E f hr => by unfold xl_law_plans_word1; exact (xe_callC takes_lamC X_greatest_NoPlan hr (by decide) (by rfl) (ra_cons (re_var 0) (ra_cons (re_var 1) ra_nil)) (aCons_len (aCons_len aNil_len)))⟩, h1⟩⟩, List.forall_mem_cons.2 ⟨⟨_, rfl, ⟨C_NoPlan, xl_law_plans_word2 n, kw_NoPlan, fun cl c' => ⟨lamSc (LamX.lamS_by (by kernel_rfl) : LamX.LamS (defScope s_law_plans) lam_law_plans2.scope), fun _ _ _ => rfl, fun A outer s H E f hr => by unfold xl_law_plans_word2; exact (xe_callC takes_lamC X_lost_paper_NoPlan hr (by decide) (by rfl) (ra_cons (re_var 0) (ra_cons (re_var 1) (ra_cons re_non ra_nil))) (aCons_len (aCons_len (aCons_len aNil_len))))⟩, h2⟩⟩, List.forall_mem_cons.2 ⟨⟨_, rfl, ⟨C_NoPlan, xl_law_plans_word3 n, kw_NoPlan, fun cl c' => ⟨lamSc (LamX.lamS_by (by kernel_rfl) : LamX.LamS (defScope s_law_plans) lam_law_plans3.scope), fun _ _ _ => rfl, fun A outer s H E f hr => by unfold xl_law_plans_word3; exact (xe_callC takes_lamC X_lost_shown_NoPlan hr (by decide) (by rfl) (ra_cons (re_var 0) (ra_cons (re_var 1) (ra_cons re_non (ra_cons re_non ra_nil)))) (aCons_len (aCons_len (aCons_len (aCons_len aNil_len)))))⟩, h3⟩⟩, List.forall_mem_cons.2 ⟨⟨_, rfl, ⟨C_NoPlan, xl_law_plans_word4 n, kw_NoPlan, fun cl c' => ⟨lamSc (LamX.lamS_by (by kernel_rfl) : LamX.LamS (defScope s_law_plans) lam_law_plans4.scope), fun _ _ _ => rfl, fun A outer s H E f hr => by unfold xl_law_plans_word4; exact (xe_callC takes_lamC X_least_from_NoPlan hr (by decide) (by rfl) (ra_cons (re_var 0) (ra_cons (re_var 1) (ra_cons re_non ra_nil))) (aCons_len (aCons_len (aCons_len aNil_len))))⟩, h4⟩⟩, List.forall_mem_cons.2 ⟨⟨_, rfl, ⟨C_NoPlan, xl_law_plans_word5 n, kw_NoPlan, fun cl c' => ⟨lamSc (LamX.lamS_by (by kernel_rfl) : LamX.LamS (defScope s_law_plans) lam_law_plans5.scope), fun _ _ _ => rfl, fun A outer s H E f hr => by unfold xl_law_plans_word5; exact (xe_callC takes_lamC X_parted_NoPlan hr (by decide) (by rfl) (ra_cons (re_var 0) (ra_cons (re_var 1) (ra_cons re_non ra_nil))) (aCons_len (aCons_len (aCons_len aNil_len))))⟩, h5⟩⟩, fun _ h => nomatch h⟩⟩⟩⟩⟩⟩
abbrev s_law_last_right : Stmt := topS 92
theorem sc_law_last_right : FnScope ["hall", "stand", "plan", "good", "thing", "door", "beats", "one"] ["hall", "stand", "plan"] (defScope s_law_last_right) := ⟨rfl, rfl, rfl, by decide +kernel, rfl, by decide +kernel, by decide +kernel⟩
def m_law_last_right0 (n : Nat) : M Out := sSet 3 (mkT (aCons (cst (.int 0)) (aCons (cst (.int 1)) (aCons (cst (.int 0)) (aNil)))))
def m_law_last_right1 (n : Nat) : M Out := sFor (bnd (bnd (mkL (aCons (cst .none) (aCons (cst (.bool true)) (aCons (uop negD (cst (.int 1))) (aCons (app lenD (aCons (bop ixD (gv 0) (cst (.int 1))) (aNil))) (aCons (cst (.str (Str.ofString "0"))) (aNil))))))) frz) asLst) (asgN 4) (sFns 5 (xCall (aCons (gv 0) (aCons (gv 2) (aCons (gv 4) (aNil)))) (exc_lost_paper_NoThing n)) (xCall (aCons (gv 0) (aCons (gv 2) (aCons (gv 4) (aNil)))) (exc_least_from_NoThing n)))
def m_law_last_right2 (n : Nat) : M Out := sFor (bnd (bnd (mkL (aCons (cst .none) (aCons (cst (.bool true)) (aCons (uop negD (cst (.int 1))) (aCons (bop addD (bop powD (cst (.int 10)) (cst (.int 18))) (cst (.int 1))) (aCons (cst (.str (Str.ofString "1"))) (aNil))))))) frz) asLst) (asgN 6) (sLam (xCall (aCons (gv 0) (aCons (gv 1) (aCons (gv 2) (aCons (gv 6) (aNil))))) (exc_by_plan_NoCount n)) .nx)
def m_law_last_right3 (n : Nat) : M Out := sFor (bnd (bnd (mkL (aCons (cst .none) (aCons (mkT (aNil)) (aCons (mkT (aCons (cst (.int 0)) (aCons (cst (.int 0)) (aCons (cst (.int 0)) (aNil))))) (aCons (bnd (mkL (aCons (cst (.int 0)) (aCons (cst (.int 1)) (aCons (cst (.int 0)) (aNil))))) frz) (aCons (mkT (aCons (cst (.int 0)) (aCons (cst (.int 1)) (aCons (app lenD (aCons (bop ixD (gv 0) (cst (.int 1))) (aNil))) (aNil))))) (aCons (mkT (aCons (cst (.bool true)) (aCons (cst (.int 0)) (aCons (cst (.int 0)) (aNil))))) (aNil)))))))) frz) asLst) (asgN 7) (sCons (sLam (xCall (aCons (gv 0) (aCons (gv 7) (aCons (cst .none) (aNil)))) (exc_are_free_NoMeeting n)) .nx) (sLam (xCall (aCons (gv 0) (aCons (gv 3) (aCons (gv 7) (aNil)))) (exc_are_free_NoMeeting n)) .nx))
def m_law_last_right4 (n : Nat) : M Out := sLam (xCall (aCons (gv 0) (aCons (gv 2) (aCons (cst .none) (aNil)))) (exc_parted_NoPlan n)) (.ret (.d (.bool true)))
def m_law_last_right (n : Nat) : M Out := sCons (m_law_last_right0 n) (sCons (m_law_last_right1 n) (sCons (m_law_last_right2 n) (sCons (m_law_last_right3 n) (m_law_last_right4 n))))
def exc_law_last_right (n : Nat) : List PyData → Bool := runLT 8 (m_law_last_right n)
theorem ok_law_last_right {P : Program} {w : World} {K : PySem.W.Frag} {mg : Str → Option Value} {base : Heap} {n : Nat} {C_NoThing : Addr} {C_NoCount : Addr} {C_NoMeeting : Addr} {C_NoPlan : Addr} (B : BF mg) (D : DFA K mg "_law_last_right" s_law_last_right ["hall", "stand", "plan"]) (D1 : DF K mg "_law_kin" s_law_kin ["e"]) (D2 : DF K mg "_law_try" s_law_try ["door"]) (TB : LamX.TabB base mg (He.cT K ("_law_last_right", none)).1 (He.cT K ("_law_last_right", none)).2) (ND : ((TT K).map (·.1)).Nodup) (kw_NoThing : KW K mg C_NoThing "NoThing+") (kw_NoCount : KW K mg C_NoCount "NoCount+") (kw_NoMeeting : KW K mg C_NoMeeting "NoMeeting+") (kw_NoPlan : KW K mg C_NoPlan "NoPlan+") (X_lost_paper_NoThing : CFX P w K mg base 6 "lost_paper" ["hall", "plan", "thing"] (spX P w K 3 (exc_lost_paper_NoThing n) (PhiP C_NoThing))) (X_least_from_NoThing : CFX P w K mg base 6 "least_from" ["hall", "plan", "thing"] (spX P w K 3 (exc_least_from_NoThing n) (PhiP C_NoThing))) (X_by_plan_NoCount : CFX P w K mg base 6 "by_plan" ["hall", "stand", "plan", "beats"] (spX P w K 4 (exc_by_plan_NoCount n) (PhiP C_NoCount))) (X_are_free_NoMeeting : CFX P w K mg base 5 "are_free" ["hall", "meeting", "second"] (spX P w K 3 (exc_are_free_NoMeeting n) (PhiP C_NoMeeting))) (X_parted_NoPlan : CFX P w K mg base 6 "parted" ["hall", "one", "other"] (spX P w K 3 (exc_parted_NoPlan n) (PhiP C_NoPlan))) : CF P w K mg base 9 "_law_last_right" ["hall", "stand", "plan"] (spLR K (TT K) 3 (exc_law_last_right n)) := by
  obtain ⟨f1, fd1, F1, hm1, hb1⟩ := D1
  obtain ⟨f2, fd2, F2, hm2, hb2⟩ := D2
  obtain ⟨fd, F, hm, hb⟩ := D
  have hT : ((He.cT K ("_law_last_right", none)).2, q_law_last_right) ∈ TT K := by unfold TT; simp
  have hu := hu_of ND hT
  refine ⟨_, fd, F.kp, hm, hb, fnLR (k := 8) F sc_law_last_right rfl fun A outer s H E hr => ?_⟩
  unfold m_law_last_right m_law_last_right0 m_law_last_right1 m_law_last_right2 m_law_last_right3 m_law_last_right4
  exact (rls_cons (RS.rl (rs_set (i := 3) (by decide) sc_law_last_right.nd rfl (.inr rfl) (re_tup (ra_cons re_int (ra_cons re_int (ra_cons re_int ra_nil)))))) (rls_cons (rl_for (is := [4]) (by decide) PassesOwn.never rfl (rx_lst (ra_cons re_non (ra_cons re_bl (ra_cons (re_neg re_int) (ra_cons (re_callB cl_len (by rfl) B.len_ PySem.boot_len (ra_cons (re_ix (re_var 0) re_int (fun _ _ => rfl)) ra_nil)) (ra_cons re_str ra_nil)))))).re (rg_name (i := 4) sc_law_last_right.nd rfl (.inr rfl)) (rls_one (rl_fns (i := 5) (by decide) PassesOwn.never rfl sc_law_last_right.nd rfl (.inr rfl) (by rfl) (by rfl) (by obtain ⟨f, _, _, h, _⟩ := X_lost_paper_NoThing; exact ⟨f, h⟩) (by obtain ⟨f, _, _, h, _⟩ := X_least_from_NoThing; exact ⟨f, h⟩) (pe_lamN (k := 6) (by rfl) hm2 F2 hb2 sc_law_try rfl (.inl rfl) (fun cdv => try_givesP kw_NoThing F1 hm1 hb1) TB rfl hT hu (hr.mono (by decide)) (LamX.lamS_by (by kernel_rfl)) rfl (fun _ _ _ _ _ => rfl) (fun A outer s H E f c' hr => pe_orT (pe_tXV (xv_call (i := 5) takes_lam X_lost_paper_NoThing hr (by decide) rfl (.inr (.inr rfl)) (ra_cons (re_var 0) (ra_cons (re_var 2) (ra_cons (re_var 4) ra_nil))) (aCons_len (aCons_len (aCons_len aNil_len))))) (pe_tXV (xv_call (i := 5) takes_lam X_least_from_NoThing hr (by decide) rfl (.inr (.inr rfl)) (ra_cons (re_var 0) (ra_cons (re_var 2) (ra_cons (re_var 4) ra_nil))) (aCons_len (aCons_len (aCons_len aNil_len)))))))))) (rls_cons (rl_for (is := [6]) (by decide) PassesOwn.never rfl (rx_lst (ra_cons re_non (ra_cons re_bl (ra_cons (re_neg re_int) (ra_cons (re_bop op_addD (re_bop op_powD re_int re_int) re_int) (ra_cons re_str ra_nil)))))).re (rg_name (i := 6) sc_law_last_right.nd rfl (.inr rfl)) (rls_one (rl_ifLam (pe_lamN (k := 6) (by rfl) hm2 F2 hb2 sc_law_try rfl (.inl rfl) (fun cdv => try_givesP kw_NoCount F1 hm1 hb1) TB rfl hT hu (hr.mono (by decide)) (LamX.lamS_by (by kernel_rfl)) rfl (fun _ _ _ _ _ => rfl) (fun A outer s H E f c' hr => pe_tX (xe_callC takes_lam X_by_plan_NoCount hr (by decide) (by rfl) (ra_cons (re_var 0) (ra_cons (re_var 1) (ra_cons (re_var 2) (ra_cons (re_var 6) ra_nil)))) (aCons_len (aCons_len (aCons_len (aCons_len aNil_len)))))))))) (rls_cons (rl_for (is := [7]) (by decide) PassesOwn.never rfl (rx_lst (ra_cons re_non (ra_cons (re_tup ra_nil) (ra_cons (re_tup (ra_cons re_int (ra_cons re_int (ra_cons re_int ra_nil)))) (ra_cons (rx_lst (ra_cons re_int (ra_cons re_int (ra_cons re_int ra_nil)))).re (ra_cons (re_tup (ra_cons re_int (ra_cons re_int (ra_cons (re_callB cl_len (by rfl) B.len_ PySem.boot_len (ra_cons (re_ix (re_var 0) re_int (fun _ _ => rfl)) ra_nil)) ra_nil)))) (ra_cons (re_tup (ra_cons re_bl (ra_cons re_int (ra_cons re_int ra_nil)))) ra_nil))))))).re (rg_name (i := 7) sc_law_last_right.nd rfl (.inr rfl)) (rls_cons (rl_ifLam (pe_lamN (k := 6) (by rfl) hm2 F2 hb2 sc_law_try rfl (.inl rfl) (fun cdv => try_givesP kw_NoMeeting F1 hm1 hb1) TB rfl hT hu (hr.mono (by decide)) (LamX.lamS_by (by kernel_rfl)) rfl (fun _ _ _ _ _ => rfl) (fun A outer s H E f c' hr => pe_tX (xe_callC takes_lam X_are_free_NoMeeting hr (by decide) (by rfl) (ra_cons (re_var 0) (ra_cons (re_var 7) (ra_cons re_non ra_nil))) (aCons_len (aCons_len (aCons_len aNil_len))))))) (rls_one (rl_ifLam (pe_lamN (k := 6) (by rfl) hm2 F2 hb2 sc_law_try rfl (.inl rfl) (fun cdv => try_givesP kw_NoMeeting F1 hm1 hb1) TB rfl hT hu (hr.mono (by decide)) (LamX.lamS_by (by kernel_rfl)) rfl (fun _ _ _ _ _ => rfl) (fun A outer s H E f c' hr => pe_tX (xe_callC takes_lam X_are_free_NoMeeting hr (by decide) (by rfl) (ra_cons (re_var 0) (ra_cons (re_var 3) (ra_cons (re_var 7) ra_nil))) (aCons_len (aCons_len (aCons_len aNil_len)))))))))) (rls_one (rl_retLam (pe_lamN (k := 6) (by rfl) hm2 F2 hb2 sc_law_try rfl (.inl rfl) (fun cdv => try_givesP kw_NoPlan F1 hm1 hb1) TB rfl hT hu (hr.mono (by decide)) (LamX.lamS_by (by kernel_rfl)) rfl (fun _ _ _ _ _ => rfl) (fun A outer s H E f c' hr => pe_tX (xe_callC takes_lam X_parted_NoPlan hr (by decide) (by rfl) (ra_cons (re_var 0) (ra_cons (re_var 2) (ra_cons re_non ra_nil))) (aCons_len (aCons_len (aCons_len aNil_len))))))))))))
abbrev s_law : Stmt := topS 93
theorem sc_law : FnScope ["script", "cell", "deck", "hall", "stand", "plan", "odd", "bad", "beat", "row", "door", "word"] ["script"] (defScope s_law) := ⟨rfl, rfl, rfl, by decide +kernel, rfl, by decide +kernel, by decide +kernel⟩
def m_law0 (n : Nat) : M Out := sSetX 2 (dcall (den_law_deck n) (aCons (gv 1) (aCons (cst (.int 13)) (aNil))))
def m_law1 (n : Nat) : M Out := sSet 3 (bnd (dcallR (den_law_hall n) 2 aNil (aCons (bnd (dcall (den_law_small n) aNil) frz) (aNil))) frz)
def m_law2 (n : Nat) : M Out := sPar 4 5 (bnd (bnd (dcallR (den_law_stand n) 2 aNil (aCons (gv 3) (aNil))) frz) fun x => ret (.d x)) (bnd (bnd (dcallR (den_law_plan n) 2 aNil (aCons (gv 3) (aNil))) frz) fun x => ret (.d x))
def m_law3 (n : Nat) : M Out := sSet 6 (bnd (dcallR (den_law_one n) 2 aNil (aCons (bnd (mkL (aCons (cst .none) (aCons (cst (.bool true)) (aCons (cst (.str (Str.ofString ""))) (aCons (mkT (aNil)) (aCons (bnd (mkL (aNil)) frz) (aCons (cst (.int 7)) (aCons (app listD (aCons (gv 3) (aNil))) (aCons (slc (gv 3) (ret none) (bnd (cst (.int 1)) asI)) (aCons (bop addD (mkT (aCons (cst (.int 9)) (aNil))) (slc (gv 3) (bnd (cst (.int 1)) asI) (ret none))) (aNil))))))))))) frz) (aNil))) frz)
def m_law4 (n : Nat) : M Out := sSet 7 (bnd (dcallR (den_law_one n) 2 aNil (aCons (bnd (mkL (aCons (cst .none) (aCons (mkT (aNil)) (aCons (app listD (aCons (gv 4) (aNil))) (aCons (slc (gv 4) (bnd (cst (.int 1)) asI) (ret none)) (aCons (bop mulD (mkT (aCons (mkT (aNil)) (aNil))) (bop ixD (gv 3) (cst (.int 0)))) (aCons (bop addD (gv 4) (gv 4)) (aNil)))))))) frz) (aNil))) frz)
def m_law5 (n : Nat) : M Out := sSet 8 (bnd (dcallR (den_law_one n) 2 aNil (aCons (bnd (mkL (aCons (cst .none) (aCons (bnd (mkL (aNil)) frz) (aCons (mkT (aCons (mkT (aCons (cst (.int 0)) (aCons (cst (.int 0)) (aCons (cst (.int 0)) (aNil))))) (aNil))) (aCons (bop mulD (mkT (aCons (mkT (aCons (cst (.int 0)) (aCons (cst (.int 1)) (aCons (cst (.int 0)) (aNil))))) (aNil))) (cst (.int 5))) (aCons (mkT (aCons (mkT (aCons (cst (.int 0)) (aCons (cst (.int 1)) (aCons (cst (.int 9)) (aNil))))) (aNil))) (aCons (cst (.str (Str.ofString "a"))) (aNil)))))))) frz) (aNil))) frz)
def m_law6 (n : Nat) : M Out := sSet 9 (bnd (dcallR (den_law_one n) 2 aNil (aCons (bnd (mkL (aCons (cst .none) (aCons (mkT (aNil)) (aCons (bnd (mkL (aCons (mkT (aNil)) (aNil))) frz) (aCons (bop mulD (mkT (aCons (mkT (aNil)) (aNil))) (cst (.int 5))) (aCons (mkT (aCons (gv 8) (aNil))) (aCons (cst (.str (Str.ofString "a"))) (aNil)))))))) frz) (aNil))) frz)
def m_law7 (n : Nat) : M Out := sDoors (gAdd (gMk [6, 7, 8, 9] ds_law_doors q_law_doors ["hall", "stand", "beat", "plan"]) (gMk [6, 9] ds_law_plans q_law_plans ["hall", "plan"])) [10, 11] (okAnd (okN [6, 7, 8, 9] (exB_law_doors_NoHall n)) (okN [6, 9] (exB_law_plans_NoHall n)))
def m_law8 (n : Nat) : M Out := sDoors (gMk [6] ds_law_by_hall q_law_by_hall ["hall"]) [10] (okN [6] (exB_law_by_hall_NoHall n))
def m_law9 (n : Nat) : M Out := sDoors (gMk [3, 7, 8, 9] ds_law_doors q_law_doors ["hall", "stand", "beat", "plan"]) [10, 11] (okN [3, 7, 8, 9] (exB_law_doors_NoStand n))
def m_law10 (n : Nat) : M Out := sDoors (gAdd (gMk [3, 4, 8, 9] ds_law_doors q_law_doors ["hall", "stand", "beat", "plan"]) (gMk [3, 9] ds_law_plans q_law_plans ["hall", "plan"])) [10, 11] (okAnd (okN [3, 4, 8, 9] (exB_law_doors_word n)) (okN [3, 9] (exB_law_plans_word n)))
def m_law11 (n : Nat) : M Out := sIfCall [3, 4, 5] (exc_law_last_right n)
def mb_law (n : Nat) : M Out := sCons (m_law0 n) (sCons (m_law1 n) (sCons (m_law2 n) (sCons (m_law3 n) (sCons (m_law4 n) (sCons (m_law5 n) (sCons (m_law6 n) (sCons (m_law7 n) (sCons (m_law8 n) (sCons (m_law9 n) (sCons (m_law10 n) (m_law11 n)))))))))))
def m_law (n : Nat) : M Out := sCons (sFor (bnd (slc (bop addD (bnd (mkL (aCons (cst (.int 0)) (aNil))) frz) (gv 0)) (ret none) (bnd (cst (.int 8)) asI)) asLst) (asgN 1) (mb_law n)) (sRetD (cst (.bool true)))
def exc_law (n : Nat) : List PyData → Bool := runLT 12 (m_law n)
theorem ok_law {P : Program} {w : World} {K : PySem.W.Frag} {mg : Str → Option Value} {base : Heap} {n : Nat} {C_NoHall : Addr} {C_NoStand : Addr} {C_NoBeat : Addr} {C_NoPlan : Addr} {fd : FuncData} (B : BF mg) (F : FnP K "law" s_law (He.fAd K ("law", none)) fd) (CT : CF P w K mg base 8 "_law_try" ["door"] (spTry P w K mg base 6 (KW K mg))) (C_law_doors : CF P w K mg base 1 "_law_doors" ["hall", "stand", "beat", "plan"] (spMk (TT K) q_law_doors ["hall", "stand", "beat", "plan"] ds_law_doors)) (C_law_plans : CF P w K mg base 1 "_law_plans" ["hall", "plan"] (spMk (TT K) q_law_plans ["hall", "plan"] ds_law_plans)) (C_law_by_hall : CF P w K mg base 1 "_law_by_hall" ["hall"] (spMk (TT K) q_law_by_hall ["hall"] ds_law_by_hall)) (C_law_last_right : CF P w K mg base 9 "_law_last_right" ["hall", "stand", "plan"] (spLR K (TT K) 3 (exc_law_last_right n))) (C_law_deck : CF P w K mg base 1 "_law_deck" ["cell", "turn"] (sp0 P w K 2 (den_law_deck n))) (C_law_one : CF P w K mg base 2 "_law_one" ["deck", "some"] (sp1 P w K 2 0 (den_law_one n))) (C_law_hall : CF P w K mg base 3 "_law_hall" ["deck", "shapes"] (sp1 P w K 2 0 (den_law_hall n))) (C_law_small : CF P w K mg base 1 "_law_small" [] (sp0 P w K 0 (den_law_small n))) (C_law_plan : CF P w K mg base 4 "_law_plan" ["deck", "hall"] (sp1 P w K 2 0 (den_law_plan n))) (C_law_stand : CF P w K mg base 3 "_law_stand" ["deck", "hall"] (sp1 P w K 2 0 (den_law_stand n))) (kw_NoHall : KW K mg C_NoHall "NoHall+") (kw_NoStand : KW K mg C_NoStand "NoStand+") (kw_NoBeat : KW K mg C_NoBeat "NoBeat+") (kw_NoPlan : KW K mg C_NoPlan "NoPlan+") (X_by_beat_NoHall : CFX P w K mg base 5 "by_beat" ["hall", "stand", "beat"] (spX P w K 3 (exc_by_beat_NoHall n) (PhiP C_NoHall))) (X_by_plan_NoHall : CFX P w K mg base 6 "by_plan" ["hall", "stand", "plan", "beats"] (spX P w K 4 (exc_by_plan_NoHall n) (PhiP C_NoHall))) (X_comes_round_NoHall : CFX P w K mg base 6 "comes_round" ["hall", "stand", "plan"] (spX P w K 3 (exc_comes_round_NoHall n) (PhiP C_NoHall))) (X_kept_from_NoHall : CFX P w K mg base 6 "kept_from" ["hall", "stand", "plan"] (spX P w K 3 (exc_kept_from_NoHall n) (PhiP C_NoHall))) (X_lessons_NoHall : CFX P w K mg base 5 "lessons" ["hall", "stand", "wish"] (spX P w K 3 (exc_lessons_NoHall n) (PhiP C_NoHall))) (X_is_shown_NoHall : CFX P w K mg base 5 "is_shown" ["hall", "stand", "wish", "paper"] (spX P w K 4 (exc_is_shown_NoHall n) (PhiP C_NoHall))) (X_ends_NoHall : CFX P w K mg base 5 "ends" ["hall", "stand", "beat"] (spX P w K 3 (exc_ends_NoHall n) (PhiP C_NoHall))) (X_ahead_NoHall : CFX P w K mg base 5 "ahead" ["hall", "stand", "beat"] (spX P w K 3 (exc_ahead_NoHall n) (PhiP C_NoHall))) (X_can_be_kept_NoHall : CFX P w K mg base 6 "can_be_kept" ["hall", "plan"] (spX P w K 2 (exc_can_be_kept_NoHall n) (PhiP C_NoHall))) (X_greatest_NoHall : CFX P w K mg base 6 "greatest" ["hall", "plan"] (spX P w K 2 (exc_greatest_NoHall n) (PhiP C_NoHall))) (X_lost_paper_NoHall : CFX P w K mg base 6 "lost_paper" ["hall", "plan", "thing"] (spX P w K 3 (exc_lost_paper_NoHall n) (PhiP C_NoHall))) (X_lost_shown_NoHall : CFX P w K mg base 6 "lost_shown" ["hall", "plan", "thing", "paper"] (spX P w K 4 (exc_lost_shown_NoHall n) (PhiP C_NoHall))) (X_least_from_NoHall : CFX P w K mg base 6 "least_from" ["hall", "plan", "thing"] (spX P w K 3 (exc_least_from_NoHall n) (PhiP C_NoHall))) (X_parted_NoHall : CFX P w K mg base 6 "parted" ["hall", "one", "other"] (spX P w K 3 (exc_parted_NoHall n) (PhiP C_NoHall))) (X_is_stand_NoHall : CFX P w K mg base 5 "is_stand" ["hall", "thing"] (spX P w K 2 (exc_is_stand_NoHall n) (PhiP C_NoHall))) (X_is_beat_NoHall : CFX P w K mg base 5 "is_beat" ["hall", "thing"] (spX P w K 2 (exc_is_beat_NoHall n) (PhiP C_NoHall))) (X_is_plan_NoHall : CFX P w K mg base 5 "is_plan" ["hall", "thing"] (spX P w K 2 (exc_is_plan_NoHall n) (PhiP C_NoHall))) (X_full_NoHall : CFX P w K mg base 5 "full" ["hall"] (spX P w K 1 (exc_full_NoHall n) (PhiP C_NoHall))) (X_bare_NoHall : CFX P w K mg base 5 "bare" ["hall"] (spX P w K 1 (exc_bare_NoHall n) (PhiP C_NoHall))) (X_are_free_NoHall : CFX P w K mg base 5 "are_free" ["hall", "meeting", "second"] (spX P w K 3 (exc_are_free_NoHall n) (PhiP C_NoHall))) (X_by_beat_NoStand : CFX P w K mg base 5 "by_beat" ["hall", "stand", "beat"] (spX P w K 3 (exc_by_beat_NoStand n) (PhiP C_NoStand))) (X_by_plan_NoStand : CFX P w K mg base 6 "by_plan" ["hall", "stand", "plan", "beats"] (spX P w K 4 (exc_by_plan_NoStand n) (PhiP C_NoStand))) (X_comes_round_NoStand : CFX P w K mg base 6 "comes_round" ["hall", "stand", "plan"] (spX P w K 3 (exc_comes_round_NoStand n) (PhiP C_NoStand))) (X_kept_from_NoStand : CFX P w K mg base 6 "kept_from" ["hall", "stand", "plan"] (spX P w K 3 (exc_kept_from_NoStand n) (PhiP C_NoStand))) (X_lessons_NoStand : CFX P w K mg base 5 "lessons" ["hall", "stand", "wish"] (spX P w K 3 (exc_lessons_NoStand n) (PhiP C_NoStand))) (X_is_shown_NoStand : CFX P w K mg base 5 "is_shown" ["hall", "stand", "wish", "paper"] (spX P w K 4 (exc_is_shown_NoStand n) (PhiP C_NoStand))) (X_ends_NoStand : CFX P w K mg base 5 "ends" ["hall", "stand", "beat"] (spX P w K 3 (exc_ends_NoStand n) (PhiP C_NoStand))) (X_ahead_NoStand : CFX P w K mg base 5 "ahead" ["hall", "stand", "beat"] (spX P w K 3 (exc_ahead_NoStand n) (PhiP C_NoStand))) (X_by_beat_NoBeat : CFX P w K mg base 5 "by_beat" ["hall", "stand", "beat"] (spX P w K 3 (exc_by_beat_NoBeat n) (PhiP C_NoBeat))) (X_by_plan_NoPlan : CFX P w K mg base 6 "by_plan" ["hall", "stand", "plan", "beats"] (spX P w K 4 (exc_by_plan_NoPlan n) (PhiP C_NoPlan))) (X_comes_round_NoPlan : CFX P w K mg base 6 "comes_round" ["hall", "stand", "plan"] (spX P w K 3 (exc_comes_round_NoPlan n) (PhiP C_NoPlan))) (X_kept_from_NoPlan : CFX P w K mg base 6 "kept_from" ["hall", "stand", "plan"] (spX P w K 3 (exc_kept_from_NoPlan n) (PhiP C_NoPlan))) (X_ends_NoBeat : CFX P w K mg base 5 "ends" ["hall", "stand", "beat"] (spX P w K 3 (exc_ends_NoBeat n) (PhiP C_NoBeat))) (X_ahead_NoBeat : CFX P w K mg base 5 "ahead" ["hall", "stand", "beat"] (spX P w K 3 (exc_ahead_NoBeat n) (PhiP C_NoBeat))) (X_can_be_kept_NoPlan : CFX P w K mg base 6 "can_be_kept" ["hall", "plan"] (spX P w K 2 (exc_can_be_kept_NoPlan n) (PhiP C_NoPlan))) (X_greatest_NoPlan : CFX P w K mg base 6 "greatest" ["hall", "plan"] (spX P w K 2 (exc_greatest_NoPlan n) (PhiP C_NoPlan))) (X_lost_paper_NoPlan : CFX P w K mg base 6 "lost_paper" ["hall", "plan", "thing"] (spX P w K 3 (exc_lost_paper_NoPlan n) (PhiP C_NoPlan))) (X_lost_shown_NoPlan : CFX P w K mg base 6 "lost_shown" ["hall", "plan", "thing", "paper"] (spX P w K 4 (exc_lost_shown_NoPlan n) (PhiP C_NoPlan))) (X_least_from_NoPlan : CFX P w K mg base 6 "least_from" ["hall", "plan", "thing"] (spX P w K 3 (exc_least_from_NoPlan n) (PhiP C_NoPlan))) (X_parted_NoPlan : CFX P w K mg base 6 "parted" ["hall", "one", "other"] (spX P w K 3 (exc_parted_NoPlan n) (PhiP C_NoPlan))) : FnOk P w K mg base CX0 10 (He.fAd K ("law", none)) fd ["script"] (spLR K (TT K) 1 (exc_law n)) := by
  refine fnLR (k := 9) F sc_law rfl fun A outer s H E hr => ?_
  unfold m_law mb_law m_law0 m_law1 m_law2 m_law3 m_law4 m_law5 m_law6 m_law7 m_law8 m_law9 m_law10 m_law11
  exact (rls_cons (rl_for (is := [1]) (by decide) PassesOwn.never rfl (re_sl (re_bop op_addD (rx_lst (ra_cons re_int ra_nil)).re (re_var 0)) ro_none (ro_some re_int)) (rg_name (i := 1) sc_law.nd rfl (.inl rfl)) (rls_cons (RS.rl (rs_setX (i := 2) (by decide) sc_law.nd rfl (.inl rfl) (rx_callC C_law_deck hr (by decide) (by rfl) (ra_cons (re_var 1) (ra_cons re_int ra_nil)) (aCons_len (aCons_len aNil_len))))) (rls_cons (RS.rl (rs_set (i := 3) (by decide) sc_law.nd rfl (.inl rfl) (rx_callCR 2 C_law_hall hr (by decide) (by rfl) (ra_cons (rx_callC0 C_law_small hr (by decide) (by rfl)).re ra_nil) (aCons_len aNil_len)).re)) (rls_cons (RS.rl (rs_par (i := 4) (j := 5) (by decide) (by decide) rfl sc_law.nd rfl rfl (by decide) rfl rfl (((rx_callCR 2 C_law_stand hr (by decide) (by rfl) (ra_cons (re_var 3) ra_nil) (aCons_len aNil_len)).re).rx) (((rx_callCR 2 C_law_plan hr (by decide) (by rfl) (ra_cons (re_var 3) ra_nil) (aCons_len aNil_len)).re).rx) (by rfl))) (rls_cons (RS.rl (rs_set (i := 6) (by decide) sc_law.nd rfl (.inl rfl) (rx_callCR 2 C_law_one hr (by decide) (by rfl) (ra_cons (rx_lst (ra_cons re_non (ra_cons re_bl (ra_cons re_str (ra_cons (re_tup ra_nil) (ra_cons (rx_lst ra_nil).re (ra_cons re_int (ra_cons (re_callTy cl_list (by rfl) B.list_ PyProof.Rows.boot_list (ra_cons (re_var 3) ra_nil)) (ra_cons (re_sl (re_var 3) ro_none (ro_some re_int)) (ra_cons (re_bop op_addD (re_tup (ra_cons re_int ra_nil)) (re_sl (re_var 3) (ro_some re_int) ro_none)) ra_nil)))))))))).re ra_nil) (aCons_len aNil_len)).re)) (rls_cons (RS.rl (rs_set (i := 7) (by decide) sc_law.nd rfl (.inl rfl) (rx_callCR 2 C_law_one hr (by decide) (by rfl) (ra_cons (rx_lst (ra_cons re_non (ra_cons (re_tup ra_nil) (ra_cons (re_callTy cl_list (by rfl) B.list_ PyProof.Rows.boot_list (ra_cons (re_var 4) ra_nil)) (ra_cons (re_sl (re_var 4) (ro_some re_int) ro_none) (ra_cons (re_bop op_mulD (re_tup (ra_cons (re_tup ra_nil) ra_nil)) (re_ix (re_var 3) re_int (fun _ _ => rfl))) (ra_cons (re_bop op_addD (re_var 4) (re_var 4)) ra_nil))))))).re ra_nil) (aCons_len aNil_len)).re)) (rls_cons (RS.rl (rs_set (i := 8) (by decide) sc_law.nd rfl (.inl rfl) (rx_callCR 2 C_law_one hr (by decide) (by rfl) (ra_cons (rx_lst (ra_cons re_non (ra_cons (rx_lst ra_nil).re (ra_cons (re_tup (ra_cons (re_tup (ra_cons re_int (ra_cons re_int (ra_cons re_int ra_nil)))) ra_nil)) (ra_cons (re_bop op_mulD (re_tup (ra_cons (re_tup (ra_cons re_int (ra_cons re_int (ra_cons re_int ra_nil)))) ra_nil)) re_int) (ra_cons (re_tup (ra_cons (re_tup (ra_cons re_int (ra_cons re_int (ra_cons re_int ra_nil)))) ra_nil)) (ra_cons re_str ra_nil))))))).re ra_nil) (aCons_len aNil_len)).re)) (rls_cons (RS.rl (rs_set (i := 9) (by decide) sc_law.nd rfl (.inl rfl) (rx_callCR 2 C_law_one hr (by decide) (by rfl) (ra_cons (rx_lst (ra_cons re_non (ra_cons (re_tup ra_nil) (ra_cons (rx_lst (ra_cons (re_tup ra_nil) ra_nil)).re (ra_cons (re_bop op_mulD (re_tup (ra_cons (re_tup ra_nil) ra_nil)) re_int) (ra_cons (re_tup (ra_cons (re_var 8) ra_nil)) (ra_cons re_str ra_nil))))))).re ra_nil) (aCons_len aNil_len)).re)) (rls_cons (rl_doorsC (iD := 10) (iW := 11) (by decide) (by decide) PassesOwn.never rfl sc_law.nd (rd_add (rd_call C_law_doors hr (by decide) (by rfl) (rv_cons 6 (rv_cons 7 (rv_cons 8 (rv_cons 9 rv_nil)))) rfl) (rd_call C_law_plans hr (by decide) (by rfl) (rv_cons 6 (rv_cons 9 rv_nil)) rfl)) CT hr (by decide) (by rfl) (gAdd_all (gMk_all (ref_law_doors_NoHall kw_NoHall X_by_beat_NoHall X_by_plan_NoHall X_comes_round_NoHall X_kept_from_NoHall X_lessons_NoHall X_is_shown_NoHall X_ends_NoHall X_ahead_NoHall)) (gMk_all (ref_law_plans_NoHall kw_NoHall X_can_be_kept_NoHall X_greatest_NoHall X_lost_paper_NoHall X_lost_shown_NoHall X_least_from_NoHall X_parted_NoHall))) (pgD := pg_tup rfl (pgs_cons (pg_name sc_law.nd rfl (.inl rfl)) (pgs_cons (pg_name sc_law.nd rfl (.inl rfl)) pgs_nil)))) (rls_cons (rl_doors1 (iD := 10) (by decide) PassesOwn.never rfl sc_law.nd (rd_call C_law_by_hall hr (by decide) (by rfl) (rv_cons 6 rv_nil) rfl) CT hr (by decide) (by rfl) (gMk_all (ref_law_by_hall_NoHall kw_NoHall X_is_stand_NoHall X_is_beat_NoHall X_is_plan_NoHall X_full_NoHall X_bare_NoHall X_are_free_NoHall))) (rls_cons (rl_doorsC (iD := 10) (iW := 11) (by decide) (by decide) PassesOwn.never rfl sc_law.nd (rd_call C_law_doors hr (by decide) (by rfl) (rv_cons 3 (rv_cons 7 (rv_cons 8 (rv_cons 9 rv_nil)))) rfl) CT hr (by decide) (by rfl) (gMk_all (ref_law_doors_NoStand kw_NoStand X_by_beat_NoStand X_by_plan_NoStand X_comes_round_NoStand X_kept_from_NoStand X_lessons_NoStand X_is_shown_NoStand X_ends_NoStand X_ahead_NoStand)) (pgD := pg_tup rfl (pgs_cons (pg_name sc_law.nd rfl (.inl rfl)) (pgs_cons (pg_name sc_law.nd rfl (.inl rfl)) pgs_nil)))) (rls_cons (rl_doorsW (iD := 10) (iW := 11) (by decide) (by decide) PassesOwn.never rfl sc_law.nd (rd_add (rd_call C_law_doors hr (by decide) (by rfl) (rv_cons 3 (rv_cons 4 (rv_cons 8 (rv_cons 9 rv_nil)))) rfl) (rd_call C_law_plans hr (by decide) (by rfl) (rv_cons 3 (rv_cons 9 rv_nil)) rfl)) CT hr (by decide) (by rfl) (gAdd_all (gMk_all (ref_law_doors_word kw_NoBeat kw_NoPlan kw_NoStand X_by_beat_NoBeat X_by_plan_NoPlan X_comes_round_NoPlan X_kept_from_NoPlan X_lessons_NoStand X_is_shown_NoStand X_ends_NoBeat X_ahead_NoBeat)) (gMk_all (ref_law_plans_word kw_NoPlan X_can_be_kept_NoPlan X_greatest_NoPlan X_lost_paper_NoPlan X_lost_shown_NoPlan X_least_from_NoPlan X_parted_NoPlan))) (pgD := pg_tup rfl (pgs_cons (pg_name sc_law.nd rfl (.inl rfl)) (pgs_cons (pg_name sc_law.nd rfl (.inl rfl)) pgs_nil)))) (rls_one (rl_ifCall C_law_last_right hr (by decide) (by rfl) (rv_cons 3 (rv_cons 4 (rv_cons 5 rv_nil))) rfl)))))))))))))) (rls_one (RS.rl (rs_retD re_bl))))
end G65
namespace G65
open PySem PySem.Spec PyProof.Rows L2
/-! ### the head -/
def dd_is_from : He.DefD := ⟨("is_from", none), "is_from", "is_from", defArgs s_is_from, defBody s_is_from, defScope s_is_from, [], []⟩
def dd_is_tuple : He.DefD := ⟨("is_tuple", none), "is_tuple", "is_tuple", defArgs s_is_tuple, defBody s_is_tuple, defScope s_is_tuple, [], []⟩
def dd_is_lore : He.DefD := ⟨("is_lore", none), "is_lore", "is_lore", defArgs s_is_lore, defBody s_is_lore, defScope s_is_lore, [], []⟩
def dd_is_hall : He.DefD := ⟨("is_hall", none), "is_hall", "is_hall", defArgs s_is_hall, defBody s_is_hall, defScope s_is_hall, [], []⟩
def dd_need_hall : He.DefD := ⟨("need_hall", none), "need_hall", "need_hall", defArgs s_need_hall, defBody s_need_hall, defScope s_need_hall, [], []⟩
def dd_is_standing : He.DefD := ⟨("is_standing", none), "is_standing", "is_standing", defArgs s_is_standing, defBody s_is_standing, defScope s_is_standing, [], []⟩
def dd_is_meeting : He.DefD := ⟨("is_meeting", none), "is_meeting", "is_meeting", defArgs s_is_meeting, defBody s_is_meeting, defScope s_is_meeting, [], []⟩
def dd_is_beating : He.DefD := ⟨("is_beating", none), "is_beating", "is_beating", defArgs s_is_beating, defBody s_is_beating, defScope s_is_beating, [], []⟩
def dd_is_planned : He.DefD := ⟨("is_planned", none), "is_planned", "is_planned", defArgs s_is_planned, defBody s_is_planned, defScope s_is_planned, [], []⟩
def dd_need_stand : He.DefD := ⟨("need_stand", none), "need_stand", "need_stand", defArgs s_need_stand, defBody s_need_stand, defScope s_need_stand, [], []⟩
def dd_need_beat : He.DefD := ⟨("need_beat", none), "need_beat", "need_beat", defArgs s_need_beat, defBody s_need_beat, defScope s_need_beat, [], []⟩
def dd_need_plan : He.DefD := ⟨("need_plan", none), "need_plan", "need_plan", defArgs s_need_plan, defBody s_need_plan, defScope s_need_plan, [], []⟩
def dd_need_thing : He.DefD := ⟨("need_thing", none), "need_thing", "need_thing", defArgs s_need_thing, defBody s_need_thing, defScope s_need_thing, [], []⟩
def dd_need_count : He.DefD := ⟨("need_count", none), "need_count", "need_count", defArgs s_need_count, defBody s_need_count, defScope s_need_count, [], []⟩
def dd_need_meeting : He.DefD := ⟨("need_meeting", none), "need_meeting", "need_meeting", defArgs s_need_meeting, defBody s_need_meeting, defScope s_need_meeting, [], []⟩
def dd_is_stand : He.DefD := ⟨("is_stand", none), "is_stand", "is_stand", defArgs s_is_stand, defBody s_is_stand, defScope s_is_stand, [], []⟩
def dd_is_beat : He.DefD := ⟨("is_beat", none), "is_beat", "is_beat", defArgs s_is_beat, defBody s_is_beat, defScope s_is_beat, [], []⟩
def dd_is_plan : He.DefD := ⟨("is_plan", none), "is_plan", "is_plan", defArgs s_is_plan, defBody s_is_plan, defScope s_is_plan, [], []⟩
def dd_full : He.DefD := ⟨("full", none), "full", "full", defArgs s_full, defBody s_full, defScope s_full, [], []⟩
def dd_bare : He.DefD := ⟨("bare", none), "bare", "bare", defArgs s_bare, defBody s_bare, defScope s_bare, [], []⟩
def dd_by_beat : He.DefD := ⟨("by_beat", none), "by_beat", "by_beat", defArgs s_by_beat, defBody s_by_beat, defScope s_by_beat, [], []⟩
def dd_by_plan : He.DefD := ⟨("by_plan", none), "by_plan", "by_plan", defArgs s_by_plan, defBody s_by_plan, defScope s_by_plan, [], []⟩
def dd_comes_round : He.DefD := ⟨("comes_round", none), "comes_round", "comes_round", defArgs s_comes_round, defBody s_comes_round, defScope s_comes_round, [], []⟩
def dd_kept_from : He.DefD := ⟨("kept_from", none), "kept_from", "kept_from", defArgs s_kept_from, defBody s_kept_from, defScope s_kept_from, [], []⟩
def dd_can_be_kept : He.DefD := ⟨("can_be_kept", none), "can_be_kept", "can_be_kept", defArgs s_can_be_kept, defBody s_can_be_kept, defScope s_can_be_kept, [], []⟩
def dd_greatest : He.DefD := ⟨("greatest", none), "greatest", "greatest", defArgs s_greatest, defBody s_greatest, defScope s_greatest, [], []⟩
def dd_lost_paper : He.DefD := ⟨("lost_paper", none), "lost_paper", "lost_paper", defArgs s_lost_paper, defBody s_lost_paper, defScope s_lost_paper, [], []⟩
def dd_lost_shown : He.DefD := ⟨("lost_shown", none), "lost_shown", "lost_shown", defArgs s_lost_shown, defBody s_lost_shown, defScope s_lost_shown, [], []⟩
def dd_least_from : He.DefD := ⟨("least_from", none), "least_from", "least_from", defArgs s_least_from, defBody s_least_from, defScope s_least_from, [], []⟩
def dd_lessons : He.DefD := ⟨("lessons", none), "lessons", "lessons", defArgs s_lessons, defBody s_lessons, defScope s_lessons, [], []⟩
def dd_is_shown : He.DefD := ⟨("is_shown", none), "is_shown", "is_shown", defArgs s_is_shown, defBody s_is_shown, defScope s_is_shown, [], []⟩
def dd_ends : He.DefD := ⟨("ends", none), "ends", "ends", defArgs s_ends, defBody s_ends, defScope s_ends, [], []⟩
def dd_are_free : He.DefD := ⟨("are_free", none), "are_free", "are_free", defArgs s_are_free, defBody s_are_free, defScope s_are_free, [], []⟩
def dd_ahead : He.DefD := ⟨("ahead", none), "ahead", "ahead", defArgs s_ahead, defBody s_ahead, defScope s_ahead, [], []⟩
def dd_parted : He.DefD := ⟨("parted", none), "parted", "parted", defArgs s_parted, defBody s_parted, defScope s_parted, [], []⟩
def dd_law_deck : He.DefD := ⟨("_law_deck", none), "_law_deck", "_law_deck", defArgs s_law_deck, defBody s_law_deck, defScope s_law_deck, [], []⟩
def dd_law_pick : He.DefD := ⟨("_law_pick", none), "_law_pick", "_law_pick", defArgs s_law_pick, defBody s_law_pick, defScope s_law_pick, [], []⟩
def dd_law_one : He.DefD := ⟨("_law_one", none), "_law_one", "_law_one", defArgs s_law_one, defBody s_law_one, defScope s_law_one, [], []⟩
def dd_law_kin : He.DefD := ⟨("_law_kin", none), "_law_kin", "_law_kin", defArgs s_law_kin, defBody s_law_kin, defScope s_law_kin, [], []⟩
def dd_law_try : He.DefD := ⟨("_law_try", none), "_law_try", "_law_try", defArgs s_law_try, defBody s_law_try, defScope s_law_try, [], []⟩
def dd_law_hall : He.DefD := ⟨("_law_hall", none), "_law_hall", "_law_hall", defArgs s_law_hall, defBody s_law_hall, defScope s_law_hall, [], []⟩
def dd_law_small : He.DefD := ⟨("_law_small", none), "_law_small", "_law_small", defArgs s_law_small, defBody s_law_small, defScope s_law_small, [], []⟩
def dd_law_meeting : He.DefD := ⟨("_law_meeting", none), "_law_meeting", "_law_meeting", defArgs s_law_meeting, defBody s_law_meeting, defScope s_law_meeting, [], []⟩
def dd_law_beat : He.DefD := ⟨("_law_beat", none), "_law_beat", "_law_beat", defArgs s_law_beat, defBody s_law_beat, defScope s_law_beat, [], []⟩
def dd_law_plan : He.DefD := ⟨("_law_plan", none), "_law_plan", "_law_plan", defArgs s_law_plan, defBody s_law_plan, defScope s_law_plan, [], []⟩
def dd_law_stand : He.DefD := ⟨("_law_stand", none), "_law_stand", "_law_stand", defArgs s_law_stand, defBody s_law_stand, defScope s_law_stand, [], []⟩
def dd_law_doors : He.DefD := ⟨("_law_doors", none), "_law_doors", "_law_doors", defArgs s_law_doors, defBody s_law_doors, defScope s_law_doors, [], []⟩
def dd_law_plans : He.DefD := ⟨("_law_plans", none), "_law_plans", "_law_plans", defArgs s_law_plans, defBody s_law_plans, defScope s_law_plans, [], []⟩
def dd_law_by_hall : He.DefD := ⟨("_law_by_hall", none), "_law_by_hall", "_law_by_hall", defArgs s_law_by_hall, defBody s_law_by_hall, defScope s_law_by_hall, [], []⟩
def dd_law_last_right : He.DefD := ⟨("_law_last_right", none), "_law_last_right", "_law_last_right", defArgs s_law_last_right, defBody s_law_last_right, defScope s_law_last_right, [], []⟩
def dd_law : He.DefD := ⟨("law", none), "law", "law", defArgs s_law, defBody s_law, defScope s_law, [], []⟩
def fnl0 : List He.DefD := [dd_is_from, dd_is_tuple, dd_is_lore, dd_is_hall, dd_need_hall, dd_is_standing, dd_is_meeting, dd_is_beating, dd_is_planned, dd_need_stand, dd_need_beat, dd_need_plan, dd_need_thing, dd_need_count, dd_need_meeting, dd_is_stand, dd_is_beat, dd_is_plan, dd_full, dd_bare]
def fnl1 : List He.DefD := [dd_by_beat, dd_by_plan, dd_comes_round, dd_kept_from, dd_can_be_kept, dd_greatest, dd_lost_paper, dd_lost_shown, dd_least_from, dd_lessons, dd_is_shown, dd_ends, dd_are_free, dd_ahead, dd_parted, dd_law_deck, dd_law_pick, dd_law_one, dd_law_kin, dd_law_try]
def fnl2 : List He.DefD := [dd_law_hall, dd_law_small, dd_law_meeting, dd_law_beat, dd_law_plan, dd_law_stand, dd_law_doors, dd_law_plans, dd_law_by_hall, dd_law_last_right, dd_law]
def fnl : List He.DefD := fnl0 ++ fnl1 ++ fnl2
def fal0 : List He.Fa := [.glo "is_from", .glo "is_tuple", .glo "is_lore", .glo "is_hall", .glo "need_hall", .glo "is_standing", .glo "is_meeting", .glo "is_beating", .glo "is_planned", .glo "need_stand", .glo "need_beat", .glo "need_plan", .glo "need_thing", .glo "need_count", .glo "need_meeting", .glo "is_stand", .glo "is_beat", .glo "is_plan", .glo "full", .glo "bare"]
def fal1 : List He.Fa := [.glo "by_beat", .glo "by_plan", .glo "comes_round", .glo "kept_from", .glo "can_be_kept", .glo "greatest", .glo "lost_paper", .glo "lost_shown", .glo "least_from", .glo "lessons", .glo "is_shown", .glo "ends", .glo "are_free", .glo "ahead", .glo "parted", .glo "_law_deck", .glo "_law_pick", .glo "_law_one", .glo "_law_kin", .glo "_law_try"]
def fal2 : List He.Fa := [.glo "_law_hall", .glo "_law_small", .glo "_law_meeting", .glo "_law_beat", .glo "_law_plan", .glo "_law_stand", .glo "_law_doors", .glo "_law_plans", .glo "_law_by_hall", .glo "_law_last_right", .glo "law", .glo "NoHall", .glo "NoStand", .glo "NoBeat", .glo "NoPlan", .glo "NoThing", .glo "NoCount", .glo "NoMeeting", .glo "TooMany", .glo "LoreError"]
def fal3 : List He.Fa := [.free "ValueError", .free "all", .free "bool", .free "enumerate", .free "int", .free "isinstance", .free "len", .free "list", .free "range", .free "tuple", .free "zip", .int "MOST_FOLK" 4, .int "MOST_THINGS" 3, .int "MOST_CAP" 3, .int "MOST_MEETINGS" 4, .int "MOST_BEATS" 4, .int "MOST_STANDS" 2000, .int "FAR" 1000000000000000000]
def fal : List He.Fa := fal0 ++ fal1 ++ fal2 ++ fal3
def lo0 : List Str := ["LoreError", "NoHall", "NoStand", "NoBeat", "NoPlan", "NoThing", "NoCount", "NoMeeting", "TooMany", "MOST_FOLK", "MOST_THINGS", "MOST_CAP", "MOST_MEETINGS", "MOST_BEATS", "MOST_STANDS", "FAR", "is_from", "is_tuple", "is_lore", "is_hall", "need_hall", "is_standing", "is_meeting", "is_beating", "is_planned", "need_stand", "need_beat", "need_plan", "need_thing", "need_count"]
def lo1 : List Str := ["need_meeting", "is_stand", "is_beat", "is_plan", "full_stand", "full", "bare", "is_no_less", "all_stands", "is_lesson", "taught", "behind", "through", "by_beat", "line_of", "by_plan", "comes_round", "known", "kept_by", "kept_from", "can_be_kept", "falls", "greatest", "lost_paper", "is_unknown", "lost_shown", "ends_of", "lowered", "least_from", "all_meetings"]
def lo2 : List Str := ["last_stand", "lessons", "is_shown", "orders_of", "ends", "are_free", "ahead", "parted", "_law_deck", "_law_pick", "_law_one", "_law_kin", "_law_try", "_law_hall", "_law_small", "_law_meeting", "_law_beat", "_law_plan", "_law_stand", "_law_doors", "_law_plans", "_law_by_hall", "_law_last_right"]
def loo : List Str := lo0 ++ lo1 ++ lo2
def headB (K : PySem.W.Frag) : Bool := (clsB K "NoHall" true false false false false false false && (clsB K "NoStand" false true false false false false false && (clsB K "NoBeat" false false true false false false false && (clsB K "NoPlan" false false false true false false false && (clsB K "NoThing" false false false false true false false && (clsB K "NoCount" false false false false false true false && (clsB K "NoMeeting" false false false false false false true && decide ((TT K).map (·.1)).Nodup)))))))
def tabs13 : List He.Defn := [("_law_doors", none), ("_law_plans", none), ("_law_by_hall", none), ("_law_last_right", none)]
abbrev RR : PySem.W.OpenRow := PySem.W.OpenLaw.row PySem.Challenge.rw_lorehall_k13_what_is_refused
abbrev hk : PySem.W.Hook := He.hookX 5 fal fnl [] tabs13 headB
def obs (s : PySem.W.SharedT) : He.AlX := He.obsX 5 fal fnl [] tabs13 headB (HandSHeadRun.getT s)
theorem obs_eq (s : PySem.W.SharedT) : obs s = hk.obs s.abs := He.obsX_eq (HandSHeadRun.getT_eq s)
theorem hrun (w : World) : HandSHeadRun.RunEq RR (PySem.W.view RR.prog [93]) hk obs 6000 loo w := by
  intro os
  kernel_rfl
end G65
namespace G65
open PySem PySem.Spec PyProof.Rows L2
def wp {α : Type} (f : M α) (r : Rho) (Q : α → Rho → Prop) : Prop := ∃ a r', f r = some (a, r') ∧ Q a r'
variable {α β : Type} {r r' : Rho} {i : Nat}
theorem wp_mono {f : M α} {Q Q' : α → Rho → Prop} (h : wp f r Q) (hq : ∀ a r', Q a r' → Q' a r') : wp f r Q' := by
  obtain ⟨a, r', e, q⟩ := h
  exact ⟨a, r', e, hq _ _ q⟩
theorem wp_bnd {f : M α} {g : α → M β} {Q : β → Rho → Prop} (h : wp f r fun a r' => wp (g a) r' Q) : wp (bnd f g) r Q := by
  obtain ⟨a, r', e, b, r2, e2, q⟩ := h
  exact ⟨b, r2, by unfold bnd; rw [e]; exact e2, q⟩
theorem wp_ret {a : α} {Q : α → Rho → Prop} (h : Q a r) : wp (ret a) r Q := ⟨a, r, rfl, h⟩
theorem wp_lft {o : Option α} {a : α} {Q : α → Rho → Prop} (e : o = some a) (h : Q a r) : wp (lft o) r Q := ⟨a, r, by unfold lft; rw [e], h⟩
theorem wp_lftD {o : Option PyData} {a : PyData} {Q : PyData → Rho → Prop} (e : o = some a) (h : Q a r) : wp (lft o) r Q := wp_lft e h
theorem wp_lftB {o : Option Bool} {a : Bool} {Q : Bool → Rho → Prop} (e : o = some a) (h : Q a r) : wp (lft o) r Q := wp_lft e h
theorem wp_lftE {o : Option Ent} {a : Ent} {Q : Ent → Rho → Prop} (e : o = some a) (h : Q a r) : wp (lft o) r Q := wp_lft e h
theorem wp_gv {x : PyData} {Q : PyData → Rho → Prop} (e : r[i]? = some (some (.d x))) (h : Q x r) : wp (gv i) r Q := ⟨x, r, by unfold gv; rw [e], h⟩
theorem wp_gvl {xs : List PyData} {Q : PyData → Rho → Prop} (e : r[i]? = some (some (.ml xs))) (h : ∃ r2, r.set i (some (.d (.list xs))) = r2 ∧ Q (.list xs) r2) : wp (gv i) r Q := by
  obtain ⟨r2, rfl, h⟩ := h
  exact ⟨_, _, by unfold gv; rw [e], h⟩
theorem wp_ite {b : Bool} {f g : M α} {Q : α → Rho → Prop} (h1 : b = true → wp f r Q) (h2 : b = false → wp g r Q) : wp (if b = true then f else g) r Q := by
  cases b
  · exact h2 rfl
  · exact h1 rfl
theorem wp_itt {b : Bool} {f g : M α} {Q : α → Rho → Prop} (e : b = true) (h : wp f r Q) : wp (if b = true then f else g) r Q := by
  subst e; exact h
theorem wp_itf {b : Bool} {f g : M α} {Q : α → Rho → Prop} (e : b = false) (h : wp g r Q) : wp (if b = true then f else g) r Q := by
  subst e; exact h
theorem wp_fn {f : M α} {a : α} {Q : α → Rho → Prop} (e : f r = some (a, r')) (h : Q a r') : wp f r Q := ⟨a, r', e, h⟩
theorem wp_set {o : Out} {Q : Out → Rho → Prop} {j : Nat} {x : Option Ent} (h : Q o (r.set j x)) : wp (fun r => some (o, r.set j x)) r Q := ⟨_, _, rfl, h⟩
theorem wp_asg {o : Out} {a : Asg} {d : PyData} {Q : Out → Rho → Prop} (e : a d r = some r') (h : Q o r') : wp (fun r => (a d r).map fun r' => (o, r')) r Q := ⟨_, _, by show (a d r).map _ = _; rw [e]; rfl, h⟩
theorem wp_cond {p : Prop} [Decidable p] {f g : M α} {Q : α → Rho → Prop} (e : p) (h : wp f r Q) : wp (if p then f else g) r Q := by rw [if_pos e]; exact h
/-! defs -/
theorem nrm {γ : Type} {l : γ} {x : γ} {P : γ → Prop} (e : l = x) (h : P x) : ∃ x, l = x ∧ P x := ⟨x, e, h⟩
theorem nrmA {a : Asg} {d : PyData} {P : Rho → Prop} (e : a d r = some r') (h : P r') : ∃ r', a d r = some r' ∧ P r' := ⟨r', e, h⟩
theorem set_0 {γ : Type} {a x : γ} {l : List γ} : (a :: l).set 0 x = x :: l := rfl
theorem set_s {γ : Type} {a x : γ} {l l' : List γ} {k : Nat} (e : l.set k x = l') : (a :: l).set (k + 1) x = a :: l' := by rw [← e]; rfl
theorem get_0 {γ : Type} {a : γ} {l : List γ} : (a :: l)[0]? = some a := rfl
theorem get_s {γ : Type} {a : γ} {l : List γ} {k : Nat} {x : Option γ} (e : l[k]? = x) : (a :: l)[k + 1]? = x := by rw [← e]; rfl
theorem wipe_nil : wipeR r [] = r := rfl
theorem wipe_cons {v : Nat} {vs : List Nat} {r1 r2 : Rho} (e1 : wipeR r vs = r1) (e2 : r1.set v none = r2) : wipeR r (v :: vs) = r2 := by rw [← e2, ← e1]; rfl
theorem rest_nil {r4 : Rho} : restR r r4 [] = r4 := rfl
theorem rest_cons {r4 r5 r6 : Rho} {v : Nat} {vs : List Nat} {e : Option Ent} (e1 : restR r r4 vs = r5) (e2 : r[v]? = some e) (e3 : r5.set v e = r6) : restR r r4 (v :: vs) = r6 := by
  rw [← e3, ← e1]
  show (restR r r4 vs).set v (match r[v]? with | some (some e) => some e | _ => none) = _
  rw [e2]
  cases e <;> rfl
theorem asg_n {i : Nat} {d : PyData} (e : r.set i (some (.d d)) = r') : asgN i d r = some r' := by rw [← e]; rfl
theorem asg_t {is : List Nat} {ds : List PyData} (hl : ds.length = is.length) (e : asgL is ds r = some r') : asgT is (.tuple ds) r = some r' := by
  show (if ds.length = is.length then asgL is ds r else none) = _
  rw [if_pos hl]
  exact e
theorem asgl_nil : asgL [] [] r = some r := rfl
theorem asgl_cons {i : Nat} {is : List Nat} {d : PyData} {ds : List PyData} {r1 : Rho} (e1 : r.set i (some (.d d)) = r1) (e2 : asgL is ds r1 = some r') : asgL (i :: is) (d :: ds) r = some r' := by
  unfold asgL
  rw [e1]
  exact e2
theorem den0i {m : Nat} {fM : M Out} {ds : List PyData} {en : Ent} {r0 : Rho} (e : ds.map (fun d => some (Ent.d d)) ++ List.replicate (m - ds.length) none = r0) (h : wp fM r0 fun o _ => o = .ret en) : run0 m fM ds = some en := by
  obtain ⟨o, r', e1, q⟩ := h
  subst q e
  unfold run0
  rw [e1]
theorem den0iN {m : Nat} {fM : M Out} {ds : List PyData} {r0 : Rho} (e : ds.map (fun d => some (Ent.d d)) ++ List.replicate (m - ds.length) none = r0) (h : wp fM r0 fun o _ => o = .nx) : run0 m fM ds = some (.d .none) := by
  obtain ⟨o, r', e1, q⟩ := h
  subst q e
  unfold run0
  rw [e1]
theorem den0iE {m : Nat} {fM : M Out} {ds : List PyData} {r0 : Rho} {Q : Ent → Prop} (e : ds.map (fun d => some (Ent.d d)) ++ List.replicate (m - ds.length) none = r0) (h : wp fM r0 fun o _ => ∃ en, o = .ret en ∧ Q en) : ∃ en, run0 m fM ds = some en ∧ Q en := by
  obtain ⟨o, r', e1, en, q, hq⟩ := h
  subst q e
  exact ⟨en, by unfold run0; rw [e1], hq⟩
def En1 (p : Nat) (Q : Ent → Ent → Prop) (o : Out) (r : Rho) : Prop := ∃ en e1, o = .ret en ∧ r[p]? = some (some e1) ∧ e1.own = true ∧ Q en e1
theorem en1_of {p : Nat} {Q : Ent → Ent → Prop} {en e1 : Ent} (h1 : r[p]? = some (some e1)) (h2 : e1.own = true) (q : Q en e1) : En1 p Q (.ret en) r := ⟨en, e1, rfl, h1, h2, q⟩
theorem den1iE {m p : Nat} {fM : M Out} {ds1 : List PyData} {e0 : Ent} {ds2 : List PyData} {Q : Ent → Ent → Prop} {r0 : Rho}
    (e : (ds1.map (fun d => some (Ent.d d)) ++ some e0 :: ds2.map (fun d => some (Ent.d d))) ++ List.replicate (m - (ds1.length + (ds2.length + 1))) none = r0)
    (h : wp fM r0 (En1 p Q)) : ∃ en e1, run1 m p fM ds1 e0 ds2 = some (en, e1) ∧ Q en e1 := by
  obtain ⟨o, r', e', en, e1, q, h1, h2, hq⟩ := h
  subst q e
  refine ⟨en, e1, ?_, hq⟩
  unfold run1
  rw [e']
  simp only [h1, h2, if_pos]
def DC (den : Den1) (ds0 ds : List PyData) (i : Nat) (r1 : Rho) (Q : Ent → Rho → Prop) : Prop := ∃ e0 en e1, r1[i]? = some (some e0) ∧ e0.own = true ∧ den ds0 e0 ds = some (en, e1) ∧ Q en (r1.set i (some e1))
theorem dc_of {den : Den1} {ds0 ds : List PyData} {Q : Ent → Rho → Prop} {e0 : Ent} {R : Ent → Ent → Prop} (spec : ∃ en e1, den ds0 e0 ds = some (en, e1) ∧ R en e1) (h1 : r[i]? = some (some e0)) (h2 : e0.own = true)
    (h : ∀ en e1, R en e1 → ∃ r2, r.set i (some e1) = r2 ∧ Q en r2) : DC den ds0 ds i r Q := by
  obtain ⟨en, e1, hd, hR⟩ := spec
  obtain ⟨r2, rfl, q⟩ := h en e1 hR
  exact ⟨e0, en, e1, h1, h2, hd, q⟩
theorem wp_callE {den : Option Ent} {Q : Ent → Rho → Prop} {R : Ent → Prop} (spec : ∃ en, den = some en ∧ R en) (h : ∀ en, R en → Q en r) : wp (lft den) r Q := by
  obtain ⟨en, e, hR⟩ := spec
  exact wp_lft e (h en hR)
theorem den0 {m : Nat} {fM : M Out} {ds : List PyData} {en : Ent} (h : wp fM (ds.map (fun d => some (Ent.d d)) ++ List.replicate (m - ds.length) none) fun o _ => o = .ret en) : run0 m fM ds = some en := by
  obtain ⟨o, r', e, q⟩ := h
  subst q
  unfold run0
  rw [e]
theorem den0N {m : Nat} {fM : M Out} {ds : List PyData} (h : wp fM (ds.map (fun d => some (Ent.d d)) ++ List.replicate (m - ds.length) none) fun o _ => o = .nx) : run0 m fM ds = some (.d .none) := by
  obtain ⟨o, r', e, q⟩ := h
  subst q
  unfold run0
  rw [e]
theorem den0E {m : Nat} {fM : M Out} {ds : List PyData} {Q : Ent → Prop} (h : wp fM (ds.map (fun d => some (Ent.d d)) ++ List.replicate (m - ds.length) none) fun o _ => ∃ en, o = .ret en ∧ Q en) : ∃ en, run0 m fM ds = some en ∧ Q en := by
  obtain ⟨o, r', e, en, q, hq⟩ := h
  subst q
  exact ⟨en, by unfold run0; rw [e], hq⟩
theorem den1E {m p : Nat} {fM : M Out} {ds1 : List PyData} {e0 : Ent} {ds2 : List PyData} {Q : Ent → Ent → Prop}
    (h : wp fM ((ds1.map (fun d => some (Ent.d d)) ++ some e0 :: ds2.map (fun d => some (Ent.d d))) ++ List.replicate (m - (ds1.length + (ds2.length + 1))) none) fun o r' => ∃ en e1, o = .ret en ∧ r'[p]? = some (some e1) ∧ e1.own = true ∧ Q en e1) :
    ∃ en e1, run1 m p fM ds1 e0 ds2 = some (en, e1) ∧ Q en e1 := by
  obtain ⟨o, r', e, en, e1, q, h1, h2, hq⟩ := h
  subst q
  refine ⟨en, e1, ?_, hq⟩
  unfold run1
  rw [e]
  simp only [h1, h2, if_pos]
theorem wp_dcallR {den : Den1} {g0 g : M (List PyData)} {Q : Ent → Rho → Prop} (h : wp g0 r fun ds0 r0 => (∃ e, r0[i]? = some (some e)) ∧ wp g r0 fun ds r1 => DC den ds0 ds i r1 Q) : wp (dcallR den i g0 g) r Q := by
  refine wp_bnd (wp_mono h ?_)
  rintro ds0 r0 ⟨⟨e, he⟩, ds, r1, e1, e0, en, e1', h1, h2, h3, h4⟩
  refine ⟨en, r1.set i (some e1'), ?_, h4⟩
  simp only [he, bnd, e1, h1, h2, h3, if_pos]
/-! loops -/
def Outs (Q : Out → Rho → Prop) (J : Rho → Prop) (o : Out) (r : Rho) : Prop := match o with
  | .nx => J r
  | .cont => J r
  | .brk => Q .nx r
  | .ret en => Q (.ret en) r
theorem outs_nx {Q : Out → Rho → Prop} {J : Rho → Prop} (q : J r) : Outs Q J .nx r := q
theorem outs_cont {Q : Out → Rho → Prop} {J : Rho → Prop} (q : J r) : Outs Q J .cont r := q
theorem outs_brk {Q : Out → Rho → Prop} {J : Rho → Prop} (q : Q .nx r) : Outs Q J .brk r := q
theorem outs_ret {Q : Out → Rho → Prop} {J : Rho → Prop} {en : Ent} (q : Q (.ret en) r) : Outs Q J (.ret en) r := q
theorem wp_for {a : Asg} {b : M Out} {Q : Out → Rho → Prop} (I : List PyData → Rho → Prop) {ds : List PyData} (h0 : I ds r)
    (hs : ∀ d ds r, I (d :: ds) r → ∃ r1, a d r = some r1 ∧ wp b r1 (Outs Q (I ds))) (he : ∀ r, I [] r → Q .nx r) : wp (forM a b ds) r Q := by
  induction ds generalizing r with
  | nil => exact ⟨_, _, rfl, he _ h0⟩
  | cons d ds ih =>
    obtain ⟨r1, e1, o, r2, e2, q⟩ := hs _ _ _ h0
    cases o with
    | nx =>
      obtain ⟨o', r3, e3, q3⟩ := ih (r := r2) q
      exact ⟨o', r3, by simp only [forM, e1, e2]; exact e3, q3⟩
    | cont =>
      obtain ⟨o', r3, e3, q3⟩ := ih (r := r2) q
      exact ⟨o', r3, by simp only [forM, e1, e2]; exact e3, q3⟩
    | brk => exact ⟨_, r2, by simp only [forM, e1, e2], q⟩
    | ret en => exact ⟨_, r2, by simp only [forM, e1, e2], q⟩
/-- over typed rows, with the place told -/
theorem wp_forT {γ : Type} (enc : γ → PyData) {a : Asg} {b : M Out} {Q : Out → Rho → Prop} (xs : List γ) (I : List γ → Rho → Prop) (h0 : I [] r)
    (hs : ∀ done x rest r, xs = done ++ x :: rest → I done r → ∃ r1, a (enc x) r = some r1 ∧ wp b r1 (Outs Q (I (done ++ [x])))) (he : ∀ r, I xs r → Q .nx r) : wp (forM a b (xs.map enc)) r Q := by
  refine wp_for (fun ds r => ∃ done rest, ds = rest.map enc ∧ xs = done ++ rest ∧ I done r) ⟨[], xs, rfl, rfl, h0⟩ ?_ ?_
  · rintro d ds r ⟨done, rest, h1, h2, h3⟩
    cases rest with
    | nil => cases h1
    | cons x rest =>
      cases h1
      obtain ⟨r1, e1, o, r2, e2, q⟩ := hs done x rest r h2 h3
      refine ⟨r1, e1, o, r2, e2, ?_⟩
      cases o with
      | nx => exact ⟨done ++ [x], rest, rfl, by simp [h2], q⟩
      | cont => exact ⟨done ++ [x], rest, rfl, by simp [h2], q⟩
      | brk => exact q
      | ret en => exact q
  · rintro r ⟨done, rest, h1, h2, h3⟩
    cases rest with
    | nil => simp at h2; subst h2; exact he _ h3
    | cons x rest => cases h1
theorem wp_while {c : M Bool} {b : M Out} {Q : Out → Rho → Prop} (I : Nat → Rho → Prop) {k n : Nat} (hn : k < n) (h0 : I k r)
    (hs : ∀ k r, I k r → wp c r fun t r1 => if t = true then 0 < k ∧ wp b r1 (Outs Q (I (k - 1))) else Q .nx r1) : wp (whileM c b n) r Q := by
  induction n generalizing r k with
  | zero => omega
  | succ n ih =>
    obtain ⟨t, r1, e1, h1⟩ := hs _ _ h0
    cases t with
    | false => exact ⟨.nx, r1, by simp only [whileM, e1], by simpa using h1⟩
    | true =>
      simp only [if_pos] at h1
      obtain ⟨hk, o, r2, e2, q⟩ := h1
      cases o with
      | nx =>
        obtain ⟨o', r3, e3, q3⟩ := ih (r := r2) (k := k - 1) (by omega) q
        exact ⟨o', r3, by simp only [whileM, e1, e2]; exact e3, q3⟩
      | cont =>
        obtain ⟨o', r3, e3, q3⟩ := ih (r := r2) (k := k - 1) (by omega) q
        exact ⟨o', r3, by simp only [whileM, e1, e2]; exact e3, q3⟩
      | brk => exact ⟨_, r2, by simp only [whileM, e1, e2], q⟩
      | ret en => exact ⟨_, r2, by simp only [whileM, e1, e2], q⟩
/-! rows -/
def Stp (o : Option (List PyData × Rho)) (Q : List PyData → Rho → Prop) : Prop := ∃ ys r', o = some (ys, r') ∧ Q ys r'
theorem stp_c {vs : List Nat} {a : Asg} {t : M Bool} {e : M PyData} {d : PyData} {Q : List PyData → Rho → Prop} {r1 : Rho} (h1 : a d r = some r1)
    (h2 : wp t r1 fun b r2 => (b = true → wp e r2 fun x r3 => ∃ r4, wipeR r3 vs = r4 ∧ Q [x] r4) ∧ (b = false → ∃ r4, wipeR r2 vs = r4 ∧ Q [] r4)) : Stp (stepC vs a t e d r) Q := by
  obtain ⟨b, r2, e2, q1, q2⟩ := h2
  cases b with
  | false =>
    obtain ⟨r4, rfl, q⟩ := q2 rfl
    exact ⟨_, _, by simp only [stepC, h1, e2], q⟩
  | true =>
    obtain ⟨x, r3, e3, r4, rfl, q3⟩ := q1 rfl
    exact ⟨_, _, by simp only [stepC, h1, e2, e3], q3⟩
theorem stp_cT {vs : List Nat} {a : Asg} {e : M PyData} {d : PyData} {Q : List PyData → Rho → Prop} {r1 : Rho} (h1 : a d r = some r1)
    (h2 : wp e r1 fun x r3 => ∃ r4, wipeR r3 vs = r4 ∧ Q [x] r4) : Stp (stepC vs a (ret true) e d r) Q :=
  stp_c h1 (wp_ret ⟨fun _ => h2, nofun⟩)
theorem stp_2 {vs vs1 : List Nat} {a : Asg} {t : M Bool} {fi : M (List PyData)} {st : PyData → Rho → Option (List PyData × Rho)} {d : PyData} {Q : List PyData → Rho → Prop} {r1 : Rho} (h1 : a d r = some r1)
    (h2 : wp t r1 fun b r2 => (b = true → wp fi r2 fun ds r3 => ∃ r5, wipeR r3 vs1 = r5 ∧ Stp (foldA st ds r5) fun xs r4 => ∃ r6, wipeR r4 vs = r6 ∧ Q xs r6) ∧ (b = false → ∃ r6, wipeR r2 vs = r6 ∧ Q [] r6)) : Stp (step2 vs vs1 a t fi st d r) Q := by
  obtain ⟨b, r2, e2, q1, q2⟩ := h2
  cases b with
  | false =>
    obtain ⟨r6, rfl, q⟩ := q2 rfl
    exact ⟨_, _, by simp only [step2, h1, e2], q⟩
  | true =>
    obtain ⟨ds, r3, e3, r5, rfl, xs, r4, e4, r6, rfl, q3⟩ := q1 rfl
    exact ⟨_, _, by simp only [step2, h1, e2, e3, e4], q3⟩
theorem stp_2T {vs vs1 : List Nat} {a : Asg} {fi : M (List PyData)} {st : PyData → Rho → Option (List PyData × Rho)} {d : PyData} {Q : List PyData → Rho → Prop} {r1 : Rho} (h1 : a d r = some r1)
    (h2 : wp fi r1 fun ds r3 => ∃ r5, wipeR r3 vs1 = r5 ∧ Stp (foldA st ds r5) fun xs r4 => ∃ r6, wipeR r4 vs = r6 ∧ Q xs r6) : Stp (step2 vs vs1 a (ret true) fi st d r) Q :=
  stp_2 h1 (wp_ret ⟨fun _ => h2, nofun⟩)
theorem stp_mono {o : Option (List PyData × Rho)} {Q Q' : List PyData → Rho → Prop} (h : Stp o Q) (hq : ∀ xs r, Q xs r → Q' xs r) : Stp o Q' := by
  obtain ⟨a, b, c, d⟩ := h
  exact ⟨a, b, c, hq _ _ d⟩
theorem stp_fold {γ : Type} (enc : γ → PyData) {st : PyData → Rho → Option (List PyData × Rho)} (xs : List γ) (I : List γ → List PyData → Rho → Prop) {Q : List PyData → Rho → Prop} (h0 : I [] [] r)
    (hs : ∀ done x rest acc r, xs = done ++ x :: rest → I done acc r → Stp (st (enc x) r) fun ys r' => I (done ++ [x]) (acc ++ ys) r') (he : ∀ acc r, I xs acc r → Q acc r) : Stp (foldA st (xs.map enc) r) Q := by
  have key : ∀ (rest done : List γ) (acc : List PyData) (r : Rho), xs = done ++ rest → I done acc r → Stp (foldA st (rest.map enc) r) fun ys r' => I xs (acc ++ ys) r' := by
    intro rest
    induction rest with
    | nil => intro done acc r h1 h2; simp at h1; subst h1; exact ⟨[], r, rfl, by simpa using h2⟩
    | cons x rest ih =>
      intro done acc r h1 h2
      obtain ⟨ys, r1, e1, q1⟩ := hs done x rest acc r h1 h2
      obtain ⟨zs, r2, e2, q2⟩ := ih (done ++ [x]) (acc ++ ys) r1 (by simp [h1]) q1
      exact ⟨ys ++ zs, r2, by simp only [List.map_cons, foldA, e1, e2], by simpa using q2⟩
  exact stp_mono (key xs [] [] r rfl h0) fun ys r q => he _ _ (by simpa using q)
/-- pure rows -/
theorem stp_pure {γ : Type} (enc : γ → PyData) {st : PyData → Rho → Option (List PyData × Rho)} (xs : List γ) (f : γ → List PyData) {Q : List PyData → Rho → Prop}
    (hs : ∀ x, x ∈ xs → st (enc x) r = some (f x, r)) (he : Q (xs.flatMap f) r) : Stp (foldA st (xs.map enc) r) Q := by
  refine stp_fold enc xs (fun done acc r' => acc = done.flatMap f ∧ r' = r) ⟨rfl, rfl⟩ ?_ ?_
  · rintro done x rest acc r1 h1 ⟨rfl, rfl⟩
    exact ⟨f x, r1, hs x (by simp [h1]), by simp, rfl⟩
  · rintro acc r1 ⟨rfl, rfl⟩
    exact he
theorem stp_out {o : Option (List PyData × Rho)} {ys : List PyData} (h : Stp o fun zs r1 => zs = ys ∧ r1 = r') : o = some (ys, r') := by
  obtain ⟨a, b, c, rfl, rfl⟩ := h
  exact c
theorem wp_lc {vs : List Nat} {fi : M (List PyData)} {st : PyData → Rho → Option (List PyData × Rho)} {Q : Ent → Rho → Prop}
    (h : wp fi r fun ds r1 => ∃ r2, wipeR r1 vs = r2 ∧ Stp (foldA st ds r2) fun xs r4 => xs.length ≤ 16777216 ∧ ∃ r5, restR r1 r4 vs = r5 ∧ Q (.ml xs) r5) : wp (lcM vs fi st) r Q := by
  obtain ⟨ds, r1, e1, r2, rfl, xs, r4, e4, hl, r5, rfl, q⟩ := h
  exact ⟨_, _, by simp only [lcM, bnd, e1, e4, if_pos hl], q⟩
theorem wp_lenV {xs : List PyData} {Q : PyData → Rho → Prop} (e : r[i]? = some (some (.ml xs))) (h : Q (.int xs.length) r) : wp (lenV i) r Q := ⟨_, _, by simp only [lenV, e], h⟩
theorem wp_ixV {xs : List PyData} {g : M PyData} {Q : PyData → Rho → Prop} (e : r[i]? = some (some (.ml xs))) (h : wp g r fun k r1 => ∃ ys d, r1[i]? = some (some (.ml ys)) ∧ ixD (.list ys) k = some d ∧ Q d r1) : wp (ixV i g) r Q := by
  obtain ⟨k, r1, e1, ys, d, e2, e3, q⟩ := h
  exact ⟨d, r1, by simp only [ixV, e, bnd, e1, e2, e3, Option.map], q⟩
theorem wp_app {xs : List PyData} {f : M PyData} {Q : Out → Rho → Prop} (e : r[i]? = some (some (.ml xs))) (h : wp f r fun d r1 => ∃ ys, r1[i]? = some (some (.ml ys)) ∧ ys.length < 16777216 ∧ ∃ r2, r1.set i (some (.ml (ys ++ [d]))) = r2 ∧ Q .nx r2) : wp (sApp i f) r Q := by
  obtain ⟨k, r1, e1, ys, e2, e3, r2, rfl, q⟩ := h
  exact ⟨_, _, by simp only [sApp, e, bnd, e1, e2, if_pos e3], q⟩
theorem wp_setI {f g : M PyData} {Q : Out → Rho → Prop} (h : wp f r fun d r0 => (∃ en, r0[i]? = some (some en)) ∧ wp g r0 fun k r1 => ∃ j m xs, k = .int j ∧ r1[i]? = some (some (.ml xs)) ∧ ixN xs.length j = some m ∧ ∃ r2, r1.set i (some (.ml (xs.set m d))) = r2 ∧ Q .nx r2) : wp (sSetI i f g) r Q := by
  obtain ⟨d, r0, e0, ⟨en, e⟩, k, r1, e1, j, m, xs, rfl, e2, e3, r2, rfl, q⟩ := h
  exact ⟨_, _, by simp only [sSetI, bnd, e0, e, e1, e2, e3], q⟩
theorem wp_inV {neg : Bool} {f : M PyData} {Q : Bool → Rho → Prop} (h : wp f r fun kd r1 => ∃ kvs k, r1[i]? = some (some (.md kvs)) ∧ keyOf kd = some k ∧ Q (if neg then !(dGet kvs k).isSome else (dGet kvs k).isSome) r1) : wp (inV i neg f) r Q := by
  obtain ⟨kd, r1, e1, kvs, k, e2, e3, q⟩ := h
  exact ⟨_, _, by simp only [inV, bnd, e1, e2, e3], q⟩
theorem wp_getV {f : M PyData} {Q : PyData → Rho → Prop} {kvs0 : Rw} (e : r[i]? = some (some (.md kvs0))) (h : wp f r fun kd r1 => ∃ kvs k d, r1[i]? = some (some (.md kvs)) ∧ keyOf kd = some k ∧ dGet kvs k = some d ∧ Q d r1) : wp (getV i f) r Q := by
  obtain ⟨kd, r1, e1, kvs, k, d, e2, e3, e4, q⟩ := h
  exact ⟨_, _, by simp only [getV, e, bnd, e1, e2, e3, e4, Option.map], q⟩
theorem wp_put {fk fv : M PyData} {Q : Out → Rho → Prop} (h : wp fv r fun d r0 => (∃ kvs0, r0[i]? = some (some (.md kvs0))) ∧ wp fk r0 fun kd r1 => ∃ kvs k, r1[i]? = some (some (.md kvs)) ∧ keyOf kd = some k ∧ kvs.length < 16777216 ∧ ∃ r2, r1.set i (some (.md (dPut kvs k kd d))) = r2 ∧ Q .nx r2) : wp (sPut i fk fv) r Q := by
  obtain ⟨d, r0, e0, ⟨kvs0, e⟩, kd, r1, e1, kvs, k, e2, e3, e4, r2, rfl, q⟩ := h
  exact ⟨_, _, by simp only [sPut, bnd, e0, e, e1, e2, e3, if_pos e4], q⟩
theorem wp_mv {en : Ent} {Q : Ent → Rho → Prop} (e : r[i]? = some (some en)) (h : ∃ r2, r.set i none = r2 ∧ Q en r2) : wp (mvV i) r Q := by
  obtain ⟨r2, rfl, h⟩ := h
  exact ⟨_, _, by simp only [mvV, e], h⟩
/-! values -/
theorem atI_nat {xs : List PyData} {k : Nat} {x : PyData} (h : xs[k]? = some x) : atI xs (k : Int) = some x := by
  have hk : k < xs.length := by
    rcases Nat.lt_or_ge k xs.length with h1 | h1
    · exact h1
    · rw [List.getElem?_eq_none h1] at h; cases h
  unfold atI ixN
  rw [if_pos (by omega : (0 : Int) ≤ (k : Int)), if_pos (by omega : (k : Int) < (xs.length : Int))]
  simpa using h
theorem all_bls (bs : List Bool) : bls (bs.map PyData.bool) = some bs := by
  induction bs with
  | nil => rfl
  | cons b bs ih => simp only [List.map_cons, bls, ih, Option.map]
theorem allD_ok (bs : List Bool) : allD [.list (bs.map PyData.bool)] = some (.bool (bs.all id)) := by simp only [allD, all_bls, Option.map]
theorem anyD_ok (bs : List Bool) : anyD [.list (bs.map PyData.bool)] = some (.bool (bs.any id)) := by simp only [anyD, all_bls, Option.map]
theorem isi_int (x : PyData) : isiT "int" x = match x with | .int _ => true | .bool _ => true | _ => false := by cases x <;> rfl
theorem isi_bool (x : PyData) : isiT "bool" x = match x with | .bool _ => true | _ => false := by cases x <;> rfl
theorem isi_str (x : PyData) : isiT "str" x = match x with | .str _ => true | _ => false := by cases x <;> rfl
theorem isi_list (x : PyData) : isiT "list" x = match x with | .list _ => true | _ => false := by cases x <;> rfl
theorem isi_tuple (x : PyData) : isiT "tuple" x = match x with | .tuple _ => true | _ => false := by cases x <;> rfl
theorem wp_lt {a b : Int} {Q : Bool → Rho → Prop} (h : Q (decide (a < b)) r) : wp (lft (ltD (.int a) (.int b))) r Q := wp_lft rfl h
theorem wp_le {a b : Int} {Q : Bool → Rho → Prop} (h : Q (decide (a ≤ b)) r) : wp (lft (leD (.int a) (.int b))) r Q := wp_lft rfl h
theorem wp_gt {a b : Int} {Q : Bool → Rho → Prop} (h : Q (decide (b < a)) r) : wp (lft (gtD (.int a) (.int b))) r Q := wp_lft rfl h
theorem wp_ge {a b : Int} {Q : Bool → Rho → Prop} (h : Q (decide (b ≤ a)) r) : wp (lft (geD (.int a) (.int b))) r Q := wp_lft rfl h
theorem wp_ltD {a b : Int} {Q : PyData → Rho → Prop} (h : Q (.bool (decide (a < b))) r) : wp (lft ((ltD (.int a) (.int b)).map PyData.bool)) r Q := wp_lft rfl h
theorem wp_leD {a b : Int} {Q : PyData → Rho → Prop} (h : Q (.bool (decide (a ≤ b))) r) : wp (lft ((leD (.int a) (.int b)).map PyData.bool)) r Q := wp_lft rfl h
theorem wp_gtD {a b : Int} {Q : PyData → Rho → Prop} (h : Q (.bool (decide (b < a))) r) : wp (lft ((gtD (.int a) (.int b)).map PyData.bool)) r Q := wp_lft rfl h
theorem wp_geD {a b : Int} {Q : PyData → Rho → Prop} (h : Q (.bool (decide (b ≤ a))) r) : wp (lft ((geD (.int a) (.int b)).map PyData.bool)) r Q := wp_lft rfl h
theorem stp_pureD {st : PyData → Rho → Option (List PyData × Rho)} (ds : List PyData) (f : PyData → List PyData) {Q : List PyData → Rho → Prop}
    (hs : ∀ x, x ∈ ds → st x r = some (f x, r)) (he : Q (ds.flatMap f) r) : Stp (foldA st ds r) Q := by
  have := stp_pure (r := r) (st := st) (Q := Q) id ds f hs he
  simpa using this
theorem flat_bool {γ : Type} (g : γ → Bool) (xs : List γ) : xs.flatMap (fun x => [PyData.bool (g x)]) = (xs.map g).map PyData.bool := by
  induction xs with
  | nil => rfl
  | cons x xs ih => simp [ih]
theorem flat_one {γ δ : Type} (g : γ → δ) (xs : List γ) : xs.flatMap (fun x => [g x]) = xs.map g := by
  induction xs with
  | nil => rfl
  | cons x xs ih => simp [ih]
theorem stp_bool {γ : Type} (enc : γ → PyData) {st : PyData → Rho → Option (List PyData × Rho)} (xs : List γ) (g : γ → Bool) {Q : List PyData → Rho → Prop}
    (hs : ∀ x, x ∈ xs → st (enc x) r = some ([.bool (g x)], r)) (he : Q ((xs.map g).map PyData.bool) r) : Stp (foldA st (xs.map enc) r) Q :=
  stp_pure enc xs (fun x => [.bool (g x)]) hs (by rw [flat_bool]; exact he)
theorem stp_boolD {st : PyData → Rho → Option (List PyData × Rho)} (ds : List PyData) (g : PyData → Bool) {Q : List PyData → Rho → Prop}
    (hs : ∀ x, x ∈ ds → st x r = some ([.bool (g x)], r)) (he : Q ((ds.map g).map PyData.bool) r) : Stp (foldA st ds r) Q :=
  stp_pureD ds (fun x => [.bool (g x)]) hs (by rw [flat_bool]; exact he)
theorem wp_all {bs : List Bool} {Q : PyData → Rho → Prop} (h : Q (.bool (bs.all id)) r) : wp (lft (allD [.list (bs.map PyData.bool)])) r Q := wp_lft (allD_ok bs) h
theorem wp_any {bs : List Bool} {Q : PyData → Rho → Prop} (h : Q (.bool (bs.any id)) r) : wp (lft (anyD [.list (bs.map PyData.bool)])) r Q := wp_lft (anyD_ok bs) h
abbrev encPr (p : PyData × PyData) : PyData := .tuple [p.1, p.2]
theorem zipD_eq (xs ys : List PyData) : zipD xs ys = (xs.zip ys).map encPr := by
  induction xs generalizing ys with
  | nil => rfl
  | cons x xs ih => cases ys with
    | nil => rfl
    | cons y ys => simp [zipD, ih, encPr]
abbrev encIx {γ : Type} (enc : γ → PyData) (p : γ × Nat) : PyData := .tuple [.int p.2, enc p.1]
theorem enumD_eq {γ : Type} (enc : γ → PyData) (xs : List γ) (k : Nat) : enumD k (xs.map enc) = (xs.zipIdx k).map (encIx enc) := by
  induction xs generalizing k with
  | nil => rfl
  | cons x xs ih => simp [enumD, ih, encIx]
abbrev encN (k : Nat) : PyData := .int k
theorem rngD_eq (k : Nat) : rngD 0 k = (List.range k).map encN := by
  unfold rngD encN
  simp
theorem wp_rng {k : Nat} {Q : List PyData → Rho → Prop} (hk : k < 4611686018427387904) (h : Q ((List.range k).map encN) r) : wp (asRng [.int (k : Int)]) r Q := by
  refine ⟨(List.range k).map encN, r, ?_, h⟩
  have e : asRng [.int (k : Int)] = ret (rngD 0 k) := by
    show (if -4611686018427387904 ≤ (k : Int) ∧ (k : Int) < 4611686018427387904 then ret (rngD 0 (k : Int).toNat) else fun _ => none) = _
    rw [if_pos (by omega), Int.toNat_natCast]
  rw [e, rngD_eq]
  rfl
theorem wp_enum {γ : Type} (enc : γ → PyData) {xs : List γ} {Q : List PyData → Rho → Prop} (h : Q ((xs.zipIdx).map (encIx enc)) r) : wp (asEnum [.tuple (xs.map enc)]) r Q := by
  refine ⟨_, r, ?_, h⟩
  show some (enumD 0 (xs.map enc), r) = _
  rw [enumD_eq]
theorem wp_enumL {γ : Type} (enc : γ → PyData) {xs : List γ} {Q : List PyData → Rho → Prop} (h : Q ((xs.zipIdx).map (encIx enc)) r) : wp (asEnum [.list (xs.map enc)]) r Q := by
  refine ⟨_, r, ?_, h⟩
  show some (enumD 0 (xs.map enc), r) = _
  rw [enumD_eq]
theorem wp_zip {xs ys : List PyData} {Q : List PyData → Rho → Prop} (h : Q ((xs.zip ys).map encPr) r) : wp (asZip [.tuple xs, .tuple ys]) r Q := by
  refine ⟨_, r, ?_, h⟩
  show some (zipD xs ys, r) = _
  rw [zipD_eq]
theorem wp_zipL {xs ys : List PyData} {Q : List PyData → Rho → Prop} (h : Q ((xs.zip ys).map encPr) r) : wp (asZip [.list xs, .list ys]) r Q := by
  refine ⟨_, r, ?_, h⟩
  show some (zipD xs ys, r) = _
  rw [zipD_eq]
theorem ixT_nat {xs : List PyData} {k : Nat} {x : PyData} (h : xs[k]? = some x) : ixD (.tuple xs) (.int (k : Int)) = some x := atI_nat h
theorem ixL_nat {xs : List PyData} {k : Nat} {x : PyData} (h : xs[k]? = some x) : ixD (.list xs) (.int (k : Int)) = some x := atI_nat h
theorem set_get {γ : Type} (l : List γ) (k : Nat) (x : γ) (h : l[k]? = some x) : l.set k x = l := by
  apply List.ext_getElem?
  intro j
  rw [List.getElem?_set]
  split
  · subst_vars
    split
    · exact h.symm
    · rename_i h1
      rw [List.getElem?_eq_none (by omega)]
  · rfl
theorem wipeR_lenQ (r : Rho) (vs : List Nat) : (wipeR r vs).length = r.length := by
  induction vs with
  | nil => rfl
  | cons v vs ih => simp [wipeR, ih]
theorem restR_getQ (r r4 : Rho) (vs : List Nat) (hl : r4.length = r.length) (j : Nat) : (restR r r4 vs)[j]? = if j ∈ vs then r[j]? else r4[j]? := by
  induction vs with
  | nil => simp [restR]
  | cons v vs ih =>
    have hl' : (restR r r4 vs).length = r.length := by
      clear ih
      induction vs with
      | nil => exact hl
      | cons v vs ih => simp [restR, ih]
    simp only [restR, List.getElem?_set, hl']
    by_cases e : v = j
    · subst e
      simp only [if_pos, List.mem_cons, true_or]
      split
      · rename_i h1
        cases h2 : r[v]? with
        | none => rw [List.getElem?_eq_none_iff] at h2; omega
        | some o => cases o <;> rfl
      · rename_i h1
        rw [List.getElem?_eq_none (by omega)]
    · rw [if_neg e, ih]
      simp only [List.mem_cons]
      have : ¬ (j = v) := fun h => e h.symm
      simp [this]
theorem wipeR_getQ (r : Rho) (vs : List Nat) (j : Nat) : j ∉ vs → (wipeR r vs)[j]? = r[j]? := by
  induction vs with
  | nil => intro _; rfl
  | cons v vs ih =>
    intro h
    simp only [List.mem_cons, not_or] at h
    simp only [wipeR, List.getElem?_set]
    rw [if_neg (fun e => h.1 e.symm), ih h.2]
theorem restR_wipe (r : Rho) (vs : List Nat) : restR r (wipeR r vs) vs = r := by
  apply List.ext_getElem?
  intro j
  rw [restR_getQ _ _ _ (wipeR_lenQ _ _)]
  split
  · rfl
  · rename_i h
    exact wipeR_getQ _ _ _ h
theorem cut_from {γ : Type} {xs : List γ} {i : Int} {k : Nat} (h : i = (k : Int)) : cutD xs (some i) none = xs.drop k := by
  subst h
  unfold cutD
  rw [HT.sIx_nat, HT.sIx_none]
  rcases Nat.le_total k xs.length with h | h
  · rw [Nat.min_eq_left h, List.take_of_length_le (by simp)]
  · rw [Nat.min_eq_right h, List.drop_of_length_le (Nat.le_refl _), List.drop_of_length_le h]
    simp
theorem cut_1 {γ : Type} {xs : List γ} : cutD xs (some 1) none = xs.drop 1 := cut_from (k := 1) (by rfl)
theorem cut_to {γ : Type} {xs : List γ} {i : Int} {k : Nat} (h : i = (k : Int)) : cutD xs none (some i) = xs.take k := by
  subst h
  unfold cutD
  rw [HT.sIx_nat, HT.sIx_none]
  simp only [List.drop_zero, Nat.sub_zero]
  rcases Nat.le_total k xs.length with h | h
  · rw [Nat.min_eq_left h]
  · rw [Nat.min_eq_right h, List.take_of_length_le (Nat.le_refl _), List.take_of_length_le h]
theorem cut_m1 {γ : Type} {xs : List γ} : cutD xs none (some (-1)) = xs.dropLast := by
  unfold cutD
  show (xs.drop 0).take ((if (-1 : Int) < 0 then ((-1 : Int) + (xs.length : Int)).toNat else min (-1 : Int).toNat xs.length) - 0) = _
  rw [if_pos (by decide), List.dropLast_eq_take, List.drop_zero]
  congr 1
  omega
theorem wp_slT {xs : List PyData} {i j : Option Int} {ys : List PyData} {Q : PyData → Rho → Prop} (e : cutD xs i j = ys) (h : Q (.tuple ys) r) : wp (lft (slD (.tuple xs) i j)) r Q := wp_lft (by simp only [slD, e]) h
theorem wp_slL {xs : List PyData} {i j : Option Int} {ys : List PyData} {Q : PyData → Rho → Prop} (e : cutD xs i j = ys) (h : Q (.list ys) r) : wp (lft (slD (.list xs) i j)) r Q := wp_lft (by simp only [slD, e]) h
def Shp (k : Nat) (d : PyData) : Prop := d.canLay0 = true ∧ d.depth ≤ k
theorem shp_int {a : Int} : Shp 1 (.int a) := by
  refine ⟨rfl, ?_⟩
  simp [PyData.depth]
theorem shp_bool {a : Bool} : Shp 1 (.bool a) := by
  refine ⟨rfl, ?_⟩
  simp [PyData.depth]
theorem shp_none : Shp 1 .none := by
  refine ⟨rfl, ?_⟩
  simp [PyData.depth]
theorem shp_mono {k j : Nat} {d : PyData} (h : Shp k d) (hj : k ≤ j) : Shp j d := ⟨h.1, Nat.le_trans h.2 hj⟩
theorem shp_all {k : Nat} {xs : List PyData} (h : ∀ x ∈ xs, Shp k x) : PyData.canLayAll0 xs = true ∧ PyData.depthAll xs ≤ k := by
  induction xs with
  | nil => exact ⟨rfl, by simp [PyData.depthAll]⟩
  | cons x xs ih =>
    have h1 := h x (by simp)
    have h2 := ih fun y hy => h y (by simp [hy])
    refine ⟨by simp only [PyData.canLayAll0, h1.1, h2.1, Bool.and_self], ?_⟩
    simp only [PyData.depthAll]
    exact Nat.max_le.2 ⟨h1.2, h2.2⟩
theorem shp_tup {k : Nat} {xs : List PyData} (h : ∀ x ∈ xs, Shp k x) : Shp (k + 1) (.tuple xs) := by
  obtain ⟨h1, h2⟩ := shp_all h
  refine ⟨by simp only [PyData.canLay0, h1], ?_⟩
  simp only [PyData.depth]
  omega
theorem shp_list {k : Nat} {xs : List PyData} (h : ∀ x ∈ xs, Shp k x) : Shp (k + 1) (.list xs) := by
  obtain ⟨h1, h2⟩ := shp_all h
  refine ⟨by simp only [PyData.canLay0, h1], ?_⟩
  simp only [PyData.depth]
  omega
theorem shp_tupM {γ : Type} {k : Nat} {xs : List γ} {f : γ → PyData} (h : ∀ x, Shp k (f x)) : Shp (k + 1) (.tuple (xs.map f)) := shp_tup fun y hy => by
  obtain ⟨x, _, rfl⟩ := List.mem_map.1 hy
  exact h x
theorem shp_listM {γ : Type} {k : Nat} {xs : List γ} {f : γ → PyData} (h : ∀ x, Shp k (f x)) : Shp (k + 1) (.list (xs.map f)) := shp_list fun y hy => by
  obtain ⟨x, _, rfl⟩ := List.mem_map.1 hy
  exact h x
theorem shaped_of {d : PyData} (h : Shp 64 d) : SeqAt.shaped d = true := by
  unfold SeqAt.shaped
  rw [h.1, decide_eq_true h.2]
  rfl
theorem eqD_ok {k j : Nat} {x y : PyData} (hx : Shp k x) (hy : Shp j y) (hk : k ≤ 64) (hj : j ≤ 64) : eqD x y = some (PyData.eqv x y) := by
  unfold eqD
  rw [shaped_of (shp_mono hx hk), shaped_of (shp_mono hy hj)]
  rfl
theorem neD_ok {k j : Nat} {x y : PyData} (hx : Shp k x) (hy : Shp j y) (hk : k ≤ 64) (hj : j ≤ 64) : neD x y = some (!PyData.eqv x y) := by
  unfold neD
  rw [shaped_of (shp_mono hx hk), shaped_of (shp_mono hy hj)]
  rfl
theorem eqvAll_map {γ : Type} [DecidableEq γ] {f : γ → PyData} (hf : ∀ x y, PyData.eqv (f x) (f y) = decide (x = y)) (xs ys : List γ) : PyData.eqvAll (xs.map f) (ys.map f) = decide (xs = ys) := by
  induction xs generalizing ys with
  | nil => cases ys <;> simp [PyData.eqvAll]
  | cons x xs ih => cases ys with
    | nil => simp [PyData.eqvAll]
    | cons y ys => simp only [List.map_cons, PyData.eqvAll, hf, ih, List.cons.injEq, Bool.decide_and]
theorem eqv_int (a b : Int) : PyData.eqv (.int a) (.int b) = decide (a = b) := by
  simp only [PyData.eqv]
  rfl
theorem eqv_bool (a b : Bool) : PyData.eqv (.bool a) (.bool b) = decide (a = b) := by
  simp only [PyData.eqv]
  cases a <;> cases b <;> rfl
theorem eqvAll_refl {xs : List PyData} (h : ∀ x ∈ xs, PyData.eqv x x = true) : PyData.eqvAll xs xs = true := by
  induction xs with
  | nil => simp [PyData.eqvAll]
  | cons x xs ih => simp only [PyData.eqvAll, h x (by simp), ih fun y hy => h y (by simp [hy]), Bool.and_self]
theorem wp_eqI {a b : Int} {Q : Bool → Rho → Prop} (h : Q (decide (a = b)) r) : wp (lft (eqD (.int a) (.int b))) r Q := wp_lft (by rw [eqD_ok shp_int shp_int (by decide) (by decide), eqv_int]) h
theorem wp_neI {a b : Int} {Q : Bool → Rho → Prop} (h : Q (!decide (a = b)) r) : wp (lft (neD (.int a) (.int b))) r Q := wp_lft (by rw [neD_ok shp_int shp_int (by decide) (by decide), eqv_int]) h
theorem wp_eqID {a b : Int} {Q : PyData → Rho → Prop} (h : Q (.bool (decide (a = b))) r) : wp (lft ((eqD (.int a) (.int b)).map PyData.bool)) r Q := wp_lft (by rw [eqD_ok shp_int shp_int (by decide) (by decide), eqv_int]; rfl) h
theorem wp_neID {a b : Int} {Q : PyData → Rho → Prop} (h : Q (.bool (!decide (a = b))) r) : wp (lft ((neD (.int a) (.int b)).map PyData.bool)) r Q := wp_lft (by rw [neD_ok shp_int shp_int (by decide) (by decide), eqv_int]; rfl) h
theorem wp_eqX {k j : Nat} {x y : PyData} {Q : Bool → Rho → Prop} (hx : Shp k x) (hy : Shp j y) (hk : k ≤ 64) (hj : j ≤ 64) (h : Q (PyData.eqv x y) r) : wp (lft (eqD x y)) r Q := wp_lft (eqD_ok hx hy hk hj) h
theorem wp_neX {k j : Nat} {x y : PyData} {Q : Bool → Rho → Prop} (hx : Shp k x) (hy : Shp j y) (hk : k ≤ 64) (hj : j ≤ 64) (h : Q (!PyData.eqv x y) r) : wp (lft (neD x y)) r Q := wp_lft (neD_ok hx hy hk hj) h
theorem wp_eqXD {k j : Nat} {x y : PyData} {Q : PyData → Rho → Prop} (hx : Shp k x) (hy : Shp j y) (hk : k ≤ 64) (hj : j ≤ 64) (h : Q (.bool (PyData.eqv x y)) r) : wp (lft ((eqD x y).map PyData.bool)) r Q := wp_lft (by rw [eqD_ok hx hy hk hj]; rfl) h
theorem wp_neXD {k j : Nat} {x y : PyData} {Q : PyData → Rho → Prop} (hx : Shp k x) (hy : Shp j y) (hk : k ≤ 64) (hj : j ≤ 64) (h : Q (.bool (!PyData.eqv x y)) r) : wp (lft ((neD x y).map PyData.bool)) r Q := wp_lft (by rw [neD_ok hx hy hk hj]; rfl) h
theorem ix_map {γ : Type} {xs : List γ} {f : γ → PyData} {k : Nat} {x : γ} (h : xs[k]? = some x) : ixD (.tuple (xs.map f)) (.int (k : Int)) = some (f x) := ixT_nat (by rw [List.getElem?_map, h]; rfl)
theorem ixl_map {γ : Type} {xs : List γ} {f : γ → PyData} {k : Nat} {x : γ} (h : xs[k]? = some x) : ixD (.list (xs.map f)) (.int (k : Int)) = some (f x) := ixL_nat (by rw [List.getElem?_map, h]; rfl)
/-! one rule for each word -/
section words
variable {f g k : M PyData} {c d : M Bool} {as : M (List PyData)} {QD : PyData → Rho → Prop} {QB : Bool → Rho → Prop} {QL : List PyData → Rho → Prop} {QE : Ent → Rho → Prop} {QO : Out → Rho → Prop}
theorem wp_cst {x : PyData} (h : QD x r) : wp (cst x) r QD := wp_ret h
theorem wp_bop {o : PyData → PyData → Option PyData} (h : wp f r fun x r => wp g r fun y r => wp (lft (o x y)) r QD) : wp (bop o f g) r QD := wp_bnd (wp_mono h fun _ _ q => wp_bnd q)
theorem wp_cmp {o : PyData → PyData → Option Bool} (h : wp f r fun x r => wp g r fun y r => wp (lft ((o x y).map PyData.bool)) r QD) : wp (cmp o f g) r QD := wp_bop h
theorem wp_cmpT {o : PyData → PyData → Option Bool} (h : wp f r fun x r => wp g r fun y r => wp (lft (o x y)) r QB) : wp (cmpT o f g) r QB := wp_bnd (wp_mono h fun _ _ q => wp_bnd q)
theorem wp_chn {o o' : PyData → PyData → Option Bool} (h : wp f r fun x r => wp g r fun y r => wp (lft (o x y)) r fun b r => wp (if b = true then bnd k fun z => lft (o' y z) else ret false) r QB) : wp (chn o o' f g k) r QB := wp_bnd (wp_mono h fun _ _ q => wp_bnd (wp_mono q fun _ _ q => wp_bnd q))
theorem wp_asD (h : wp c r fun b r => QD (.bool b) r) : wp (asD c) r QD := wp_bnd (wp_mono h fun _ _ q => wp_ret q)
theorem wp_tst (h : wp f r fun x r => wp (asB x) r QB) : wp (tst f) r QB := wp_bnd h
theorem wp_asB {b : Bool} (h : QB b r) : wp (asB (.bool b)) r QB := wp_ret h
theorem wp_andT (h : wp c r fun b r => wp (if b = true then d else ret false) r QB) : wp (andT c d) r QB := wp_bnd h
theorem wp_orT (h : wp c r fun b r => wp (if b = true then ret true else d) r QB) : wp (orT c d) r QB := wp_bnd h
theorem wp_notT (h : wp c r fun b r => QB (!b) r) : wp (notT c) r QB := wp_bnd (wp_mono h fun _ _ q => wp_ret q)
theorem wp_andV (h : wp (tst f) r fun b r => wp (if b = true then g else ret (.bool false)) r QD) : wp (andV f g) r QD := wp_bnd h
theorem wp_orV (h : wp (tst f) r fun b r => wp (if b = true then ret (.bool true) else g) r QD) : wp (orV f g) r QD := wp_bnd h
theorem wp_notV (h : wp (tst f) r fun b r => QD (.bool !b) r) : wp (notV f) r QD := wp_bnd (wp_mono h fun _ _ q => wp_ret q)
theorem wp_ifE (h : wp c r fun b r => wp (if b = true then f else g) r QD) : wp (ifE c f g) r QD := wp_bnd h
theorem wp_aNil (h : QL [] r) : wp aNil r QL := wp_ret h
theorem wp_aCons (h : wp f r fun x r => wp as r fun xs r => QL (x :: xs) r) : wp (aCons f as) r QL := wp_bnd (wp_mono h fun _ _ q => wp_bnd (wp_mono q fun _ _ q => wp_ret q))
theorem wp_mkT (h : wp as r fun xs r => xs.length ≤ 16777216 ∧ QD (.tuple xs) r) : wp (mkT as) r QD := wp_bnd (wp_mono h fun _ _ q => wp_cond q.1 (wp_ret q.2))
theorem wp_mkL (h : wp as r fun xs r => xs.length ≤ 16777216 ∧ QE (.ml xs) r) : wp (mkL as) r QE := wp_bnd (wp_mono h fun _ _ q => wp_cond q.1 (wp_ret q.2))
theorem wp_uop {o : PyData → Option PyData} (h : wp f r fun x r => wp (lft (o x)) r QD) : wp (uop o f) r QD := wp_bnd h
theorem wp_slc {i j : M (Option Int)} (h : wp f r fun x r => wp i r fun i r => wp j r fun j r => wp (lft (slD x i j)) r QD) : wp (slc f i j) r QD := wp_bnd (wp_mono h fun _ _ q => wp_bnd (wp_mono q fun _ _ q => wp_bnd q))
theorem wp_asI {i : Int} {Q : Option Int → Rho → Prop} (h : Q (some i) r) : wp (asI (.int i)) r Q := wp_ret h
theorem wp_appl {o : List PyData → Option PyData} (h : wp as r fun xs r => wp (lft (o xs)) r QD) : wp (app o as) r QD := wp_bnd h
theorem wp_sNil (h : QO .nx r) : wp sNil r QO := wp_ret h
theorem wp_sCons {a b : M Out} (h : wp a r fun o r => wp (match o with | .nx => b | o => ret o) r QO) : wp (sCons a b) r QO := wp_bnd h
theorem wp_sExpr (h : wp f r fun _ r => QO .nx r) : wp (sExpr f) r QO := wp_bnd (wp_mono h fun _ _ q => wp_ret q)
theorem wp_sRet {a : M Ent} (h : wp a r fun en r => QO (.ret en) r) : wp (sRet a) r QO := wp_bnd (wp_mono h fun _ _ q => wp_ret q)
theorem wp_sRetD (h : wp f r fun x r => QO (.ret (.d x)) r) : wp (sRetD f) r QO := wp_bnd (wp_mono h fun _ _ q => wp_ret q)
theorem wp_sIf {a b : M Out} (h : wp c r fun t r => wp (if t = true then a else b) r QO) : wp (sIf c a b) r QO := wp_bnd h
theorem wp_sSet (h : wp f r fun x r => ∃ r2, r.set i (some (.d x)) = r2 ∧ QO .nx r2) : wp (sSet i f) r QO := wp_bnd (wp_mono h fun _ _ q => by obtain ⟨r2, rfl, q⟩ := q; exact wp_set q)
theorem wp_sSetX {a : M Ent} (h : wp a r fun x r => ∃ r2, r.set i (some x) = r2 ∧ QO .nx r2) : wp (sSetX i a) r QO := wp_bnd (wp_mono h fun _ _ q => by obtain ⟨r2, rfl, q⟩ := q; exact wp_set q)
theorem wp_sAsg {a : Asg} (h : wp f r fun x r => ∃ r', a x r = some r' ∧ QO .nx r') : wp (sAsg f a) r QO := wp_bnd (wp_mono h fun _ _ q => by obtain ⟨r', e, q⟩ := q; exact wp_asg e q)
theorem wp_sPar {j : Nat} {a b : M Ent} (h : wp a r fun x r => wp b r fun y r => ∃ r2, r.set i (some x) = r2 ∧ ∃ r3, r2.set j (some y) = r3 ∧ QO .nx r3) : wp (sPar i j a b) r QO := wp_bnd (wp_mono h fun _ _ q => wp_bnd (wp_mono q fun _ _ q => by obtain ⟨r2, rfl, r3, rfl, q⟩ := q; exact ⟨_, _, rfl, q⟩))
theorem wp_sFor {a : Asg} {b : M Out} (h : wp as r fun ds r => wp (forM a b ds) r QO) : wp (sFor as a b) r QO := wp_bnd h
theorem wp_dcall {den : Den0} (h : wp as r fun ds r => wp (lft (den ds)) r QE) : wp (dcall den as) r QE := wp_bnd h
theorem wp_frz {x : PyData} (h : QD x r) : wp (frz (.d x)) r QD := wp_ret h
theorem wp_frzL {xs : List PyData} (h : QD (.list xs) r) : wp (frz (.ml xs)) r QD := wp_ret h
theorem wp_seqT {xs : List PyData} (h : QL xs r) : wp (asSeq (.tuple xs)) r QL := wp_ret h
theorem wp_seqL {xs : List PyData} (h : QL xs r) : wp (asSeq (.list xs)) r QL := wp_ret h
theorem wp_enumT {xs : List PyData} (h : QL (enumD 0 xs) r) : wp (asEnum [.tuple xs]) r QL := wp_ret h
theorem wp_enumLs {xs : List PyData} (h : QL (enumD 0 xs) r) : wp (asEnum [.list xs]) r QL := wp_ret h
theorem wp_ixM {γ : Type} {xs : List γ} {en : γ → PyData} {k : Nat} {x : γ} (e : xs[k]? = some x) (h : QD (en x) r) : wp (lft (ixD (.tuple (xs.map en)) (.int (k : Int)))) r QD := wp_lft (ix_map e) h
theorem wp_ixML {γ : Type} {xs : List γ} {en : γ → PyData} {k : Nat} {x : γ} (e : xs[k]? = some x) (h : QD (en x) r) : wp (lft (ixD (.list (xs.map en)) (.int (k : Int)))) r QD := wp_lft (ixl_map e) h
theorem wp_dnew (h : QE (.md []) r) : wp dnew r QE := wp_ret h
theorem ex_asgN {i : Nat} {x : PyData} {P : Rho → Prop} (h : P (r.set i (some (.d x)))) : ∃ r', asgN i x r = some r' ∧ P r' := ⟨_, rfl, h⟩
theorem ex_get {i : Nat} {e : Ent} {P : Prop} (h : r[i]? = some (some e)) (q : P) : (∃ e, r[i]? = some (some e)) ∧ P := ⟨⟨e, h⟩, q⟩
theorem le_and {a b : Nat} {P : Prop} (e : a ≤ b) (h : P) : a ≤ b ∧ P := ⟨e, h⟩
theorem wp_sl1c {x : PyData} {xs : List PyData} (h : QD (.tuple xs) r) : wp (lft (slD (.tuple (x :: xs)) (some 1) none)) r QD := wp_slT (by rw [cut_1]; rfl) h
theorem wp_sl1 {xs : List PyData} (h : QD (.tuple (xs.drop 1)) r) : wp (lft (slD (.tuple xs) (some 1) none)) r QD := wp_slT cut_1 h
theorem wp_sl1L {xs : List PyData} (h : QD (.list (xs.drop 1)) r) : wp (lft (slD (.list xs) (some 1) none)) r QD := wp_slL cut_1 h
theorem wp_slTo {xs : List PyData} {k : Nat} (h : QD (.tuple (xs.take k)) r) : wp (lft (slD (.tuple xs) none (some (k : Int)))) r QD := wp_slT (cut_to rfl) h
theorem wp_slFrom {xs : List PyData} {k : Nat} (h : QD (.tuple (xs.drop (k + 1))) r) : wp (lft (slD (.tuple xs) (some ((k : Int) + 1)) none)) r QD := wp_slT (cut_from (by omega)) h
theorem wp_slInit {xs : List PyData} (h : QD (.list xs.dropLast) r) : wp (lft (slD (.list xs) none (some (-1)))) r QD := wp_slL cut_m1 h
theorem wp_slN {xs : List PyData} {i : Int} (hi : 0 ≤ i) (h : QD (.list (xs.take i.toNat)) r) : wp (lft (slD (.list xs) none (some i))) r QD := wp_slL (cut_to (by omega)) h
theorem wp_addI {a b : Int} (h : QD (.int (a + b)) r) : wp (lft (addD (.int a) (.int b))) r QD := wp_lft rfl h
theorem wp_subI {a b : Int} (h : QD (.int (a - b)) r) : wp (lft (subD (.int a) (.int b))) r QD := wp_lft rfl h
theorem wp_min {a b : Int} (h : QD (.int (if b < a then b else a)) r) : wp (lft (minD [.int a, .int b])) r QD := wp_lft rfl h
theorem wp_max {a b : Int} (h : QD (.int (if b > a then b else a)) r) : wp (lft (maxD [.int a, .int b])) r QD := wp_lft rfl h
theorem wp_mod {a b : Int} (hb : 0 < b) (h : QD (.int (a % b)) r) : wp (lft (modD (.int a) (.int b))) r QD := wp_lft (by simp only [modD, if_pos hb]) h
theorem wp_fdiv {a b : Int} (hb : 0 < b ∧ b < 18446744073709551616) (h : QD (.int (a / b)) r) : wp (lft (fdivD (.int a) (.int b))) r QD := wp_lft (by simp only [fdivD, if_pos hb]) h
theorem wp_pow {a b : Int} (hb : 0 ≤ b ∧ b ≤ 1000000 ∧ a.natAbs < 18446744073709551616) (h : QD (.int (a ^ b.toNat)) r) : wp (lft (powD (.int a) (.int b))) r QD := wp_lft (by simp only [powD, if_pos hb]) h
theorem wp_mulI {a b : Int} (hb : (-18446744073709551616 < a ∧ a < 18446744073709551616) ∨ (-18446744073709551616 < b ∧ b < 18446744073709551616)) (h : QD (.int (a * b)) r) : wp (lft (mulD (.int a) (.int b))) r QD := wp_lft (by simp only [mulD, if_pos hb]) h
theorem wp_ixVc {j : Int} {xs : List PyData} {x : PyData} (e : r[i]? = some (some (.ml xs))) (e2 : ixD (.list xs) (.int j) = some x) (h : QD x r) : wp (ixV i (cst (.int j))) r QD := wp_ixV e (wp_ret ⟨xs, x, e, e2, h⟩)
theorem wp_setI30 {f : M PyData} (h : wp f r fun d r0 => ∃ r1, r0[i]? = r1 ∧ ∃ a b c, r1 = some (some (.ml [a, b, c])) ∧ ∃ r2, r0.set i (some (.ml [d, b, c])) = r2 ∧ QO .nx r2) : wp (sSetI i f (cst (.int 0))) r QO := by
  refine wp_setI (wp_mono h ?_)
  rintro d r0 ⟨r1, rfl, a, b, c, e, r2, rfl, q⟩
  exact ⟨⟨_, e⟩, wp_ret ⟨0, 0, [a, b, c], rfl, e, rfl, _, rfl, q⟩⟩
theorem wp_setI32 {f : M PyData} (h : wp f r fun d r0 => ∃ r1, r0[i]? = r1 ∧ ∃ a b c, r1 = some (some (.ml [a, b, c])) ∧ ∃ r2, r0.set i (some (.ml [a, b, d])) = r2 ∧ QO .nx r2) : wp (sSetI i f (cst (.int 2))) r QO := by
  refine wp_setI (wp_mono h ?_)
  rintro d r0 ⟨r1, rfl, a, b, c, e, r2, rfl, q⟩
  exact ⟨⟨_, e⟩, wp_ret ⟨2, 2, [a, b, c], rfl, e, rfl, _, rfl, q⟩⟩
theorem ex_abc {a b c : PyData} {P : PyData → PyData → PyData → Prop} (h : P a b c) : ∃ a' b' c', (some (some (Ent.ml [a, b, c])) = some (some (Ent.ml [a', b', c']))) ∧ P a' b' c' := ⟨a, b, c, rfl, h⟩
theorem ex_app {ys : List PyData} {P : List PyData → Prop} (e : r[i]? = some (some (.ml ys))) (hl : ys.length < 16777216) (h : P ys) : ∃ ys, r[i]? = some (some (.ml ys)) ∧ ys.length < 16777216 ∧ P ys := ⟨ys, e, hl, h⟩
theorem ex_getM {kvs : Rw} {P : Prop} (h : r[i]? = some (some (.md kvs))) (q : P) : (∃ kvs, r[i]? = some (some (.md kvs))) ∧ P := ⟨⟨kvs, h⟩, q⟩
theorem ex_put {kvs : Rw} {kd : PyData} {kk : NestedKey} {P : Rw → NestedKey → Prop} (e : r[i]? = some (some (.md kvs))) (hk : keyOf kd = some kk) (hl : kvs.length < 16777216) (h : P kvs kk) : ∃ kvs kk, r[i]? = some (some (.md kvs)) ∧ keyOf kd = some kk ∧ kvs.length < 16777216 ∧ P kvs kk := ⟨kvs, kk, e, hk, hl, h⟩
theorem ex_getD {kvs : Rw} {kd x : PyData} {kk : NestedKey} {P : PyData → Prop} (e : r[i]? = some (some (.md kvs))) (hk : keyOf kd = some kk) (hg : dGet kvs kk = some x) (h : P x) : ∃ kvs kk x, r[i]? = some (some (.md kvs)) ∧ keyOf kd = some kk ∧ dGet kvs kk = some x ∧ P x := ⟨kvs, kk, x, e, hk, hg, h⟩
theorem ex_inD {kvs : Rw} {kd : PyData} {kk : NestedKey} {P : Rw → NestedKey → Prop} (e : r[i]? = some (some (.md kvs))) (hk : keyOf kd = some kk) (h : P kvs kk) : ∃ kvs kk, r[i]? = some (some (.md kvs)) ∧ keyOf kd = some kk ∧ P kvs kk := ⟨kvs, kk, e, hk, h⟩
theorem wp_keys {kvs : Rw} (e : r[i]? = some (some (.md kvs))) (h : QD (.list (kvs.map (·.1))) r) : wp (keysV i) r QD := ⟨_, _, by simp only [keysV, e], h⟩
theorem wp_getOr {kvs0 : Rw} (e : r[i]? = some (some (.md kvs0))) (h : wp f r fun kd r => wp g r fun x r => ∃ kvs k, r[i]? = some (some (.md kvs)) ∧ keyOf kd = some k ∧ QD ((dGet kvs k).getD x) r) : wp (getOr i f g) r QD := by
  obtain ⟨kd, r1, e1, x, r2, e2, kvs, k, e3, e4, q⟩ := h
  exact ⟨_, _, by simp only [getOr, e, bnd, e1, e2, e3, e4], q⟩
theorem wp_lenVd {xs : List PyData} (e : r[i]? = some (some (.d (.list xs)))) (h : QD (.int xs.length) r) : wp (lenV i) r QD := ⟨_, _, by simp only [lenV, e], h⟩
theorem wp_lenVt {xs : List PyData} (e : r[i]? = some (some (.d (.tuple xs)))) (h : QD (.int xs.length) r) : wp (lenV i) r QD := ⟨_, _, by simp only [lenV, e], h⟩
end words
/-! dicts -/
theorem dGet_nil (k : NestedKey) : dGet [] k = none := rfl
theorem dGet_cons (p : PyData × PyData) (kvs : Rw) (k : NestedKey) : dGet (p :: kvs) k = if keyOf p.1 = some k then some p.2 else dGet kvs k := by
  unfold dGet
  rw [List.find?_cons]
  by_cases e : keyOf p.1 = some k
  · simp [e]
  · simp [e]
theorem dGet_map (kvs : Rw) (k k' : NestedKey) (v : PyData) : dGet (kvs.map fun kv => if keyOf kv.1 = some k then (kv.1, v) else kv) k' = if k = k' then (dGet kvs k).map (fun _ => v) else dGet kvs k' := by
  induction kvs with
  | nil => simp [dGet_nil]
  | cons p kvs ih =>
    rw [List.map_cons, dGet_cons, dGet_cons, ih, dGet_cons]
    by_cases e : keyOf p.1 = some k
    · by_cases e2 : k = k'
      · subst e2
        simp [e]
      · have : ¬ (some k = some k') := fun h => e2 (Option.some.inj h)
        simp [e, e2]
    · by_cases e2 : k = k'
      · subst e2
        simp [e]
      · simp [e, e2]
theorem dGet_app (kvs : Rw) (kd v : PyData) (k' : NestedKey) : dGet (kvs ++ [(kd, v)]) k' = match dGet kvs k' with | some x => some x | none => if keyOf kd = some k' then some v else none := by
  induction kvs with
  | nil => simp [dGet_cons, dGet_nil]
  | cons p kvs ih =>
    rw [List.cons_append, dGet_cons, dGet_cons, ih]
    by_cases e : keyOf p.1 = some k'
    · simp [e]
    · simp [e]
theorem dGet_put {kvs : Rw} {k k' : NestedKey} {kd v : PyData} (hk : keyOf kd = some k) : dGet (dPut kvs k kd v) k' = if k = k' then some v else dGet kvs k' := by
  unfold dPut
  by_cases e : (dGet kvs k).isSome = true
  · rw [if_pos e, dGet_map]
    cases e3 : dGet kvs k with
    | none => rw [e3] at e; cases e
    | some x => rfl
  · rw [if_neg e, dGet_app, hk]
    cases e3 : dGet kvs k with
    | some x => rw [e3] at e; exact absurd rfl e
    | none =>
      by_cases e2 : k = k'
      · subst e2
        rw [e3]
        simp
      · have : ¬ (some k = some k') := fun h => e2 (Option.some.inj h)
        rw [if_neg e2, if_neg this]
        cases dGet kvs k' <;> rfl
theorem dPut_len {kvs : Rw} {k : NestedKey} {kd v : PyData} : (dPut kvs k kd v).length ≤ kvs.length + 1 := by
  unfold dPut
  split
  · rw [List.length_map]; omega
  · rw [List.length_append]; exact Nat.le_refl _
theorem dPut_len2 {kvs : Rw} {k : NestedKey} {kd v x : PyData} (h : dGet kvs k = some x) : (dPut kvs k kd v).length = kvs.length := by
  unfold dPut
  rw [h]
  simp only [Option.isSome_some, if_true, List.length_map]
theorem dPut_keys2 {kvs : Rw} {k : NestedKey} {kd v x : PyData} (h : dGet kvs k = some x) : (dPut kvs k kd v).map (·.1) = kvs.map (·.1) := by
  unfold dPut
  rw [h]
  simp only [Option.isSome_some, if_true, List.map_map]
  apply List.map_congr_left
  intro p _
  simp only [Function.comp]
  split <;> rfl
theorem dPut_keys0 {kvs : Rw} {k : NestedKey} {kd v : PyData} (h : dGet kvs k = none) : (dPut kvs k kd v).map (·.1) = kvs.map (·.1) ++ [kd] := by
  unfold dPut
  rw [h]
  simp
theorem dGet_none {kvs : Rw} {k : NestedKey} (h : ∀ d ∈ kvs.map (·.1), keyOf d ≠ some k) : dGet kvs k = none := by
  induction kvs with
  | nil => rfl
  | cons p kvs ih =>
    rw [dGet_cons, if_neg (h p.1 (by simp))]
    exact ih fun d hd => h d (by simp at hd ⊢; exact .inr hd)
def kk (i j : Nat) : NestedKey := .tup [.num i, .num j]
theorem keyOf_nn (i j : Nat) : keyOf (.tuple [.int i, .int j]) = some (kk i j) := by
  have : (NestedKey.tup [.num (i : Int), .num (j : Int)]).depth ≤ 8 := by simp [NestedKey.depth, NestedKey.depthAll]
  show (if (NestedKey.tup [.num (i : Int), .num (j : Int)]).depth ≤ 8 then some (NestedKey.tup [.num (i : Int), .num (j : Int)]) else none) = _
  rw [if_pos this]
  rfl
theorem kk_inj {i j i' j' : Nat} : kk i j = kk i' j' ↔ i = i' ∧ j = j' := by
  unfold kk
  constructor
  · intro e
    simp only [NestedKey.tup.injEq, List.cons.injEq, NestedKey.num.injEq, and_true] at e
    omega
  · rintro ⟨rfl, rfl⟩
    rfl
abbrev za := @set_0
abbrev zb := @set_s
abbrev zc := @wipe_nil
abbrev zd := @wipe_cons
abbrev ze := @rest_nil
abbrev zf := @rest_cons
abbrev zg := @get_0
abbrev zh := @get_s
abbrev zi := @asg_n
abbrev zj := @asgl_nil
abbrev zk := @asgl_cons
abbrev zl := @wp_sCons
abbrev zm := @wp_bnd
abbrev zn := @wp_ret
abbrev zo := @wp_cst
abbrev zp := @wp_sRetD
abbrev zq := @wp_sIf
abbrev zr := @wp_sSet
abbrev zs := @wp_bop
abbrev zt := @wp_cmpT
abbrev zu := @wp_cmp
abbrev zv := @wp_chn
abbrev zw := @wp_asD
abbrev zx := @wp_tst
abbrev zy := @wp_asB
abbrev zz := @wp_andT
abbrev z0 := @wp_orT
abbrev z1 := @wp_notT
abbrev z2 := @wp_andV
abbrev z3 := @wp_orV
abbrev z4 := @wp_notV
abbrev z5 := @wp_ifE
abbrev z6 := @wp_aNil
abbrev z7 := @wp_aCons
abbrev z8 := @wp_dcall
abbrev z9 := @wp_frz
abbrev zA := @wp_frzL
abbrev zB := @wp_uop
abbrev zC := @wp_slc
abbrev zD := @wp_asI
abbrev zE := @wp_appl
abbrev zF := @wp_sNil
abbrev zG := @wp_sExpr
abbrev zH := @wp_sRet
abbrev zI := @wp_sSetX
abbrev zJ := @wp_sPar
abbrev zK := @wp_sFor
abbrev zL := @wp_seqT
abbrev zM := @wp_seqL
abbrev zN := @wp_enumT
abbrev zO := @wp_enumLs
abbrev zP := @wp_zip
abbrev zQ := @wp_zipL
abbrev zR := @wp_lc
abbrev zS := @wp_lt
abbrev zT := @wp_le
abbrev zU := @wp_gt
abbrev zV := @wp_ge
abbrev zW := @wp_ltD
abbrev zX := @wp_leD
abbrev zY := @wp_gtD
abbrev zZ := @wp_geD
abbrev ya := @wp_eqI
abbrev yb := @wp_neI
abbrev yc := @wp_eqID
abbrev yd := @wp_neID
abbrev ye := @wp_all
abbrev yf := @wp_any
abbrev yg := @wp_dnew
abbrev yh := @wp_dcallR
abbrev yi := @wp_put
abbrev yj := @wp_inV
abbrev yk := @wp_mkT
abbrev yl := @wp_mkL
abbrev ym := @wp_sAsg
abbrev yn := @wp_sl1c
abbrev yo := @wp_sl1
abbrev yp := @wp_sl1L
abbrev yq := @wp_slTo
abbrev yr := @wp_slFrom
abbrev ys := @wp_slInit
abbrev yt := @wp_setI30
abbrev yu := @wp_setI32
abbrev yv := @wp_addI
abbrev yw := @wp_subI
abbrev yx := @wp_min
abbrev yy := @wp_max
abbrev yz := @outs_nx
abbrev y0 := @outs_cont
abbrev y1 := @outs_brk
abbrev y2 := @outs_ret
abbrev y3 := @ex_abc
abbrev y4 := @wp_gv
abbrev y5 := @wp_gvl
abbrev y6 := @wp_lenV
abbrev y7 := @wp_lenVd
abbrev y8 := @wp_lenVt
abbrev y9 := @wp_keys
abbrev yA := @wp_getOr
abbrev yB := @wp_ixVc
abbrev yC := @wp_app
abbrev yD := @ex_getM
abbrev yE := @wp_getV
abbrev yF := @wp_mv
abbrev yG := @ex_get
abbrev yH := @wp_itt
abbrev yI := @wp_itf
abbrev yJ := @nrm
abbrev yK := @nrmA
abbrev yL := @le_and
abbrev yM := @wp_ixM
abbrev yN := @wp_ixML
abbrev yO := @wp_rng
abbrev yP := @wp_mod
abbrev yQ := @wp_fdiv
abbrev yR := @wp_pow
abbrev yS := @wp_mulI
abbrev yT := @wp_lftD
abbrev yU := @wp_lftB
abbrev yV := @asg_t
abbrev yW := @wp_lftE
abbrev yX := @wp_lft
end G65
namespace G65
open PySem PySem.Spec PyProof.Rows L2
local macro_rules
  | `(tactic| infer_instance) => `(tactic| first|(with_reducible first|apply za|apply zb|apply zc|apply zd|apply ze|apply zf|apply zg|apply zh|apply zi|apply zj|apply zk|apply zl|apply zm|apply zn|apply zo|apply zp|apply zq|apply zr|apply zs|apply zt|apply zu|apply zv|apply zw|apply zx|apply zy|apply zz|apply z0|apply z1|apply z2|apply z3|apply z4|apply z5|apply z6|apply z7|apply z8|apply z9|apply zA|apply zB|apply zC|apply zD|apply zE|apply zF|apply zG|apply zH|apply zI|apply zJ|apply zK|apply zL|apply zM|apply zN|apply zO|apply zP|apply zQ|apply zR|apply zS|apply zT|apply zU|apply zV|apply zW|apply zX|apply zY|apply zZ|apply ya|apply yb|apply yc|apply yd|apply ye|apply yf|apply yg|apply yh|apply yi|apply yj|apply yk|apply yl|apply ym|apply yn|apply yo|apply yp|apply yq|apply yr|apply ys|apply yt|apply yu|apply yv|apply yw|apply yx|apply yy|apply yz|apply y0|apply y1|apply y2|apply y3)|((with_reducible apply y4);(·(with_reducible repeat' first|apply zg|apply zh)))|((with_reducible apply y5);(·(with_reducible repeat' first|apply zg|apply zh)))|((with_reducible apply y6);(·(with_reducible repeat' first|apply zg|apply zh)))|((with_reducible apply y7);(·(with_reducible repeat' first|apply zg|apply zh)))|((with_reducible apply y8);(·(with_reducible repeat' first|apply zg|apply zh)))|((with_reducible apply y9);(·(with_reducible repeat' first|apply zg|apply zh)))|((with_reducible apply yA);(·(with_reducible repeat' first|apply zg|apply zh)))|((with_reducible apply yC);(·(with_reducible repeat' first|apply zg|apply zh)))|((with_reducible apply yD);(·(with_reducible repeat' first|apply zg|apply zh)))|((with_reducible apply yE);(·(with_reducible repeat' first|apply zg|apply zh)))|((with_reducible apply yF);(·(with_reducible repeat' first|apply zg|apply zh)))|((with_reducible apply yG);(·(with_reducible repeat' first|apply zg|apply zh)))|((with_reducible apply yB);(·(with_reducible repeat' first|apply zg|apply zh));(·rfl))|((with_reducible apply yH);rfl)|((with_reducible apply yI);rfl)|((with_reducible apply yV);rfl)|((with_reducible apply yJ))|((with_reducible apply yK))|((with_reducible apply yL);exact Nat.le_of_ble_eq_true rfl)|((with_reducible apply yM);assumption)|((with_reducible apply yN);assumption)|((with_reducible apply yO);(·omega))|((with_reducible apply yP);(·omega))|((with_reducible apply yQ);(·omega))|((with_reducible apply yR);(·omega))|((with_reducible apply yS);(·omega))|((with_reducible apply yT);rfl)|((with_reducible apply yU);rfl))
def isFrom (x : PyData) (lo hi : Int) : Bool := match x with
  | .int a => decide (lo ≤ a) && decide (a ≤ hi)
  | _ => false
theorem is_from_ok (n : Nat) (x : PyData) (lo hi : Int) : den_is_from n [x, .int lo, .int hi] = some (.d (.bool (isFrom x lo hi))) := by
  cases x with
  | int a =>
    (refine den0i (r0 := [_, _, _]) rfl ?_; unfold m_is_from; try dsimp only)
    (repeat' first|infer_instance|fail)
    refine wp_ite (fun h => ?_) (fun h => ?_)
    · (repeat' first|infer_instance|fail)
      simp only [isFrom, h, Bool.true_and]
    · (repeat' first|infer_instance|fail)
      simp only [isFrom, h, Bool.false_and]
  | bool b => rfl
  | none => rfl
  | str s => rfl
  | list l => rfl
  | tuple t => rfl
  | dict d => rfl
def isTup (x : PyData) (lo hi : Int) : Bool := match x with
  | .tuple xs => decide (lo ≤ (xs.length : Int)) && decide ((xs.length : Int) ≤ hi)
  | _ => false
theorem is_tuple_ok (n : Nat) (x : PyData) (lo hi : Int) : den_is_tuple n [x, .int lo, .int hi] = some (.d (.bool (isTup x lo hi))) := by
  cases x with
  | tuple a =>
    (refine den0i (r0 := [_, _, _]) rfl ?_; unfold m_is_tuple; try dsimp only)
    (repeat' first|infer_instance|fail)
    refine wp_ite (fun h => ?_) (fun h => ?_)
    · (repeat' first|infer_instance|fail)
      simp only [isTup, h, Bool.true_and]
    · (repeat' first|infer_instance|fail)
      simp only [isTup, h, Bool.false_and]
  | bool b => rfl
  | none => rfl
  | str s => rfl
  | list l => rfl
  | int t => rfl
  | dict d => rfl
def rising : List PyData → Bool
  | .int a :: .int b :: xs => decide (a < b) && rising (.int b :: xs)
  | _ => true
def vLore (k : Int) (x : PyData) : Bool := match x with
  | .tuple [.tuple ns, t, c, l] => decide ((ns.length : Int) ≤ k) && ns.all (fun y => isFrom y 0 (k - 1)) && rising ns && (match c with
    | .int c => isFrom (.int c) 1 3 && isFrom t 1 c && isFrom l 0 c
    | _ => false)
  | _ => false
theorem isTup_false {x : PyData} {lo hi : Int} (h : ∀ xs, x = .tuple xs → ¬ (lo ≤ (xs.length : Int) ∧ (xs.length : Int) ≤ hi)) : isTup x lo hi = false := by
  cases x with
  | tuple xs =>
    have := h xs rfl
    simp only [isTup, Bool.and_eq_false_iff, decide_eq_false_iff_not]
    omega
  | _ => rfl
theorem isTup_true {x : PyData} {lo hi : Int} (h : isTup x lo hi = true) : ∃ xs, x = .tuple xs ∧ lo ≤ (xs.length : Int) ∧ (xs.length : Int) ≤ hi := by
  cases x with
  | tuple xs => exact ⟨xs, rfl, by simpa [isTup] using h⟩
  | _ => cases h
theorem isFrom_true {x : PyData} {lo hi : Int} (h : isFrom x lo hi = true) : ∃ a, x = .int a ∧ lo ≤ a ∧ a ≤ hi := by
  cases x with
  | int a => exact ⟨a, rfl, by simpa [isFrom] using h⟩
  | _ => cases h
theorem len4 {xs : List PyData} (h : xs.length = 4) : ∃ a b c d, xs = [a, b, c, d] := by
  match xs, h with
  | [a, b, c, d], _ => exact ⟨a, b, c, d, rfl⟩
theorem len3 {xs : List PyData} (h : xs.length = 3) : ∃ a b c, xs = [a, b, c] := by
  match xs, h with
  | [a, b, c], _ => exact ⟨a, b, c, rfl⟩
theorem len2 {xs : List PyData} (h : xs.length = 2) : ∃ a b, xs = [a, b] := by
  match xs, h with
  | [a, b], _ => exact ⟨a, b, rfl⟩
theorem vLore_tup {k : Int} {x : PyData} (h : vLore k x = true) : ∃ ns t c l, x = .tuple [.tuple ns, t, c, l] := by
  unfold vLore at h
  split at h
  · exact ⟨_, _, _, _, rfl⟩
  · cases h
theorem vLore_false {k : Int} {x : PyData} (h : ∀ ns t c l, x ≠ .tuple [.tuple ns, t, c, l]) : vLore k x = false := by
  cases e : vLore k x with
  | false => rfl
  | true =>
    obtain ⟨ns, t, c, l, e'⟩ := vLore_tup e
    exact absurd e' (h _ _ _ _)
theorem ints_of {ns : List PyData} {lo hi : Int} (h : ns.all (fun y => isFrom y lo hi) = true) : ∃ js : List Int, ns = js.map PyData.int := by
  induction ns with
  | nil => exact ⟨[], rfl⟩
  | cons y ys ih =>
    simp only [List.all_cons, Bool.and_eq_true] at h
    obtain ⟨a, rfl, _⟩ := isFrom_true h.1
    obtain ⟨js, rfl⟩ := ih h.2
    exact ⟨a :: js, rfl⟩
abbrev encII (p : Int × Int) : PyData := .tuple [.int p.1, .int p.2]
theorem zip_ints (a b : List Int) : ((a.map PyData.int).zip (b.map PyData.int)).map encPr = (a.zip b).map encII := by
  induction a generalizing b with
  | nil => rfl
  | cons x xs ih => cases b with
    | nil => rfl
    | cons y ys => simp [ih, encPr, encII]
theorem rising_zip (js : List Int) : (js.zip (js.drop 1)).all (fun p => decide (p.1 < p.2)) = rising (js.map PyData.int) := by
  induction js with
  | nil => rfl
  | cons a xs ih => cases xs with
    | nil => rfl
    | cons b ys => simp only [List.drop_succ_cons, List.drop_zero, List.zip_cons_cons, List.all_cons, List.map_cons, rising]; rw [← List.map_cons, ← ih]; rfl
theorem is_lore_ok (n : Nat) (x : PyData) (k : Int) (hk : k ≤ 3) : den_is_lore n [x, .int k] = some (.d (.bool (vLore k x))) := by
  (refine den0i (r0 := [_, _, _, _, _, _, _, _]) rfl ?_; unfold m_is_lore; try dsimp only)
  (repeat' first|with_reducible refine yW (is_from_ok _ _ _ _) ?_|with_reducible refine yW (is_tuple_ok _ _ _ _) ?_|infer_instance|fail)
  refine wp_ite (fun h => ?_) (fun h => ?_)
  · (repeat' first|with_reducible refine yW (is_from_ok _ _ _ _) ?_|with_reducible refine yW (is_tuple_ok _ _ _ _) ?_|infer_instance|fail)
    rw [vLore_false]
    rintro ns t c l rfl
    simp [isTup] at h
  · simp only [Bool.not_eq_false'] at h
    obtain ⟨xs, rfl, h1, h2⟩ := isTup_true h
    obtain ⟨a, b, c, d, rfl⟩ := len4 (xs := xs) (by omega)
    (repeat' first|with_reducible refine yW (is_from_ok _ _ _ _) ?_|with_reducible refine yW (is_tuple_ok _ _ _ _) ?_|infer_instance|fail)
    refine wp_ite (fun h => ?_) (fun h => ?_)
    · (repeat' first|with_reducible refine yW (is_from_ok _ _ _ _) ?_|with_reducible refine yW (is_tuple_ok _ _ _ _) ?_|infer_instance|fail)
      cases a with
      | tuple ns =>
        simp only [isTup, Bool.not_eq_true', Bool.and_eq_false_iff, decide_eq_false_iff_not] at h
        simp only [vLore]
        rw [decide_eq_false (by omega : ¬ ((ns.length : Int) ≤ k))]
        rfl
      | _ => rfl
    · simp only [Bool.not_eq_false'] at h
      obtain ⟨ns, rfl, h1, h2⟩ := isTup_true h
      (repeat' first|with_reducible refine yW (is_from_ok _ _ _ _) ?_|with_reducible refine yW (is_tuple_ok _ _ _ _) ?_|infer_instance|fail)
      refine stp_boolD _ (fun y => isFrom y 0 (k - 1)) (fun y _ => ?_) ⟨?_, ?_⟩
      · refine stp_out (stp_cT (by (repeat' first|(with_reducible first|apply za|apply zb|apply zc|apply zd|apply ze|apply zf|apply zg|apply zh|apply zi|apply zj|apply zk)|((with_reducible apply yV);rfl)|with_reducible rfl)) ?_)
        (repeat' first|with_reducible refine yW (is_from_ok _ _ _ _) ?_|with_reducible refine yW (is_tuple_ok _ _ _ _) ?_|infer_instance|fail)
        exact ⟨rfl, rfl⟩
      · simp; omega
      skip
      (repeat' first|with_reducible refine yW (is_from_ok _ _ _ _) ?_|with_reducible refine yW (is_tuple_ok _ _ _ _) ?_|infer_instance|fail)
      have e1 : (List.map (fun y => isFrom y 0 (k - 1)) ns).all id = ns.all (fun y => isFrom y 0 (k - 1)) := by simp [List.all_map]
      rw [e1]
      refine wp_ite (fun h => ?_) (fun h => ?_)
      · (repeat' first|infer_instance|fail)
        simp only [Bool.not_eq_true'] at h
        simp only [vLore, h, Bool.and_false, Bool.false_and]
      · simp only [Bool.not_eq_false'] at h
        obtain ⟨js, rfl⟩ := ints_of h
        (repeat' first|infer_instance|fail)
        rw [← List.map_drop, zip_ints]
        refine stp_bool encII _ (fun p => decide (p.1 < p.2)) (fun p _ => ?_) ⟨?_, ?_⟩
        · refine stp_out (stp_cT (by (repeat' first|(with_reducible first|apply za|apply zb|apply zc|apply zd|apply ze|apply zf|apply zg|apply zh|apply zi|apply zj|apply zk)|((with_reducible apply yV);rfl)|with_reducible rfl)) ?_)
          (repeat' first|infer_instance|fail)
          exact ⟨rfl, rfl⟩
        · simp at h2 ⊢; omega
        skip
        (repeat' first|infer_instance|fail)
        have e2 : (List.map (fun p : Int × Int => decide (p.1 < p.2)) (js.zip (js.drop 1))).all id = rising (js.map PyData.int) := by rw [← rising_zip]; simp [List.all_map, Function.comp_def]
        rw [e2]
        have hv : decide (((js.map PyData.int).length : Int) ≤ k) = true := decide_eq_true h2
        have h0 := h
        refine wp_ite (fun h => ?_) (fun h => ?_)
        · (repeat' first|infer_instance|fail)
          simp only [Bool.not_eq_true'] at h
          simp only [vLore, h, hv, h0, Bool.and_false, Bool.false_and, Bool.true_and]
        · simp only [Bool.not_eq_false'] at h
          have hr := h
          (repeat' first|with_reducible refine yW (is_from_ok _ _ _ _) ?_|with_reducible refine yW (is_tuple_ok _ _ _ _) ?_|infer_instance|fail)
          refine wp_ite (fun h3 => ?_) (fun h3 => ?_)
          · obtain ⟨c', rfl, _⟩ := isFrom_true h3
            (repeat' first|with_reducible refine yW (is_from_ok _ _ _ _) ?_|with_reducible refine yW (is_tuple_ok _ _ _ _) ?_|infer_instance|fail)
            refine wp_ite (fun h4 => ?_) (fun h4 => ?_)
            · (repeat' first|with_reducible refine yW (is_from_ok _ _ _ _) ?_|with_reducible refine yW (is_tuple_ok _ _ _ _) ?_|infer_instance|fail)
              simp only [vLore, hr, hv, h0, h3, h4, Bool.and_false, Bool.false_and, Bool.true_and]
            · (repeat' first|with_reducible refine yW (is_from_ok _ _ _ _) ?_|with_reducible refine yW (is_tuple_ok _ _ _ _) ?_|infer_instance|fail)
              simp only [vLore, hr, hv, h0, h3, h4, Bool.and_false, Bool.false_and, Bool.true_and]
          · (repeat' first|with_reducible refine yW (is_from_ok _ _ _ _) ?_|with_reducible refine yW (is_tuple_ok _ _ _ _) ?_|infer_instance|fail)
            cases c with
            | int c' => simp only [vLore, h3, Bool.and_false, Bool.false_and]
            | _ => simp only [vLore, Bool.and_false]

theorem enumD_raw (xs : List PyData) : enumD 0 xs = (xs.zipIdx).map (encIx fun x => x) := by
  have := enumD_eq (fun x => x) xs 0
  simpa using this
def vHall (x : PyData) : Bool := match x with
  | .tuple [f, .tuple ts] => isFrom f 2 4 && isTup (.tuple ts) 1 3 && ts.zipIdx.all (fun p => vLore p.2 p.1)
  | _ => false
theorem vHall_tup {x : PyData} (h : vHall x = true) : ∃ f ts, x = .tuple [f, .tuple ts] := by
  unfold vHall at h
  split at h
  · exact ⟨_, _, rfl⟩
  · cases h
theorem is_hall_ok (n : Nat) (x : PyData) : den_is_hall n [x] = some (.d (.bool (vHall x))) := by
  (refine den0i (r0 := [_, _, _]) rfl ?_; unfold m_is_hall; try dsimp only)
  (repeat' first|with_reducible refine yW (is_from_ok _ _ _ _) ?_|with_reducible refine yW (is_tuple_ok _ _ _ _) ?_|infer_instance|fail)
  refine wp_ite (fun h => ?_) (fun h => ?_)
  · (repeat' first|infer_instance|fail)
    cases e : vHall x with
    | false => rfl
    | true =>
      obtain ⟨f, ts, rfl⟩ := vHall_tup e
      simp [isTup] at h
  · simp only [Bool.not_eq_false'] at h
    obtain ⟨xs, rfl, h1, h2⟩ := isTup_true h
    obtain ⟨a, b, rfl⟩ := len2 (xs := xs) (by omega)
    (repeat' first|with_reducible refine yW (is_from_ok _ _ _ _) ?_|with_reducible refine yW (is_tuple_ok _ _ _ _) ?_|infer_instance|fail)
    refine wp_ite (fun h => ?_) (fun h => ?_)
    · (repeat' first|infer_instance|fail)
      simp only [Bool.not_eq_true'] at h
      have hf := h
      cases b with
      | tuple ts => simp only [vHall, hf, Bool.false_and]
      | _ => rfl
    · simp only [Bool.not_eq_false'] at h
      have hf := h
      (repeat' first|with_reducible refine yW (is_from_ok _ _ _ _) ?_|with_reducible refine yW (is_tuple_ok _ _ _ _) ?_|infer_instance|fail)
      refine wp_ite (fun h => ?_) (fun h => ?_)
      · (repeat' first|infer_instance|fail)
        simp only [Bool.not_eq_true'] at h
        have ht := h
        cases b with
        | tuple ts => simp only [vHall, ht, Bool.false_and, Bool.and_false]
        | _ => rfl
      · simp only [Bool.not_eq_false'] at h
        have ht := h
        obtain ⟨ts, rfl, h1, h2⟩ := isTup_true h
        (repeat' first|infer_instance|fail)
        rw [enumD_raw]
        refine stp_bool _ _ (fun p => vLore p.2 p.1) (fun p hp => ?_) ⟨?_, ?_⟩
        · refine stp_out (stp_cT (by (repeat' first|(with_reducible first|apply za|apply zb|apply zc|apply zd|apply ze|apply zf|apply zg|apply zh|apply zi|apply zj|apply zk)|((with_reducible apply yV);rfl)|with_reducible rfl)) ?_)
          have hk : (p.2 : Int) ≤ 3 := by
            have := List.mem_zipIdx hp
            omega
          (repeat' first|with_reducible refine yW (is_lore_ok _ _ _ hk) ?_|infer_instance|fail)
          exact ⟨rfl, rfl⟩
        · simp; omega
        skip
        (repeat' first|infer_instance|fail)
        have e2 : (List.map (fun p : PyData × Nat => vLore p.2 p.1) ts.zipIdx).all id = ts.zipIdx.all (fun p => vLore p.2 p.1) := by simp [List.all_map, Function.comp_def]
        rw [e2]
        simp only [vHall, hf, ht, Bool.true_and]
end G65
namespace G65
open PySem PySem.Spec PyProof.Rows L2
local macro_rules
  | `(tactic| infer_instance) => `(tactic| first|(with_reducible first|apply za|apply zb|apply zc|apply zd|apply ze|apply zf|apply zg|apply zh|apply zi|apply zj|apply zk|apply zl|apply zm|apply zn|apply zo|apply zp|apply zq|apply zr|apply zs|apply zt|apply zu|apply zv|apply zw|apply zx|apply zy|apply zz|apply z0|apply z1|apply z2|apply z3|apply z4|apply z5|apply z6|apply z7|apply z8|apply z9|apply zA|apply zB|apply zC|apply zD|apply zE|apply zF|apply zG|apply zH|apply zI|apply zJ|apply zK|apply zL|apply zM|apply zN|apply zO|apply zP|apply zQ|apply zR|apply zS|apply zT|apply zU|apply zV|apply zW|apply zX|apply zY|apply zZ|apply ya|apply yb|apply yc|apply yd|apply ye|apply yf|apply yg|apply yh|apply yi|apply yj|apply yk|apply yl|apply ym|apply yn|apply yo|apply yp|apply yq|apply yr|apply ys|apply yt|apply yu|apply yv|apply yw|apply yx|apply yy|apply yz|apply y0|apply y1|apply y2|apply y3)|((with_reducible apply y4);(·(with_reducible repeat' first|apply zg|apply zh)))|((with_reducible apply y5);(·(with_reducible repeat' first|apply zg|apply zh)))|((with_reducible apply y6);(·(with_reducible repeat' first|apply zg|apply zh)))|((with_reducible apply y7);(·(with_reducible repeat' first|apply zg|apply zh)))|((with_reducible apply y8);(·(with_reducible repeat' first|apply zg|apply zh)))|((with_reducible apply y9);(·(with_reducible repeat' first|apply zg|apply zh)))|((with_reducible apply yA);(·(with_reducible repeat' first|apply zg|apply zh)))|((with_reducible apply yC);(·(with_reducible repeat' first|apply zg|apply zh)))|((with_reducible apply yD);(·(with_reducible repeat' first|apply zg|apply zh)))|((with_reducible apply yE);(·(with_reducible repeat' first|apply zg|apply zh)))|((with_reducible apply yF);(·(with_reducible repeat' first|apply zg|apply zh)))|((with_reducible apply yG);(·(with_reducible repeat' first|apply zg|apply zh)))|((with_reducible apply yB);(·(with_reducible repeat' first|apply zg|apply zh));(·rfl))|((with_reducible apply yH);rfl)|((with_reducible apply yI);rfl)|((with_reducible apply yV);rfl)|((with_reducible apply yJ))|((with_reducible apply yK))|((with_reducible apply yL);exact Nat.le_of_ble_eq_true rfl)|((with_reducible apply yM);assumption)|((with_reducible apply yN);assumption)|((with_reducible apply yO);(·omega))|((with_reducible apply yP);(·omega))|((with_reducible apply yQ);(·omega))|((with_reducible apply yR);(·omega))|((with_reducible apply yS);(·omega))|((with_reducible apply yT);rfl)|((with_reducible apply yU);rfl))
structure Lore where
  needs : List Nat
  teach : Int
  cap : Int
  loss : Int
structure Hall where
  folk : Nat
  things : List Lore
abbrev Stand := List (List Int)
structure Meet where
  a : Nat
  b : Nat
  t : Nat
deriving DecidableEq
abbrev encLore (l : Lore) : PyData := .tuple [.tuple (l.needs.map encN), .int l.teach, .int l.cap, .int l.loss]
abbrev encH (h : Hall) : PyData := .tuple [.int h.folk, .tuple (h.things.map encLore)]
abbrev encRow (r : List Int) : PyData := .tuple (r.map PyData.int)
abbrev encS (s : Stand) : PyData := .tuple (s.map encRow)
abbrev encM (m : Meet) : PyData := .tuple [.int m.a, .int m.b, .int m.t]
structure LOk (k : Nat) (l : Lore) : Prop where
  pw : l.needs.Pairwise (· < ·)
  lt : ∀ x ∈ l.needs, x < k
  t1 : 1 ≤ l.teach
  tc : l.teach ≤ l.cap
  c3 : l.cap ≤ 3
  l0 : 0 ≤ l.loss
  lc : l.loss ≤ l.cap
structure HOk (h : Hall) : Prop where
  f2 : 2 ≤ h.folk
  f4 : h.folk ≤ 4
  n1 : 1 ≤ h.things.length
  n3 : h.things.length ≤ 3
  lo : ∀ k l, h.things[k]? = some l → LOk k l
structure SOk (h : Hall) (s : Stand) : Prop where
  len : s.length = h.folk
  row : ∀ r ∈ s, r.length = h.things.length
  bd : ∀ r ∈ s, ∀ (k : Nat) (v : Int) (l : Lore), r[k]? = some v → h.things[k]? = some l → 0 ≤ v ∧ v ≤ l.cap
structure MOk (h : Hall) (m : Meet) : Prop where
  a : m.a < h.folk
  b : m.b < h.folk
  ne : m.a ≠ m.b
  t : m.t < h.things.length
theorem asc_len {k : Nat} : ∀ {xs : List Nat} {j : Nat}, xs.Pairwise (· < ·) → (∀ x ∈ xs, j ≤ x ∧ x < k) → xs.length ≤ k - j
  | [], _, _, _ => by simp
  | x :: xs, j, hp, hx => by
    have h1 := hx x (by simp)
    rw [List.pairwise_cons] at hp
    have := asc_len (k := k) (xs := xs) (j := x + 1) hp.2 fun y hy => ⟨hp.1 y hy, (hx y (by simp [hy])).2⟩
    simp only [List.length_cons]
    omega
theorem rising_asc : ∀ {xs : List Nat}, xs.Pairwise (· < ·) → rising (xs.map encN) = true
  | [], _ => rfl
  | [x], _ => rfl
  | x :: y :: xs, hp => by
    rw [List.pairwise_cons] at hp
    have h1 := hp.1 y (by simp)
    have h2 := rising_asc hp.2
    simp only [List.map_cons, encN, rising] at h2 ⊢
    rw [h2, decide_eq_true (by omega : (x : Int) < (y : Int))]
    rfl
theorem vLore_enc {k : Nat} {l : Lore} (h : LOk k l) : vLore k (encLore l) = true := by
  have h1 := asc_len (k := k) (j := 0) h.pw fun x hx => ⟨Nat.zero_le _, h.lt x hx⟩
  have h2 := rising_asc h.pw
  have h3 : (l.needs.map encN).all (fun y => isFrom y 0 ((k : Int) - 1)) = true := by
    rw [List.all_map, List.all_eq_true]
    intro x hx
    have := h.lt x hx
    simp only [Function.comp, encN, isFrom, Bool.and_eq_true, decide_eq_true_eq]
    omega
  have := h.t1; have := h.tc; have := h.c3; have := h.l0; have := h.lc
  show (decide (((l.needs.map encN).length : Int) ≤ (k : Int)) && (l.needs.map encN).all (fun y => isFrom y 0 ((k : Int) - 1)) && rising (l.needs.map encN) && ((decide (1 ≤ l.cap) && decide (l.cap ≤ 3)) && (decide (1 ≤ l.teach) && decide (l.teach ≤ l.cap)) && (decide (0 ≤ l.loss) && decide (l.loss ≤ l.cap)))) = true
  rw [h2, h3]
  simp only [List.length_map, Bool.and_eq_true, decide_eq_true_eq, and_true, true_and]
  omega
theorem vHall_enc {h : Hall} (H : HOk h) : vHall (encH h) = true := by
  have := H.f2; have := H.f4; have := H.n1; have := H.n3
  simp only [encH, vHall, isFrom, isTup, List.length_map, Bool.and_eq_true, decide_eq_true_eq]
  refine ⟨⟨⟨by omega, by omega⟩, by omega, by omega⟩, ?_⟩
  rw [List.all_eq_true]
  rintro ⟨x, k⟩ hp
  have h1 := List.mem_zipIdx_iff_getElem?.1 hp
  simp only [List.getElem?_map] at h1
  cases e : h.things[k]? with
  | none => rw [e] at h1; cases h1
  | some l =>
    rw [e] at h1
    cases h1
    exact vLore_enc (H.lo k l e)
theorem need_hall_ok {n : Nat} {h : Hall} (H : HOk h) : den_need_hall n [encH h] = some (.d .none) := by
  (refine den0iN (r0 := [_]) rfl ?_; unfold m_need_hall; try dsimp only)
  have e := vHall_enc H
  (repeat' first|with_reducible refine yW ((is_hall_ok _ _).trans (by rw [e])) ?_|infer_instance|fail)
  rfl
def vRow (h : Hall) (y : PyData) : Bool := match y with
  | .tuple ls => isTup (.tuple ls) h.things.length h.things.length && (ls.zip h.things).all (fun p => isFrom p.1 0 p.2.cap)
  | _ => false
def vStand (h : Hall) (x : PyData) : Bool := match x with
  | .tuple rows => isTup (.tuple rows) h.folk h.folk && rows.all (vRow h)
  | _ => false
abbrev encDL (p : PyData × Lore) : PyData := .tuple [p.1, encLore p.2]
theorem zip_dl (a : List PyData) (b : List Lore) : (a.zip (b.map encLore)).map encPr = (a.zip b).map encDL := by
  induction a generalizing b with
  | nil => rfl
  | cons x xs ih => cases b with
    | nil => rfl
    | cons y ys => simp [ih, encPr, encDL]
theorem is_standing_ok {n : Nat} {h : Hall} (H : HOk h) (x : PyData) : den_is_standing n [encH h, x] = some (.d (.bool (vStand h x))) := by
  (refine den0i (r0 := [_, _, _, _, _, _, _]) rfl ?_; unfold m_is_standing; try dsimp only)
  (repeat' first|with_reducible refine yW (is_from_ok _ _ _ _) ?_|with_reducible refine yW (is_tuple_ok _ _ _ _) ?_|infer_instance|fail)
  refine wp_ite (fun e => ?_) (fun e => ?_)
  · (repeat' first|infer_instance|fail)
    simp only [Bool.not_eq_true'] at e
    cases x with
    | tuple rows => simp only [vStand, e, Bool.false_and]
    | _ => rfl
  · simp only [Bool.not_eq_false'] at e
    have e0 := e
    obtain ⟨rows, rfl, _⟩ := isTup_true e
    (repeat' first|infer_instance|fail)
    refine wp_for (fun ds r => (∃ o, r = [some (.d (encH h)), some (.d (.tuple rows)), some (.d (.int h.folk)), some (.d (.tuple (h.things.map encLore))), o, none, none]) ∧ rows.all (vRow h) = ds.all (vRow h)) ⟨⟨_, rfl⟩, rfl⟩ ?_ ?_
    · rintro y ys r ⟨⟨o, rfl⟩, hy⟩
      have n3 := H.n3
      (repeat' first|with_reducible refine yW (is_from_ok _ _ _ _) ?_|with_reducible refine yW (is_tuple_ok _ _ _ _) ?_|infer_instance|fail)
      refine wp_ite (fun e => ?_) (fun e => ?_)
      · (repeat' first|infer_instance|fail)
        simp only [Bool.not_eq_true', List.length_map] at e
        show Out.ret _ = Out.ret _
        have : vRow h y = false := by
          cases y with
          | tuple ls => simp only [vRow, e, Bool.false_and]
          | _ => rfl
        simp only [vStand, e0, hy, List.all_cons, this, Bool.false_and, Bool.and_false]
      · simp only [Bool.not_eq_false', List.length_map] at e
        have e1 := e
        obtain ⟨ls, rfl, _⟩ := isTup_true e
        (repeat' first|infer_instance|fail)
        rw [zip_dl]
        refine stp_bool encDL _ (fun p => isFrom p.1 0 p.2.cap) (fun p _ => ?_) ⟨?_, ?_⟩
        · refine stp_out (stp_cT (by (repeat' first|(with_reducible first|apply za|apply zb|apply zc|apply zd|apply ze|apply zf|apply zg|apply zh|apply zi|apply zj|apply zk)|((with_reducible apply yV);rfl)|with_reducible rfl)) ?_)
          (repeat' first|with_reducible refine yW (is_from_ok _ _ _ _) ?_|with_reducible refine yW (is_tuple_ok _ _ _ _) ?_|infer_instance|fail)
          exact ⟨rfl, rfl⟩
        · simp; omega
        skip
        (repeat' first|infer_instance|fail)
        have e2 : (List.map (fun p : PyData × Lore => isFrom p.1 0 p.2.cap) (ls.zip h.things)).all id = (ls.zip h.things).all (fun p => isFrom p.1 0 p.2.cap) := by simp [List.all_map, Function.comp_def]
        rw [e2]
        have e3 : vRow h (.tuple ls) = (ls.zip h.things).all (fun p => isFrom p.1 0 p.2.cap) := by simp only [vRow, e1, Bool.true_and]
        refine wp_ite (fun e => ?_) (fun e => ?_)
        · (repeat' first|infer_instance|fail)
          simp only [Bool.not_eq_true'] at e
          show Out.ret _ = Out.ret _
          simp only [vStand, e0, hy, List.all_cons, e3, e, Bool.false_and, Bool.and_false]
        · (repeat' first|infer_instance|fail)
          simp only [Bool.not_eq_false'] at e
          refine ⟨⟨_, rfl⟩, ?_⟩
          rw [hy, List.all_cons, e3, e, Bool.true_and]
    · rintro r ⟨⟨o, rfl⟩, hy⟩
      (repeat' first|infer_instance|fail)
      simp only [vStand, e0, hy, List.all_nil, Bool.and_true]
theorem zip_get {γ δ : Type} {xs : List γ} {ys : List δ} {p : γ × δ} (h : p ∈ xs.zip ys) : ∃ k : Nat, xs[k]? = some p.1 ∧ ys[k]? = some p.2 := by
  obtain ⟨k, hk, e⟩ := List.mem_iff_getElem.1 h
  simp only [List.length_zip] at hk
  refine ⟨k, ?_, ?_⟩
  · rw [List.getElem?_eq_getElem (by omega), ← e]; simp
  · rw [List.getElem?_eq_getElem (by omega), ← e]; simp
theorem vStand_enc {h : Hall} {s : Stand} (S : SOk h s) : vStand h (encS s) = true := by
  simp only [encS, vStand, isTup, List.length_map, S.len, Bool.and_eq_true, decide_eq_true_eq]
  refine ⟨⟨by omega, by omega⟩, ?_⟩
  rw [List.all_map, List.all_eq_true]
  intro r hr
  simp only [Function.comp, encRow, vRow, isTup, List.length_map, S.row r hr, Bool.and_eq_true, decide_eq_true_eq]
  refine ⟨⟨by omega, by omega⟩, ?_⟩
  rw [List.all_eq_true]
  rintro ⟨p1, p2⟩ hp
  obtain ⟨k, h1, h2⟩ := zip_get hp
  rw [List.getElem?_map] at h1
  cases e : r[k]? with
  | none => rw [e] at h1; cases h1
  | some v =>
    rw [e] at h1
    cases h1
    have := S.bd r hr k v p2 e h2
    simp only [isFrom, Bool.and_eq_true, decide_eq_true_eq]
    exact this
theorem need_stand_ok {n : Nat} {h : Hall} (H : HOk h) {s : Stand} (S : SOk h s) : den_need_stand n [encH h, encS s] = some (.d .none) := by
  (refine den0iN (r0 := [_, _]) rfl ?_; unfold m_need_stand; try dsimp only)
  have e := vStand_enc S
  (repeat' first|with_reducible refine yW ((is_standing_ok H _).trans (by rw [e])) ?_|infer_instance|fail)
  rfl
end G65
namespace G65
open PySem PySem.Spec PyProof.Rows L2
local macro_rules
  | `(tactic| infer_instance) => `(tactic| first|(with_reducible first|apply za|apply zb|apply zc|apply zd|apply ze|apply zf|apply zg|apply zh|apply zi|apply zj|apply zk|apply zl|apply zm|apply zn|apply zo|apply zp|apply zq|apply zr|apply zs|apply zt|apply zu|apply zv|apply zw|apply zx|apply zy|apply zz|apply z0|apply z1|apply z2|apply z3|apply z4|apply z5|apply z6|apply z7|apply z8|apply z9|apply zA|apply zB|apply zC|apply zD|apply zE|apply zF|apply zG|apply zH|apply zI|apply zJ|apply zK|apply zL|apply zM|apply zN|apply zO|apply zP|apply zQ|apply zR|apply zS|apply zT|apply zU|apply zV|apply zW|apply zX|apply zY|apply zZ|apply ya|apply yb|apply yc|apply yd|apply ye|apply yf|apply yg|apply yh|apply yi|apply yj|apply yk|apply yl|apply ym|apply yn|apply yo|apply yp|apply yq|apply yr|apply ys|apply yt|apply yu|apply yv|apply yw|apply yx|apply yy|apply yz|apply y0|apply y1|apply y2|apply y3)|((with_reducible apply y4);(·(with_reducible repeat' first|apply zg|apply zh)))|((with_reducible apply y5);(·(with_reducible repeat' first|apply zg|apply zh)))|((with_reducible apply y6);(·(with_reducible repeat' first|apply zg|apply zh)))|((with_reducible apply y7);(·(with_reducible repeat' first|apply zg|apply zh)))|((with_reducible apply y8);(·(with_reducible repeat' first|apply zg|apply zh)))|((with_reducible apply y9);(·(with_reducible repeat' first|apply zg|apply zh)))|((with_reducible apply yA);(·(with_reducible repeat' first|apply zg|apply zh)))|((with_reducible apply yC);(·(with_reducible repeat' first|apply zg|apply zh)))|((with_reducible apply yD);(·(with_reducible repeat' first|apply zg|apply zh)))|((with_reducible apply yE);(·(with_reducible repeat' first|apply zg|apply zh)))|((with_reducible apply yF);(·(with_reducible repeat' first|apply zg|apply zh)))|((with_reducible apply yG);(·(with_reducible repeat' first|apply zg|apply zh)))|((with_reducible apply yB);(·(with_reducible repeat' first|apply zg|apply zh));(·rfl))|((with_reducible apply yH);rfl)|((with_reducible apply yI);rfl)|((with_reducible apply yV);rfl)|((with_reducible apply yJ))|((with_reducible apply yK))|((with_reducible apply yL);exact Nat.le_of_ble_eq_true rfl)|((with_reducible apply yM);assumption)|((with_reducible apply yN);assumption)|((with_reducible apply yO);(·omega))|((with_reducible apply yP);(·omega))|((with_reducible apply yQ);(·omega))|((with_reducible apply yR);(·omega))|((with_reducible apply yS);(·omega))|((with_reducible apply yT);rfl)|((with_reducible apply yU);rfl))
theorem shp_row (r : List Int) : Shp 2 (encRow r) := shp_tupM fun _ => shp_int
theorem shp_S (s : Stand) : Shp 3 (encS s) := shp_tupM shp_row
theorem shp_M (m : Meet) : Shp 2 (encM m) := shp_tup (by
  intro x hx
  simp only [List.mem_cons, List.not_mem_nil, or_false] at hx
  rcases hx with rfl | rfl | rfl <;> exact shp_int)
theorem eqv_row (a b : List Int) : PyData.eqv (encRow a) (encRow b) = decide (a = b) := by
  simp only [encRow, PyData.eqv]
  exact eqvAll_map eqv_int a b
theorem eqv_S (a b : Stand) : PyData.eqv (encS a) (encS b) = decide (a = b) := by
  simp only [encS, PyData.eqv]
  exact eqvAll_map eqv_row a b
def vMeet (h : Hall) (x : PyData) : Bool := match x with
  | .tuple [a, b, c] => isFrom c 0 ((h.things.length : Int) - 1) && isFrom a 0 ((h.folk : Int) - 1) && isFrom b 0 ((h.folk : Int) - 1) && !PyData.eqv a b
  | _ => false
theorem vMeet_tup {h : Hall} {x : PyData} (e : vMeet h x = true) : ∃ a b c, x = .tuple [a, b, c] := by
  unfold vMeet at e
  split at e
  · exact ⟨_, _, _, rfl⟩
  · cases e
theorem is_meeting_ok {n : Nat} {h : Hall} (x : PyData) : den_is_meeting n [encH h, x] = some (.d (.bool (vMeet h x))) := by
  (refine den0i (r0 := [_, _]) rfl ?_; unfold m_is_meeting; try dsimp only)
  (repeat' first|with_reducible refine yW (is_tuple_ok _ _ _ _) ?_|infer_instance|fail)
  refine wp_ite (fun e => ?_) (fun e => ?_)
  · (repeat' first|infer_instance|fail)
    cases e1 : vMeet h x with
    | false => rfl
    | true =>
      obtain ⟨a, b, c, rfl⟩ := vMeet_tup e1
      simp [isTup] at e
  · simp only [Bool.not_eq_false'] at e
    obtain ⟨xs, rfl, h1, h2⟩ := isTup_true e
    obtain ⟨a, b, c, rfl⟩ := len3 (xs := xs) (by omega)
    (repeat' first|with_reducible refine yW (is_from_ok _ _ _ _) ?_|with_reducible refine yW (is_tuple_ok _ _ _ _) ?_|infer_instance|fail)
    rw [List.length_map]
    refine wp_ite (fun e => ?_) (fun e => ?_)
    · (repeat' first|infer_instance|fail)
      simp only [Bool.not_eq_true'] at e
      simp only [vMeet, e, Bool.false_and]
    · simp only [Bool.not_eq_false'] at e
      have hc := e
      (repeat' first|with_reducible refine yW (is_from_ok _ _ _ _) ?_|with_reducible refine yW (is_tuple_ok _ _ _ _) ?_|infer_instance|fail)
      refine wp_ite (fun e1 => ?_) (fun e1 => ?_)
      · (repeat' first|with_reducible refine yW (is_from_ok _ _ _ _) ?_|with_reducible refine yW (is_tuple_ok _ _ _ _) ?_|infer_instance|fail)
        refine wp_ite (fun e2 => ?_) (fun e2 => ?_)
        · obtain ⟨a', rfl, _⟩ := isFrom_true e1
          obtain ⟨b', rfl, _⟩ := isFrom_true e2
          (repeat' first|infer_instance|fail)
          simp only [vMeet, hc, e1, e2, Bool.true_and, eqv_int]
        · (repeat' first|infer_instance|fail)
          simp only [vMeet, e2, Bool.false_and, Bool.and_false]
      · (repeat' first|infer_instance|fail)
        simp only [vMeet, e1, Bool.false_and, Bool.and_false]
theorem vMeet_enc {h : Hall} {m : Meet} (M : MOk h m) : vMeet h (encM m) = true := by
  have := M.a; have := M.b; have := M.ne; have := M.t
  simp only [encM, vMeet, isFrom, eqv_int, Bool.and_eq_true, decide_eq_true_eq, Bool.not_eq_true', decide_eq_false_iff_not]
  omega
end G65
namespace G65
open PySem PySem.Spec PyProof.Rows L2
def lev (s : Stand) (i j : Nat) : Int := (s.getD i []).getD j 0
variable {h : Hall} {s t u : Stand} {m : Meet}
theorem get_some {γ : Type} {xs : List γ} {k : Nat} (hk : k < xs.length) : ∃ x, xs[k]? = some x := ⟨xs[k], List.getElem?_eq_getElem hk⟩
theorem some_lt {γ : Type} {xs : List γ} {k : Nat} {x : γ} (e : xs[k]? = some x) : k < xs.length := by
  rcases Nat.lt_or_ge k xs.length with h | h
  · exact h
  · rw [List.getElem?_eq_none h] at e; cases e
theorem some_mem {γ : Type} {xs : List γ} {k : Nat} {x : γ} (e : xs[k]? = some x) : x ∈ xs := List.mem_of_getElem? e
theorem lev_of {i j : Nat} {r : List Int} {v : Int} (h1 : s[i]? = some r) (h2 : r[j]? = some v) : lev s i j = v := by
  simp only [lev, List.getD, h1, Option.getD_some, h2]
theorem SOk.get (S : SOk h s) {i j : Nat} (hi : i < h.folk) (hj : j < h.things.length) : ∃ r, s[i]? = some r ∧ r.length = h.things.length ∧ r[j]? = some (lev s i j) := by
  obtain ⟨r, hr⟩ := get_some (xs := s) (k := i) (by rw [S.len]; exact hi)
  have hl := S.row r (some_mem hr)
  obtain ⟨v, hv⟩ := get_some (xs := r) (k := j) (by rw [hl]; exact hj)
  exact ⟨r, hr, hl, by rw [lev_of hr hv, hv]⟩
theorem SOk.rng (S : SOk h s) {i j : Nat} {l : Lore} (hi : i < h.folk) (hj : h.things[j]? = some l) : 0 ≤ lev s i j ∧ lev s i j ≤ l.cap := by
  obtain ⟨r, h1, h2, h3⟩ := S.get hi (some_lt hj)
  exact S.bd r (some_mem h1) j _ l h3 hj
theorem SOk.ext (S : SOk h s) (T : SOk h t) (e : ∀ i j, i < h.folk → j < h.things.length → lev s i j = lev t i j) : s = t := by
  apply List.ext_getElem?
  intro i
  rcases Nat.lt_or_ge i h.folk with hi | hi
  · obtain ⟨r, hr⟩ := get_some (xs := s) (k := i) (by rw [S.len]; exact hi)
    obtain ⟨q, hq⟩ := get_some (xs := t) (k := i) (by rw [T.len]; exact hi)
    rw [hr, hq]
    congr 1
    apply List.ext_getElem?
    intro j
    rcases Nat.lt_or_ge j h.things.length with hj | hj
    · obtain ⟨r', h1, _, h3⟩ := S.get hi hj
      obtain ⟨q', h4, _, h6⟩ := T.get hi hj
      rw [hr] at h1; cases h1
      rw [hq] at h4; cases h4
      rw [h3, h6, e i j hi hj]
    · rw [List.getElem?_eq_none (by rw [S.row r (some_mem hr)]; exact hj), List.getElem?_eq_none (by rw [T.row q (some_mem hq)]; exact hj)]
  · rw [List.getElem?_eq_none (by rw [S.len]; exact hi), List.getElem?_eq_none (by rw [T.len]; exact hi)]
def lessonB (h : Hall) (s : Stand) (m : Meet) : Bool := match h.things[m.t]? with
  | some l => decide (l.teach ≤ lev s m.a m.t) && l.needs.all (fun k => decide (0 < lev s m.b k))
  | none => false
def setL (s : Stand) (i j : Nat) (v : Int) : Stand := s.set i ((s.getD i []).set j v)
theorem lev_setL {i j : Nat} {v : Int} (hi : i < s.length) (hj : j < (s.getD i []).length) (i' j' : Nat) : lev (setL s i j v) i' j' = if i = i' ∧ j = j' then v else lev s i' j' := by
  unfold lev setL
  simp only [List.getD_eq_getElem?_getD, List.getElem?_set]
  by_cases e : i = i'
  · subst e
    simp only [true_and, if_pos, hi, if_true, Option.getD_some]
    rw [List.getElem?_set]
    by_cases e2 : j = j'
    · subst e2
      simp only [List.getD_eq_getElem?_getD] at hj
      simp only [if_true, hj, Option.getD_some]
    · simp only [e2, if_false]
  · simp only [e, false_and, if_false]
def upl (c v : Int) : Int := if v + 1 < c then v + 1 else c
def taughtS (h : Hall) (s : Stand) (m : Meet) : Stand := match h.things[m.t]? with
  | some l => setL s m.b m.t (upl l.cap (lev s m.b m.t))
  | none => s
def meetS (h : Hall) (s : Stand) (m : Meet) : Stand := if lessonB h s m then taughtS h s m else s
theorem SOk.put (S : SOk h s) {i j : Nat} {v : Int} {l : Lore} (hj : h.things[j]? = some l) (h0 : 0 ≤ v) (h1 : v ≤ l.cap) : SOk h (setL s i j v) := by
  unfold setL
  rcases Nat.lt_or_ge i s.length with hi | hi
  · have hr : s.getD i [] ∈ s := by
      rw [List.getD_eq_getElem?_getD, List.getElem?_eq_getElem hi]
      exact List.getElem_mem hi
    refine ⟨by rw [List.length_set]; exact S.len, fun r hr' => ?_, fun r hr' k w l' hw hl' => ?_⟩
    · rcases List.mem_or_eq_of_mem_set hr' with h2 | rfl
      · exact S.row r h2
      · rw [List.length_set]; exact S.row _ hr
    · rcases List.mem_or_eq_of_mem_set hr' with h2 | rfl
      · exact S.bd r h2 k w l' hw hl'
      · rw [List.getElem?_set] at hw
        split at hw
        · split at hw
          · cases hw
            subst_vars
            rw [hj] at hl'
            cases hl'
            exact ⟨h0, h1⟩
          · cases hw
        · exact S.bd _ hr k w l' hw hl'
  · rw [List.set_eq_of_length_le hi]
    exact S
theorem MOk.lore (M : MOk h m) : ∃ l, h.things[m.t]? = some l := get_some M.t
theorem lev_taught (S : SOk h s) (M : MOk h m) {l : Lore} (hl : h.things[m.t]? = some l) (i j : Nat) : lev (taughtS h s m) i j = if m.b = i ∧ m.t = j then upl l.cap (lev s m.b m.t) else lev s i j := by
  obtain ⟨r, h1, h2, h3⟩ := S.get M.b M.t
  unfold taughtS
  simp only [hl]
  refine lev_setL (by rw [S.len]; exact M.b) ?_ i j
  rw [List.getD_eq_getElem?_getD, h1, Option.getD_some, h2]
  exact M.t
theorem taught_ok (H : HOk h) (S : SOk h s) (M : MOk h m) : SOk h (taughtS h s m) := by
  obtain ⟨l, hl⟩ := M.lore
  have L := H.lo _ _ hl
  have h1 := S.rng M.b hl
  unfold taughtS
  simp only [hl]
  have := L.t1; have := L.tc
  refine S.put hl ?_ ?_ <;> unfold upl <;> split <;> omega
theorem meet_ok (H : HOk h) (S : SOk h s) (M : MOk h m) : SOk h (meetS h s m) := by
  unfold meetS
  split
  · exact taught_ok H S M
  · exact S
def Le (s t : Stand) : Prop := ∀ i j, lev s i j ≤ lev t i j
theorem Le.refl (s : Stand) : Le s s := fun _ _ => Int.le_refl _
theorem Le.trans (h1 : Le s t) (h2 : Le t u) : Le s u := fun i j => Int.le_trans (h1 i j) (h2 i j)
theorem Le.antisymm (S : SOk h s) (T : SOk h t) (h1 : Le s t) (h2 : Le t s) : s = t := S.ext T fun i j _ _ => Int.le_antisymm (h1 i j) (h2 i j)
theorem taught_le (S : SOk h s) (M : MOk h m) : Le s (taughtS h s m) := by
  obtain ⟨l, hl⟩ := M.lore
  have h1 := S.rng M.b hl
  intro i j
  rw [lev_taught S M hl]
  split
  · rename_i e
    rw [← e.1, ← e.2]
    unfold upl
    split <;> omega
  · exact Int.le_refl _
theorem meet_le (S : SOk h s) (M : MOk h m) : Le s (meetS h s m) := by
  unfold meetS
  split
  · exact taught_le S M
  · exact Le.refl _
theorem lesson_mono (hle : Le s t) (e : lessonB h s m = true) : lessonB h t m = true := by
  unfold lessonB at e ⊢
  split at e
  · simp only [Bool.and_eq_true, decide_eq_true_eq, List.all_eq_true] at e ⊢
    exact ⟨Int.le_trans e.1 (hle _ _), fun k hk => Int.lt_of_lt_of_le (e.2 k hk) (hle _ _)⟩
  · cases e
theorem meet_mono (S : SOk h s) (T : SOk h t) (M : MOk h m) (hle : Le s t) : Le (meetS h s m) (meetS h t m) := by
  obtain ⟨l, hl⟩ := M.lore
  by_cases e : lessonB h s m = true
  · have e2 := lesson_mono hle e
    unfold meetS
    rw [if_pos e, if_pos e2]
    intro i j
    rw [lev_taught S M hl, lev_taught T M hl]
    split
    · have := hle m.b m.t
      unfold upl
      split <;> split <;> omega
    · exact hle i j
  · have : meetS h s m = s := by unfold meetS; rw [if_neg e]
    rw [this]
    exact hle.trans (meet_le T M)
/-! rows of meetings -/
def meets (h : Hall) (s : Stand) (ms : List Meet) : Stand := ms.foldl (meetS h) s
theorem meets_ok (H : HOk h) (S : SOk h s) {ms : List Meet} (M : ∀ m ∈ ms, MOk h m) : SOk h (meets h s ms) := by
  induction ms generalizing s with
  | nil => exact S
  | cons m ms ih => exact ih (meet_ok H S (M m (by simp))) fun x hx => M x (by simp [hx])
theorem meets_le (H : HOk h) (S : SOk h s) {ms : List Meet} (M : ∀ m ∈ ms, MOk h m) : Le s (meets h s ms) := by
  induction ms generalizing s with
  | nil => exact Le.refl _
  | cons m ms ih => exact (meet_le S (M m (by simp))).trans (ih (meet_ok H S (M m (by simp))) fun x hx => M x (by simp [hx]))
def Stab (h : Hall) (s : Stand) : Prop := ∀ m, MOk h m → meetS h s m = s
theorem meets_below (H : HOk h) (S : SOk h s) (T : SOk h t) (hst : Stab h t) (hle : Le s t) {ms : List Meet} (M : ∀ m ∈ ms, MOk h m) : Le (meets h s ms) t := by
  induction ms generalizing s with
  | nil => exact hle
  | cons m ms ih =>
    refine ih (meet_ok H S (M m (by simp))) ?_ fun x hx => M x (by simp [hx])
    have := meet_mono S T (M m (by simp)) hle
    rw [hst m (M m (by simp))] at this
    exact this
theorem meets_same (H : HOk h) (S : SOk h s) {ms : List Meet} (M : ∀ m ∈ ms, MOk h m) (e : meets h s ms = s) : ∀ m ∈ ms, meetS h s m = s := by
  induction ms with
  | nil => intro m hm; cases hm
  | cons m ms ih =>
    have M0 := M m (by simp)
    have h1 := meet_le S M0
    have h2 : Le (meetS h s m) (meets h s (m :: ms)) := meets_le H (meet_ok H S M0) fun x hx => M x (by simp [hx])
    rw [e] at h2
    have e1 : meetS h s m = s := (Le.antisymm S (meet_ok H S M0) h1 h2).symm
    intro x hx
    rcases List.mem_cons.1 hx with rfl | hx
    · exact e1
    · refine ih (fun x hx => M x (by simp [hx])) ?_ x hx
      have : meets h s (m :: ms) = meets h (meetS h s m) ms := rfl
      rw [this, e1] at e
      exact e
structure Last (h : Hall) (s u : Stand) : Prop where
  ok : SOk h u
  le : Le s u
  st : Stab h u
  least : ∀ t, SOk h t → Le s t → Stab h t → Le u t
theorem Last.uniq {v : Stand} (U : Last h s u) (V : Last h s v) : u = v := Le.antisymm U.ok V.ok (U.least v V.ok V.le V.st) (V.least u U.ok U.le U.st)
/-! sums -/
def tot (s : Stand) : Int := (s.map List.sum).sum
theorem sum_le : ∀ {r q : List Int}, r.length = q.length → (∀ k, r.getD k 0 ≤ q.getD k 0) → r.sum ≤ q.sum ∧ (r.sum = q.sum → r = q)
  | [], [], _, _ => ⟨Int.le_refl _, fun _ => rfl⟩
  | a :: r, b :: q, hl, hk => by
    have h0 := hk 0
    simp only [List.getD_cons_zero] at h0
    obtain ⟨h1, h2⟩ := sum_le (r := r) (q := q) (by simpa using hl) fun k => by simpa using hk (k + 1)
    simp only [List.sum_cons]
    refine ⟨by omega, fun e => ?_⟩
    rw [h2 (by omega), (by omega : a = b)]
theorem tot_le : ∀ {s t : Stand}, s.length = t.length → (∀ i, (s.getD i []).length = (t.getD i []).length) → Le s t → tot s ≤ tot t ∧ (tot s = tot t → s = t)
  | [], [], _, _, _ => ⟨Int.le_refl _, fun _ => rfl⟩
  | a :: s, b :: t, hl, hr, hk => by
    have r0 := hr 0
    have k0 : ∀ k, a.getD k 0 ≤ b.getD k 0 := fun k => hk 0 k
    simp only [List.getD_cons_zero] at r0
    obtain ⟨h1, h2⟩ := sum_le r0 k0
    obtain ⟨h3, h4⟩ := tot_le (s := s) (t := t) (by simpa using hl) (fun i => by simpa using hr (i + 1)) fun i j => by
      have := hk (i + 1) j
      simpa [lev] using this
    simp only [tot, List.map_cons, List.sum_cons] at h3 h4 ⊢
    refine ⟨by omega, fun e => ?_⟩
    rw [h2 (by omega), h4 (by omega)]
theorem SOk.rowD (S : SOk h s) {i : Nat} (hi : i < h.folk) : (s.getD i []).length = h.things.length := by
  obtain ⟨r, hr⟩ := get_some (xs := s) (k := i) (by rw [S.len]; exact hi)
  rw [List.getD_eq_getElem?_getD, hr, Option.getD_some]
  exact S.row r (some_mem hr)
theorem SOk.rowE (S : SOk h s) {i : Nat} (hi : h.folk ≤ i) : s.getD i [] = [] := by
  rw [List.getD_eq_getElem?_getD, List.getElem?_eq_none (by rw [S.len]; exact hi)]
  rfl
theorem tot_lt (S : SOk h s) (T : SOk h t) (hle : Le s t) (ne : t ≠ s) : tot s < tot t := by
  obtain ⟨h1, h2⟩ := tot_le (s := s) (t := t) (by rw [S.len, T.len]) (fun i => by
    rcases Nat.lt_or_ge i h.folk with hi | hi
    · rw [S.rowD hi, T.rowD hi]
    · rw [S.rowE hi, T.rowE hi]) hle
  have : tot s ≠ tot t := fun e => ne (h2 e).symm
  omega
theorem sum_bd : ∀ {r : List Int} {c : Nat}, (∀ v ∈ r, 0 ≤ v ∧ v ≤ (c : Int)) → 0 ≤ r.sum ∧ r.sum ≤ (c * r.length : Nat)
  | [], c, _ => ⟨Int.le_refl _, by simp⟩
  | a :: r, c, hk => by
    have h0 := hk a (by simp)
    obtain ⟨h1, h2⟩ := sum_bd (r := r) (c := c) fun v hv => hk v (by simp [hv])
    simp only [List.sum_cons, List.length_cons, Nat.mul_succ]
    omega
theorem tot_bd (H : HOk h) (S : SOk h s) : 0 ≤ tot s ∧ tot s ≤ 36 := by
  have hr : ∀ v ∈ s.map List.sum, 0 ≤ v ∧ v ≤ ((9 : Nat) : Int) := by
    intro v hv
    obtain ⟨r, hr, rfl⟩ := List.mem_map.1 hv
    have h1 := S.row r hr
    obtain ⟨h2, h3⟩ := sum_bd (r := r) (c := 3) (by
      intro v hv
      obtain ⟨k, hk⟩ := List.mem_iff_getElem?.1 hv
      have hl := some_lt hk
      obtain ⟨l, hl⟩ := get_some (xs := h.things) (k := k) (by omega)
      have := S.bd r hr k v l hk hl
      have := (H.lo k l hl).c3
      omega)
    have := H.n3
    refine ⟨h2, Int.le_trans h3 ?_⟩
    have : 3 * r.length ≤ 9 := by omega
    omega
  obtain ⟨h1, h2⟩ := sum_bd hr
  have := S.len; have := H.f4
  rw [List.length_map] at h2
  refine ⟨h1, Int.le_trans h2 ?_⟩
  have : 9 * s.length ≤ 36 := by omega
  omega
end G65
namespace G65
open PySem PySem.Spec PyProof.Rows L2
variable {h : Hall} {s t u : Stand} {m : Meet} {n : Nat} {r : Rho}
abbrev encFG {γ δ : Type} (f : γ → PyData) (g : δ → PyData) (p : γ × δ) : PyData := .tuple [f p.1, g p.2]
theorem zip_enc {γ δ : Type} (f : γ → PyData) (g : δ → PyData) (a : List γ) (b : List δ) : ((a.map f).zip (b.map g)).map encPr = (a.zip b).map (encFG f g) := by
  induction a generalizing b with
  | nil => rfl
  | cons x xs ih => cases b with
    | nil => rfl
    | cons y ys => simp [ih, encPr, encFG]
theorem flat_len {γ δ : Type} {f : γ → List δ} {c : Nat} : ∀ {xs : List γ}, (∀ x ∈ xs, (f x).length ≤ c) → (xs.flatMap f).length ≤ c * xs.length
  | [], _ => by simp
  | x :: xs, hx => by
    have h1 := hx x (by simp)
    have h2 := flat_len (xs := xs) fun y hy => hx y (by simp [hy])
    simp only [List.flatMap_cons, List.length_append, List.length_cons, Nat.mul_succ]
    omega
theorem wp_addT {a b : List PyData} {Q : PyData → Rho → Prop} (hl : a.length + b.length ≤ 16777216) (q : Q (.tuple (a ++ b)) r) : wp (lft (addD (.tuple a) (.tuple b))) r Q := wp_lft (by simp only [addD, if_pos hl]) q
theorem wp_addL {a b : List PyData} {Q : PyData → Rho → Prop} (hl : a.length + b.length ≤ 16777216) (q : Q (.list (a ++ b)) r) : wp (lft (addD (.list a) (.list b))) r Q := wp_lft (by simp only [addD, if_pos hl]) q
theorem cutset {γ : Type} {f : γ → PyData} {xs : List γ} {k : Nat} {x : γ} (hk : k < xs.length) : (xs.map f).take k ++ [f x] ++ (xs.map f).drop (k + 1) = (xs.set k x).map f := by
  rw [List.set_eq_take_append_cons_drop, if_pos hk]
  simp [List.map_take, List.map_drop]
def noLessB (s t : Stand) : Bool := (s.zip t).all fun p => (p.1.zip p.2).all fun q => decide (q.2 ≤ q.1)
/-! all meetings -/
def allPairs (f : Nat) : List (Nat × Nat) := (List.range f).flatMap fun (a : Nat) => ((List.range f).filter fun (b : Nat) => !decide ((a : Int) = (b : Int))).map fun b => (a, b)
def allMeets (h : Hall) : List Meet := (allPairs h.folk).flatMap fun p => (List.range h.things.length).map fun k => ⟨p.1, p.2, k⟩
theorem mem_allMeets : m ∈ allMeets h ↔ MOk h m := by
  obtain ⟨a, b, k⟩ := m
  simp only [allMeets, allPairs, List.mem_flatMap, List.mem_map, List.mem_filter, List.mem_range]
  constructor
  · rintro ⟨p, ⟨a', ha, b', ⟨hb, hne⟩, rfl⟩, k', hk, e⟩
    cases e
    exact ⟨ha, hb, by simp only [Bool.not_eq_true', decide_eq_false_iff_not] at hne; simp only; omega, hk⟩
  · rintro ⟨ha, hb, hne, hk⟩
    exact ⟨(a, b), ⟨a, ha, b, ⟨hb, by simp only [Bool.not_eq_true', decide_eq_false_iff_not]; simp only at hne; omega⟩, rfl⟩, k, hk, rfl⟩
abbrev encNN (p : Nat × Nat) : PyData := .tuple [.int p.1, .int p.2]
theorem flat_filter {γ δ : Type} (p : γ → Bool) (f : γ → δ) (xs : List γ) : xs.flatMap (fun x => if p x = true then [f x] else []) = (xs.filter p).map f := by
  induction xs with
  | nil => rfl
  | cons x xs ih =>
    simp only [List.flatMap_cons, ih, List.filter_cons]
    cases p x <;> rfl
theorem wp_rngL {Q : PyData → Rho → Prop} {f : M PyData} (q : wp f r fun x r => ∃ k : Nat, x = .int k ∧ k ≤ 16777216 ∧ Q (.list ((List.range k).map encN)) r) : wp (rngL f) r Q := by
  refine wp_bnd (wp_mono q ?_)
  rintro x r ⟨k, rfl, hk, q⟩
  show wp (if 0 ≤ (k : Int) ∧ (k : Int) ≤ 16777216 then ret (.list (rngD 0 (k : Int).toNat)) else fun _ => none) r Q
  refine wp_cond (by omega) (wp_ret ?_)
  rw [Int.toNat_natCast, rngD_eq]
  exact q
theorem allPairs_len (f : Nat) : (allPairs f).length ≤ f * f := by
  have := flat_len (c := f) (f := fun a : Nat => ((List.range f).filter fun (b : Nat) => !decide ((a : Int) = (b : Int))).map fun b => (a, b)) (xs := List.range f) (by
    intro x hx
    rw [List.length_map]
    refine Nat.le_trans (List.length_filter_le _ _) ?_
    simp)
  simpa [allPairs] using this
theorem allMeets_len (H : HOk h) : (allMeets h).length ≤ 48 := by
  have h1 := allPairs_len h.folk
  have h2 := flat_len (c := h.things.length) (f := fun p : Nat × Nat => (List.range h.things.length).map fun k => (⟨p.1, p.2, k⟩ : Meet)) (xs := allPairs h.folk) (by intro x hx; simp)
  have := H.f4; have := H.n3
  have h3 : h.folk * h.folk ≤ 4 * 4 := Nat.mul_le_mul (by omega) (by omega)
  have h4 : h.things.length * (allPairs h.folk).length ≤ 3 * 16 := Nat.mul_le_mul (by omega) (by omega)
  exact Nat.le_trans h2 h4
theorem SOk.map_le (S : SOk h s) : True := trivial
theorem meets_snoc (ms : List Meet) : meets h s (ms ++ [m]) = meetS h (meets h s ms) m := by simp [meets]
end G65
namespace G65
open PySem PySem.Spec PyProof.Rows L2
local macro_rules
  | `(tactic| infer_instance) => `(tactic| first|(with_reducible first|apply za|apply zb|apply zc|apply zd|apply ze|apply zf|apply zg|apply zh|apply zi|apply zj|apply zk|apply zl|apply zm|apply zn|apply zo|apply zp|apply zq|apply zr|apply zs|apply zt|apply zu|apply zv|apply zw|apply zx|apply zy|apply zz|apply z0|apply z1|apply z2|apply z3|apply z4|apply z5|apply z6|apply z7|apply z8|apply z9|apply zA|apply zB|apply zC|apply zD|apply zE|apply zF|apply zG|apply zH|apply zI|apply zJ|apply zK|apply zL|apply zM|apply zN|apply zO|apply zP|apply zQ|apply zR|apply zS|apply zT|apply zU|apply zV|apply zW|apply zX|apply zY|apply zZ|apply ya|apply yb|apply yc|apply yd|apply ye|apply yf|apply yg|apply yh|apply yi|apply yj|apply yk|apply yl|apply ym|apply yn|apply yo|apply yp|apply yq|apply yr|apply ys|apply yt|apply yu|apply yv|apply yw|apply yx|apply yy|apply yz|apply y0|apply y1|apply y2|apply y3)|((with_reducible apply y4);(·(with_reducible repeat' first|apply zg|apply zh)))|((with_reducible apply y5);(·(with_reducible repeat' first|apply zg|apply zh)))|((with_reducible apply y6);(·(with_reducible repeat' first|apply zg|apply zh)))|((with_reducible apply y7);(·(with_reducible repeat' first|apply zg|apply zh)))|((with_reducible apply y8);(·(with_reducible repeat' first|apply zg|apply zh)))|((with_reducible apply y9);(·(with_reducible repeat' first|apply zg|apply zh)))|((with_reducible apply yA);(·(with_reducible repeat' first|apply zg|apply zh)))|((with_reducible apply yC);(·(with_reducible repeat' first|apply zg|apply zh)))|((with_reducible apply yD);(·(with_reducible repeat' first|apply zg|apply zh)))|((with_reducible apply yE);(·(with_reducible repeat' first|apply zg|apply zh)))|((with_reducible apply yF);(·(with_reducible repeat' first|apply zg|apply zh)))|((with_reducible apply yG);(·(with_reducible repeat' first|apply zg|apply zh)))|((with_reducible apply yB);(·(with_reducible repeat' first|apply zg|apply zh));(·rfl))|((with_reducible apply yH);rfl)|((with_reducible apply yI);rfl)|((with_reducible apply yV);rfl)|((with_reducible apply yJ))|((with_reducible apply yK))|((with_reducible apply yL);exact Nat.le_of_ble_eq_true rfl)|((with_reducible apply yM);assumption)|((with_reducible apply yN);assumption)|((with_reducible apply yO);(·omega))|((with_reducible apply yP);(·omega))|((with_reducible apply yQ);(·omega))|((with_reducible apply yR);(·omega))|((with_reducible apply yS);(·omega))|((with_reducible apply yT);rfl)|((with_reducible apply yU);rfl))
variable {h : Hall} {s t u : Stand} {m : Meet} {n : Nat} {r : Rho}
structure Dk (k : Nat) (e : Ent) : Prop where
  ex : ∃ a b c : Int, e = .ml [.int a, .int b, .int c] ∧ 0 ≤ b ∧ b < 2147483579 ∧ 0 ≤ c ∧ c ≤ k
theorem Dk.own {k : Nat} {e : Ent} (D : Dk k e) : e.own = true := by
  obtain ⟨a, b, c, rfl, _⟩ := D.ex
  rfl
theorem Dk.mono {k j : Nat} {e : Ent} (D : Dk k e) (hj : k ≤ j) : Dk j e := by
  obtain ⟨a, b, c, rfl, h1, h2, h3, h4⟩ := D.ex
  exact ⟨a, b, c, rfl, h1, h2, h3, by omega⟩
theorem law_deck_ok {c t : Int} {k : Nat} (h0 : 0 ≤ t) (h1 : t ≤ k) : ∃ en, den_law_deck n [.int c, .int t] = some en ∧ Dk k en := by
  (refine den0iE (r0 := [_, _]) rfl ?_; unfold m_law_deck; try dsimp only)
  have hm1 := Int.emod_nonneg c (b := 2147483579) (by decide)
  have hm2 := Int.emod_lt_of_pos c (b := 2147483579) (by decide)
  (repeat' first|infer_instance|fail)
  refine wp_ite (fun e => ?_) (fun e => ?_)
  · (repeat' first|infer_instance|fail)
    exact ⟨_, rfl, _, _, _, rfl, hm1, hm2, h0, h1⟩
  · (repeat' first|infer_instance|fail)
    exact ⟨_, rfl, _, _, _, rfl, hm1, hm2, h0, h1⟩
def Pk (z : Int) (k : Nat) (en e1 : Ent) : Prop := (∃ v : Nat, en = .d (.int v) ∧ (v : Int) < z) ∧ Dk k e1
theorem law_pick_ok {e0 : Ent} {k : Nat} {z : Int} (D : Dk k e0) (hk : k ≤ 100000000) (hz : 0 < z) (hz2 : z ≤ 1000000000000) : ∃ en e1, den_law_pick n [] e0 [.int z] = some (en, e1) ∧ Pk z (k + 1) en e1 := by
  obtain ⟨a, b, c, rfl, h1, h2, h3, h4⟩ := D.ex
  (refine den1iE (r0 := [_, _, _, _]) rfl ?_; unfold m_law_pick; try dsimp only)
  (repeat' first|infer_instance|fail)
  refine wp_ite (fun e => ?_) (fun e => ?_)
  · (repeat' first|infer_instance|fail)
    have m1 := Int.emod_nonneg a (b := z) (by omega)
    have m2 := Int.emod_lt_of_pos a (b := z) hz
    refine en1_of (by rfl) rfl ⟨⟨(a % z).toNat, ?_, by omega⟩, _, _, _, rfl, h1, h2, h3, by omega⟩
    rw [Int.toNat_of_nonneg m1]
  · (repeat' first|infer_instance|fail)
    generalize hg : (b + 15485867 * (c + 1)) ^ (5 : Int).toNat % 2147483647 = g
    have g1 : 0 ≤ g := by rw [← hg]; exact Int.emod_nonneg _ (by decide)
    have g2 : g < 2147483647 := by rw [← hg]; exact Int.emod_lt_of_pos _ (by decide)
    (repeat' first|infer_instance|fail)
    generalize hw : (g + 7919 * (c + 1)) ^ (3 : Int).toNat % 2147483629 / 32 = w
    have m1 := Int.emod_nonneg w (b := z) (by omega)
    have m2 := Int.emod_lt_of_pos w (b := z) hz
    refine en1_of (by rfl) rfl ⟨⟨(w % z).toNat, ?_, by omega⟩, _, _, _, rfl, h1, h2, by omega, by omega⟩
    rw [Int.toNat_of_nonneg m1]
def On (xs : List PyData) (k : Nat) (en e1 : Ent) : Prop := (∃ x ∈ xs, en = .d x) ∧ Dk k e1
theorem law_one_ok {e0 : Ent} {k : Nat} {xs : List PyData} (D : Dk k e0) (hk : k ≤ 100000000) (h0 : xs ≠ []) (h1 : xs.length ≤ 1000) : ∃ en e1, den_law_one n [] e0 [.list xs] = some (en, e1) ∧ On xs (k + 1) en e1 := by
  have hl : 0 < xs.length := List.length_pos_iff.2 h0
  (refine den1iE (r0 := [_, _]) rfl ?_; unfold m_law_one; try dsimp only)
  (repeat' first|infer_instance|fail)
  refine dc_of (law_pick_ok D hk (by omega) (by omega)) (by (repeat' first|(with_reducible first|apply za|apply zb|apply zc|apply zd|apply ze|apply zf|apply zg|apply zh|apply zi|apply zj|apply zk)|((with_reducible apply yV);rfl)|with_reducible rfl)) D.own ?_
  rintro en e1 ⟨⟨v, rfl, hv⟩, D1⟩
  obtain ⟨x, hx⟩ := get_some (xs := xs) (k := v) (by omega)
  (repeat' first|with_reducible refine wp_lftD (ixL_nat hx) ?_|infer_instance|fail)
  exact en1_of (by (repeat' first|(with_reducible first|apply za|apply zb|apply zc|apply zd|apply ze|apply zf|apply zg|apply zh|apply zi|apply zj|apply zk)|((with_reducible apply yV);rfl)|with_reducible rfl)) D1.own ⟨⟨x, some_mem hx, rfl⟩, D1⟩
abbrev Shape := Nat × List Int
abbrev encSh (p : Shape) : PyData := .tuple [.int p.1, .list (p.2.map PyData.int)]
structure ShOk (p : Shape) : Prop where
  f2 : 2 ≤ p.1
  f4 : p.1 ≤ 4
  n1 : 1 ≤ p.2.length
  n3 : p.2.length ≤ 3
  c : ∀ c ∈ p.2, 1 ≤ c ∧ c ≤ 3
def smalls : List Shape := [(2, [3, 1]), (2, [1, 1, 1]), (3, [2]), (3, [1, 1]), (2, [2, 2]), (4, [1]), (3, [3]), (4, [2])]
def greats : List Shape := [(4, [3, 3, 3]), (3, [2, 3, 1]), (4, [1, 2]), (2, [3, 3, 3]), (3, [3, 2])]
theorem sh_of {p : Shape} (h : (decide (2 ≤ p.1) && decide (p.1 ≤ 4) && decide (1 ≤ p.2.length) && decide (p.2.length ≤ 3) && p.2.all fun c => decide (1 ≤ c) && decide (c ≤ 3)) = true) : ShOk p := by
  simp only [Bool.and_eq_true, decide_eq_true_eq, List.all_eq_true] at h
  exact ⟨h.1.1.1.1, h.1.1.1.2, h.1.1.2, h.1.2, fun c hc => h.2 c hc⟩
theorem smalls_ok : ∀ p ∈ smalls, ShOk p := by
  intro p hp
  refine sh_of ?_
  have : smalls.all (fun p => decide (2 ≤ p.1) && decide (p.1 ≤ 4) && decide (1 ≤ p.2.length) && decide (p.2.length ≤ 3) && p.2.all fun c => decide (1 ≤ c) && decide (c ≤ 3)) = true := by decide
  exact List.all_eq_true.1 this p hp
theorem greats_ok : ∀ p ∈ greats, ShOk p := by
  intro p hp
  refine sh_of ?_
  have : greats.all (fun p => decide (2 ≤ p.1) && decide (p.1 ≤ 4) && decide (1 ≤ p.2.length) && decide (p.2.length ≤ 3) && p.2.all fun c => decide (1 ≤ c) && decide (c ≤ 3)) = true := by decide
  exact List.all_eq_true.1 this p hp
theorem law_small_ok : den_law_small n [] = some (.d (.list (smalls.map encSh))) := by
  (refine den0i (r0 := []) rfl ?_; unfold m_law_small; try dsimp only)
  (repeat' first|infer_instance|fail)
  rfl
def HOf (p : Shape) (h : Hall) : Prop := h.folk = p.1 ∧ h.things.map (·.cap) = p.2
def Hl (ps : List Shape) (k : Nat) (en e1 : Ent) : Prop := (∃ h, en = .d (encH h) ∧ HOk h ∧ ∃ p ∈ ps, HOf p h) ∧ Dk k e1
theorem law_hall_ok {e0 : Ent} {k : Nat} {ps : List Shape} (D : Dk k e0) (hk : k ≤ 10000000) (h0 : ps ≠ []) (h1 : ps.length ≤ 1000) (hp : ∀ p ∈ ps, ShOk p) : ∃ en e1, den_law_hall n [] e0 [.list (ps.map encSh)] = some (en, e1) ∧ Hl ps (k + 20) en e1 := by
  (refine den1iE (r0 := [_, _, _, _, _, _, _, _, _, _]) rfl ?_; unfold m_law_hall; try dsimp only)
  (repeat' first|infer_instance|fail)
  refine dc_of (law_one_ok D (by omega) (by simpa using h0) (by simpa using h1)) (by (repeat' first|(with_reducible first|apply za|apply zb|apply zc|apply zd|apply ze|apply zf|apply zg|apply zh|apply zi|apply zj|apply zk)|((with_reducible apply yV);rfl)|with_reducible rfl)) D.own ?_
  rintro en e1 ⟨⟨x, hx, rfl⟩, D1⟩
  obtain ⟨p, hpm, rfl⟩ := List.mem_map.1 hx
  have P := hp p hpm
  (repeat' first|infer_instance|fail)
  rw [enumD_eq]
  refine wp_forT (encIx PyData.int) p.2.zipIdx (fun done r => ∃ (e : Ent) (ls : List Lore) (o5 o6 o7 o8 : Option Ent), r = [some e, some (.d (.list (ps.map encSh))), some (.d (.int p.1)), some (.d (.list (p.2.map PyData.int))), some (.ml (ls.map encLore)), o5, o6, o7, o8, none] ∧ Dk (k + 1 + 5 * done.length) e ∧ ls.length = done.length ∧ ls.map (·.cap) = done.map (·.1) ∧ ∀ i l, ls[i]? = some l → LOk i l)
    ⟨e1, [], none, none, none, none, rfl, D1, rfl, rfl, by simp⟩ ?_ ?_
  · rintro done ⟨c, i⟩ rest r e ⟨e2, ls, o5, o6, o7, o8, rfl, D2, hl, hcap, hlo⟩
    have hi : i = done.length ∧ p.2[i]? = some c := by
      have e3 : p.2.zipIdx[done.length]? = some (c, i) := by rw [e]; simp
      rw [List.getElem?_zipIdx] at e3
      cases e4 : p.2[done.length]? with
      | none => rw [e4] at e3; cases e3
      | some c' =>
        rw [e4] at e3
        simp at e3
        rw [← e3.2, e4, e3.1]
        exact ⟨rfl, rfl⟩
    have hc := P.c c (some_mem hi.2)
    have hi3 := some_lt hi.2
    have n3 := P.n3
    (repeat' first|infer_instance|fail)
    refine stp_fold encN _ (fun dn acc r => ∃ (e : Ent) (sub : List Nat), acc = sub.map encN ∧ sub.Sublist dn ∧ Dk (k + 1 + 5 * done.length + dn.length) e ∧ r = [some e, some (.d (.list (ps.map encSh))), some (.d (.int p.1)), some (.d (.list (p.2.map PyData.int))), some (.ml (ls.map encLore)), some (.d (.int i)), some (.d (.int c)), o7, o8, none])
      ⟨e2, [], rfl, List.Sublist.refl _, D2, rfl⟩ ?_ ?_
    · rintro dn x rs acc r e3 ⟨e4, sub, rfl, hsub, D4, rfl⟩
      have hdn : dn.length < i := by
        have := congrArg List.length e3
        simp at this
        omega
      refine stp_c (by (repeat' first|(with_reducible first|apply za|apply zb|apply zc|apply zd|apply ze|apply zf|apply zg|apply zh|apply zi|apply zj|apply zk)|((with_reducible apply yV);rfl)|with_reducible rfl)) ?_
      (repeat' first|infer_instance|fail)
      refine dc_of (law_pick_ok D4 (by omega) (by decide) (by decide)) (by (repeat' first|(with_reducible first|apply za|apply zb|apply zc|apply zd|apply ze|apply zf|apply zg|apply zh|apply zi|apply zj|apply zk)|((with_reducible apply yV);rfl)|with_reducible rfl)) D4.own ?_
      rintro en e5 ⟨⟨v, rfl, hv⟩, D5⟩
      (repeat' first|infer_instance|fail)
      refine ⟨fun e6 => ?_, fun e6 => ?_⟩
      · (repeat' first|infer_instance|fail)
        exact ⟨e5, sub ++ [x], by simp, hsub.append (List.Sublist.refl _), D5.mono (by simp; omega), rfl⟩
      · (repeat' first|infer_instance|fail)
        exact ⟨e5, sub, by simp, hsub.trans (List.sublist_append_left _ _), D5.mono (by simp; omega), rfl⟩
    · rintro acc r ⟨e4, sub, rfl, hsub, D4, rfl⟩
      have hsl := hsub.length_le
      rw [List.length_range] at hsl
      refine ⟨by simp; omega, ?_⟩
      (repeat' first|infer_instance|fail)
      have D4' := D4.mono (j := k + 4 + 5 * done.length) (by simp; omega)
      refine dc_of (law_one_ok D4' (by omega) (by simp) (by simp)) (by (repeat' first|(with_reducible first|apply za|apply zb|apply zc|apply zd|apply ze|apply zf|apply zg|apply zh|apply zi|apply zj|apply zk)|((with_reducible apply yV);rfl)|with_reducible rfl)) D4.own ?_
      rintro en e5 ⟨⟨x, hx, rfl⟩, D5⟩
      have hx' : ∃ w : Int, x = .int w ∧ 0 ≤ w ∧ w ≤ c := by
        simp only [List.mem_cons, List.not_mem_nil, or_false] at hx
        rcases hx with rfl | rfl | rfl | rfl
        · exact ⟨0, rfl, by omega, by omega⟩
        · exact ⟨1, rfl, by omega, by omega⟩
        · exact ⟨1, rfl, by omega, by omega⟩
        · exact ⟨c, rfl, by omega, by omega⟩
      obtain ⟨w, rfl, hw0, hwc⟩ := hx'
      (repeat' first|infer_instance|fail)
      refine dc_of (law_pick_ok D5 (by omega) (by omega) (by omega)) (by (repeat' first|(with_reducible first|apply za|apply zb|apply zc|apply zd|apply ze|apply zf|apply zg|apply zh|apply zi|apply zj|apply zk)|((with_reducible apply yV);rfl)|with_reducible rfl)) D5.own ?_
      rintro en e6 ⟨⟨v, rfl, hv⟩, D6⟩
      (repeat' first|infer_instance|fail)
      refine ex_app (by (repeat' first|(with_reducible first|apply za|apply zb|apply zc|apply zd|apply ze|apply zf|apply zg|apply zh|apply zi|apply zj|apply zk)|((with_reducible apply yV);rfl)|with_reducible rfl)) (by simp; omega) ?_
      (repeat' first|infer_instance|fail)
      refine ⟨e6, ls ++ [⟨sub, 1 + v, c, w⟩], some (.d (.int i)), some (.d (.int c)), some (.d (.tuple (sub.map encN))), some (.d (.int w)), ?_, D6.mono (by simp; omega), by simp [hl], by simp [hcap], ?_⟩
      · simp only [List.map_append, List.map_cons, List.map_nil]
      · intro j l hj
        rcases Nat.lt_or_ge j ls.length with h2 | h2
        · rw [List.getElem?_append_left h2] at hj
          exact hlo j l hj
        · rw [List.getElem?_append_right h2] at hj
          cases hjj : j - ls.length with
          | succ q => rw [hjj] at hj; cases hj
          | zero =>
            rw [hjj] at hj
            cases hj
            have hji : j = i := by omega
            subst hji
            refine ⟨List.Pairwise.sublist hsub List.pairwise_lt_range, fun y hy => ?_, ?_, ?_, ?_, hw0, hwc⟩
            · exact List.mem_range.1 (hsub.mem hy)
            · simp only; omega
            · simp only; omega
            · simp only; omega
  · rintro r ⟨e2, ls, o5, o6, o7, o8, rfl, D2, hl, hcap, hlo⟩
    (repeat' first|infer_instance|fail)
    have hll : ls.length = p.2.length := by rw [hl]; simp
    have := P.f2; have := P.f4; have := P.n1; have := P.n3
    refine en1_of (by (repeat' first|(with_reducible first|apply za|apply zb|apply zc|apply zd|apply ze|apply zf|apply zg|apply zh|apply zi|apply zj|apply zk)|((with_reducible apply yV);rfl)|with_reducible rfl)) D2.own ⟨⟨⟨p.1, ls⟩, rfl, ⟨by simpa using P.f2, by simpa using P.f4, by simp only; omega, by simp only; omega, hlo⟩, p, hpm, rfl, ?_⟩, D2.mono (by simp; omega)⟩
    show ls.map (·.cap) = p.2
    rw [hcap]
    simp
def Mt (h : Hall) (k : Nat) (en e1 : Ent) : Prop := (∃ m, en = .d (encM m) ∧ MOk h m) ∧ Dk k e1
theorem law_meeting_ok {e0 : Ent} {k : Nat} (H : HOk h) (D : Dk k e0) (hk : k ≤ 10000000) : ∃ en e1, den_law_meeting n [] e0 [encH h] = some (en, e1) ∧ Mt h (k + 3) en e1 := by
  have f2 := H.f2; have f4 := H.f4; have n1 := H.n1; have n3 := H.n3
  (refine den1iE (r0 := [_, _, _, _]) rfl ?_; unfold m_law_meeting; try dsimp only)
  (repeat' first|infer_instance|fail)
  refine dc_of (law_pick_ok D (by omega) (by omega) (by omega)) (by (repeat' first|(with_reducible first|apply za|apply zb|apply zc|apply zd|apply ze|apply zf|apply zg|apply zh|apply zi|apply zj|apply zk)|((with_reducible apply yV);rfl)|with_reducible rfl)) D.own ?_
  rintro en e1 ⟨⟨a, rfl, ha⟩, D1⟩
  (repeat' first|infer_instance|fail)
  refine dc_of (law_pick_ok D1 (by omega) (by omega) (by omega)) (by (repeat' first|(with_reducible first|apply za|apply zb|apply zc|apply zd|apply ze|apply zf|apply zg|apply zh|apply zi|apply zj|apply zk)|((with_reducible apply yV);rfl)|with_reducible rfl)) D1.own ?_
  rintro en e2 ⟨⟨b, rfl, hb⟩, D2⟩
  (repeat' first|infer_instance|fail)
  rw [List.length_map]
  refine dc_of (law_pick_ok D2 (by omega) (by omega) (by omega)) (by (repeat' first|(with_reducible first|apply za|apply zb|apply zc|apply zd|apply ze|apply zf|apply zg|apply zh|apply zi|apply zj|apply zk)|((with_reducible apply yV);rfl)|with_reducible rfl)) D2.own ?_
  rintro en e3 ⟨⟨c, rfl, hc⟩, D3⟩
  (repeat' first|infer_instance|fail)
  have e : ((a : Int) + 1 + (b : Int)) % (h.folk : Int) = (((a + 1 + b) % h.folk : Nat) : Int) := by rw [Int.natCast_emod]; rfl
  refine en1_of (by (repeat' first|(with_reducible first|apply za|apply zb|apply zc|apply zd|apply ze|apply zf|apply zg|apply zh|apply zi|apply zj|apply zk)|((with_reducible apply yV);rfl)|with_reducible rfl)) D3.own ⟨⟨⟨a, (a + 1 + b) % h.folk, c⟩, by rw [e], ⟨by simp only; omega, Nat.mod_lt _ (by omega), ?_, by simp only; omega⟩⟩, D3⟩
  simp only
  intro e2
  rcases Nat.lt_or_ge (a + 1 + b) h.folk with h1 | h1
  · rw [Nat.mod_eq_of_lt h1] at e2; omega
  · rw [Nat.mod_eq_sub_mod h1, Nat.mod_eq_of_lt (by omega)] at e2; omega
def Sd (h : Hall) (k : Nat) (en e1 : Ent) : Prop := (∃ s, en = .d (encS s) ∧ SOk h s) ∧ Dk k e1
theorem law_stand_ok {e0 : Ent} {k : Nat} (H : HOk h) (D : Dk k e0) (hk : k ≤ 10000000) : ∃ en e1, den_law_stand n [] e0 [encH h] = some (en, e1) ∧ Sd h (k + 24) en e1 := by
  have f2 := H.f2; have f4 := H.f4; have n1 := H.n1; have n3 := H.n3
  (refine den1iE (r0 := [_, _, _, _, _]) rfl ?_; unfold m_law_stand; try dsimp only)
  (repeat' first|infer_instance|fail)
  refine wp_forT encN (List.range h.folk) (fun done r => ∃ (e : Ent) (s : Stand) (o3 : Option Ent), r = [some e, some (.d (encH h)), some (.ml (s.map encRow)), o3, none] ∧ Dk (k + 6 * done.length) e ∧ s.length = done.length ∧ (∀ r ∈ s, r.length = h.things.length) ∧ ∀ r ∈ s, ∀ (i : Nat) (v : Int) (l : Lore), r[i]? = some v → h.things[i]? = some l → 0 ≤ v ∧ v ≤ l.cap)
    ⟨e0, [], none, rfl, D, rfl, by simp, by simp⟩ ?_ ?_
  · rintro done i rest r e ⟨e1, s, o3, rfl, D1, hl, h1, h2⟩
    have hd : done.length < h.folk := by
      have := congrArg List.length e
      simp at this
      omega
    (repeat' first|infer_instance|fail)
    refine stp_fold encLore _ (fun dn acc r => ∃ (e : Ent) (row : List Int), acc = row.map PyData.int ∧ r = [some e, some (.d (encH h)), some (.ml (s.map encRow)), some (.d (.int i)), none] ∧ Dk (k + 6 * done.length + 2 * dn.length) e ∧ row.length = dn.length ∧ ∀ (i : Nat) (v : Int) (l : Lore), row[i]? = some v → dn[i]? = some l → 0 ≤ v ∧ v ≤ l.cap)
      ⟨e1, [], rfl, rfl, D1, rfl, by simp⟩ ?_ ?_
    · rintro dn l rs acc r e3 ⟨e4, row, rfl, rfl, D4, hrl, hrow⟩
      have hdn : dn.length < h.things.length := by
        have := congrArg List.length e3
        simp at this
        omega
      have hl0 : h.things[dn.length]? = some l := by rw [e3]; simp
      have L := H.lo _ _ hl0
      have := L.t1; have := L.tc; have := L.c3
      refine stp_cT (by (repeat' first|(with_reducible first|apply za|apply zb|apply zc|apply zd|apply ze|apply zf|apply zg|apply zh|apply zi|apply zj|apply zk)|((with_reducible apply yV);rfl)|with_reducible rfl)) ?_
      (repeat' first|infer_instance|fail)
      refine dc_of (law_pick_ok D4 (by omega) (by omega) (by omega)) (by (repeat' first|(with_reducible first|apply za|apply zb|apply zc|apply zd|apply ze|apply zf|apply zg|apply zh|apply zi|apply zj|apply zk)|((with_reducible apply yV);rfl)|with_reducible rfl)) D4.own ?_
      rintro en e5 ⟨⟨v, rfl, hv⟩, D5⟩
      (repeat' first|infer_instance|fail)
      refine dc_of (law_one_ok D5 (by omega) (by simp) (by simp)) (by (repeat' first|(with_reducible first|apply za|apply zb|apply zc|apply zd|apply ze|apply zf|apply zg|apply zh|apply zi|apply zj|apply zk)|((with_reducible apply yV);rfl)|with_reducible rfl)) D5.own ?_
      rintro en e6 ⟨⟨x, hx, rfl⟩, D6⟩
      have hx' : ∃ w : Int, x = .int w ∧ 0 ≤ w ∧ w ≤ l.cap := by
        simp only [List.mem_cons, List.not_mem_nil, or_false] at hx
        rcases hx with rfl | rfl | rfl
        · exact ⟨0, rfl, by omega, by omega⟩
        · exact ⟨l.cap, rfl, by omega, by omega⟩
        · exact ⟨v, rfl, by omega, by omega⟩
      obtain ⟨w, rfl, hw0, hwc⟩ := hx'
      (repeat' first|infer_instance|fail)
      refine ⟨e6, row ++ [w], by simp, rfl, D6.mono (by simp; omega), by simp [hrl], fun j v' l' hj hl' => ?_⟩
      rcases Nat.lt_or_ge j row.length with h3 | h3
      · rw [List.getElem?_append_left h3] at hj
        rw [List.getElem?_append_left (by omega)] at hl'
        exact hrow j v' l' hj hl'
      · rw [List.getElem?_append_right h3] at hj
        rw [List.getElem?_append_right (by omega)] at hl'
        cases hjj : j - row.length with
        | succ q => rw [hjj] at hj; cases hj
        | zero =>
          rw [hjj] at hj
          rw [← hrl, hjj] at hl'
          cases hj
          cases hl'
          exact ⟨hw0, hwc⟩
    · rintro acc r ⟨e4, row, rfl, rfl, D4, hrl, hrow⟩
      refine ⟨by simp; omega, ?_⟩
      (repeat' first|infer_instance|fail)
      refine ex_app (by (repeat' first|(with_reducible first|apply za|apply zb|apply zc|apply zd|apply ze|apply zf|apply zg|apply zh|apply zi|apply zj|apply zk)|((with_reducible apply yV);rfl)|with_reducible rfl)) (by simp; omega) ?_
      (repeat' first|infer_instance|fail)
      refine ⟨e4, s ++ [row], some (.d (.int i)), by simp, D4.mono (by simp; omega), by simp [hl], fun q hq => ?_, fun q hq => ?_⟩
      · rcases List.mem_append.1 hq with hq | hq
        · exact h1 q hq
        · simp at hq; subst hq; exact hrl
      · rcases List.mem_append.1 hq with hq | hq
        · exact h2 q hq
        · simp at hq; subst hq; exact hrow
  · rintro r ⟨e1, s, o3, rfl, D1, hl, h1, h2⟩
    (repeat' first|infer_instance|fail)
    exact en1_of (by (repeat' first|(with_reducible first|apply za|apply zb|apply zc|apply zd|apply ze|apply zf|apply zg|apply zh|apply zi|apply zj|apply zk)|((with_reducible apply yV);rfl)|with_reducible rfl)) D1.own ⟨⟨s, rfl, by rw [hl]; simp, h1, h2⟩, D1.mono (by simp; omega)⟩
end G65
namespace G65
open PySem PySem.Spec PyProof.Rows L2
variable {h : Hall} {s t u : Stand} {m : Meet} {n : Nat} {r : Rho} {i : Nat}
def pairsN (f k : Nat) : List (Nat × Nat) := (List.range f).flatMap fun i => (List.range k).map fun j => (i, j)
theorem pairsN_succ (f k : Nat) : pairsN (f + 1) k = pairsN f k ++ (List.range k).map fun j => (f, j) := by
  unfold pairsN
  rw [List.range_succ, List.flatMap_append]
  simp
theorem mem_pairsN {f k : Nat} {p : Nat × Nat} : p ∈ pairsN f k ↔ p.1 < f ∧ p.2 < k := by
  unfold pairsN
  simp only [List.mem_flatMap, List.mem_range, List.mem_map]
  constructor
  · rintro ⟨a, ha, b, hb, rfl⟩
    exact ⟨ha, hb⟩
  · rintro ⟨h1, h2⟩
    exact ⟨p.1, h1, p.2, h2, rfl⟩
structure Tb (h : Hall) (s : Stand) (kvs : Rw) : Prop where
  keys : kvs.map (·.1) = (pairsN h.folk h.things.length).map encNN
  get : ∀ i j, i < h.folk → j < h.things.length → dGet kvs (kk i j) = some (.int (lev s i j))
  len : kvs.length ≤ 100
theorem ex_getT {kvs : Rw} {a b : Nat} {P : PyData → Prop} (T : Tb h s kvs) (e : r[i]? = some (some (.md kvs))) (ha : a < h.folk) (hb : b < h.things.length) (q : P (.int (lev s a b))) : ∃ kvs kk x, r[i]? = some (some (.md kvs)) ∧ keyOf (.tuple [.int a, .int b]) = some kk ∧ dGet kvs kk = some x ∧ P x := ex_getD e (keyOf_nn a b) (T.get a b ha hb) q
theorem zipIdx_split {γ : Type} {xs : List γ} {done rest : List (γ × Nat)} {x : γ} {i : Nat} (e : xs.zipIdx = done ++ (x, i) :: rest) : i = done.length ∧ xs[i]? = some x := by
  have e3 : xs.zipIdx[done.length]? = some (x, i) := by rw [e]; simp
  rw [List.getElem?_zipIdx] at e3
  cases e4 : xs[done.length]? with
  | none => rw [e4] at e3; cases e3
  | some c' =>
    rw [e4] at e3
    simp at e3
    rw [← e3.2, e4, e3.1]
    exact ⟨rfl, rfl⟩
theorem eqv_nil {γ : Type} (f : γ → PyData) (xs : List γ) : PyData.eqv (.list (xs.map f)) (.list []) = xs.isEmpty := by
  cases xs with
  | nil => simp [PyData.eqv, PyData.eqvAll]
  | cons x xs => simp [PyData.eqv, PyData.eqvAll]
def Tbl (h : Hall) (s : Stand) (en : Ent) : Prop := ∃ kvs, en = .md kvs ∧ Tb h s kvs
def Mte (h : Hall) (s : Stand) (m : Meet) (en e1 : Ent) : Prop := en = .d (.bool (lessonB h s m)) ∧ ∃ kvs, e1 = .md kvs ∧ Tb h (meetS h s m) kvs
theorem SOk.rows (S : SOk h s) : s = (List.range h.folk).map fun i => (List.range h.things.length).map fun j => lev s i j := by
  apply List.ext_getElem?
  intro i
  rcases Nat.lt_or_ge i h.folk with hi | hi
  · rw [List.getElem?_map, List.getElem?_range hi]
    obtain ⟨r, hr⟩ := get_some (xs := s) (k := i) (by rw [S.len]; exact hi)
    rw [hr]
    simp only [Option.map_some]
    congr 1
    apply List.ext_getElem?
    intro j
    rcases Nat.lt_or_ge j h.things.length with hj | hj
    · rw [List.getElem?_map, List.getElem?_range hj]
      obtain ⟨r', h1, _, h3⟩ := S.get hi hj
      rw [hr] at h1; cases h1
      rw [h3]
      rfl
    · rw [List.getElem?_eq_none (by rw [S.row r (some_mem hr)]; exact hj), List.getElem?_eq_none (by simpa using hj)]
  · rw [List.getElem?_eq_none (by rw [S.len]; exact hi), List.getElem?_eq_none (by simpa using hi)]
def Sto (s : Stand) (kvs : Rw) (en e1 : Ent) : Prop := en = .d (encS s) ∧ e1 = .md kvs
def srt : PyData → Int
  | .bool _ => 1
  | .int _ => 2
  | .str _ => 3
  | .list _ => 4
  | .tuple _ => 5
  | .none => 6
  | .dict _ => 6
theorem flat_nil {γ δ : Type} (xs : List γ) : xs.flatMap (fun _ => ([] : List δ)) = [] := by
  induction xs with
  | nil => rfl
  | cons x xs ih => simp [ih]
theorem shp_elems {k : Nat} {xs : List PyData} (h1 : PyData.canLayAll0 xs = true) (h2 : PyData.depthAll xs ≤ k) : ∀ x ∈ xs, Shp k x := by
  induction xs with
  | nil => intro x hx; cases hx
  | cons y ys ih =>
    simp only [PyData.canLayAll0, Bool.and_eq_true] at h1
    simp only [PyData.depthAll] at h2
    intro x hx
    rcases List.mem_cons.1 hx with rfl | hx
    · exact ⟨h1.1, by omega⟩
    · exact ih h1.2 (by omega) x hx
theorem shp_ofL {k : Nat} {xs : List PyData} (h : Shp (k + 1) (.list xs)) : ∀ x ∈ xs, Shp k x := by
  obtain ⟨h1, h2⟩ := h
  simp only [PyData.canLay0] at h1
  simp only [PyData.depth] at h2
  exact shp_elems h1 (by omega)
theorem shp_ofT {k : Nat} {xs : List PyData} (h : Shp (k + 1) (.tuple xs)) : ∀ x ∈ xs, Shp k x := by
  obtain ⟨h1, h2⟩ := h
  simp only [PyData.canLay0] at h1
  simp only [PyData.depth] at h2
  exact shp_elems h1 (by omega)
theorem shp_str {a : String} (h : PyData.strOk (Str.ofString a) = true) : Shp 1 (.str (Str.ofString a)) := by
  refine ⟨by simp only [PyData.canLay0]; exact h, ?_⟩
  simp [PyData.depth]
theorem ok_row : Shp 1 (.str (Str.ofString "row")) := shp_str (by decide +kernel)
theorem ok_rows : Shp 1 (.str (Str.ofString "rows")) := shp_str (by decide +kernel)
theorem ok_stay : Shp 1 (.str (Str.ofString "stay")) := shp_str (by decide +kernel)
end G65
namespace G65
open PySem PySem.Spec PyProof.Rows L2
local macro_rules
  | `(tactic| infer_instance) => `(tactic| first|(with_reducible first|apply za|apply zb|apply zc|apply zd|apply ze|apply zf|apply zg|apply zh|apply zi|apply zj|apply zk|apply zl|apply zm|apply zn|apply zo|apply zp|apply zq|apply zr|apply zs|apply zt|apply zu|apply zv|apply zw|apply zx|apply zy|apply zz|apply z0|apply z1|apply z2|apply z3|apply z4|apply z5|apply z6|apply z7|apply z8|apply z9|apply zA|apply zB|apply zC|apply zD|apply zE|apply zF|apply zG|apply zH|apply zI|apply zJ|apply zK|apply zL|apply zM|apply zN|apply zO|apply zP|apply zQ|apply zR|apply zS|apply zT|apply zU|apply zV|apply zW|apply zX|apply zY|apply zZ|apply ya|apply yb|apply yc|apply yd|apply ye|apply yf|apply yg|apply yh|apply yi|apply yj|apply yk|apply yl|apply ym|apply yn|apply yo|apply yp|apply yq|apply yr|apply ys|apply yt|apply yu|apply yv|apply yw|apply yx|apply yy|apply yz|apply y0|apply y1|apply y2|apply y3)|((with_reducible apply y4);(·(with_reducible repeat' first|apply zg|apply zh)))|((with_reducible apply y5);(·(with_reducible repeat' first|apply zg|apply zh)))|((with_reducible apply y6);(·(with_reducible repeat' first|apply zg|apply zh)))|((with_reducible apply y7);(·(with_reducible repeat' first|apply zg|apply zh)))|((with_reducible apply y8);(·(with_reducible repeat' first|apply zg|apply zh)))|((with_reducible apply y9);(·(with_reducible repeat' first|apply zg|apply zh)))|((with_reducible apply yA);(·(with_reducible repeat' first|apply zg|apply zh)))|((with_reducible apply yC);(·(with_reducible repeat' first|apply zg|apply zh)))|((with_reducible apply yD);(·(with_reducible repeat' first|apply zg|apply zh)))|((with_reducible apply yE);(·(with_reducible repeat' first|apply zg|apply zh)))|((with_reducible apply yF);(·(with_reducible repeat' first|apply zg|apply zh)))|((with_reducible apply yG);(·(with_reducible repeat' first|apply zg|apply zh)))|((with_reducible apply yB);(·(with_reducible repeat' first|apply zg|apply zh));(·rfl))|((with_reducible apply yH);rfl)|((with_reducible apply yI);rfl)|((with_reducible apply yV);rfl)|((with_reducible apply yJ))|((with_reducible apply yK))|((with_reducible apply yL);exact Nat.le_of_ble_eq_true rfl)|((with_reducible apply yM);assumption)|((with_reducible apply yN);assumption)|((with_reducible apply yO);(·omega))|((with_reducible apply yP);(·omega))|((with_reducible apply yQ);(·omega))|((with_reducible apply yR);(·omega))|((with_reducible apply yS);(·omega))|((with_reducible apply yT);rfl)|((with_reducible apply yU);rfl))
variable {h : Hall} {s t u : Stand} {m : Meet} {n : Nat} {r : Rho} {i : Nat}
abbrev Beat := List Meet
abbrev Plan := List Beat
abbrev encB (b : Beat) : PyData := .tuple (b.map encM)
abbrev encP (p : Plan) : PyData := .tuple (p.map encB)
structure BOk (h : Hall) (b : Beat) : Prop where
  len : b.length ≤ 4
  ok : ∀ m ∈ b, MOk h m
structure POk (h : Hall) (p : Plan) : Prop where
  l1 : 1 ≤ p.length
  l4 : p.length ≤ 4
  ok : ∀ b ∈ p, BOk h b
def vBeat (h : Hall) (x : PyData) : Bool := match x with
  | .tuple ms => isTup (.tuple ms) 0 4 && ms.all (vMeet h)
  | _ => false
def vPlan (h : Hall) (x : PyData) : Bool := match x with
  | .tuple bs => isTup (.tuple bs) 1 4 && bs.all (vBeat h)
  | _ => false
theorem is_beating_ok (x : PyData) : den_is_beating n [encH h, x] = some (.d (.bool (vBeat h x))) := by
  (refine den0i (r0 := [_, _, _]) rfl ?_; unfold m_is_beating; try dsimp only)
  (repeat' first|with_reducible refine yW (is_tuple_ok _ _ _ _) ?_|infer_instance|fail)
  refine wp_ite (fun e => ?_) (fun e => ?_)
  · have e0 := e
    obtain ⟨ms, rfl, _, h2⟩ := isTup_true e
    (repeat' first|infer_instance|fail)
    refine stp_boolD _ (fun y => vMeet h y) (fun x hx => ?_) ⟨?_, ?_⟩
    · refine stp_out (stp_cT (by (repeat' first|(with_reducible first|apply za|apply zb|apply zc|apply zd|apply ze|apply zf|apply zg|apply zh|apply zi|apply zj|apply zk)|((with_reducible apply yV);rfl)|with_reducible rfl)) ?_)
      (repeat' first|with_reducible refine yW (is_meeting_ok _) ?_|infer_instance|fail)
      exact ⟨rfl, rfl⟩
    · simp; omega
    (repeat' first|infer_instance|fail)
    simp only [vBeat, e0, Bool.true_and, List.all_map, Function.comp_def, id]
  · (repeat' first|infer_instance|fail)
    cases x with
    | tuple ms => simp only [vBeat, e, Bool.false_and]
    | _ => rfl
theorem is_planned_ok (x : PyData) : den_is_planned n [encH h, x] = some (.d (.bool (vPlan h x))) := by
  (refine den0i (r0 := [_, _, _]) rfl ?_; unfold m_is_planned; try dsimp only)
  (repeat' first|with_reducible refine yW (is_tuple_ok _ _ _ _) ?_|infer_instance|fail)
  refine wp_ite (fun e => ?_) (fun e => ?_)
  · have e0 := e
    obtain ⟨ms, rfl, _, h2⟩ := isTup_true e
    (repeat' first|infer_instance|fail)
    refine stp_boolD _ (fun y => vBeat h y) (fun x hx => ?_) ⟨?_, ?_⟩
    · refine stp_out (stp_cT (by (repeat' first|(with_reducible first|apply za|apply zb|apply zc|apply zd|apply ze|apply zf|apply zg|apply zh|apply zi|apply zj|apply zk)|((with_reducible apply yV);rfl)|with_reducible rfl)) ?_)
      (repeat' first|with_reducible refine yW (is_beating_ok _) ?_|infer_instance|fail)
      exact ⟨rfl, rfl⟩
    · simp; omega
    (repeat' first|infer_instance|fail)
    simp only [vPlan, e0, Bool.true_and, List.all_map, Function.comp_def, id]
  · (repeat' first|infer_instance|fail)
    cases x with
    | tuple ms => simp only [vPlan, e, Bool.false_and]
    | _ => rfl
theorem vBeat_enc {b : Beat} (B : BOk h b) : vBeat h (encB b) = true := by
  have := B.len
  simp only [vBeat, isTup, List.length_map, Bool.and_eq_true, decide_eq_true_eq]
  refine ⟨⟨by omega, by omega⟩, ?_⟩
  rw [List.all_map, List.all_eq_true]
  intro m hm
  exact vMeet_enc (B.ok m hm)
theorem vPlan_enc {p : Plan} (P : POk h p) : vPlan h (encP p) = true := by
  have := P.l1; have := P.l4
  simp only [vPlan, isTup, List.length_map, Bool.and_eq_true, decide_eq_true_eq]
  refine ⟨⟨by omega, by omega⟩, ?_⟩
  rw [List.all_map, List.all_eq_true]
  intro m hm
  exact vBeat_enc (P.ok m hm)
theorem need_beat_ok {b : Beat} (B : BOk h b) : den_need_beat n [encH h, encB b] = some (.d .none) := by
  (refine den0iN (r0 := [_, _]) rfl ?_; unfold m_need_beat; try dsimp only)
  have e := vBeat_enc B
  (repeat' first|with_reducible refine yW ((is_beating_ok _).trans (by rw [e])) ?_|infer_instance|fail)
  rfl
theorem need_plan_ok {p : Plan} (P : POk h p) : den_need_plan n [encH h, encP p] = some (.d .none) := by
  (refine den0iN (r0 := [_, _]) rfl ?_; unfold m_need_plan; try dsimp only)
  have e := vPlan_enc P
  (repeat' first|with_reducible refine yW ((is_planned_ok _).trans (by rw [e])) ?_|infer_instance|fail)
  rfl
theorem need_count_ok {k : Int} (h0 : 0 ≤ k) (h1 : k ≤ 1000000000000000000) : den_need_count n [.int k] = some (.d .none) := by
  (refine den0iN (r0 := [_]) rfl ?_; unfold m_need_count; try dsimp only)
  have e : isFrom (.int k) 0 1000000000000000000 = true := by simp only [isFrom, Bool.and_eq_true, decide_eq_true_eq]; omega
  (repeat' first|with_reducible refine yW ((is_from_ok _ _ _ _).trans (by rw [e])) ?_|infer_instance|fail)
  rfl
/-! a beat -/
abbrev Us := List (Nat × Nat)
def stepU (h : Hall) (z : Stand × Us) (m : Meet) : Stand × Us := if lessonB h z.1 m = true then (taughtS h z.1 m, z.2 ++ [(m.a, m.t), (m.b, m.t)]) else z
def runB (h : Hall) (s : Stand) (ms : List Meet) : Stand × Us := ms.foldl (stepU h) (s, [])
theorem runB_snoc (ms : List Meet) : runB h s (ms ++ [m]) = stepU h (runB h s ms) m := by simp [runB]
theorem runB_fst (ms : List Meet) : (runB h s ms).1 = meets h s ms := by
  have : ∀ (ms : List Meet) (z : Stand × Us), (ms.foldl (stepU h) z).1 = ms.foldl (meetS h) z.1 := by
    intro ms
    induction ms with
    | nil => intro z; rfl
    | cons m ms ih =>
      intro z
      rw [List.foldl_cons, List.foldl_cons, ih]
      congr 1
      unfold stepU meetS
      split <;> rfl
  exact this ms (s, [])
theorem runB_ok (H : HOk h) (S : SOk h s) {ms : List Meet} (M : ∀ m ∈ ms, MOk h m) : SOk h (runB h s ms).1 := by
  rw [runB_fst]
  exact meets_ok H S M
theorem runB_us {ms : List Meet} (M : ∀ m ∈ ms, MOk h m) : (runB h s ms).2.length ≤ 2 * ms.length ∧ ∀ p ∈ (runB h s ms).2, p.1 < h.folk ∧ p.2 < h.things.length := by
  have : ∀ (ms : List Meet) (z : Stand × Us), (∀ m ∈ ms, MOk h m) → (∀ p ∈ z.2, p.1 < h.folk ∧ p.2 < h.things.length) → (ms.foldl (stepU h) z).2.length ≤ z.2.length + 2 * ms.length ∧ ∀ p ∈ (ms.foldl (stepU h) z).2, p.1 < h.folk ∧ p.2 < h.things.length := by
    intro ms
    induction ms with
    | nil => intro z _ hz; exact ⟨by simp, hz⟩
    | cons m ms ih =>
      intro z hm hz
      rw [List.foldl_cons]
      have M0 := hm m (by simp)
      obtain ⟨h1, h2⟩ := ih (stepU h z m) (fun x hx => hm x (by simp [hx])) (by
        intro p hp
        unfold stepU at hp
        split at hp
        · simp only [List.mem_append, List.mem_cons, List.not_mem_nil, or_false] at hp
          rcases hp with hp | rfl | rfl
          · exact hz p hp
          · exact ⟨M0.a, M0.t⟩
          · exact ⟨M0.b, M0.t⟩
        · exact hz p hp)
      refine ⟨Nat.le_trans h1 ?_, h2⟩
      unfold stepU
      split <;> simp <;> omega
  have := this ms (s, []) M (by simp)
  simpa [runB] using this
def lossOf (h : Hall) (j : Nat) : Int := match h.things[j]? with
  | some l => l.loss
  | none => 0
def mx0 (v : Int) : Int := if v > 0 then v else 0
def waneL (h : Hall) (s : Stand) (us : Us) (i j : Nat) : Int := if us.contains (i, j) = true then lev s i j else mx0 (lev s i j - lossOf h j)
def waneS (h : Hall) (s : Stand) (us : Us) : Stand := (List.range h.folk).map fun i => (List.range h.things.length).map fun j => waneL h s us i j
def behindS (h : Hall) (s : Stand) (b : Beat) : Stand := waneS h (runB h s b).1 (runB h s b).2
theorem lev_rows {f : Nat → Nat → Int} {i j : Nat} (hi : i < h.folk) (hj : j < h.things.length) : lev ((List.range h.folk).map fun i => (List.range h.things.length).map fun j => f i j) i j = f i j := by
  refine lev_of (r := (List.range h.things.length).map fun j => f i j) ?_ ?_
  · rw [List.getElem?_map, List.getElem?_range hi]; rfl
  · rw [List.getElem?_map, List.getElem?_range hj]; rfl
theorem rows_ok {f : Nat → Nat → Int} (hf : ∀ i j l, i < h.folk → h.things[j]? = some l → 0 ≤ f i j ∧ f i j ≤ l.cap) : SOk h ((List.range h.folk).map fun i => (List.range h.things.length).map fun j => f i j) := by
  refine ⟨by simp, fun r hr => ?_, fun r hr k v l hv hl => ?_⟩
  · obtain ⟨i, _, rfl⟩ := List.mem_map.1 hr
    simp
  · obtain ⟨i, hi, rfl⟩ := List.mem_map.1 hr
    rw [List.getElem?_map, List.getElem?_range (some_lt hl)] at hv
    cases hv
    exact hf i k l (List.mem_range.1 hi) hl
theorem lev_wane {us : Us} {i j : Nat} (hi : i < h.folk) (hj : j < h.things.length) : lev (waneS h s us) i j = waneL h s us i j := lev_rows hi hj
theorem wane_ok (H : HOk h) (S : SOk h s) (us : Us) : SOk h (waneS h s us) := by
  refine rows_ok fun i j l hi hl => ?_
  have h1 := S.rng hi hl
  have h2 := (H.lo _ _ hl).l0
  unfold waneL lossOf mx0
  rw [hl]
  simp only
  split
  · exact h1
  · split <;> omega
theorem behind_ok (H : HOk h) (S : SOk h s) {b : Beat} (B : BOk h b) : SOk h (behindS h s b) := wane_ok H (runB_ok H S B.ok) _
def UsD (us : Us) (kvs : Rw) : Prop := kvs.length ≤ us.length ∧ ∀ i j, (dGet kvs (kk i j)).isSome = us.contains (i, j)
theorem usd_put {us : Us} {kvs : Rw} (U : UsD us kvs) (a b : Nat) (x : PyData) : UsD (us ++ [(a, b)]) (dPut kvs (kk a b) (.tuple [.int a, .int b]) x) := by
  refine ⟨?_, fun i j => ?_⟩
  · have := dPut_len (kvs := kvs) (k := kk a b) (kd := .tuple [.int a, .int b]) (v := x)
    have := U.1
    simp
    omega
  · rw [dGet_put (keyOf_nn _ _)]
    by_cases e : kk a b = kk i j
    · rw [if_pos e]
      obtain ⟨rfl, rfl⟩ := kk_inj.1 e
      simp
    · rw [if_neg e, U.2]
      have : ¬ ((i, j) = (a, b)) := by
        intro e2
        cases e2
        exact e rfl
      rw [Bool.eq_iff_iff]
      simp only [List.contains_iff_mem, List.mem_append, List.mem_singleton, this, or_false]
theorem nodup_pairsN (f k : Nat) : (pairsN f k).Nodup := by
  induction f with
  | zero => exact List.nodup_nil
  | succ f ih =>
    rw [pairsN_succ, List.nodup_append]
    refine ⟨ih, ?_, ?_⟩
    · exact List.Pairwise.map _ (fun a b hab => by intro e; exact hab (Prod.mk.inj e).2) List.nodup_range
    · intro a ha b hb e
      subst e
      have := mem_pairsN.1 ha
      obtain ⟨j, _, rfl⟩ := List.mem_map.1 hb
      simp only at this
      omega
theorem eqv_NN (p q : Nat × Nat) : PyData.eqv (encNN p) (encNN q) = decide (p = q) := by
  obtain ⟨a, b⟩ := p
  obtain ⟨c, d⟩ := q
  simp only [PyData.eqv, PyData.eqvAll, Bool.and_true]
  rw [Bool.eq_iff_iff]
  simp only [Bool.and_eq_true, beq_iff_eq, decide_eq_true_eq, Prod.mk.injEq]
  omega
theorem any_NN (us : Us) (p : Nat × Nat) : ((us.map encNN).any fun z => PyData.eqv z (encNN p)) = us.contains p := by
  rw [List.any_map, Bool.eq_iff_iff]
  simp only [Function.comp_def, eqv_NN, List.any_eq_true, decide_eq_true_eq, List.contains_iff_mem]
  constructor
  · rintro ⟨x, hx, rfl⟩; exact hx
  · intro hx; exact ⟨p, hx, rfl⟩
theorem shp_NN (p : Nat × Nat) : Shp 2 (encNN p) := shp_tup (by
  intro x hx
  simp only [List.mem_cons, List.not_mem_nil, or_false] at hx
  rcases hx with rfl | rfl <;> exact shp_int)
theorem wp_ninU {us : Us} {p : Nat × Nat} {Q : Bool → Rho → Prop} (q : Q (!us.contains p) r) : wp (lft (ninD (encNN p) (.list (us.map encNN)))) r Q := by
  refine wp_lft ?_ q
  show (if SeqAt.shaped (encNN p) && SeqAt.shaped (.list (us.map encNN)) then some (!(us.map encNN).any fun z => PyData.eqv z (encNN p)) else none) = _
  rw [shaped_of (shp_mono (shp_NN p) (by decide)), shaped_of (shp_mono (shp_listM shp_NN) (by decide)), any_NN]
  rfl
/-! drawn beats and plans -/
def Bt (h : Hall) (k : Nat) (en e1 : Ent) : Prop := (∃ b, en = .d (encB b) ∧ BOk h b) ∧ Dk k e1
theorem law_beat_ok {e0 : Ent} {k : Nat} (H : HOk h) (D : Dk k e0) (hk : k ≤ 1000000) : ∃ en e1, den_law_beat n [] e0 [encH h] = some (en, e1) ∧ Bt h (k + 13) en e1 := by
  (refine den1iE (r0 := [_, _, _]) rfl ?_; unfold m_law_beat; try dsimp only)
  (repeat' first|infer_instance|fail)
  refine dc_of (law_pick_ok D (by omega) (by decide) (by decide)) (by (repeat' first|(with_reducible first|apply za|apply zb|apply zc|apply zd|apply ze|apply zf|apply zg|apply zh|apply zi|apply zj|apply zk)|((with_reducible apply yV);rfl)|with_reducible rfl)) D.own ?_
  rintro en e1 ⟨⟨v, rfl, hv⟩, D1⟩
  (repeat' first|infer_instance|fail)
  refine stp_fold encN _ (fun dn acc r => ∃ e ms, Dk (k + 1 + 3 * dn.length) e ∧ ms.length = dn.length ∧ acc = ms.map encM ∧ (∀ m ∈ ms, MOk h m) ∧ r = [some e, some (.d (encH h)), none]) ⟨e1, [], D1, rfl, rfl, by simp, rfl⟩ ?_ ?_
  · rintro dn x rs acc r e ⟨e2, ms, D2, hl, rfl, hm, rfl⟩
    have hdn : dn.length < v := by
      have := congrArg List.length e
      simp at this
      omega
    refine stp_cT (by (repeat' first|(with_reducible first|apply za|apply zb|apply zc|apply zd|apply ze|apply zf|apply zg|apply zh|apply zi|apply zj|apply zk)|((with_reducible apply yV);rfl)|with_reducible rfl)) ?_
    (repeat' first|infer_instance|fail)
    refine dc_of (law_meeting_ok H D2 (by omega)) (by (repeat' first|(with_reducible first|apply za|apply zb|apply zc|apply zd|apply ze|apply zf|apply zg|apply zh|apply zi|apply zj|apply zk)|((with_reducible apply yV);rfl)|with_reducible rfl)) D2.own ?_
    rintro en e3 ⟨⟨m, rfl, M⟩, D3⟩
    (repeat' first|infer_instance|fail)
    refine ⟨e3, ms ++ [m], D3.mono (by simp; omega), by simp [hl], by simp, ?_, rfl⟩
    intro y hy
    rcases List.mem_append.1 hy with hy | hy
    · exact hm y hy
    · simp at hy; subst hy; exact M
  · rintro acc r ⟨e2, ms, D2, hl, rfl, hm, rfl⟩
    rw [List.length_range] at hl
    refine ⟨by simp; omega, ?_⟩
    (repeat' first|infer_instance|fail)
    exact en1_of (by (repeat' first|(with_reducible first|apply za|apply zb|apply zc|apply zd|apply ze|apply zf|apply zg|apply zh|apply zi|apply zj|apply zk)|((with_reducible apply yV);rfl)|with_reducible rfl)) D2.own ⟨⟨ms, rfl, by omega, hm⟩, D2.mono (by simp; omega)⟩
def Pln (h : Hall) (k : Nat) (en e1 : Ent) : Prop := (∃ p, en = .d (encP p) ∧ POk h p) ∧ Dk k e1
theorem law_plan_ok {e0 : Ent} {k : Nat} (H : HOk h) (D : Dk k e0) (hk : k ≤ 100000) : ∃ en e1, den_law_plan n [] e0 [encH h] = some (en, e1) ∧ Pln h (k + 53) en e1 := by
  (refine den1iE (r0 := [_, _, _]) rfl ?_; unfold m_law_plan; try dsimp only)
  (repeat' first|infer_instance|fail)
  refine dc_of (law_pick_ok D (by omega) (by decide) (by decide)) (by (repeat' first|(with_reducible first|apply za|apply zb|apply zc|apply zd|apply ze|apply zf|apply zg|apply zh|apply zi|apply zj|apply zk)|((with_reducible apply yV);rfl)|with_reducible rfl)) D.own ?_
  rintro en e1 ⟨⟨v, rfl, hv⟩, D1⟩
  (repeat' first|infer_instance|fail)
  rw [show (1 + (v : Int)) = ((1 + v : Nat) : Int) by omega]
  refine wp_rng (by omega) ?_
  (repeat' first|infer_instance|fail)
  refine stp_fold encN _ (fun dn acc r => ∃ e bs, Dk (k + 1 + 13 * dn.length) e ∧ bs.length = dn.length ∧ acc = bs.map encB ∧ (∀ b ∈ bs, BOk h b) ∧ r = [some e, some (.d (encH h)), none]) ⟨e1, [], D1, rfl, rfl, by simp, rfl⟩ ?_ ?_
  · rintro dn x rs acc r e ⟨e2, ms, D2, hl, rfl, hm, rfl⟩
    have hdn : dn.length < 1 + v := by
      have := congrArg List.length e
      simp at this
      omega
    refine stp_cT (by (repeat' first|(with_reducible first|apply za|apply zb|apply zc|apply zd|apply ze|apply zf|apply zg|apply zh|apply zi|apply zj|apply zk)|((with_reducible apply yV);rfl)|with_reducible rfl)) ?_
    (repeat' first|infer_instance|fail)
    refine dc_of (law_beat_ok H D2 (by omega)) (by (repeat' first|(with_reducible first|apply za|apply zb|apply zc|apply zd|apply ze|apply zf|apply zg|apply zh|apply zi|apply zj|apply zk)|((with_reducible apply yV);rfl)|with_reducible rfl)) D2.own ?_
    rintro en e3 ⟨⟨m, rfl, M⟩, D3⟩
    (repeat' first|infer_instance|fail)
    refine ⟨e3, ms ++ [m], D3.mono (by simp; omega), by simp [hl], by simp, ?_, rfl⟩
    intro y hy
    rcases List.mem_append.1 hy with hy | hy
    · exact hm y hy
    · simp at hy; subst hy; exact M
  · rintro acc r ⟨e2, ms, D2, hl, rfl, hm, rfl⟩
    rw [List.length_range] at hl
    refine ⟨by simp; omega, ?_⟩
    (repeat' first|infer_instance|fail)
    exact en1_of (by (repeat' first|(with_reducible first|apply za|apply zb|apply zc|apply zd|apply ze|apply zf|apply zg|apply zh|apply zi|apply zj|apply zk)|((with_reducible apply yV);rfl)|with_reducible rfl)) D2.own ⟨⟨ms, rfl, by omega, by omega, hm⟩, D2.mono (by simp; omega)⟩
end G65
namespace G65
open PySem PySem.Spec PyProof.Rows L2
local macro_rules
  | `(tactic| infer_instance) => `(tactic| first|(with_reducible first|apply za|apply zb|apply zc|apply zd|apply ze|apply zf|apply zg|apply zh|apply zi|apply zj|apply zk|apply zl|apply zm|apply zn|apply zo|apply zp|apply zq|apply zr|apply zs|apply zt|apply zu|apply zv|apply zw|apply zx|apply zy|apply zz|apply z0|apply z1|apply z2|apply z3|apply z4|apply z5|apply z6|apply z7|apply z8|apply z9|apply zA|apply zB|apply zC|apply zD|apply zE|apply zF|apply zG|apply zH|apply zI|apply zJ|apply zK|apply zL|apply zM|apply zN|apply zO|apply zP|apply zQ|apply zR|apply zS|apply zT|apply zU|apply zV|apply zW|apply zX|apply zY|apply zZ|apply ya|apply yb|apply yc|apply yd|apply ye|apply yf|apply yg|apply yh|apply yi|apply yj|apply yk|apply yl|apply ym|apply yn|apply yo|apply yp|apply yq|apply yr|apply ys|apply yt|apply yu|apply yv|apply yw|apply yx|apply yy|apply yz|apply y0|apply y1|apply y2|apply y3)|((with_reducible apply y4);(·(with_reducible repeat' first|apply zg|apply zh)))|((with_reducible apply y5);(·(with_reducible repeat' first|apply zg|apply zh)))|((with_reducible apply y6);(·(with_reducible repeat' first|apply zg|apply zh)))|((with_reducible apply y7);(·(with_reducible repeat' first|apply zg|apply zh)))|((with_reducible apply y8);(·(with_reducible repeat' first|apply zg|apply zh)))|((with_reducible apply y9);(·(with_reducible repeat' first|apply zg|apply zh)))|((with_reducible apply yA);(·(with_reducible repeat' first|apply zg|apply zh)))|((with_reducible apply yC);(·(with_reducible repeat' first|apply zg|apply zh)))|((with_reducible apply yD);(·(with_reducible repeat' first|apply zg|apply zh)))|((with_reducible apply yE);(·(with_reducible repeat' first|apply zg|apply zh)))|((with_reducible apply yF);(·(with_reducible repeat' first|apply zg|apply zh)))|((with_reducible apply yG);(·(with_reducible repeat' first|apply zg|apply zh)))|((with_reducible apply yB);(·(with_reducible repeat' first|apply zg|apply zh));(·rfl))|((with_reducible apply yH);rfl)|((with_reducible apply yI);rfl)|((with_reducible apply yV);rfl)|((with_reducible apply yJ))|((with_reducible apply yK))|((with_reducible apply yL);exact Nat.le_of_ble_eq_true rfl)|((with_reducible apply yM);assumption)|((with_reducible apply yN);assumption)|((with_reducible apply yO);(·omega))|((with_reducible apply yP);(·omega))|((with_reducible apply yQ);(·omega))|((with_reducible apply yR);(·omega))|((with_reducible apply yS);(·omega))|((with_reducible apply yT);rfl)|((with_reducible apply yU);rfl))
variable {h : Hall} {s : Stand} {m : Meet} {n : Nat} {r : Rho} {i : Nat} {p : Plan}
theorem wp_xSeq {m : M Out} {x : Rho → Bool} (q : wp m r fun o r' => o = .nx ∧ x r' = true) : xSeq m x r = true := by
  obtain ⟨o, r', e, rfl, q⟩ := q
  unfold xSeq
  rw [e]
  exact q
theorem wp_xIf {m : M Bool} {x : Rho → Bool} (q : wp m r fun b r' => b = true ∧ x r' = true) : xIf m x r = true := by
  obtain ⟨o, r', e, rfl, q⟩ := q
  unfold xIf
  rw [e]
  exact q
theorem wp_xCall {g : M (List PyData)} {exc : List PyData → Bool} (q : wp g r fun ds _ => exc ds = true) : xCall g exc r = true := by
  obtain ⟨ds, r', e, q⟩ := q
  unfold xCall
  rw [e]
  exact q
theorem excI {m : Nat} {x : Rho → Bool} {ds : List PyData} {r0 : Rho} (e : ds.map (fun d => some (Ent.d d)) ++ List.replicate (m - ds.length) none = r0) (q : x r0 = true) : runX m x ds = true := by
  subst e
  exact q
theorem need_meeting_ok (M : MOk h m) : den_need_meeting n [encH h, encM m] = some (.d .none) := by
  (refine den0iN (r0 := [_, _]) rfl ?_; unfold m_need_meeting; try dsimp only)
  have e := vMeet_enc M
  (repeat' first|with_reducible refine yW ((is_meeting_ok _).trans (by rw [e])) ?_|infer_instance|fail)
  rfl
theorem need_hall_x {x : PyData} (e : vHall x = false) : exc_need_hall n [x] = true := by
  refine excI (r0 := [_]) rfl ?_
  unfold xm_need_hall
  refine wp_xIf ?_
  (repeat' first|with_reducible refine yW ((is_hall_ok _ _).trans (by rw [e])) ?_|infer_instance|fail)
  exact ⟨rfl, rfl⟩
theorem need_stand_x (H : HOk h) {x : PyData} (e : vStand h x = false) : exc_need_stand n [encH h, x] = true := by
  refine excI (r0 := [_, _]) rfl ?_
  unfold xm_need_stand
  refine wp_xIf ?_
  (repeat' first|with_reducible refine yW ((is_standing_ok H _).trans (by rw [e])) ?_|infer_instance|fail)
  exact ⟨rfl, rfl⟩
theorem need_beat_x {x : PyData} (e : vBeat h x = false) : exc_need_beat n [encH h, x] = true := by
  refine excI (r0 := [_, _]) rfl ?_
  unfold xm_need_beat
  refine wp_xIf ?_
  (repeat' first|with_reducible refine yW ((is_beating_ok _).trans (by rw [e])) ?_|infer_instance|fail)
  exact ⟨rfl, rfl⟩
theorem need_plan_x {x : PyData} (e : vPlan h x = false) : exc_need_plan n [encH h, x] = true := by
  refine excI (r0 := [_, _]) rfl ?_
  unfold xm_need_plan
  refine wp_xIf ?_
  (repeat' first|with_reducible refine yW ((is_planned_ok _).trans (by rw [e])) ?_|infer_instance|fail)
  exact ⟨rfl, rfl⟩
theorem need_thing_x {x : PyData} (e : isFrom x 0 ((h.things.length : Int) - 1) = false) : exc_need_thing n [encH h, x] = true := by
  refine excI (r0 := [_, _]) rfl ?_
  unfold xm_need_thing
  refine wp_xIf ?_
  (repeat' first|with_reducible refine yW (is_from_ok _ _ _ _) ?_|infer_instance|fail)
  rw [List.length_map, e]
  exact ⟨rfl, rfl⟩
theorem need_count_x {x : PyData} (e : isFrom x 0 1000000000000000000 = false) : exc_need_count n [x] = true := by
  refine excI (r0 := [_]) rfl ?_
  unfold xm_need_count
  refine wp_xIf ?_
  (repeat' first|with_reducible refine yW ((is_from_ok _ _ _ _).trans (by rw [e])) ?_|infer_instance|fail)
  exact ⟨rfl, rfl⟩
theorem need_meeting_x {x : PyData} (e : vMeet h x = false) : exc_need_meeting n [encH h, x] = true := by
  refine excI (r0 := [_, _]) rfl ?_
  unfold xm_need_meeting
  refine wp_xIf ?_
  (repeat' first|with_reducible refine yW ((is_meeting_ok _).trans (by rw [e])) ?_|infer_instance|fail)
  exact ⟨rfl, rfl⟩
theorem x_by_beat_NoHall0  {x a_stand a_beat : PyData} (e : vHall x = false) : exc_by_beat_NoHall n [x, a_stand, a_beat] = true := by
  refine excI (r0 := [_, _, _]) rfl ?_
  unfold xm_by_beat_NoHall
  refine wp_xCall ?_
  (repeat' first|infer_instance|fail)
  exact need_hall_x e
theorem x_by_beat_NoStand0 (H : HOk h) {x a_beat : PyData} (e : vStand h x = false) : exc_by_beat_NoStand n [encH h, x, a_beat] = true := by
  refine excI (r0 := [_, _, _]) rfl ?_
  unfold xm_by_beat_NoStand
  refine wp_xSeq ?_
  (repeat' first|with_reducible refine yW (need_hall_ok H) ?_|infer_instance|fail)
  refine ⟨rfl, ?_⟩
  refine wp_xCall ?_
  (repeat' first|infer_instance|fail)
  exact need_stand_x H e
theorem x_by_beat_NoBeat0 (H : HOk h) (S : SOk h s) {x : PyData} (e : vBeat h x = false) : exc_by_beat_NoBeat n [encH h, encS s, x] = true := by
  refine excI (r0 := [_, _, _]) rfl ?_
  unfold xm_by_beat_NoBeat
  refine wp_xSeq ?_
  (repeat' first|with_reducible refine yW (need_hall_ok H) ?_|infer_instance|fail)
  refine ⟨rfl, ?_⟩
  refine wp_xSeq ?_
  (repeat' first|with_reducible refine yW (need_stand_ok H S) ?_|infer_instance|fail)
  refine ⟨rfl, ?_⟩
  refine wp_xCall ?_
  (repeat' first|infer_instance|fail)
  exact need_beat_x e
theorem x_by_plan_NoHall0  {x a_stand a_plan a_beats : PyData} (e : vHall x = false) : exc_by_plan_NoHall n [x, a_stand, a_plan, a_beats] = true := by
  refine excI (r0 := [_, _, _, _, _, _]) rfl ?_
  unfold xm_by_plan_NoHall
  refine wp_xCall ?_
  (repeat' first|infer_instance|fail)
  exact need_hall_x e
theorem x_by_plan_NoStand0 (H : HOk h) {x a_plan a_beats : PyData} (e : vStand h x = false) : exc_by_plan_NoStand n [encH h, x, a_plan, a_beats] = true := by
  refine excI (r0 := [_, _, _, _, _, _]) rfl ?_
  unfold xm_by_plan_NoStand
  refine wp_xSeq ?_
  (repeat' first|with_reducible refine yW (need_hall_ok H) ?_|infer_instance|fail)
  refine ⟨rfl, ?_⟩
  refine wp_xCall ?_
  (repeat' first|infer_instance|fail)
  exact need_stand_x H e
theorem x_by_plan_NoPlan0 (H : HOk h) (S : SOk h s) {x a_beats : PyData} (e : vPlan h x = false) : exc_by_plan_NoPlan n [encH h, encS s, x, a_beats] = true := by
  refine excI (r0 := [_, _, _, _, _, _]) rfl ?_
  unfold xm_by_plan_NoPlan
  refine wp_xSeq ?_
  (repeat' first|with_reducible refine yW (need_hall_ok H) ?_|infer_instance|fail)
  refine ⟨rfl, ?_⟩
  refine wp_xSeq ?_
  (repeat' first|with_reducible refine yW (need_stand_ok H S) ?_|infer_instance|fail)
  refine ⟨rfl, ?_⟩
  refine wp_xCall ?_
  (repeat' first|infer_instance|fail)
  exact need_plan_x e
theorem x_by_plan_NoCount0 (H : HOk h) (S : SOk h s) (P : POk h p) {x : PyData} (e : isFrom x 0 1000000000000000000 = false) : exc_by_plan_NoCount n [encH h, encS s, encP p, x] = true := by
  refine excI (r0 := [_, _, _, _, _, _]) rfl ?_
  unfold xm_by_plan_NoCount
  refine wp_xSeq ?_
  (repeat' first|with_reducible refine yW (need_hall_ok H) ?_|infer_instance|fail)
  refine ⟨rfl, ?_⟩
  refine wp_xSeq ?_
  (repeat' first|with_reducible refine yW (need_stand_ok H S) ?_|infer_instance|fail)
  refine ⟨rfl, ?_⟩
  refine wp_xSeq ?_
  (repeat' first|with_reducible refine yW (need_plan_ok P) ?_|infer_instance|fail)
  refine ⟨rfl, ?_⟩
  refine wp_xCall ?_
  (repeat' first|infer_instance|fail)
  exact need_count_x e
theorem x_comes_round_NoHall0  {x a_stand a_plan : PyData} (e : vHall x = false) : exc_comes_round_NoHall n [x, a_stand, a_plan] = true := by
  refine excI (r0 := [_, _, _, _, _]) rfl ?_
  unfold xm_comes_round_NoHall
  refine wp_xCall ?_
  (repeat' first|infer_instance|fail)
  exact need_hall_x e
theorem x_comes_round_NoStand0 (H : HOk h) {x a_plan : PyData} (e : vStand h x = false) : exc_comes_round_NoStand n [encH h, x, a_plan] = true := by
  refine excI (r0 := [_, _, _, _, _]) rfl ?_
  unfold xm_comes_round_NoStand
  refine wp_xSeq ?_
  (repeat' first|with_reducible refine yW (need_hall_ok H) ?_|infer_instance|fail)
  refine ⟨rfl, ?_⟩
  refine wp_xCall ?_
  (repeat' first|infer_instance|fail)
  exact need_stand_x H e
theorem x_comes_round_NoPlan0 (H : HOk h) (S : SOk h s) {x : PyData} (e : vPlan h x = false) : exc_comes_round_NoPlan n [encH h, encS s, x] = true := by
  refine excI (r0 := [_, _, _, _, _]) rfl ?_
  unfold xm_comes_round_NoPlan
  refine wp_xSeq ?_
  (repeat' first|with_reducible refine yW (need_hall_ok H) ?_|infer_instance|fail)
  refine ⟨rfl, ?_⟩
  refine wp_xSeq ?_
  (repeat' first|with_reducible refine yW (need_stand_ok H S) ?_|infer_instance|fail)
  refine ⟨rfl, ?_⟩
  refine wp_xCall ?_
  (repeat' first|infer_instance|fail)
  exact need_plan_x e
theorem x_kept_from_NoHall0  {x a_stand a_plan : PyData} (e : vHall x = false) : exc_kept_from_NoHall n [x, a_stand, a_plan] = true := by
  refine excI (r0 := [_, _, _]) rfl ?_
  unfold xm_kept_from_NoHall
  refine wp_xCall ?_
  (repeat' first|infer_instance|fail)
  exact need_hall_x e
theorem x_kept_from_NoStand0 (H : HOk h) {x a_plan : PyData} (e : vStand h x = false) : exc_kept_from_NoStand n [encH h, x, a_plan] = true := by
  refine excI (r0 := [_, _, _]) rfl ?_
  unfold xm_kept_from_NoStand
  refine wp_xSeq ?_
  (repeat' first|with_reducible refine yW (need_hall_ok H) ?_|infer_instance|fail)
  refine ⟨rfl, ?_⟩
  refine wp_xCall ?_
  (repeat' first|infer_instance|fail)
  exact need_stand_x H e
theorem x_kept_from_NoPlan0 (H : HOk h) (S : SOk h s) {x : PyData} (e : vPlan h x = false) : exc_kept_from_NoPlan n [encH h, encS s, x] = true := by
  refine excI (r0 := [_, _, _]) rfl ?_
  unfold xm_kept_from_NoPlan
  refine wp_xSeq ?_
  (repeat' first|with_reducible refine yW (need_hall_ok H) ?_|infer_instance|fail)
  refine ⟨rfl, ?_⟩
  refine wp_xSeq ?_
  (repeat' first|with_reducible refine yW (need_stand_ok H S) ?_|infer_instance|fail)
  refine ⟨rfl, ?_⟩
  refine wp_xCall ?_
  (repeat' first|infer_instance|fail)
  exact need_plan_x e
theorem x_lessons_NoHall0  {x a_stand a_wish : PyData} (e : vHall x = false) : exc_lessons_NoHall n [x, a_stand, a_wish] = true := by
  refine excI (r0 := [_, _, _, _, _, _, _, _, _, _]) rfl ?_
  unfold xm_lessons_NoHall
  refine wp_xCall ?_
  (repeat' first|infer_instance|fail)
  exact need_hall_x e
theorem x_lessons_NoStand0 (H : HOk h) {x a_wish : PyData} (e : vStand h x = false) : exc_lessons_NoStand n [encH h, x, a_wish] = true := by
  refine excI (r0 := [_, _, _, _, _, _, _, _, _, _]) rfl ?_
  unfold xm_lessons_NoStand
  refine Bool.or_eq_true_iff.2 (.inl ?_)
  refine wp_xSeq ?_
  (repeat' first|with_reducible refine yW (need_hall_ok H) ?_|infer_instance|fail)
  refine ⟨rfl, ?_⟩
  refine wp_xCall ?_
  (repeat' first|infer_instance|fail)
  exact need_stand_x H e
theorem x_lessons_NoStand1 (H : HOk h) (S : SOk h s) {x : PyData} (e : vStand h x = false) : exc_lessons_NoStand n [encH h, encS s, x] = true := by
  refine excI (r0 := [_, _, _, _, _, _, _, _, _, _]) rfl ?_
  unfold xm_lessons_NoStand
  refine Bool.or_eq_true_iff.2 (.inr ?_)
  refine wp_xSeq ?_
  (repeat' first|with_reducible refine yW (need_hall_ok H) ?_|infer_instance|fail)
  refine ⟨rfl, ?_⟩
  refine wp_xSeq ?_
  (repeat' first|with_reducible refine yW (need_stand_ok H S) ?_|infer_instance|fail)
  refine ⟨rfl, ?_⟩
  refine wp_xCall ?_
  (repeat' first|infer_instance|fail)
  exact need_stand_x H e
theorem x_is_shown_NoHall0  {x a_stand a_wish a_paper : PyData} (e : vHall x = false) : exc_is_shown_NoHall n [x, a_stand, a_wish, a_paper] = true := by
  refine excI (r0 := [_, _, _, _, _, _]) rfl ?_
  unfold xm_is_shown_NoHall
  refine wp_xCall ?_
  (repeat' first|infer_instance|fail)
  exact need_hall_x e
theorem x_is_shown_NoStand0 (H : HOk h) {x a_wish a_paper : PyData} (e : vStand h x = false) : exc_is_shown_NoStand n [encH h, x, a_wish, a_paper] = true := by
  refine excI (r0 := [_, _, _, _, _, _]) rfl ?_
  unfold xm_is_shown_NoStand
  refine Bool.or_eq_true_iff.2 (.inl ?_)
  refine wp_xSeq ?_
  (repeat' first|with_reducible refine yW (need_hall_ok H) ?_|infer_instance|fail)
  refine ⟨rfl, ?_⟩
  refine wp_xCall ?_
  (repeat' first|infer_instance|fail)
  exact need_stand_x H e
theorem x_is_shown_NoStand1 (H : HOk h) (S : SOk h s) {x a_paper : PyData} (e : vStand h x = false) : exc_is_shown_NoStand n [encH h, encS s, x, a_paper] = true := by
  refine excI (r0 := [_, _, _, _, _, _]) rfl ?_
  unfold xm_is_shown_NoStand
  refine Bool.or_eq_true_iff.2 (.inr ?_)
  refine wp_xSeq ?_
  (repeat' first|with_reducible refine yW (need_hall_ok H) ?_|infer_instance|fail)
  refine ⟨rfl, ?_⟩
  refine wp_xSeq ?_
  (repeat' first|with_reducible refine yW (need_stand_ok H S) ?_|infer_instance|fail)
  refine ⟨rfl, ?_⟩
  refine wp_xCall ?_
  (repeat' first|infer_instance|fail)
  exact need_stand_x H e
theorem x_ends_NoHall0  {x a_stand a_beat : PyData} (e : vHall x = false) : exc_ends_NoHall n [x, a_stand, a_beat] = true := by
  refine excI (r0 := [_, _, _, _]) rfl ?_
  unfold xm_ends_NoHall
  refine wp_xCall ?_
  (repeat' first|infer_instance|fail)
  exact need_hall_x e
theorem x_ends_NoStand0 (H : HOk h) {x a_beat : PyData} (e : vStand h x = false) : exc_ends_NoStand n [encH h, x, a_beat] = true := by
  refine excI (r0 := [_, _, _, _]) rfl ?_
  unfold xm_ends_NoStand
  refine wp_xSeq ?_
  (repeat' first|with_reducible refine yW (need_hall_ok H) ?_|infer_instance|fail)
  refine ⟨rfl, ?_⟩
  refine wp_xCall ?_
  (repeat' first|infer_instance|fail)
  exact need_stand_x H e
theorem x_ends_NoBeat0 (H : HOk h) (S : SOk h s) {x : PyData} (e : vBeat h x = false) : exc_ends_NoBeat n [encH h, encS s, x] = true := by
  refine excI (r0 := [_, _, _, _]) rfl ?_
  unfold xm_ends_NoBeat
  refine wp_xSeq ?_
  (repeat' first|with_reducible refine yW (need_hall_ok H) ?_|infer_instance|fail)
  refine ⟨rfl, ?_⟩
  refine wp_xSeq ?_
  (repeat' first|with_reducible refine yW (need_stand_ok H S) ?_|infer_instance|fail)
  refine ⟨rfl, ?_⟩
  refine wp_xCall ?_
  (repeat' first|infer_instance|fail)
  exact need_beat_x e
theorem x_ahead_NoHall0  {x a_stand a_beat : PyData} (e : vHall x = false) : exc_ahead_NoHall n [x, a_stand, a_beat] = true := by
  refine excI (r0 := [_, _, _, _]) rfl ?_
  unfold xm_ahead_NoHall
  refine wp_xCall ?_
  (repeat' first|infer_instance|fail)
  exact need_hall_x e
theorem x_ahead_NoStand0 (H : HOk h) {x a_beat : PyData} (e : vStand h x = false) : exc_ahead_NoStand n [encH h, x, a_beat] = true := by
  refine excI (r0 := [_, _, _, _]) rfl ?_
  unfold xm_ahead_NoStand
  refine wp_xSeq ?_
  (repeat' first|with_reducible refine yW (need_hall_ok H) ?_|infer_instance|fail)
  refine ⟨rfl, ?_⟩
  refine wp_xCall ?_
  (repeat' first|infer_instance|fail)
  exact need_stand_x H e
theorem x_ahead_NoBeat0 (H : HOk h) (S : SOk h s) {x : PyData} (e : vBeat h x = false) : exc_ahead_NoBeat n [encH h, encS s, x] = true := by
  refine excI (r0 := [_, _, _, _]) rfl ?_
  unfold xm_ahead_NoBeat
  refine wp_xSeq ?_
  (repeat' first|with_reducible refine yW (need_hall_ok H) ?_|infer_instance|fail)
  refine ⟨rfl, ?_⟩
  refine wp_xSeq ?_
  (repeat' first|with_reducible refine yW (need_stand_ok H S) ?_|infer_instance|fail)
  refine ⟨rfl, ?_⟩
  refine wp_xCall ?_
  (repeat' first|infer_instance|fail)
  exact need_beat_x e
theorem x_can_be_kept_NoHall0  {x a_plan : PyData} (e : vHall x = false) : exc_can_be_kept_NoHall n [x, a_plan] = true := by
  refine excI (r0 := [_, _]) rfl ?_
  unfold xm_can_be_kept_NoHall
  refine wp_xCall ?_
  (repeat' first|infer_instance|fail)
  exact need_hall_x e
theorem x_can_be_kept_NoPlan0 (H : HOk h) {x : PyData} (e : vPlan h x = false) : exc_can_be_kept_NoPlan n [encH h, x] = true := by
  refine excI (r0 := [_, _]) rfl ?_
  unfold xm_can_be_kept_NoPlan
  refine wp_xSeq ?_
  (repeat' first|with_reducible refine yW (need_hall_ok H) ?_|infer_instance|fail)
  refine ⟨rfl, ?_⟩
  refine wp_xCall ?_
  (repeat' first|infer_instance|fail)
  exact need_plan_x e
theorem x_greatest_NoHall0  {x a_plan : PyData} (e : vHall x = false) : exc_greatest_NoHall n [x, a_plan] = true := by
  refine excI (r0 := [_, _]) rfl ?_
  unfold xm_greatest_NoHall
  refine wp_xCall ?_
  (repeat' first|infer_instance|fail)
  exact need_hall_x e
theorem x_greatest_NoPlan0 (H : HOk h) {x : PyData} (e : vPlan h x = false) : exc_greatest_NoPlan n [encH h, x] = true := by
  refine excI (r0 := [_, _]) rfl ?_
  unfold xm_greatest_NoPlan
  refine wp_xSeq ?_
  (repeat' first|with_reducible refine yW (need_hall_ok H) ?_|infer_instance|fail)
  refine ⟨rfl, ?_⟩
  refine wp_xCall ?_
  (repeat' first|infer_instance|fail)
  exact need_plan_x e
theorem x_lost_paper_NoHall0  {x a_plan a_thing : PyData} (e : vHall x = false) : exc_lost_paper_NoHall n [x, a_plan, a_thing] = true := by
  refine excI (r0 := [_, _, _]) rfl ?_
  unfold xm_lost_paper_NoHall
  refine wp_xCall ?_
  (repeat' first|infer_instance|fail)
  exact need_hall_x e
theorem x_lost_paper_NoPlan0 (H : HOk h) {x a_thing : PyData} (e : vPlan h x = false) : exc_lost_paper_NoPlan n [encH h, x, a_thing] = true := by
  refine excI (r0 := [_, _, _]) rfl ?_
  unfold xm_lost_paper_NoPlan
  refine wp_xSeq ?_
  (repeat' first|with_reducible refine yW (need_hall_ok H) ?_|infer_instance|fail)
  refine ⟨rfl, ?_⟩
  refine wp_xCall ?_
  (repeat' first|infer_instance|fail)
  exact need_plan_x e
theorem x_lost_paper_NoThing0 (H : HOk h) (P : POk h p) {x : PyData} (e : isFrom x 0 ((h.things.length : Int) - 1) = false) : exc_lost_paper_NoThing n [encH h, encP p, x] = true := by
  refine excI (r0 := [_, _, _]) rfl ?_
  unfold xm_lost_paper_NoThing
  refine wp_xSeq ?_
  (repeat' first|with_reducible refine yW (need_hall_ok H) ?_|infer_instance|fail)
  refine ⟨rfl, ?_⟩
  refine wp_xSeq ?_
  (repeat' first|with_reducible refine yW (need_plan_ok P) ?_|infer_instance|fail)
  refine ⟨rfl, ?_⟩
  refine wp_xCall ?_
  (repeat' first|infer_instance|fail)
  exact need_thing_x e
theorem x_lost_shown_NoHall0  {x a_plan a_thing a_paper : PyData} (e : vHall x = false) : exc_lost_shown_NoHall n [x, a_plan, a_thing, a_paper] = true := by
  refine excI (r0 := [_, _, _, _, _, _, _]) rfl ?_
  unfold xm_lost_shown_NoHall
  refine wp_xCall ?_
  (repeat' first|infer_instance|fail)
  exact need_hall_x e
theorem x_lost_shown_NoPlan0 (H : HOk h) {x a_thing a_paper : PyData} (e : vPlan h x = false) : exc_lost_shown_NoPlan n [encH h, x, a_thing, a_paper] = true := by
  refine excI (r0 := [_, _, _, _, _, _, _]) rfl ?_
  unfold xm_lost_shown_NoPlan
  refine wp_xSeq ?_
  (repeat' first|with_reducible refine yW (need_hall_ok H) ?_|infer_instance|fail)
  refine ⟨rfl, ?_⟩
  refine wp_xCall ?_
  (repeat' first|infer_instance|fail)
  exact need_plan_x e
theorem x_lost_shown_NoThing0 (H : HOk h) (P : POk h p) {x a_paper : PyData} (e : isFrom x 0 ((h.things.length : Int) - 1) = false) : exc_lost_shown_NoThing n [encH h, encP p, x, a_paper] = true := by
  refine excI (r0 := [_, _, _, _, _, _, _]) rfl ?_
  unfold xm_lost_shown_NoThing
  refine wp_xSeq ?_
  (repeat' first|with_reducible refine yW (need_hall_ok H) ?_|infer_instance|fail)
  refine ⟨rfl, ?_⟩
  refine wp_xSeq ?_
  (repeat' first|with_reducible refine yW (need_plan_ok P) ?_|infer_instance|fail)
  refine ⟨rfl, ?_⟩
  refine wp_xCall ?_
  (repeat' first|infer_instance|fail)
  exact need_thing_x e
theorem x_least_from_NoHall0  {x a_plan a_thing : PyData} (e : vHall x = false) : exc_least_from_NoHall n [x, a_plan, a_thing] = true := by
  refine excI (r0 := [_, _, _, _, _, _, _]) rfl ?_
  unfold xm_least_from_NoHall
  refine wp_xCall ?_
  (repeat' first|infer_instance|fail)
  exact need_hall_x e
theorem x_least_from_NoPlan0 (H : HOk h) {x a_thing : PyData} (e : vPlan h x = false) : exc_least_from_NoPlan n [encH h, x, a_thing] = true := by
  refine excI (r0 := [_, _, _, _, _, _, _]) rfl ?_
  unfold xm_least_from_NoPlan
  refine wp_xSeq ?_
  (repeat' first|with_reducible refine yW (need_hall_ok H) ?_|infer_instance|fail)
  refine ⟨rfl, ?_⟩
  refine wp_xCall ?_
  (repeat' first|infer_instance|fail)
  exact need_plan_x e
theorem x_least_from_NoThing0 (H : HOk h) (P : POk h p) {x : PyData} (e : isFrom x 0 ((h.things.length : Int) - 1) = false) : exc_least_from_NoThing n [encH h, encP p, x] = true := by
  refine excI (r0 := [_, _, _, _, _, _, _]) rfl ?_
  unfold xm_least_from_NoThing
  refine wp_xSeq ?_
  (repeat' first|with_reducible refine yW (need_hall_ok H) ?_|infer_instance|fail)
  refine ⟨rfl, ?_⟩
  refine wp_xSeq ?_
  (repeat' first|with_reducible refine yW (need_plan_ok P) ?_|infer_instance|fail)
  refine ⟨rfl, ?_⟩
  refine wp_xCall ?_
  (repeat' first|infer_instance|fail)
  exact need_thing_x e
theorem x_parted_NoHall0  {x a_one a_other : PyData} (e : vHall x = false) : exc_parted_NoHall n [x, a_one, a_other] = true := by
  refine excI (r0 := [_, _, _, _, _, _, _, _, _, _, _, _, _]) rfl ?_
  unfold xm_parted_NoHall
  refine wp_xCall ?_
  (repeat' first|infer_instance|fail)
  exact need_hall_x e
theorem x_parted_NoPlan0 (H : HOk h) {x a_other : PyData} (e : vPlan h x = false) : exc_parted_NoPlan n [encH h, x, a_other] = true := by
  refine excI (r0 := [_, _, _, _, _, _, _, _, _, _, _, _, _]) rfl ?_
  unfold xm_parted_NoPlan
  refine Bool.or_eq_true_iff.2 (.inl ?_)
  refine wp_xSeq ?_
  (repeat' first|with_reducible refine yW (need_hall_ok H) ?_|infer_instance|fail)
  refine ⟨rfl, ?_⟩
  refine wp_xCall ?_
  (repeat' first|infer_instance|fail)
  exact need_plan_x e
theorem x_parted_NoPlan1 (H : HOk h) (P : POk h p) {x : PyData} (e : vPlan h x = false) : exc_parted_NoPlan n [encH h, encP p, x] = true := by
  refine excI (r0 := [_, _, _, _, _, _, _, _, _, _, _, _, _]) rfl ?_
  unfold xm_parted_NoPlan
  refine Bool.or_eq_true_iff.2 (.inr ?_)
  refine wp_xSeq ?_
  (repeat' first|with_reducible refine yW (need_hall_ok H) ?_|infer_instance|fail)
  refine ⟨rfl, ?_⟩
  refine wp_xSeq ?_
  (repeat' first|with_reducible refine yW (need_plan_ok P) ?_|infer_instance|fail)
  refine ⟨rfl, ?_⟩
  refine wp_xCall ?_
  (repeat' first|infer_instance|fail)
  exact need_plan_x e
theorem x_is_stand_NoHall0  {x a_thing : PyData} (e : vHall x = false) : exc_is_stand_NoHall n [x, a_thing] = true := by
  refine excI (r0 := [_, _]) rfl ?_
  unfold xm_is_stand_NoHall
  refine wp_xCall ?_
  (repeat' first|infer_instance|fail)
  exact need_hall_x e
theorem x_is_beat_NoHall0  {x a_thing : PyData} (e : vHall x = false) : exc_is_beat_NoHall n [x, a_thing] = true := by
  refine excI (r0 := [_, _]) rfl ?_
  unfold xm_is_beat_NoHall
  refine wp_xCall ?_
  (repeat' first|infer_instance|fail)
  exact need_hall_x e
theorem x_is_plan_NoHall0  {x a_thing : PyData} (e : vHall x = false) : exc_is_plan_NoHall n [x, a_thing] = true := by
  refine excI (r0 := [_, _]) rfl ?_
  unfold xm_is_plan_NoHall
  refine wp_xCall ?_
  (repeat' first|infer_instance|fail)
  exact need_hall_x e
theorem x_full_NoHall0  {x : PyData} (e : vHall x = false) : exc_full_NoHall n [x] = true := by
  refine excI (r0 := [_]) rfl ?_
  unfold xm_full_NoHall
  refine wp_xCall ?_
  (repeat' first|infer_instance|fail)
  exact need_hall_x e
theorem x_bare_NoHall0  {x : PyData} (e : vHall x = false) : exc_bare_NoHall n [x] = true := by
  refine excI (r0 := [_]) rfl ?_
  unfold xm_bare_NoHall
  refine wp_xCall ?_
  (repeat' first|infer_instance|fail)
  exact need_hall_x e
theorem x_are_free_NoHall0  {x a_meeting a_second : PyData} (e : vHall x = false) : exc_are_free_NoHall n [x, a_meeting, a_second] = true := by
  refine excI (r0 := [_, _, _, _, _, _]) rfl ?_
  unfold xm_are_free_NoHall
  refine wp_xCall ?_
  (repeat' first|infer_instance|fail)
  exact need_hall_x e
theorem x_are_free_NoMeeting0 (H : HOk h) {x a_second : PyData} (e : vMeet h x = false) : exc_are_free_NoMeeting n [encH h, x, a_second] = true := by
  refine excI (r0 := [_, _, _, _, _, _]) rfl ?_
  unfold xm_are_free_NoMeeting
  refine Bool.or_eq_true_iff.2 (.inl ?_)
  refine wp_xSeq ?_
  (repeat' first|with_reducible refine yW (need_hall_ok H) ?_|infer_instance|fail)
  refine ⟨rfl, ?_⟩
  refine wp_xCall ?_
  (repeat' first|infer_instance|fail)
  exact need_meeting_x e
theorem x_are_free_NoMeeting1 (H : HOk h) (M : MOk h m) {x : PyData} (e : vMeet h x = false) : exc_are_free_NoMeeting n [encH h, encM m, x] = true := by
  refine excI (r0 := [_, _, _, _, _, _]) rfl ?_
  unfold xm_are_free_NoMeeting
  refine Bool.or_eq_true_iff.2 (.inr ?_)
  refine wp_xSeq ?_
  (repeat' first|with_reducible refine yW (need_hall_ok H) ?_|infer_instance|fail)
  refine ⟨rfl, ?_⟩
  refine wp_xSeq ?_
  (repeat' first|with_reducible refine yW (need_meeting_ok M) ?_|infer_instance|fail)
  refine ⟨rfl, ?_⟩
  refine wp_xCall ?_
  (repeat' first|infer_instance|fail)
  exact need_meeting_x e
theorem doors_NoHall {x a b c : PyData} (e : vHall x = false) : exB_law_doors_NoHall n [x, a, b, c] = true := by
  unfold exB_law_doors_NoHall
  simp only [Bool.and_eq_true, List.map_cons, List.map_nil]
  refine ⟨?_, ?_, ?_, ?_, ?_, ?_, ?_, ?_⟩
  · unfold xl_law_doors_NoHall0
    refine wp_xCall ?_
    (repeat' first|infer_instance|fail)
    exact x_by_beat_NoHall0 e
  · unfold xl_law_doors_NoHall1
    refine wp_xCall ?_
    (repeat' first|infer_instance|fail)
    exact x_by_plan_NoHall0 e
  · unfold xl_law_doors_NoHall2
    refine wp_xCall ?_
    (repeat' first|infer_instance|fail)
    exact x_comes_round_NoHall0 e
  · unfold xl_law_doors_NoHall3
    refine wp_xCall ?_
    (repeat' first|infer_instance|fail)
    exact x_kept_from_NoHall0 e
  · unfold xl_law_doors_NoHall4
    refine wp_xCall ?_
    (repeat' first|infer_instance|fail)
    exact x_lessons_NoHall0 e
  · unfold xl_law_doors_NoHall5
    refine wp_xCall ?_
    (repeat' first|infer_instance|fail)
    exact x_is_shown_NoHall0 e
  · unfold xl_law_doors_NoHall6
    refine wp_xCall ?_
    (repeat' first|infer_instance|fail)
    exact x_ends_NoHall0 e
  · unfold xl_law_doors_NoHall7
    refine wp_xCall ?_
    (repeat' first|infer_instance|fail)
    exact x_ahead_NoHall0 e
theorem plans_NoHall {x a : PyData} (e : vHall x = false) : exB_law_plans_NoHall n [x, a] = true := by
  unfold exB_law_plans_NoHall
  simp only [Bool.and_eq_true, List.map_cons, List.map_nil]
  refine ⟨?_, ?_, ?_, ?_, ?_, ?_⟩
  · unfold xl_law_plans_NoHall0
    refine wp_xCall ?_
    (repeat' first|infer_instance|fail)
    exact x_can_be_kept_NoHall0 e
  · unfold xl_law_plans_NoHall1
    refine wp_xCall ?_
    (repeat' first|infer_instance|fail)
    exact x_greatest_NoHall0 e
  · unfold xl_law_plans_NoHall2
    refine wp_xCall ?_
    (repeat' first|infer_instance|fail)
    exact x_lost_paper_NoHall0 e
  · unfold xl_law_plans_NoHall3
    refine wp_xCall ?_
    (repeat' first|infer_instance|fail)
    exact x_lost_shown_NoHall0 e
  · unfold xl_law_plans_NoHall4
    refine wp_xCall ?_
    (repeat' first|infer_instance|fail)
    exact x_least_from_NoHall0 e
  · unfold xl_law_plans_NoHall5
    refine wp_xCall ?_
    (repeat' first|infer_instance|fail)
    exact x_parted_NoHall0 e
theorem by_hall_NoHall {x : PyData} (e : vHall x = false) : exB_law_by_hall_NoHall n [x] = true := by
  unfold exB_law_by_hall_NoHall
  simp only [Bool.and_eq_true, List.map_cons, List.map_nil]
  refine ⟨?_, ?_, ?_, ?_, ?_, ?_⟩
  · unfold xl_law_by_hall_NoHall0
    refine wp_xCall ?_
    (repeat' first|infer_instance|fail)
    exact x_is_stand_NoHall0 e
  · unfold xl_law_by_hall_NoHall1
    refine wp_xCall ?_
    (repeat' first|infer_instance|fail)
    exact x_is_beat_NoHall0 e
  · unfold xl_law_by_hall_NoHall2
    refine wp_xCall ?_
    (repeat' first|infer_instance|fail)
    exact x_is_plan_NoHall0 e
  · unfold xl_law_by_hall_NoHall3
    refine wp_xCall ?_
    (repeat' first|infer_instance|fail)
    exact x_full_NoHall0 e
  · unfold xl_law_by_hall_NoHall4
    refine wp_xCall ?_
    (repeat' first|infer_instance|fail)
    exact x_bare_NoHall0 e
  · unfold xl_law_by_hall_NoHall5
    refine wp_xCall ?_
    (repeat' first|infer_instance|fail)
    exact x_are_free_NoHall0 e
theorem doors_NoStand (H : HOk h) {x b c : PyData} (e : vStand h x = false) : exB_law_doors_NoStand n [encH h, x, b, c] = true := by
  unfold exB_law_doors_NoStand
  simp only [Bool.and_eq_true, List.map_cons, List.map_nil]
  refine ⟨?_, ?_, ?_, ?_, ?_, ?_, ?_, ?_⟩
  · unfold xl_law_doors_NoStand0
    refine wp_xCall ?_
    (repeat' first|infer_instance|fail)
    exact x_by_beat_NoStand0 H e
  · unfold xl_law_doors_NoStand1
    refine wp_xCall ?_
    (repeat' first|infer_instance|fail)
    exact x_by_plan_NoStand0 H e
  · unfold xl_law_doors_NoStand2
    refine wp_xCall ?_
    (repeat' first|infer_instance|fail)
    exact x_comes_round_NoStand0 H e
  · unfold xl_law_doors_NoStand3
    refine wp_xCall ?_
    (repeat' first|infer_instance|fail)
    exact x_kept_from_NoStand0 H e
  · unfold xl_law_doors_NoStand4
    refine wp_xCall ?_
    (repeat' first|infer_instance|fail)
    exact x_lessons_NoStand0 H e
  · unfold xl_law_doors_NoStand5
    refine wp_xCall ?_
    (repeat' first|infer_instance|fail)
    exact x_is_shown_NoStand0 H e
  · unfold xl_law_doors_NoStand6
    refine wp_xCall ?_
    (repeat' first|infer_instance|fail)
    exact x_ends_NoStand0 H e
  · unfold xl_law_doors_NoStand7
    refine wp_xCall ?_
    (repeat' first|infer_instance|fail)
    exact x_ahead_NoStand0 H e
theorem doors_word (H : HOk h) (S : SOk h s) {b c : PyData} (eb : vBeat h b = false) (ep : vPlan h c = false) : exB_law_doors_word n [encH h, encS s, b, c] = true := by
  unfold exB_law_doors_word
  simp only [Bool.and_eq_true, List.map_cons, List.map_nil]
  refine ⟨?_, ?_, ?_, ?_, ?_, ?_, ?_, ?_⟩
  · unfold xl_law_doors_word0
    refine wp_xCall ?_
    (repeat' first|infer_instance|fail)
    exact x_by_beat_NoBeat0 H S eb
  · unfold xl_law_doors_word1
    refine wp_xCall ?_
    (repeat' first|infer_instance|fail)
    exact x_by_plan_NoPlan0 H S ep
  · unfold xl_law_doors_word2
    refine wp_xCall ?_
    (repeat' first|infer_instance|fail)
    exact x_comes_round_NoPlan0 H S ep
  · unfold xl_law_doors_word3
    refine wp_xCall ?_
    (repeat' first|infer_instance|fail)
    exact x_kept_from_NoPlan0 H S ep
  · unfold xl_law_doors_word4
    refine wp_xCall ?_
    (repeat' first|infer_instance|fail)
    exact x_lessons_NoStand1 H S rfl
  · unfold xl_law_doors_word5
    refine wp_xCall ?_
    (repeat' first|infer_instance|fail)
    exact x_is_shown_NoStand1 H S rfl
  · unfold xl_law_doors_word6
    refine wp_xCall ?_
    (repeat' first|infer_instance|fail)
    exact x_ends_NoBeat0 H S eb
  · unfold xl_law_doors_word7
    refine wp_xCall ?_
    (repeat' first|infer_instance|fail)
    exact x_ahead_NoBeat0 H S eb
theorem plans_word (H : HOk h) {c : PyData} (ep : vPlan h c = false) : exB_law_plans_word n [encH h, c] = true := by
  unfold exB_law_plans_word
  simp only [Bool.and_eq_true, List.map_cons, List.map_nil]
  refine ⟨?_, ?_, ?_, ?_, ?_, ?_⟩
  · unfold xl_law_plans_word0
    refine wp_xCall ?_
    (repeat' first|infer_instance|fail)
    exact x_can_be_kept_NoPlan0 H ep
  · unfold xl_law_plans_word1
    refine wp_xCall ?_
    (repeat' first|infer_instance|fail)
    exact x_greatest_NoPlan0 H ep
  · unfold xl_law_plans_word2
    refine wp_xCall ?_
    (repeat' first|infer_instance|fail)
    exact x_lost_paper_NoPlan0 H ep
  · unfold xl_law_plans_word3
    refine wp_xCall ?_
    (repeat' first|infer_instance|fail)
    exact x_lost_shown_NoPlan0 H ep
  · unfold xl_law_plans_word4
    refine wp_xCall ?_
    (repeat' first|infer_instance|fail)
    exact x_least_from_NoPlan0 H ep
  · unfold xl_law_plans_word5
    refine wp_xCall ?_
    (repeat' first|infer_instance|fail)
    exact x_parted_NoPlan0 H ep
end G65
namespace G65
open PySem PySem.Spec PyProof.Rows L2
local macro_rules
  | `(tactic| infer_instance) => `(tactic| first|(with_reducible first|apply za|apply zb|apply zc|apply zd|apply ze|apply zf|apply zg|apply zh|apply zi|apply zj|apply zk|apply zl|apply zm|apply zn|apply zo|apply zp|apply zq|apply zr|apply zs|apply zt|apply zu|apply zv|apply zw|apply zx|apply zy|apply zz|apply z0|apply z1|apply z2|apply z3|apply z4|apply z5|apply z6|apply z7|apply z8|apply z9|apply zA|apply zB|apply zC|apply zD|apply zE|apply zF|apply zG|apply zH|apply zI|apply zJ|apply zK|apply zL|apply zM|apply zN|apply zO|apply zP|apply zQ|apply zR|apply zS|apply zT|apply zU|apply zV|apply zW|apply zX|apply zY|apply zZ|apply ya|apply yb|apply yc|apply yd|apply ye|apply yf|apply yg|apply yh|apply yi|apply yj|apply yk|apply yl|apply ym|apply yn|apply yo|apply yp|apply yq|apply yr|apply ys|apply yt|apply yu|apply yv|apply yw|apply yx|apply yy|apply yz|apply y0|apply y1|apply y2|apply y3)|((with_reducible apply y4);(·(with_reducible repeat' first|apply zg|apply zh)))|((with_reducible apply y5);(·(with_reducible repeat' first|apply zg|apply zh)))|((with_reducible apply y6);(·(with_reducible repeat' first|apply zg|apply zh)))|((with_reducible apply y7);(·(with_reducible repeat' first|apply zg|apply zh)))|((with_reducible apply y8);(·(with_reducible repeat' first|apply zg|apply zh)))|((with_reducible apply y9);(·(with_reducible repeat' first|apply zg|apply zh)))|((with_reducible apply yA);(·(with_reducible repeat' first|apply zg|apply zh)))|((with_reducible apply yC);(·(with_reducible repeat' first|apply zg|apply zh)))|((with_reducible apply yD);(·(with_reducible repeat' first|apply zg|apply zh)))|((with_reducible apply yE);(·(with_reducible repeat' first|apply zg|apply zh)))|((with_reducible apply yF);(·(with_reducible repeat' first|apply zg|apply zh)))|((with_reducible apply yG);(·(with_reducible repeat' first|apply zg|apply zh)))|((with_reducible apply yB);(·(with_reducible repeat' first|apply zg|apply zh));(·rfl))|((with_reducible apply yH);rfl)|((with_reducible apply yI);rfl)|((with_reducible apply yV);rfl)|((with_reducible apply yJ))|((with_reducible apply yK))|((with_reducible apply yL);exact Nat.le_of_ble_eq_true rfl)|((with_reducible apply yM);assumption)|((with_reducible apply yN);assumption)|((with_reducible apply yO);(·omega))|((with_reducible apply yP);(·omega))|((with_reducible apply yQ);(·omega))|((with_reducible apply yR);(·omega))|((with_reducible apply yS);(·omega))|((with_reducible apply yT);rfl)|((with_reducible apply yU);rfl))
variable {h : Hall} {s : Stand} {m : Meet} {n : Nat} {r : Rho} {i : Nat} {p : Plan}
theorem runLTI {m : Nat} {f : M Out} {ds : List PyData} {r0 : Rho} (e : ds.map (fun d => some (Ent.d d)) ++ List.replicate (m - ds.length) none = r0) (q : wp f r0 fun o _ => o = .ret (.d (.bool true))) : runLT m f ds = true := by
  obtain ⟨o, r', e1, rfl⟩ := q
  subst e
  unfold runLT
  rw [e1]
theorem wp_asLst {xs : List PyData} {Q : List PyData → Rho → Prop} (q : Q xs r) : wp (asLst (.list xs)) r Q := ⟨xs, r, rfl, q⟩
theorem wp_sLam {x : Rho → Bool} {o : Out} {Q : Out → Rho → Prop} (h1 : noOwn r = true) (h2 : x r = true) (q : Q o r) : wp (sLam x o) r Q := ⟨o, r, by unfold sLam; rw [if_pos ⟨h1, h2⟩], q⟩
theorem wp_sFns {x1 x2 : Rho → Bool} {Q : Out → Rho → Prop} {r2 : Rho} (h0 : noOwn r = true) (e : r.set i none = r2) (h1 : x1 r2 = true) (h2 : x2 r2 = true) (q : Q .nx r2) : wp (sFns i x1 x2) r Q := by
  subst e
  exact ⟨_, _, by unfold sFns; rw [if_pos ⟨h0, h1, h2⟩], q⟩
theorem wp_sDoors {g : Rho → Option (List ISpec)} {is : List Nat} {ok : Rho → Bool} {Q : Out → Rho → Prop} {its : List ISpec} {r2 : Rho} (h1 : g r = some its) (h2 : ok r = true) (e : is.foldl (fun r i => r.set i none) r = r2) (q : Q .nx r2) : wp (sDoors g is ok) r Q := by
  subst e
  exact ⟨_, _, by unfold sDoors; rw [if_pos ⟨by rw [h1]; rfl, h2⟩], q⟩
theorem wp_sIfCall {is : List Nat} {den : List PyData → Bool} {ds : List PyData} {Q : Out → Rho → Prop} (h1 : gdN is r = some ds) (h2 : den ds = true) (q : Q .nx r) : wp (sIfCall is den) r Q := ⟨_, _, by unfold sIfCall; rw [h1]; exact if_pos h2, q⟩
def ow (e : Option Ent) : Bool := match e with
  | some e => !e.own
  | none => true
theorem noOwn8 {a b c d e f g j : Option Ent} (h1 : ow a = true) (h2 : ow b = true) (h3 : ow c = true) (h4 : ow d = true) (h5 : ow e = true) (h6 : ow f = true) (h7 : ow g = true) (h8 : ow j = true) : noOwn [a, b, c, d, e, f, g, j] = true := by
  show (ow a && (ow b && (ow c && (ow d && (ow e && (ow f && (ow g && (ow j && true)))))))) = true
  rw [h1, h2, h3, h4, h5, h6, h7, h8]
  rfl
theorem good_ok (H : HOk h) : MOk h ⟨0, 1, 0⟩ := by
  have := H.f2; have := H.n1
  exact ⟨by simp only; omega, by simp only; omega, by simp, by simp only; omega⟩
theorem last_right_ok (H : HOk h) (S : SOk h s) (P : POk h p) : exc_law_last_right n [encH h, encS s, encP p] = true := by
  have n1 := H.n1; have n3 := H.n3; have f2 := H.f2
  refine runLTI (r0 := [_, _, _, _, _, _, _, _]) rfl ?_
  unfold m_law_last_right m_law_last_right0 m_law_last_right1 m_law_last_right2 m_law_last_right3 m_law_last_right4
  try dsimp only
  (repeat' first|with_reducible refine wp_asLst ?_|infer_instance|fail)
  rw [List.length_map]
  refine wp_for (fun ds r => (∃ o4, ow o4 = true ∧ r = [some (.d (encH h)), some (.d (encS s)), some (.d (encP p)), some (.d (.tuple [.int 0, .int 1, .int 0])), o4, none, none, none]) ∧ ∀ x ∈ ds, isFrom x 0 ((h.things.length : Int) - 1) = false) ⟨⟨_, rfl, rfl⟩, ?_⟩ ?_ ?_
  · intro x hx
    simp only [List.mem_cons, List.not_mem_nil, or_false] at hx
    rcases hx with rfl | rfl | rfl | rfl | rfl
    · rfl
    · rfl
    · rfl
    · simp only [isFrom, Bool.and_eq_false_iff, decide_eq_false_iff_not]; omega
    · rfl
  · rintro x ds r ⟨⟨o4, h4, rfl⟩, hx⟩
    have e := hx x (by simp)
    refine nrmA (r' := [_, _, _, _, _, _, _, _]) rfl (wp_sFns (r2 := [_, _, _, _, _, _, _, _]) (noOwn8 rfl rfl rfl rfl rfl rfl rfl rfl) rfl ?_ ?_ ?_)
    · refine wp_xCall ?_
      (repeat' first|infer_instance|fail)
      exact x_lost_paper_NoThing0 H P e
    · refine wp_xCall ?_
      (repeat' first|infer_instance|fail)
      exact x_least_from_NoThing0 H P e
    · exact ⟨⟨_, rfl, rfl⟩, fun y hy => hx y (by simp [hy])⟩
  rintro r ⟨⟨o4, h4, rfl⟩, _⟩
  (repeat' first|with_reducible refine wp_asLst ?_|infer_instance|fail)
  refine wp_for (fun ds r => (∃ o6, ow o6 = true ∧ r = [some (.d (encH h)), some (.d (encS s)), some (.d (encP p)), some (.d (.tuple [.int 0, .int 1, .int 0])), o4, none, o6, none]) ∧ ∀ x ∈ ds, isFrom x 0 1000000000000000000 = false) ⟨⟨_, rfl, rfl⟩, ?_⟩ ?_ ?_
  · intro x hx
    simp only [List.mem_cons, List.not_mem_nil, or_false] at hx
    rcases hx with rfl | rfl | rfl | rfl | rfl <;> rfl
  · rintro x ds r ⟨⟨o6, h6, rfl⟩, hx⟩
    have e := hx x (by simp)
    refine nrmA (r' := [_, _, _, _, _, _, _, _]) rfl (wp_sLam (noOwn8 rfl rfl rfl rfl h4 rfl rfl rfl) ?_ ?_)
    · refine wp_xCall ?_
      (repeat' first|infer_instance|fail)
      exact x_by_plan_NoCount0 H S P e
    · exact ⟨⟨_, rfl, rfl⟩, fun y hy => hx y (by simp [hy])⟩
  rintro r ⟨⟨o6, h6, rfl⟩, _⟩
  (repeat' first|with_reducible refine wp_asLst ?_|infer_instance|fail)
  rw [List.length_map]
  refine wp_for (fun ds r => (∃ o7, ow o7 = true ∧ r = [some (.d (encH h)), some (.d (encS s)), some (.d (encP p)), some (.d (.tuple [.int 0, .int 1, .int 0])), o4, none, o6, o7]) ∧ ∀ x ∈ ds, vMeet h x = false) ⟨⟨_, rfl, rfl⟩, ?_⟩ ?_ ?_
  · intro x hx
    simp only [List.mem_cons, List.not_mem_nil, or_false] at hx
    rcases hx with rfl | rfl | rfl | rfl | rfl | rfl
    · rfl
    · rfl
    · simp only [vMeet, eqv_int, decide_true, Bool.not_true, Bool.and_false]
    · rfl
    · have : isFrom (.int (h.things.length : Int)) 0 ((h.things.length : Int) - 1) = false := by simp only [isFrom, Bool.and_eq_false_iff, decide_eq_false_iff_not]; omega
      simp only [vMeet, this, Bool.false_and]
    · show (isFrom (.int 0) 0 ((h.things.length : Int) - 1) && false && _ && _) = false
      simp
  · rintro x ds r ⟨⟨o7, h7, rfl⟩, hx⟩
    have e := hx x (by simp)
    refine nrmA (r' := [_, _, _, _, _, _, _, _]) rfl ?_
    (repeat' first|infer_instance|fail)
    refine wp_sLam (noOwn8 rfl rfl rfl rfl h4 rfl h6 rfl) ?_ ?_
    · refine wp_xCall ?_
      (repeat' first|infer_instance|fail)
      exact x_are_free_NoMeeting0 H e
    (repeat' first|infer_instance|fail)
    refine wp_sLam (noOwn8 rfl rfl rfl rfl h4 rfl h6 rfl) ?_ ?_
    · refine wp_xCall ?_
      (repeat' first|infer_instance|fail)
      exact x_are_free_NoMeeting1 H (good_ok H) e
    · exact ⟨⟨_, rfl, rfl⟩, fun y hy => hx y (by simp [hy])⟩
  rintro r ⟨⟨o7, h7, rfl⟩, _⟩
  (repeat' first|infer_instance|fail)
  refine wp_sLam (noOwn8 rfl rfl rfl rfl h4 rfl h6 h7) ?_ rfl
  refine wp_xCall ?_
  (repeat' first|infer_instance|fail)
  exact x_parted_NoPlan1 H P rfl
theorem wp_mulT1 {x : PyData} {k : Nat} {Q : PyData → Rho → Prop} (h2 : 2 ≤ k) (h3 : k ≤ 1000) (q : Q (.tuple (List.replicate k x)) r) : wp (lft (mulD (.tuple [x]) (.int (k : Int)))) r Q := by
  refine wp_lft ?_ q
  have hf : (List.replicate k [x]).flatten = List.replicate k x := by
    clear h2 h3 q
    induction k with
    | zero => rfl
    | succ k ih => rw [List.replicate_succ, List.flatten_cons, ih, List.replicate_succ]; rfl
  show (if ([x] : List PyData).length ≤ 1000 ∧ (2 : Int) ≤ (k : Int) ∧ (k : Int) ≤ 1000 ∧ ([x] : List PyData).isEmpty = false then some (PyData.tuple (List.replicate (k : Int).toNat [x]).flatten) else none) = _
  rw [if_pos ⟨by simp, by omega, by omega, rfl⟩, Int.toNat_natCast, hf]
theorem odd_ok (H : HOk h) {x : PyData} (hx : x ∈ [PyData.none, .bool true, .str (Str.ofString ""), .tuple [], .list [], .int 7, .list [.int h.folk, .tuple (h.things.map encLore)], .tuple [.int h.folk], .tuple [.int 9, .tuple (h.things.map encLore)]]) : vHall x = false := by
  simp only [List.mem_cons, List.not_mem_nil, or_false] at hx
  rcases hx with rfl | rfl | rfl | rfl | rfl | rfl | rfl | rfl | rfl <;> rfl
theorem vStand_len {xs : List PyData} (e : xs.length ≠ h.folk) : vStand h (.tuple xs) = false := by
  have : isTup (.tuple xs) h.folk h.folk = false := by
    simp only [isTup, Bool.and_eq_false_iff, decide_eq_false_iff_not]
    omega
  simp only [vStand, this, Bool.false_and]
theorem bad_ok (H : HOk h) (S : SOk h s) {x : PyData} (hx : x ∈ [PyData.none, .tuple [], .list (s.map encRow), .tuple ((s.map encRow).drop 1), .tuple (List.replicate h.folk (.tuple [])), .tuple (s.map encRow ++ s.map encRow)]) : vStand h x = false := by
  have f2 := H.f2; have n1 := H.n1; have hl := S.len
  simp only [List.mem_cons, List.not_mem_nil, or_false] at hx
  rcases hx with rfl | rfl | rfl | rfl | rfl | rfl
  · rfl
  · exact vStand_len (by simp; omega)
  · rfl
  · exact vStand_len (by simp; omega)
  · have h1 : vRow h (.tuple []) = false := by
      have : isTup (.tuple []) h.things.length h.things.length = false := by
        simp only [isTup, List.length_nil, Bool.and_eq_false_iff, decide_eq_false_iff_not]
        omega
      simp only [vRow, this, Bool.false_and]
    obtain ⟨k, hk⟩ : ∃ k, h.folk = k + 1 := ⟨h.folk - 1, by omega⟩
    rw [hk]
    simp only [vStand, List.replicate_succ, List.all_cons, h1, Bool.false_and, Bool.and_false]
  · exact vStand_len (by simp; omega)
theorem vBeat_one {x : PyData} (e : vMeet h x = false) (xs : List PyData) : vBeat h (.tuple (x :: xs)) = false := by
  simp only [vBeat, List.all_cons, e, Bool.false_and, Bool.and_false]
theorem beat_ok (H : HOk h) {x : PyData} (hx : x ∈ [PyData.none, .list [], .tuple [.tuple [.int 0, .int 0, .int 0]], .tuple (List.replicate 5 (.tuple [.int 0, .int 1, .int 0])), .tuple [.tuple [.int 0, .int 1, .int 9]], .str (Str.ofString "a")]) : vBeat h x = false := by
  have n3 := H.n3
  simp only [List.mem_cons, List.not_mem_nil, or_false] at hx
  rcases hx with rfl | rfl | rfl | rfl | rfl | rfl
  · rfl
  · rfl
  · exact vBeat_one (by simp only [vMeet, eqv_int, decide_true, Bool.not_true, Bool.and_false]) _
  · rfl
  · refine vBeat_one ?_ _
    have : isFrom (.int 9) 0 ((h.things.length : Int) - 1) = false := by simp only [isFrom, Bool.and_eq_false_iff, decide_eq_false_iff_not]; omega
    simp only [vMeet, this, Bool.false_and]
  · rfl
theorem row_ok {b x : PyData} (e : vBeat h b = false) (hx : x ∈ [PyData.none, .tuple [], .list [.tuple []], .tuple (List.replicate 5 (.tuple [])), .tuple [b], .str (Str.ofString "a")]) : vPlan h x = false := by
  simp only [List.mem_cons, List.not_mem_nil, or_false] at hx
  rcases hx with rfl | rfl | rfl | rfl | rfl | rfl
  · rfl
  · rfl
  · rfl
  · rfl
  · simp only [vPlan, List.all_cons, e, Bool.false_and, Bool.and_false]
  · rfl
theorem law_math0 (ns : List Int) (hl : ns.length ≤ 63) (hn : 1 ≤ n) : exc_law n [.list (ns.map PyData.int)] = true := by
  unfold exc_law
  refine runLTI (r0 := [_, _, _, _, _, _, _, _, _, _, _, _]) rfl ?_
  unfold m_law
  try dsimp only
  (repeat' first|with_reducible refine wp_asLst ?_|infer_instance|fail)
  refine wp_addL (by simp; omega) ?_
  (repeat' first|with_reducible refine wp_asLst ?_|infer_instance|fail)
  rw [show cutD ([PyData.int 0] ++ ns.map PyData.int) none (some 8) = ((0 :: ns).take 8).map PyData.int by rw [cut_to (k := 8) (by rfl), List.map_take]; rfl]
  refine wp_forT PyData.int _ (fun done r => ∃ o1 o2 o3 o4 o5 o6 o7 o8 o9 o10 o11, r = [some (.d (.list (ns.map PyData.int))), o1, o2, o3, o4, o5, o6, o7, o8, o9, o10, o11]) ⟨_, _, _, _, _, _, _, _, _, _, _, rfl⟩ ?_ ?_
  · rintro done cell rest r e ⟨o1, o2, o3, o4, o5, o6, o7, o8, o9, o10, o11, rfl⟩
    clear e
    unfold mb_law m_law0 m_law1 m_law2 m_law3 m_law4 m_law5 m_law6 m_law7 m_law8 m_law9 m_law10 m_law11
    (repeat' first|infer_instance|fail)
    refine wp_callE (law_deck_ok (k := 13) (by decide) (by decide)) ?_
    rintro dk D
    (repeat' first|with_reducible refine yW (law_small_ok) ?_|infer_instance|fail)
    refine dc_of (law_hall_ok D (by omega) (by decide) (by decide) smalls_ok) (by (repeat' first|(with_reducible first|apply za|apply zb|apply zc|apply zd|apply ze|apply zf|apply zg|apply zh|apply zi|apply zj|apply zk)|((with_reducible apply yV);rfl)|with_reducible rfl)) D.own ?_
    rintro en e1 ⟨⟨h, rfl, H, G⟩, D1⟩
    have f2 := H.f2; have f4 := H.f4
    (repeat' first|infer_instance|fail)
    refine dc_of (law_stand_ok H D1 (by omega)) (by (repeat' first|(with_reducible first|apply za|apply zb|apply zc|apply zd|apply ze|apply zf|apply zg|apply zh|apply zi|apply zj|apply zk)|((with_reducible apply yV);rfl)|with_reducible rfl)) D1.own ?_
    rintro en e2 ⟨⟨s, rfl, S⟩, D2⟩
    (repeat' first|infer_instance|fail)
    refine dc_of (law_plan_ok H D2 (by omega)) (by (repeat' first|(with_reducible first|apply za|apply zb|apply zc|apply zd|apply ze|apply zf|apply zg|apply zh|apply zi|apply zj|apply zk)|((with_reducible apply yV);rfl)|with_reducible rfl)) D2.own ?_
    rintro en e3 ⟨⟨p, rfl, P⟩, D3⟩
    (repeat' first|infer_instance|fail)
    refine dc_of (law_one_ok D3 (by omega) (by simp) (by simp)) (by (repeat' first|(with_reducible first|apply za|apply zb|apply zc|apply zd|apply ze|apply zf|apply zg|apply zh|apply zi|apply zj|apply zk)|((with_reducible apply yV);rfl)|with_reducible rfl)) D3.own ?_
    rintro en e4 ⟨⟨odd, hodd, rfl⟩, D4⟩
    have vo := odd_ok H hodd
    clear hodd
    (repeat' first|with_reducible refine wp_mulT1 (by omega) (by omega) ?_|infer_instance|fail)
    refine wp_addT (by simp [S.len]; omega) ?_
    (repeat' first|infer_instance|fail)
    refine dc_of (law_one_ok D4 (by omega) (by simp) (by simp)) (by (repeat' first|(with_reducible first|apply za|apply zb|apply zc|apply zd|apply ze|apply zf|apply zg|apply zh|apply zi|apply zj|apply zk)|((with_reducible apply yV);rfl)|with_reducible rfl)) D4.own ?_
    rintro en e5 ⟨⟨bad, hbad, rfl⟩, D5⟩
    have vb := bad_ok H S hbad
    clear hbad
    (repeat' first|infer_instance|fail)
    refine dc_of (law_one_ok D5 (by omega) (by simp) (by simp)) (by (repeat' first|(with_reducible first|apply za|apply zb|apply zc|apply zd|apply ze|apply zf|apply zg|apply zh|apply zi|apply zj|apply zk)|((with_reducible apply yV);rfl)|with_reducible rfl)) D5.own ?_
    rintro en e6 ⟨⟨beat, hbeat, rfl⟩, D6⟩
    have ve := beat_ok H hbeat
    clear hbeat
    (repeat' first|infer_instance|fail)
    refine dc_of (law_one_ok D6 (by omega) (by simp) (by simp)) (by (repeat' first|(with_reducible first|apply za|apply zb|apply zc|apply zd|apply ze|apply zf|apply zg|apply zh|apply zi|apply zj|apply zk)|((with_reducible apply yV);rfl)|with_reducible rfl)) D6.own ?_
    rintro en e7 ⟨⟨row, hrow, rfl⟩, D7⟩
    have vr := row_ok ve hrow
    clear hrow
    (repeat' first|infer_instance|fail)
    refine wp_sDoors (r2 := [_, _, _, _, _, _, _, _, _, _, _, _]) rfl (Bool.and_eq_true_iff.2 ⟨doors_NoHall vo, plans_NoHall vo⟩) rfl ?_
    (repeat' first|infer_instance|fail)
    refine wp_sDoors (r2 := [_, _, _, _, _, _, _, _, _, _, _, _]) rfl (by_hall_NoHall vo) rfl ?_
    (repeat' first|infer_instance|fail)
    refine wp_sDoors (r2 := [_, _, _, _, _, _, _, _, _, _, _, _]) rfl (doors_NoStand H vb) rfl ?_
    (repeat' first|infer_instance|fail)
    refine wp_sDoors (r2 := [_, _, _, _, _, _, _, _, _, _, _, _]) rfl (Bool.and_eq_true_iff.2 ⟨doors_word H S ve vr, plans_word H vr⟩) rfl ?_
    (repeat' first|infer_instance|fail)
    refine wp_sIfCall rfl (last_right_ok H S P) ?_
    exact ⟨_, _, _, _, _, _, _, _, _, _, _, rfl⟩
  · rintro r ⟨o1, o2, o3, o4, o5, o6, o7, o8, o9, o10, o11, rfl⟩
    (repeat' first|infer_instance|fail)
    rfl
end G65
namespace G65
open PySem PySem.Spec PyProof.Rows L2
theorem law_math (ns : List Int) (hl : ns.length ≤ 63) : exc_law 100 [.list (ns.map PyData.int)] = true := law_math0 ns hl (by decide)
theorem df_of {K : PySem.W.Frag} {h : Heap} {mg : Str → Option Value} {d : He.DefD} {x : Str} {st : Stmt} {ps : List Str} (X : K.In h) (G : h.Ns mainGlobals mg) (hd : d = ⟨(x, none), x, x, defArgs st, defBody st, defScope st, [], []⟩) (c : ∃ fd, FunD K d.name d.qual d.params d.body d.scope (d.dvs K) (d.kws K) (He.fAd K d.at_) fd) (cg : (He.Fa.glo x).ok K = true)
    (hb : ∀ (kV doc pm : Value) (an : Option Addr) (cdv ct : Value) (us : List Value), us.length = ps.length → bindArgs (PySem.W.fnOf x x (defArgs st) (defBody st) (defScope st) .none kV doc pm an cdv ct) ⟨us, []⟩ = pure (ps.zip us)) : DF K mg x st ps := by
  subst hd
  obtain ⟨fd, F⟩ := c
  exact ⟨_, fd, F, He.glo_ok X G cg, FunD.bindsN F hb⟩
theorem dfa_of {K : PySem.W.Frag} {h : Heap} {mg : Str → Option Value} {d : He.DefD} {x : Str} {st : Stmt} {ps : List Str} (X : K.In h) (G : h.Ns mainGlobals mg) (hd : d = ⟨(x, none), x, x, defArgs st, defBody st, defScope st, [], []⟩) (c : ∃ fd, FunD K d.name d.qual d.params d.body d.scope (d.dvs K) (d.kws K) (He.fAd K d.at_) fd) (cg : (He.Fa.glo x).ok K = true)
    (hb : ∀ (kV doc pm : Value) (an : Option Addr) (cdv ct : Value) (us : List Value), us.length = ps.length → bindArgs (PySem.W.fnOf x x (defArgs st) (defBody st) (defScope st) .none kV doc pm an cdv ct) ⟨us, []⟩ = pure (ps.zip us)) : DFA K mg x st ps := by
  subst hd
  obtain ⟨fd, F⟩ := c
  exact ⟨fd, F, He.glo_ok X G cg, FunD.bindsN F hb⟩
theorem bf_of {K : PySem.W.Frag} {h : Heap} {mg : Str → Option Value} (X : K.In h) (G : h.Ns mainGlobals mg) (c : He.SaysD fal fnl K) : BF mg where
  all_ := He.free_ok X G (c.fact 61 (f := .free "all") rfl)
  bool_ := He.free_ok X G (c.fact 62 (f := .free "bool") rfl)
  enumerate_ := He.free_ok X G (c.fact 63 (f := .free "enumerate") rfl)
  int_ := He.free_ok X G (c.fact 64 (f := .free "int") rfl)
  isinstance_ := He.free_ok X G (c.fact 65 (f := .free "isinstance") rfl)
  len_ := He.free_ok X G (c.fact 66 (f := .free "len") rfl)
  list_ := He.free_ok X G (c.fact 67 (f := .free "list") rfl)
  range_ := He.free_ok X G (c.fact 68 (f := .free "range") rfl)
  tuple_ := He.free_ok X G (c.fact 69 (f := .free "tuple") rfl)
  zip_ := He.free_ok X G (c.fact 70 (f := .free "zip") rfl)
  c_MOST_FOLK := He.int_ok X G (c.fact 71 (f := .int "MOST_FOLK" 4) rfl)
  c_MOST_THINGS := He.int_ok X G (c.fact 72 (f := .int "MOST_THINGS" 3) rfl)
  c_MOST_CAP := He.int_ok X G (c.fact 73 (f := .int "MOST_CAP" 3) rfl)
  c_MOST_MEETINGS := He.int_ok X G (c.fact 74 (f := .int "MOST_MEETINGS" 4) rfl)
  c_MOST_BEATS := He.int_ok X G (c.fact 75 (f := .int "MOST_BEATS" 4) rfl)
  c_MOST_STANDS := He.int_ok X G (c.fact 76 (f := .int "MOST_STANDS" 2000) rfl)
  c_FAR := He.int_ok X G (c.fact 77 (f := .int "FAR" 1000000000000000000) rfl)
theorem glos_of {K : PySem.W.Frag} {h : Heap} {mg : Str → Option Value} (X : K.In h) (G : h.Ns mainGlobals mg) (c : He.SaysD fal fnl K) : ∀ x ∈ ["NoHall", "NoStand", "NoBeat", "NoPlan", "NoThing", "NoCount", "NoMeeting", "TooMany", "LoreError"], mg x = some (.ref (He.ga K x)) := by
  intro x hx
  simp only [List.mem_cons, List.not_mem_nil, or_false] at hx
  rcases hx with rfl | rfl | rfl | rfl | rfl | rfl | rfl | rfl | rfl
  · exact He.glo_ok X G (c.fact 51 (f := .glo "NoHall") rfl)
  · exact He.glo_ok X G (c.fact 52 (f := .glo "NoStand") rfl)
  · exact He.glo_ok X G (c.fact 53 (f := .glo "NoBeat") rfl)
  · exact He.glo_ok X G (c.fact 54 (f := .glo "NoPlan") rfl)
  · exact He.glo_ok X G (c.fact 55 (f := .glo "NoThing") rfl)
  · exact He.glo_ok X G (c.fact 56 (f := .glo "NoCount") rfl)
  · exact He.glo_ok X G (c.fact 57 (f := .glo "NoMeeting") rfl)
  · exact He.glo_ok X G (c.fact 58 (f := .glo "TooMany") rfl)
  · exact He.glo_ok X G (c.fact 59 (f := .glo "LoreError") rfl)
theorem all_ok {P : Program} {w : World} {K : PySem.W.Frag} {h : Heap} {mg : Str → Option Value} {base : Heap} {fd : FuncData} (X : K.In h) (G : h.Ns mainGlobals mg) (c : He.SaysD fal fnl K) (e : headB K = true) (F : FnP K "law" s_law (He.fAd K ("law", none)) fd) (TB_law_doors : LamX.TabB base mg (He.cT K ("_law_doors", none)).1 (He.cT K ("_law_doors", none)).2) (TB_law_plans : LamX.TabB base mg (He.cT K ("_law_plans", none)).1 (He.cT K ("_law_plans", none)).2) (TB_law_by_hall : LamX.TabB base mg (He.cT K ("_law_by_hall", none)).1 (He.cT K ("_law_by_hall", none)).2) (TB_law_last_right : LamX.TabB base mg (He.cT K ("_law_last_right", none)).1 (He.cT K ("_law_last_right", none)).2) : FnOk P w K mg base CX0 10 (He.fAd K ("law", none)) fd ["script"] (spLR K (TT K) 1 (exc_law 100)) := by
  have B := bf_of X G c
  have GL := glos_of X G c
  have i1 := He.free_ok X G (c.fact 65 (f := .free "isinstance") rfl)
  have i2 := He.free_ok X G (c.fact 70 (f := .free "zip") rfl)
  have i3 := He.free_ok X G (c.fact 60 (f := .free "ValueError") rfl)
  unfold headB at e
  simp only [Bool.and_eq_true, decide_eq_true_eq] at e
  obtain ⟨e_NoHall, e_NoStand, e_NoBeat, e_NoPlan, e_NoThing, e_NoCount, e_NoMeeting, ND⟩ := e
  have A_NoHall := clsB_ok e_NoHall (GL _ (by simp)) GL i1 i2 i3
  have kw_NoHall : KW K mg (He.ga K "NoHall") "NoHall+" := A_NoHall.kw (by rfl) (by decide)
  have A_NoStand := clsB_ok e_NoStand (GL _ (by simp)) GL i1 i2 i3
  have kw_NoStand : KW K mg (He.ga K "NoStand") "NoStand+" := A_NoStand.kw (by rfl) (by decide)
  have A_NoBeat := clsB_ok e_NoBeat (GL _ (by simp)) GL i1 i2 i3
  have kw_NoBeat : KW K mg (He.ga K "NoBeat") "NoBeat+" := A_NoBeat.kw (by rfl) (by decide)
  have A_NoPlan := clsB_ok e_NoPlan (GL _ (by simp)) GL i1 i2 i3
  have kw_NoPlan : KW K mg (He.ga K "NoPlan") "NoPlan+" := A_NoPlan.kw (by rfl) (by decide)
  have A_NoThing := clsB_ok e_NoThing (GL _ (by simp)) GL i1 i2 i3
  have kw_NoThing : KW K mg (He.ga K "NoThing") "NoThing+" := A_NoThing.kw (by rfl) (by decide)
  have A_NoCount := clsB_ok e_NoCount (GL _ (by simp)) GL i1 i2 i3
  have kw_NoCount : KW K mg (He.ga K "NoCount") "NoCount+" := A_NoCount.kw (by rfl) (by decide)
  have A_NoMeeting := clsB_ok e_NoMeeting (GL _ (by simp)) GL i1 i2 i3
  have kw_NoMeeting : KW K mg (He.ga K "NoMeeting") "NoMeeting+" := A_NoMeeting.kw (by rfl) (by decide)
  have D_is_from : DF K mg "is_from" s_is_from ["thing", "low", "high"] := df_of (d := dd_is_from) X G rfl (c.def_ 0 (d := dd_is_from) rfl) (c.fact 0 (f := .glo "is_from") rfl) fun _ _ _ _ _ _ us hl => match us, hl with | [_, _, _], _ => rfl
  have D_is_tuple : DF K mg "is_tuple" s_is_tuple ["thing", "least", "most"] := df_of (d := dd_is_tuple) X G rfl (c.def_ 1 (d := dd_is_tuple) rfl) (c.fact 1 (f := .glo "is_tuple") rfl) fun _ _ _ _ _ _ us hl => match us, hl with | [_, _, _], _ => rfl
  have D_is_lore : DF K mg "is_lore" s_is_lore ["thing", "at"] := df_of (d := dd_is_lore) X G rfl (c.def_ 2 (d := dd_is_lore) rfl) (c.fact 2 (f := .glo "is_lore") rfl) fun _ _ _ _ _ _ us hl => match us, hl with | [_, _], _ => rfl
  have D_is_hall : DF K mg "is_hall" s_is_hall ["thing"] := df_of (d := dd_is_hall) X G rfl (c.def_ 3 (d := dd_is_hall) rfl) (c.fact 3 (f := .glo "is_hall") rfl) fun _ _ _ _ _ _ us hl => match us, hl with | [_], _ => rfl
  have D_need_hall : DF K mg "need_hall" s_need_hall ["hall"] := df_of (d := dd_need_hall) X G rfl (c.def_ 4 (d := dd_need_hall) rfl) (c.fact 4 (f := .glo "need_hall") rfl) fun _ _ _ _ _ _ us hl => match us, hl with | [_], _ => rfl
  have D_is_standing : DF K mg "is_standing" s_is_standing ["hall", "thing"] := df_of (d := dd_is_standing) X G rfl (c.def_ 5 (d := dd_is_standing) rfl) (c.fact 5 (f := .glo "is_standing") rfl) fun _ _ _ _ _ _ us hl => match us, hl with | [_, _], _ => rfl
  have D_is_meeting : DF K mg "is_meeting" s_is_meeting ["hall", "thing"] := df_of (d := dd_is_meeting) X G rfl (c.def_ 6 (d := dd_is_meeting) rfl) (c.fact 6 (f := .glo "is_meeting") rfl) fun _ _ _ _ _ _ us hl => match us, hl with | [_, _], _ => rfl
  have D_is_beating : DF K mg "is_beating" s_is_beating ["hall", "thing"] := df_of (d := dd_is_beating) X G rfl (c.def_ 7 (d := dd_is_beating) rfl) (c.fact 7 (f := .glo "is_beating") rfl) fun _ _ _ _ _ _ us hl => match us, hl with | [_, _], _ => rfl
  have D_is_planned : DF K mg "is_planned" s_is_planned ["hall", "thing"] := df_of (d := dd_is_planned) X G rfl (c.def_ 8 (d := dd_is_planned) rfl) (c.fact 8 (f := .glo "is_planned") rfl) fun _ _ _ _ _ _ us hl => match us, hl with | [_, _], _ => rfl
  have D_need_stand : DF K mg "need_stand" s_need_stand ["hall", "stand"] := df_of (d := dd_need_stand) X G rfl (c.def_ 9 (d := dd_need_stand) rfl) (c.fact 9 (f := .glo "need_stand") rfl) fun _ _ _ _ _ _ us hl => match us, hl with | [_, _], _ => rfl
  have D_need_beat : DF K mg "need_beat" s_need_beat ["hall", "beat"] := df_of (d := dd_need_beat) X G rfl (c.def_ 10 (d := dd_need_beat) rfl) (c.fact 10 (f := .glo "need_beat") rfl) fun _ _ _ _ _ _ us hl => match us, hl with | [_, _], _ => rfl
  have D_need_plan : DF K mg "need_plan" s_need_plan ["hall", "plan"] := df_of (d := dd_need_plan) X G rfl (c.def_ 11 (d := dd_need_plan) rfl) (c.fact 11 (f := .glo "need_plan") rfl) fun _ _ _ _ _ _ us hl => match us, hl with | [_, _], _ => rfl
  have D_need_thing : DF K mg "need_thing" s_need_thing ["hall", "thing"] := df_of (d := dd_need_thing) X G rfl (c.def_ 12 (d := dd_need_thing) rfl) (c.fact 12 (f := .glo "need_thing") rfl) fun _ _ _ _ _ _ us hl => match us, hl with | [_, _], _ => rfl
  have D_need_count : DF K mg "need_count" s_need_count ["beats"] := df_of (d := dd_need_count) X G rfl (c.def_ 13 (d := dd_need_count) rfl) (c.fact 13 (f := .glo "need_count") rfl) fun _ _ _ _ _ _ us hl => match us, hl with | [_], _ => rfl
  have D_need_meeting : DF K mg "need_meeting" s_need_meeting ["hall", "meeting"] := df_of (d := dd_need_meeting) X G rfl (c.def_ 14 (d := dd_need_meeting) rfl) (c.fact 14 (f := .glo "need_meeting") rfl) fun _ _ _ _ _ _ us hl => match us, hl with | [_, _], _ => rfl
  have D_is_stand : DF K mg "is_stand" s_is_stand ["hall", "thing"] := df_of (d := dd_is_stand) X G rfl (c.def_ 15 (d := dd_is_stand) rfl) (c.fact 15 (f := .glo "is_stand") rfl) fun _ _ _ _ _ _ us hl => match us, hl with | [_, _], _ => rfl
  have D_is_beat : DF K mg "is_beat" s_is_beat ["hall", "thing"] := df_of (d := dd_is_beat) X G rfl (c.def_ 16 (d := dd_is_beat) rfl) (c.fact 16 (f := .glo "is_beat") rfl) fun _ _ _ _ _ _ us hl => match us, hl with | [_, _], _ => rfl
  have D_is_plan : DF K mg "is_plan" s_is_plan ["hall", "thing"] := df_of (d := dd_is_plan) X G rfl (c.def_ 17 (d := dd_is_plan) rfl) (c.fact 17 (f := .glo "is_plan") rfl) fun _ _ _ _ _ _ us hl => match us, hl with | [_, _], _ => rfl
  have D_full : DF K mg "full" s_full ["hall"] := df_of (d := dd_full) X G rfl (c.def_ 18 (d := dd_full) rfl) (c.fact 18 (f := .glo "full") rfl) fun _ _ _ _ _ _ us hl => match us, hl with | [_], _ => rfl
  have D_bare : DF K mg "bare" s_bare ["hall"] := df_of (d := dd_bare) X G rfl (c.def_ 19 (d := dd_bare) rfl) (c.fact 19 (f := .glo "bare") rfl) fun _ _ _ _ _ _ us hl => match us, hl with | [_], _ => rfl
  have D_by_beat : DF K mg "by_beat" s_by_beat ["hall", "stand", "beat"] := df_of (d := dd_by_beat) X G rfl (c.def_ 20 (d := dd_by_beat) rfl) (c.fact 20 (f := .glo "by_beat") rfl) fun _ _ _ _ _ _ us hl => match us, hl with | [_, _, _], _ => rfl
  have D_by_plan : DF K mg "by_plan" s_by_plan ["hall", "stand", "plan", "beats"] := df_of (d := dd_by_plan) X G rfl (c.def_ 21 (d := dd_by_plan) rfl) (c.fact 21 (f := .glo "by_plan") rfl) fun _ _ _ _ _ _ us hl => match us, hl with | [_, _, _, _], _ => rfl
  have D_comes_round : DF K mg "comes_round" s_comes_round ["hall", "stand", "plan"] := df_of (d := dd_comes_round) X G rfl (c.def_ 22 (d := dd_comes_round) rfl) (c.fact 22 (f := .glo "comes_round") rfl) fun _ _ _ _ _ _ us hl => match us, hl with | [_, _, _], _ => rfl
  have D_kept_from : DF K mg "kept_from" s_kept_from ["hall", "stand", "plan"] := df_of (d := dd_kept_from) X G rfl (c.def_ 23 (d := dd_kept_from) rfl) (c.fact 23 (f := .glo "kept_from") rfl) fun _ _ _ _ _ _ us hl => match us, hl with | [_, _, _], _ => rfl
  have D_can_be_kept : DF K mg "can_be_kept" s_can_be_kept ["hall", "plan"] := df_of (d := dd_can_be_kept) X G rfl (c.def_ 24 (d := dd_can_be_kept) rfl) (c.fact 24 (f := .glo "can_be_kept") rfl) fun _ _ _ _ _ _ us hl => match us, hl with | [_, _], _ => rfl
  have D_greatest : DF K mg "greatest" s_greatest ["hall", "plan"] := df_of (d := dd_greatest) X G rfl (c.def_ 25 (d := dd_greatest) rfl) (c.fact 25 (f := .glo "greatest") rfl) fun _ _ _ _ _ _ us hl => match us, hl with | [_, _], _ => rfl
  have D_lost_paper : DF K mg "lost_paper" s_lost_paper ["hall", "plan", "thing"] := df_of (d := dd_lost_paper) X G rfl (c.def_ 26 (d := dd_lost_paper) rfl) (c.fact 26 (f := .glo "lost_paper") rfl) fun _ _ _ _ _ _ us hl => match us, hl with | [_, _, _], _ => rfl
  have D_lost_shown : DF K mg "lost_shown" s_lost_shown ["hall", "plan", "thing", "paper"] := df_of (d := dd_lost_shown) X G rfl (c.def_ 27 (d := dd_lost_shown) rfl) (c.fact 27 (f := .glo "lost_shown") rfl) fun _ _ _ _ _ _ us hl => match us, hl with | [_, _, _, _], _ => rfl
  have D_least_from : DF K mg "least_from" s_least_from ["hall", "plan", "thing"] := df_of (d := dd_least_from) X G rfl (c.def_ 28 (d := dd_least_from) rfl) (c.fact 28 (f := .glo "least_from") rfl) fun _ _ _ _ _ _ us hl => match us, hl with | [_, _, _], _ => rfl
  have D_lessons : DF K mg "lessons" s_lessons ["hall", "stand", "wish"] := df_of (d := dd_lessons) X G rfl (c.def_ 29 (d := dd_lessons) rfl) (c.fact 29 (f := .glo "lessons") rfl) fun _ _ _ _ _ _ us hl => match us, hl with | [_, _, _], _ => rfl
  have D_is_shown : DF K mg "is_shown" s_is_shown ["hall", "stand", "wish", "paper"] := df_of (d := dd_is_shown) X G rfl (c.def_ 30 (d := dd_is_shown) rfl) (c.fact 30 (f := .glo "is_shown") rfl) fun _ _ _ _ _ _ us hl => match us, hl with | [_, _, _, _], _ => rfl
  have D_ends : DF K mg "ends" s_ends ["hall", "stand", "beat"] := df_of (d := dd_ends) X G rfl (c.def_ 31 (d := dd_ends) rfl) (c.fact 31 (f := .glo "ends") rfl) fun _ _ _ _ _ _ us hl => match us, hl with | [_, _, _], _ => rfl
  have D_are_free : DF K mg "are_free" s_are_free ["hall", "meeting", "second"] := df_of (d := dd_are_free) X G rfl (c.def_ 32 (d := dd_are_free) rfl) (c.fact 32 (f := .glo "are_free") rfl) fun _ _ _ _ _ _ us hl => match us, hl with | [_, _, _], _ => rfl
  have D_ahead : DF K mg "ahead" s_ahead ["hall", "stand", "beat"] := df_of (d := dd_ahead) X G rfl (c.def_ 33 (d := dd_ahead) rfl) (c.fact 33 (f := .glo "ahead") rfl) fun _ _ _ _ _ _ us hl => match us, hl with | [_, _, _], _ => rfl
  have D_parted : DF K mg "parted" s_parted ["hall", "one", "other"] := df_of (d := dd_parted) X G rfl (c.def_ 34 (d := dd_parted) rfl) (c.fact 34 (f := .glo "parted") rfl) fun _ _ _ _ _ _ us hl => match us, hl with | [_, _, _], _ => rfl
  have D_law_deck : DF K mg "_law_deck" s_law_deck ["cell", "turn"] := df_of (d := dd_law_deck) X G rfl (c.def_ 35 (d := dd_law_deck) rfl) (c.fact 35 (f := .glo "_law_deck") rfl) fun _ _ _ _ _ _ us hl => match us, hl with | [_, _], _ => rfl
  have D_law_pick : DF K mg "_law_pick" s_law_pick ["deck", "size"] := df_of (d := dd_law_pick) X G rfl (c.def_ 36 (d := dd_law_pick) rfl) (c.fact 36 (f := .glo "_law_pick") rfl) fun _ _ _ _ _ _ us hl => match us, hl with | [_, _], _ => rfl
  have D_law_one : DF K mg "_law_one" s_law_one ["deck", "some"] := df_of (d := dd_law_one) X G rfl (c.def_ 37 (d := dd_law_one) rfl) (c.fact 37 (f := .glo "_law_one") rfl) fun _ _ _ _ _ _ us hl => match us, hl with | [_, _], _ => rfl
  have D_law_kin : DF K mg "_law_kin" s_law_kin ["e"] := df_of (d := dd_law_kin) X G rfl (c.def_ 38 (d := dd_law_kin) rfl) (c.fact 38 (f := .glo "_law_kin") rfl) fun _ _ _ _ _ _ us hl => match us, hl with | [_], _ => rfl
  have D_law_try : DF K mg "_law_try" s_law_try ["door"] := df_of (d := dd_law_try) X G rfl (c.def_ 39 (d := dd_law_try) rfl) (c.fact 39 (f := .glo "_law_try") rfl) fun _ _ _ _ _ _ us hl => match us, hl with | [_], _ => rfl
  have D_law_hall : DF K mg "_law_hall" s_law_hall ["deck", "shapes"] := df_of (d := dd_law_hall) X G rfl (c.def_ 40 (d := dd_law_hall) rfl) (c.fact 40 (f := .glo "_law_hall") rfl) fun _ _ _ _ _ _ us hl => match us, hl with | [_, _], _ => rfl
  have D_law_small : DF K mg "_law_small" s_law_small [] := df_of (d := dd_law_small) X G rfl (c.def_ 41 (d := dd_law_small) rfl) (c.fact 41 (f := .glo "_law_small") rfl) fun _ _ _ _ _ _ us hl => match us, hl with | [], _ => rfl
  have D_law_meeting : DF K mg "_law_meeting" s_law_meeting ["deck", "hall"] := df_of (d := dd_law_meeting) X G rfl (c.def_ 42 (d := dd_law_meeting) rfl) (c.fact 42 (f := .glo "_law_meeting") rfl) fun _ _ _ _ _ _ us hl => match us, hl with | [_, _], _ => rfl
  have D_law_beat : DF K mg "_law_beat" s_law_beat ["deck", "hall"] := df_of (d := dd_law_beat) X G rfl (c.def_ 43 (d := dd_law_beat) rfl) (c.fact 43 (f := .glo "_law_beat") rfl) fun _ _ _ _ _ _ us hl => match us, hl with | [_, _], _ => rfl
  have D_law_plan : DF K mg "_law_plan" s_law_plan ["deck", "hall"] := df_of (d := dd_law_plan) X G rfl (c.def_ 44 (d := dd_law_plan) rfl) (c.fact 44 (f := .glo "_law_plan") rfl) fun _ _ _ _ _ _ us hl => match us, hl with | [_, _], _ => rfl
  have D_law_stand : DF K mg "_law_stand" s_law_stand ["deck", "hall"] := df_of (d := dd_law_stand) X G rfl (c.def_ 45 (d := dd_law_stand) rfl) (c.fact 45 (f := .glo "_law_stand") rfl) fun _ _ _ _ _ _ us hl => match us, hl with | [_, _], _ => rfl
  have D_law_doors : DFA K mg "_law_doors" s_law_doors ["hall", "stand", "beat", "plan"] := dfa_of (d := dd_law_doors) X G rfl (c.def_ 46 (d := dd_law_doors) rfl) (c.fact 46 (f := .glo "_law_doors") rfl) fun _ _ _ _ _ _ us hl => match us, hl with | [_, _, _, _], _ => rfl
  have D_law_plans : DFA K mg "_law_plans" s_law_plans ["hall", "plan"] := dfa_of (d := dd_law_plans) X G rfl (c.def_ 47 (d := dd_law_plans) rfl) (c.fact 47 (f := .glo "_law_plans") rfl) fun _ _ _ _ _ _ us hl => match us, hl with | [_, _], _ => rfl
  have D_law_by_hall : DFA K mg "_law_by_hall" s_law_by_hall ["hall"] := dfa_of (d := dd_law_by_hall) X G rfl (c.def_ 48 (d := dd_law_by_hall) rfl) (c.fact 48 (f := .glo "_law_by_hall") rfl) fun _ _ _ _ _ _ us hl => match us, hl with | [_], _ => rfl
  have D_law_last_right : DFA K mg "_law_last_right" s_law_last_right ["hall", "stand", "plan"] := dfa_of (d := dd_law_last_right) X G rfl (c.def_ 49 (d := dd_law_last_right) rfl) (c.fact 49 (f := .glo "_law_last_right") rfl) fun _ _ _ _ _ _ us hl => match us, hl with | [_, _, _], _ => rfl
  have C_is_from := ok_is_from (P := P) (w := w) (base := base) (n := 100) B D_is_from 
  have C_is_tuple := ok_is_tuple (P := P) (w := w) (base := base) (n := 100) B D_is_tuple 
  have C_is_lore := ok_is_lore (P := P) (w := w) (base := base) (n := 100) B D_is_lore C_is_from C_is_tuple
  have C_is_hall := ok_is_hall (P := P) (w := w) (base := base) (n := 100) B D_is_hall C_is_from C_is_tuple C_is_lore
  have C_need_hall := ok_need_hall (P := P) (w := w) (base := base) (n := 100) B D_need_hall C_is_hall
  have C_is_standing := ok_is_standing (P := P) (w := w) (base := base) (n := 100) B D_is_standing C_is_from C_is_tuple
  have C_is_meeting := ok_is_meeting (P := P) (w := w) (base := base) (n := 100) B D_is_meeting C_is_from C_is_tuple
  have C_is_beating := ok_is_beating (P := P) (w := w) (base := base) (n := 100) B D_is_beating C_is_tuple C_is_meeting
  have C_is_planned := ok_is_planned (P := P) (w := w) (base := base) (n := 100) B D_is_planned C_is_tuple C_is_beating
  have C_need_stand := ok_need_stand (P := P) (w := w) (base := base) (n := 100) B D_need_stand C_is_standing
  have C_need_beat := ok_need_beat (P := P) (w := w) (base := base) (n := 100) B D_need_beat C_is_beating
  have C_need_plan := ok_need_plan (P := P) (w := w) (base := base) (n := 100) B D_need_plan C_is_planned
  have C_need_thing := ok_need_thing (P := P) (w := w) (base := base) (n := 100) B D_need_thing C_is_from
  have C_need_count := ok_need_count (P := P) (w := w) (base := base) (n := 100) B D_need_count C_is_from
  have C_need_meeting := ok_need_meeting (P := P) (w := w) (base := base) (n := 100) B D_need_meeting C_is_meeting
  have C_law_deck := ok_law_deck (P := P) (w := w) (base := base) (n := 100) B D_law_deck 
  have C_law_pick := ok_law_pick (P := P) (w := w) (base := base) (n := 100) B D_law_pick 
  have C_law_one := ok_law_one (P := P) (w := w) (base := base) (n := 100) B D_law_one C_law_pick
  have C_law_hall := ok_law_hall (P := P) (w := w) (base := base) (n := 100) B D_law_hall C_law_pick C_law_one
  have C_law_small := ok_law_small (P := P) (w := w) (base := base) (n := 100) B D_law_small 
  have C_law_meeting := ok_law_meeting (P := P) (w := w) (base := base) (n := 100) B D_law_meeting C_law_pick
  have C_law_beat := ok_law_beat (P := P) (w := w) (base := base) (n := 100) B D_law_beat C_law_pick C_law_meeting
  have C_law_plan := ok_law_plan (P := P) (w := w) (base := base) (n := 100) B D_law_plan C_law_pick C_law_beat
  have C_law_stand := ok_law_stand (P := P) (w := w) (base := base) (n := 100) B D_law_stand C_law_pick C_law_one
  have X_need_hall := okx_need_hall (P := P) (w := w) (base := base) (n := 100) B D_need_hall A_NoHall.m C_is_hall
  have X_need_stand := okx_need_stand (P := P) (w := w) (base := base) (n := 100) B D_need_stand A_NoStand.m C_is_standing
  have X_need_beat := okx_need_beat (P := P) (w := w) (base := base) (n := 100) B D_need_beat A_NoBeat.m C_is_beating
  have X_need_plan := okx_need_plan (P := P) (w := w) (base := base) (n := 100) B D_need_plan A_NoPlan.m C_is_planned
  have X_need_thing := okx_need_thing (P := P) (w := w) (base := base) (n := 100) B D_need_thing A_NoThing.m C_is_from
  have X_need_count := okx_need_count (P := P) (w := w) (base := base) (n := 100) B D_need_count A_NoCount.m C_is_from
  have X_need_meeting := okx_need_meeting (P := P) (w := w) (base := base) (n := 100) B D_need_meeting A_NoMeeting.m C_is_meeting
  have X_by_beat_NoHall := okx_by_beat_NoHall (P := P) (w := w) (base := base) (n := 100) B D_by_beat X_need_hall 
  have X_by_beat_NoStand := okx_by_beat_NoStand (P := P) (w := w) (base := base) (n := 100) B D_by_beat X_need_stand C_need_hall
  have X_by_beat_NoBeat := okx_by_beat_NoBeat (P := P) (w := w) (base := base) (n := 100) B D_by_beat X_need_beat C_need_hall C_need_stand
  have X_by_plan_NoHall := okx_by_plan_NoHall (P := P) (w := w) (base := base) (n := 100) B D_by_plan X_need_hall 
  have X_by_plan_NoStand := okx_by_plan_NoStand (P := P) (w := w) (base := base) (n := 100) B D_by_plan X_need_stand C_need_hall
  have X_by_plan_NoPlan := okx_by_plan_NoPlan (P := P) (w := w) (base := base) (n := 100) B D_by_plan X_need_plan C_need_hall C_need_stand
  have X_by_plan_NoCount := okx_by_plan_NoCount (P := P) (w := w) (base := base) (n := 100) B D_by_plan X_need_count C_need_hall C_need_stand C_need_plan
  have X_comes_round_NoHall := okx_comes_round_NoHall (P := P) (w := w) (base := base) (n := 100) B D_comes_round X_need_hall 
  have X_comes_round_NoStand := okx_comes_round_NoStand (P := P) (w := w) (base := base) (n := 100) B D_comes_round X_need_stand C_need_hall
  have X_comes_round_NoPlan := okx_comes_round_NoPlan (P := P) (w := w) (base := base) (n := 100) B D_comes_round X_need_plan C_need_hall C_need_stand
  have X_kept_from_NoHall := okx_kept_from_NoHall (P := P) (w := w) (base := base) (n := 100) B D_kept_from X_need_hall 
  have X_kept_from_NoStand := okx_kept_from_NoStand (P := P) (w := w) (base := base) (n := 100) B D_kept_from X_need_stand C_need_hall
  have X_kept_from_NoPlan := okx_kept_from_NoPlan (P := P) (w := w) (base := base) (n := 100) B D_kept_from X_need_plan C_need_hall C_need_stand
  have X_lessons_NoHall := okx_lessons_NoHall (P := P) (w := w) (base := base) (n := 100) B D_lessons X_need_hall 
  have X_lessons_NoStand := okx_lessons_NoStand (P := P) (w := w) (base := base) (n := 100) B D_lessons X_need_stand C_need_hall C_need_stand
  have X_is_shown_NoHall := okx_is_shown_NoHall (P := P) (w := w) (base := base) (n := 100) B D_is_shown X_need_hall 
  have X_is_shown_NoStand := okx_is_shown_NoStand (P := P) (w := w) (base := base) (n := 100) B D_is_shown X_need_stand C_need_hall C_need_stand
  have X_ends_NoHall := okx_ends_NoHall (P := P) (w := w) (base := base) (n := 100) B D_ends X_need_hall 
  have X_ends_NoStand := okx_ends_NoStand (P := P) (w := w) (base := base) (n := 100) B D_ends X_need_stand C_need_hall
  have X_ends_NoBeat := okx_ends_NoBeat (P := P) (w := w) (base := base) (n := 100) B D_ends X_need_beat C_need_hall C_need_stand
  have X_ahead_NoHall := okx_ahead_NoHall (P := P) (w := w) (base := base) (n := 100) B D_ahead X_need_hall 
  have X_ahead_NoStand := okx_ahead_NoStand (P := P) (w := w) (base := base) (n := 100) B D_ahead X_need_stand C_need_hall
  have X_ahead_NoBeat := okx_ahead_NoBeat (P := P) (w := w) (base := base) (n := 100) B D_ahead X_need_beat C_need_hall C_need_stand
  have X_can_be_kept_NoHall := okx_can_be_kept_NoHall (P := P) (w := w) (base := base) (n := 100) B D_can_be_kept X_need_hall 
  have X_can_be_kept_NoPlan := okx_can_be_kept_NoPlan (P := P) (w := w) (base := base) (n := 100) B D_can_be_kept X_need_plan C_need_hall
  have X_greatest_NoHall := okx_greatest_NoHall (P := P) (w := w) (base := base) (n := 100) B D_greatest X_need_hall 
  have X_greatest_NoPlan := okx_greatest_NoPlan (P := P) (w := w) (base := base) (n := 100) B D_greatest X_need_plan C_need_hall
  have X_lost_paper_NoHall := okx_lost_paper_NoHall (P := P) (w := w) (base := base) (n := 100) B D_lost_paper X_need_hall 
  have X_lost_paper_NoPlan := okx_lost_paper_NoPlan (P := P) (w := w) (base := base) (n := 100) B D_lost_paper X_need_plan C_need_hall
  have X_lost_paper_NoThing := okx_lost_paper_NoThing (P := P) (w := w) (base := base) (n := 100) B D_lost_paper X_need_thing C_need_hall C_need_plan
  have X_lost_shown_NoHall := okx_lost_shown_NoHall (P := P) (w := w) (base := base) (n := 100) B D_lost_shown X_need_hall 
  have X_lost_shown_NoPlan := okx_lost_shown_NoPlan (P := P) (w := w) (base := base) (n := 100) B D_lost_shown X_need_plan C_need_hall
  have X_lost_shown_NoThing := okx_lost_shown_NoThing (P := P) (w := w) (base := base) (n := 100) B D_lost_shown X_need_thing C_need_hall C_need_plan
  have X_least_from_NoHall := okx_least_from_NoHall (P := P) (w := w) (base := base) (n := 100) B D_least_from X_need_hall 
  have X_least_from_NoPlan := okx_least_from_NoPlan (P := P) (w := w) (base := base) (n := 100) B D_least_from X_need_plan C_need_hall
  have X_least_from_NoThing := okx_least_from_NoThing (P := P) (w := w) (base := base) (n := 100) B D_least_from X_need_thing C_need_hall C_need_plan
  have X_parted_NoHall := okx_parted_NoHall (P := P) (w := w) (base := base) (n := 100) B D_parted X_need_hall 
  have X_parted_NoPlan := okx_parted_NoPlan (P := P) (w := w) (base := base) (n := 100) B D_parted X_need_plan C_need_hall C_need_plan
  have X_is_stand_NoHall := okx_is_stand_NoHall (P := P) (w := w) (base := base) (n := 100) B D_is_stand X_need_hall 
  have X_is_beat_NoHall := okx_is_beat_NoHall (P := P) (w := w) (base := base) (n := 100) B D_is_beat X_need_hall 
  have X_is_plan_NoHall := okx_is_plan_NoHall (P := P) (w := w) (base := base) (n := 100) B D_is_plan X_need_hall 
  have X_full_NoHall := okx_full_NoHall (P := P) (w := w) (base := base) (n := 100) B D_full X_need_hall 
  have X_bare_NoHall := okx_bare_NoHall (P := P) (w := w) (base := base) (n := 100) B D_bare X_need_hall 
  have X_are_free_NoHall := okx_are_free_NoHall (P := P) (w := w) (base := base) (n := 100) B D_are_free X_need_hall 
  have X_are_free_NoMeeting := okx_are_free_NoMeeting (P := P) (w := w) (base := base) (n := 100) B D_are_free X_need_meeting C_need_hall C_need_meeting
  have CT := try_ok (P := P) (w := w) (base := base) (kk := 6) D_law_kin D_law_try
  have C_law_doors := ok_law_doors (P := P) (w := w) (base := base) (n := 100) D_law_doors TB_law_doors ND
  have C_law_plans := ok_law_plans (P := P) (w := w) (base := base) (n := 100) D_law_plans TB_law_plans ND
  have C_law_by_hall := ok_law_by_hall (P := P) (w := w) (base := base) (n := 100) D_law_by_hall TB_law_by_hall ND
  have C_law_last_right := ok_law_last_right (P := P) (w := w) (base := base) (n := 100) B D_law_last_right D_law_kin D_law_try TB_law_last_right ND kw_NoThing kw_NoCount kw_NoMeeting kw_NoPlan X_lost_paper_NoThing X_least_from_NoThing X_by_plan_NoCount X_are_free_NoMeeting X_parted_NoPlan
  exact ok_law (P := P) (w := w) (base := base) (n := 100) B F CT C_law_doors C_law_plans C_law_by_hall C_law_last_right C_law_deck C_law_one C_law_hall C_law_small C_law_plan C_law_stand kw_NoHall kw_NoStand kw_NoBeat kw_NoPlan X_by_beat_NoHall X_by_plan_NoHall X_comes_round_NoHall X_kept_from_NoHall X_lessons_NoHall X_is_shown_NoHall X_ends_NoHall X_ahead_NoHall X_can_be_kept_NoHall X_greatest_NoHall X_lost_paper_NoHall X_lost_shown_NoHall X_least_from_NoHall X_parted_NoHall X_is_stand_NoHall X_is_beat_NoHall X_is_plan_NoHall X_full_NoHall X_bare_NoHall X_are_free_NoHall X_by_beat_NoStand X_by_plan_NoStand X_comes_round_NoStand X_kept_from_NoStand X_lessons_NoStand X_is_shown_NoStand X_ends_NoStand X_ahead_NoStand X_by_beat_NoBeat X_by_plan_NoPlan X_comes_round_NoPlan X_kept_from_NoPlan X_ends_NoBeat X_ahead_NoBeat X_can_be_kept_NoPlan X_greatest_NoPlan X_lost_paper_NoPlan X_lost_shown_NoPlan X_least_from_NoPlan X_parted_NoPlan
theorem start13 {K : PySem.W.Frag} {H : Hp} {a : Addr} {ns : List Int} (hT : ∀ p ∈ tabs13.map (He.cT K), H p.2 = some (.tbl #[])) (hS : SqL K H a (ns.map V.int)) (hl : ns.length ≤ 63) : spLR K (TT K) 1 (exc_law 100) [.ref a] H (fun v _ => v = .bl true) fun _ _ _ => False := by
  refine ⟨noTab H, [.list (ns.map PyData.int)], rfl, fun b o h => (noTab_some h).1, nt_noTab, dpAll_noTab (.cons (.lst hS (L2.dpAll_ints ns)) .nil), fun p hp => ?_, law_math ns hl, fun _ _ _ => rfl⟩
  unfold TT at hp
  simp only [List.mem_cons, List.not_mem_nil, or_false] at hp
  rcases hp with rfl | rfl | rfl | rfl
  · exact LamX.TabS.nil (hT (He.cT K ("_law_doors", none)) (by simp [tabs13]))
  · exact LamX.TabS.nil (hT (He.cT K ("_law_plans", none)) (by simp [tabs13]))
  · exact LamX.TabS.nil (hT (He.cT K ("_law_by_hall", none)) (by simp [tabs13]))
  · exact LamX.TabS.nil (hT (He.cT K ("_law_last_right", none)) (by simp [tabs13]))
end G65
open PySem PySem.W PySem.Calls PyProof.Rows
set_option maxHeartbeats 0 in
theorem PySem.Challenge.cw_lorehall_k13_what_is_refused_holds : PySem.Challenge.rw_lorehall_k13_what_is_refused.Holds := by
  w_on; o_law
  refine HandSHeadRun.head_any (r := OpenLaw.row PySem.Challenge.rw_lorehall_k13_what_is_refused) (q := view (OpenLaw.row PySem.Challenge.rw_lorehall_k13_what_is_refused).prog [93]) (H := G65.hk) (ob := G65.obs) (M := 6000) (loose := G65.loo) (d := HandSHeadRun.topDef (OpenLaw.row PySem.Challenge.rw_lorehall_k13_what_is_refused).prog 93) (kwd := []) G65.obs_eq
    (by kernel_rfl) (fun s => by kernel_rfl) G65.hrun (by kernel_rfl) (by kernel_rfl) (by kernel_rfl) (by rfl) (by first | assumption | decide +kernel) (by decide +kernel) ⟨rfl, rfl, rfl, rfl, rfl, by decide +kernel⟩ ?hw ?hc
  case hw => w_witness2
  case hc =>
    refine G65.walk_ofTE (l := PySem.Challenge.rw_lorehall_k13_what_is_refused) (n := 63) (k := 10) (x := "script") (CX := L2.CX0) rfl (by decide) (by kernel_rfl) ⟨rfl, by decide, by decide⟩ ?F (fun _ _ _ _ z => z)
    intro w mg fa h Y G hmg0
    obtain ⟨K, KX, cx⟩ := Y
    have c : He.SaysD G65.fal G65.fnl K := cx.t.d
    have hmg : mg ("law" : PySem.Str) = some (.ref fa) := by
      have e : (HandSHeadRun.topDef (OpenLaw.row PySem.Challenge.rw_lorehall_k13_what_is_refused).prog 93).name = ("law" : PySem.Str) := by kernel_rfl
      rw [← e]
      exact hmg0
    obtain ⟨fd0, F0⟩ := c.def_ 50 (d := G65.dd_law) rfl
    have eg := hmg.symm.trans (He.glo_ok KX G (c.fact 50 (f := .glo "law") rfl))
    have hb := L2.FunD.bindsA (ps := ["script"]) F0 fun _ _ _ _ _ _ us hl => match us, hl with | [_], _ => rfl
    cases eg
    refine ⟨K, KX, fd0, G65.tabs13.map (He.cT K), G65.spLR K (G65.TT K) 1 (G65.exc_law 100), fun p hp => ?_, fun p hp => ?_, fun p hp => ?_, fun s v => hb s [v] rfl, fun H a ns hl _ hT hS => G65.start13 hT hS hl, fun base _ _ TB => ?_⟩
    · obtain ⟨d, hd, rfl⟩ := List.mem_map.1 hp
      exact cx.empty _ hd
    · obtain ⟨d, hd, rfl⟩ := List.mem_map.1 hp
      exact cx.out _ hd
    · obtain ⟨d, hd, rfl⟩ := List.mem_map.1 hp
      exact PySem.W.codeHd_of_K KX (cx.hd _ hd)
    · exact G65.all_ok (P := (PySem.Challenge.rw_lorehall_k13_what_is_refused).prog) (w := w) (base := base) KX G c cx.more F0 (TB _ (List.mem_map.2 ⟨("_law_doors", none), by simp [G65.tabs13], rfl⟩)) (TB _ (List.mem_map.2 ⟨("_law_plans", none), by simp [G65.tabs13], rfl⟩)) (TB _ (List.mem_map.2 ⟨("_law_by_hall", none), by simp [G65.tabs13], rfl⟩)) (TB _ (List.mem_map.2 ⟨("_law_last_right", none), by simp [G65.tabs13], rfl⟩))
