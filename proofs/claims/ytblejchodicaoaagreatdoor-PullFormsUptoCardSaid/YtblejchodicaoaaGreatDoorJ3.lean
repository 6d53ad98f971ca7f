/-
  THE ENGINE, part O: garbage; a function's body. Program-independent. Own work.
-/
import Derived.Test.YtblejchodicaoaaGreatDoorJ2
import Derived.RangeFuncRecord
import Derived.OrdersIn
set_option linter.unusedVariables false
set_option linter.unusedSimpArgs false
namespace Go.Proofs.YtblejchodicaoaaGreatDoor.Eng
open Go Go.RowKit

section
variable {pr : Nat → Prop} {w : World} {σ : List AObj} {β ids : List Nat}

/-! ### Objects let go -/
def adropG (keep : Nat → Bool) (σ : List AObj) : List AObj := σ.zipIdx.map fun p => if keep p.2 then p.1 else .gone

theorem adropG_at (keep : Nat → Bool) (σ : List AObj) (i : Nat) : (adropG keep σ)[i]? = (σ[i]?).map fun o => if keep i then o else .gone := by
  simp only [adropG, List.getElem?_map, List.getElem?_zipIdx, Option.map_map]
  cases σ[i]? <;> simp

theorem adropG_live {keep : Nat → Bool} {i : Nat} (h : liveAt (adropG keep σ) i) : liveAt σ i ∧ keep i = true := by
  obtain ⟨o, ho, hl⟩ := h
  rw [adropG_at] at ho
  simp only [Option.map_eq_some_iff] at ho
  obtain ⟨o', h1, h2⟩ := ho
  by_cases hk : keep i = true
  · simp only [hk, if_true] at h2
    exact ⟨⟨o', h1, h2 ▸ hl⟩, hk⟩
  · simp only [hk, Bool.false_eq_true, if_false] at h2
    subst h2
    cases hl

theorem Inv.dropG (I : Inv pr w σ β) (keep : Nat → Bool) : Inv pr w (adropG keep σ) β ∧ Evo pr w σ β w (adropG keep σ) β := by
  have hst : ∀ b, stOf pr w σ β b → stOf pr w (adropG keep σ) β b := fun b hb => ⟨hb.1, fun i hi => hb.2 i (adropG_live hi).1⟩
  have L : Later w (stOf pr w σ β) w (stOf pr w (adropG keep σ) β) := ⟨hst, fun _ _ => rfl⟩
  refine ⟨⟨I.prt, fun i b hi hb => I.npr i b (adropG_live hi).1 hb, ?_, I.lt, fun i j b hi hj => I.inj i j b (adropG_live hi).1 (adropG_live hj).1, fun i o b ho hb => ?_⟩, ⟨rfl, rfl, rfl, Nat.le_refl _, fun _ _ => rfl, L, Onto.refl _ _⟩⟩
  · simp [adropG, I.len]
  · rw [adropG_at] at ho
    simp only [Option.map_eq_some_iff] at ho
    obtain ⟨o', h1, h2⟩ := ho
    by_cases hk : keep i = true
    · simp only [hk, if_true] at h2
      subst h2
      exact Holds.later L (Onto.refl _ _) rfl (I.holds i o' b h1 hb)
    · simp only [hk, Bool.false_eq_true, if_false] at h2
      subst h2
      trivial

theorem subσ_drop (σ : List AObj) (ids : List Nat) : wl (adropG ids.contains σ) ids = wl σ ids := by
  unfold wl
  apply List.map_congr_left
  intro i hi
  have : (adropG ids.contains σ).getD i .gone = σ.getD i .gone := by
    simp only [List.getD_eq_getElem?_getD, adropG_at]
    cases σ[i]? <;> simp [hi]
  rw [this]

theorem subOk_drop (h : xh σ ids = true) : xh (adropG ids.contains σ) ids = true := by
  simp only [xh, Bool.and_eq_true, List.all_eq_true, decide_eq_true_eq, beq_iff_eq] at h ⊢
  refine ⟨h.1, fun i hi => ?_⟩
  obtain ⟨h1, h2⟩ := h.2 i hi
  have : (adropG ids.contains σ).getD i .gone = σ.getD i .gone := by
    simp only [List.getD_eq_getElem?_getD, adropG_at]
    cases σ[i]? <;> simp [hi]
  rw [this]
  exact ⟨by simpa [adropG] using h1, h2⟩

/-- GARBAGE: the objects ids alone stay, under new numbers. -/
theorem Inv.keep (I : Inv pr w σ β) (h : xh σ ids = true) : Inv pr w (wl σ ids) (subβ β ids) ∧ Later w (stOf pr w σ β) w (stOf pr w (wl σ ids) (subβ β ids)) ∧
    ∀ (x : AV) (v : Value), GV w (stOf pr w σ β) β x v → GV w (stOf pr w (wl σ ids) (subβ β ids)) (subβ β ids) (Eng.ren (pos ids) x) v := by
  obtain ⟨I1, E1⟩ := I.dropG ids.contains
  have h1 := subOk_drop h
  have hpr : subPr pr (adropG ids.contains σ) β ids = pr := by
    funext b
    apply propext
    constructor
    · rintro (hb | ⟨i, hl, hp, hb⟩)
      · exact hb
      · have := (adropG_live hl).2
        have hm : i ∈ ids := by simpa using this
        obtain ⟨k, hk⟩ := List.getElem?_of_mem hm
        exact absurd hk (pos_none hp k)
    · exact .inl
  have I2 := I1.sub h1
  rw [hpr, subσ_drop] at I2
  have hst := fun b => sub_st I1 h1 b
  simp only [hpr, subσ_drop] at hst
  refine ⟨I2, ⟨fun b hb => (hst b).2 (E1.later.sub b hb), fun _ _ => rfl⟩, fun x v hx => ?_⟩
  have := GV.sub I1 h1 (GV.later E1.later E1.onto x v hx)
  rwa [hpr, subσ_drop] at this

theorem keep_onto {β0 : List Nat} {k : Nat} (I : Inv pr w σ β) (hO : ∀ (o b : Nat), β0[o]? = some b → β[o]? = some b) (hk : β0.length ≤ k) (h : xh σ ids = true) (hp : ∀ i, i < k → ids[i]? = some i) {o b : Nat} (hb : β0[o]? = some b) : (subβ β ids)[o]? = some b := by
  have ho : o < k := Nat.lt_of_lt_of_le (List.getElem?_eq_some_iff.1 hb).1 hk
  obtain ⟨_, b', _, h2, _, h4, _⟩ := sub_at I h (hp o ho)
  rw [h4, ← h2, hO o b hb]

end

theorem reach_prefix (σ : List AObj) : ∀ (n : Nat) (todo seen : List Nat), ∃ l, xf σ n todo seen = seen ++ l
  | 0, todo, seen => ⟨[], by cases todo <;> simp [xf]⟩
  | n + 1, [], seen => ⟨[], by simp [xf]⟩
  | n + 1, i :: r, seen => by
    simp only [xf]
    split
    · exact reach_prefix σ n r seen
    · obtain ⟨l, hl⟩ := reach_prefix σ n (wj (σ.getD i .gone) ++ r) (seen ++ [i])
      exact ⟨i :: l, by rw [hl]; simp⟩

/-- The first k objects, and what they, and the values given, lead to. -/
def yz (σ : List AObj) (k : Nat) (roots : List Nat) : List Nat := xf σ 4096 (((List.range k).map fun i => wj (σ.getD i .gone)).flatten ++ roots) (List.range k)

theorem keepIds_first (σ : List AObj) (k : Nat) (roots : List Nat) {i : Nat} (hi : i < k) : (yz σ k roots)[i]? = some i := by
  obtain ⟨l, hl⟩ := reach_prefix σ 4096 (((List.range k).map fun i => wj (σ.getD i .gone)).flatten ++ roots) (List.range k)
  rw [yz, hl, List.getElem?_append_left (by simpa using hi)]
  simp [hi]

def js (ids : List Nat) : List Nat → Option (List Nat)
  | [] => some []
  | i :: r => match pos ids i, js ids r with
    | some j, some l => some (j :: l)
    | _, _ => none

/-- A state with less in it: the temporaries that are asked for, and what they lead to. -/
def xk (k : Nat) (keep : List Nat) (s : St) : St :=
  let env := s.env.filter fun p => keep.contains p.1 || decide (j3 ≤ p.1)
  let ids := yz s.σ k (s.dfs ++ jl (env.map (·.2)))
  if xh s.σ ids then match js ids s.dfs with
    | some dfs => { env := jr (pos ids) env, σ := wl s.σ ids, dfs := dfs }
    | none => s
  else s

theorem filter_mem (l : List Nat) : ∀ (env : Env) (t : Nat) (x : AV), (env.filter fun p => l.contains p.1).lookup t = some x → t ∈ l
  | [], t, x, h => by simp at h
  | (s, y) :: r, t, x, h => by
    simp only [List.filter_cons] at h
    split at h
    · rename_i hs
      simp only [List.lookup_cons] at h
      by_cases hts : (t == s) = true
      · have e : t = s := by simpa using hts
        subst e
        simpa using hs
      · simp only [Bool.not_eq_true] at hts
        simp only [hts] at h
        exact filter_mem l r t x h
    · exact filter_mem l r t x h

theorem filter_lookup (f : Nat → Bool) : ∀ (env : Env) (t : Nat) (x : AV), (env.filter fun p => f p.1).lookup t = some x → env.lookup t = some x
  | [], t, x, h => by simp at h
  | (s, y) :: r, t, x, h => by
    simp only [List.filter_cons] at h
    simp only [List.lookup_cons]
    by_cases hf : f s = true
    · simp only [hf, if_true, List.lookup_cons] at h
      by_cases hts : (t == s) = true
      · simpa only [hts] using h
      · simp only [Bool.not_eq_true] at hts
        simp only [hts] at h ⊢
        exact filter_lookup f r t x h
    · simp only [hf, Bool.false_eq_true, if_false] at h
      have := filter_lookup f r t x h
      by_cases hts : (t == s) = true
      · exfalso
        have e : t = s := by simpa using hts
        subst e
        -- t is not kept: it cannot be found in the filtered rest
        have hk : ∀ (env : Env), (env.filter fun p => f p.1).lookup t = none := fun env => by
          induction env with
          | nil => rfl
          | cons p q ih =>
            obtain ⟨s', y'⟩ := p
            simp only [List.filter_cons]
            split
            · rename_i h1
              have hne : (t == s') = false := by
                simp only [beq_eq_false_iff_ne, ne_eq]
                intro e
                exact hf (e ▸ h1)
              simp only [List.lookup_cons, hne, ih]
            · exact ih
        rw [hk r] at h
        cases h
      · simp only [Bool.not_eq_true] at hts
        simp only [hts]
        exact this

section
variable {pr : Nat → Prop} {P : Program} {w0 w : World} {σ0 : List AObj} {β0 β : List Nat} {n k : Nat}

theorem amarks_sound {σ : List AObj} {ids : List Nat} (I : Inv pr w σ β) (h : xh σ ids = true) : ∀ {l l' : List Nat} {ds : List Deferred}, js ids l = some l' → GMarks β l ds → GMarks (subβ β ids) l' ds
  | [], l', ds, hm, hg => by
    simp only [js, Option.some.injEq] at hm
    subst hm
    exact hg
  | i :: r, l', ds, hm, hg => by
    simp only [js] at hm
    split at hm
    · rename_i j l h1 h2
      simp only [Option.some.injEq] at hm
      subst hm
      obtain ⟨b, q, e1, e2, e3⟩ := hg
      exact ⟨b, q, e1, sub_maps I h i j b h1 e2, amarks_sound I h h2 e3⟩
    · cases hm

theorem atrim_less (hk : β0.length ≤ k) (keep : List Nat) (s : St) : Less pr w0 σ0 β0 n s (xk k keep s) := by
  intro a w β hA
  unfold xk
  simp only
  split
  · rename_i h
    split
    · rename_i dfs hd
      obtain ⟨I', L', G'⟩ := hA.inv.keep h
      refine ⟨_, I', ⟨hA.evo.os, hA.evo.tape, hA.evo.output, hA.evo.size, hA.evo.prot, hA.evo.later.trans L', ⟨fun o b hb => ?_, hA.evo.onto.size⟩⟩, hA.size, fun t y hy => ?_, amarks_sound hA.inv h hd hA.dfs⟩
      · exact keep_onto hA.inv hA.evo.onto.at_ hk h (fun i hi => keepIds_first _ _ _ hi) hb
      · obtain ⟨x, hx, rfl⟩ := renEnv_lookup _ t y hy
        have h2 := hA.env t x (filter_lookup (fun t => keep.contains t || decide (j3 ≤ t)) _ t x hx)
        exact ⟨h2.1, G' x _ h2.2⟩
    · exact ⟨β, hA⟩
  · exact ⟨β, hA⟩

/-! ### A function's end -/
/-- The blocks for the deferred calls of ranges over functions are shut. -/
def wq : List AObj → List Nat → Option (List AObj)
  | σ, [] => some σ
  | σ, i :: r => match σ[i]? with
    | some .dfr => wq (σ.set i .gone) r
    | _ => none

def yg (P : Program) (σ : List AObj) (env : Env) : List ResultVar → Option (List AV)
  | [] => some []
  | .tmp t :: r => (yg P σ env r).map fun l => xm true env true (.tmp t) :: l
  | .cell t ty :: r => match j8 P σ ty (xm true env true (.tmp t)), yg P σ env r with
    | some y, some l => some (y :: l)
    | _, _ => none

def wv : List AV → AV
  | [x] => x
  | xs => .tup xs

/-- Values frozen, if asked for; and nothing is left but the first k objects, and what is led to. -/
def jo (k : Nat) (fz : Bool) (xs : List AV) (σ : List AObj) : Option (List AV × List AObj) :=
  match (if fz then xj σ xs else some (xs, σ)) with
  | some (ys, σ1) =>
    let ids := yz σ1 k (jl ys)
    if xh σ1 ids then some (wn (pos ids) ys, wl σ1 ids) else none
  | none => none

def wp (P : Program) (rs : List ResultVar) (k : Nat) (fz : Bool) : AEx → St → Option (Out × List AObj)
  | .normal, s | .ret, s => match wq s.σ s.dfs with
    | some σ1 => match yg P σ1 s.env rs with
      | some xs => (jo k fz xs σ1).map fun p => (.ret (wv p.1), p.2)
      | none => none
    | none => none
  | .pan x, s => match wq s.σ s.dfs with
    | some σ1 => match jo k fz [x] σ1 with
      | some ([y], σ2) => some (.pan y, σ2)
      | _ => none
    | none => none
  | _, _ => none

def x9 : Nat → List AV → Env
  | _, [] => []
  | i, x :: r => (i, x) :: x9 (i + 1) r

def x7 (G : Globs) : Env := G.map fun p => (j3 + p.1, .d (.rp p.2))

/-- The function's end behind its code. -/
def finA (P : Program) (rs : List ResultVar) (k : Nat) (fz : Bool) : Option (AEx × St) → Option (Out × List AObj)
  | some (e, s) => wp P rs k fz e s
  | none => none

def abody (P : Program) (G : Globs) (C : Oracle) (M : Nat → Nat → Mach) (fz : Bool) (f : FuncId) (args : List AV) (σ : List AObj) : Option (Out × List AObj) :=
  match P.funcs[f]? with
  | some fn => match fn.body with
    | some c => if j3 ≤ args.length then none else finA P fn.results.toList σ.length fz (acode P C (M σ.length (args.length + (fn.ntmps - args.length))) (args.length + (fn.ntmps - args.length)) 1 c { env := x9 0 args ++ x7 G, σ := σ, dfs := [] })
    | none => none
  | none => none

theorem aenv_lookup : ∀ (l : List AV) (i t : Nat) (x : AV), (x9 i l).lookup t = some x → i ≤ t ∧ l[t - i]? = some x
  | [], i, t, x, h => by simp [x9] at h
  | y :: r, i, t, x, h => by
    simp only [x9, List.lookup_cons] at h
    split at h
    · rename_i e
      have : t = i := by simpa using e
      subst this
      simp only [Option.some.injEq] at h
      subst h
      simp
    · obtain ⟨h1, h2⟩ := aenv_lookup r (i + 1) t x h
      refine ⟨by omega, ?_⟩
      have : t - i = (t - (i + 1)) + 1 := by omega
      rw [this]
      simpa using h2

theorem aclose_sound {σ σ' : List AObj} {fz : Bool} {xs ys : List AV} (I : Inv pr w σ β) (hE : Evo pr w0 σ0 β0 w σ β) (hk : β0.length ≤ k) (h : jo k fz xs σ = some (ys, σ')) {vs : List Value} (hg : GVl w (stOf pr w σ β) β xs vs) :
    ∃ β', Inv pr w σ' β' ∧ Evo pr w0 σ0 β0 w σ' β' ∧ GVl w (stOf pr w σ' β') β' ys vs := by
  unfold jo at h
  have hgc : ∀ (ys : List AV) (σ1 : List AObj), Inv pr w σ1 β → Evo pr w0 σ0 β0 w σ1 β → GVl w (stOf pr w σ1 β) β ys vs → ∀ ys' σ2,
      (let ids := yz σ1 k (jl ys); if xh σ1 ids then some (wn (pos ids) ys, wl σ1 ids) else none) = some (ys', σ2) →
      ∃ β', Inv pr w σ2 β' ∧ Evo pr w0 σ0 β0 w σ2 β' ∧ GVl w (stOf pr w σ2 β') β' ys' vs := by
    intro ys σ1 I1 E1 hg1 ys' σ2 h
    simp only at h
    split at h
    · rename_i hs
      simp only [Option.some.injEq, Prod.mk.injEq] at h
      obtain ⟨rfl, rfl⟩ := h
      obtain ⟨I', L', G'⟩ := I1.keep hs
      refine ⟨_, I', ⟨E1.os, E1.tape, E1.output, E1.size, E1.prot, E1.later.trans L', ⟨fun o b hb => ?_, E1.onto.size⟩⟩, ?_⟩
      · exact keep_onto I1 E1.onto.at_ hk hs (fun i hi => keepIds_first _ _ _ hi) hb
      · have : ∀ (ys : List AV) (vs : List Value), GVl w (stOf pr w σ1 β) β ys vs → GVl w (stOf pr w (wl σ1 (yz σ1 k (jl _))) (subβ β (yz σ1 k (jl _)))) (subβ β (yz σ1 k (jl _))) (wn (pos (yz σ1 k (jl _))) ys) vs := fun ys => by
          induction ys with
          | nil => intro vs h; simpa [wn, GVl] using h
          | cons y r ih =>
            intro vs h
            simp only [GVl] at h
            obtain ⟨v, q, rfl, h1, h2⟩ := h
            simp only [wn, GVl]
            exact ⟨v, q, rfl, G' y v h1, ih q h2⟩
        exact this ys vs hg1
    · cases h
  cases fz with
  | false => exact hgc xs σ I hE hg _ _ (by simpa using h)
  | true =>
    simp only [if_true] at h
    cases hf : xj σ xs with
    | none => simp [hf] at h
    | some p =>
      obtain ⟨ys1, σ1⟩ := p
      obtain ⟨hok, hv⟩ := frzsA_sound I hf
      exact hgc ys1 σ1 hok.inv (hE.trans hok.evo) (hv vs hg) _ _ (by simpa [hf] using h)

end
end Go.Proofs.YtblejchodicaoaaGreatDoor.Eng

/-
  THE ENGINE, part P: a function's contract from its body. Program-independent. Own work.
-/
namespace Go.Proofs.YtblejchodicaoaaGreatDoor.Eng
open Go Go.RowKit

section
variable {pr : Nat → Prop} {P : Program} {w0 w : World} {σ0 : List AObj} {β0 β : List Nat} {n k m : Nat}

theorem aload_var {σ : List AObj} (I : Inv pr w σ β) {t : TypeId} {x y : AV} {v : Value} (hx : GV w (stOf pr w σ β) β x v) (h : j8 P σ t x = some y) :
    ∃ u, (do loadVar t (← asAddr v) : Sem Value).run P w = .ok u w ∧ GV w (stOf pr w σ β) β y u := by
  obtain ⟨u, hu, hy⟩ := aload_sound (P := P) I hx h
  obtain ⟨⟨cs, j⟩, hc, _⟩ := Option.bind_eq_some_iff.1 h
  obtain ⟨b, o, rfl, _⟩ := cellsAt_sound I hx hc
  refine ⟨u, ?_, hy⟩
  simpa [Instr.loadAt, Instr.sureAddr, asAddr] using hu

theorem aresults_sound {σ : List AObj} (I : Inv pr w σ β) {env : Env} {tmps : Array Value} (hE : GEnv w (stOf pr w σ β) β env tmps) : ∀ (l : List ResultVar) {xs : List AV}, yg P σ env l = some xs →
    ∃ vs : List Value, (l.mapM (fun | .tmp t => pure (tmps.getD t undef) | .cell a t => do loadVar t (← asAddr (tmps.getD a undef)) : ResultVar → Sem Value)).run P w = .ok vs w ∧ GVl w (stOf pr w σ β) β xs vs
  | [], xs, h => by
    simp only [yg, Option.some.injEq] at h
    subst h
    exact ⟨[], by simp, by simp [GVl]⟩
  | .tmp t :: r, xs, h => by
    simp only [yg, Option.map_eq_some_iff] at h
    obtain ⟨l, hl, rfl⟩ := h
    obtain ⟨vs, h1, h2⟩ := aresults_sound I hE r hl
    refine ⟨tmps.getD t undef :: vs, ?_, ?_⟩
    · rw [List.mapM_cons]
      simp only [Sem.run_bind, Sem.run_pure, Result.andThen_ok, h1]
    · simp only [GVl]
      exact ⟨_, _, rfl, alook_sound (a := { tmps := tmps, defers := [] }) hE true (.tmp t) rfl, h2⟩
  | .cell t ty :: r, xs, h => by
    simp only [yg] at h
    split at h
    · rename_i y l h1 h2
      simp only [Option.some.injEq] at h
      subst h
      obtain ⟨vs, e1, e2⟩ := aresults_sound I hE r h2
      have hx : GV w (stOf pr w σ β) β (xm true env true (.tmp t)) (tmps.getD t undef) := alook_sound (a := { tmps := tmps, defers := [] }) hE true (.tmp t) rfl
      obtain ⟨u, hu, hy⟩ := aload_var (P := P) I hx h1
      refine ⟨u :: vs, ?_, ?_⟩
      · rw [List.mapM_cons]
        simp only [Sem.run_bind] at hu ⊢
        rw [hu]
        simp only [Result.andThen_ok, e1, Sem.run_pure]
      · simp only [GVl]
        exact ⟨_, _, rfl, hy, e2⟩
    · cases h

theorem results_sound {fn : Func} {σ : List AObj} (I : Inv pr w σ β) {env : Env} {tmps : Array Value} (hE : GEnv w (stOf pr w σ β) β env tmps) {xs : List AV} (h : yg P σ env fn.results.toList = some xs) :
    ∃ vs : List Value, (results fn tmps).run P w = .ok (if h : vs.toArray.size = 1 then vs.toArray[0] else .tuple vs.toArray) w ∧ GVl w (stOf pr w σ β) β xs vs := by
  obtain ⟨vs, h1, h2⟩ := aresults_sound (P := P) I hE _ h
  refine ⟨vs, ?_, h2⟩
  unfold results
  rw [← Array.toArray_toList (xs := fn.results)]
  simp only [List.mapM_toArray, Sem.run_bind, Sem.run_map, Sem.run_pure]
  erw [h1]
  rfl

theorem tupV_sound {st : Nat → Prop} {xs : List AV} {vs : List Value} (h : GVl w st β xs vs) : GV w st β (wv xs) (if h : vs.toArray.size = 1 then vs.toArray[0] else .tuple vs.toArray) := by
  have hl := GVl.length h
  match xs, vs, h, hl with
  | [], [], h, _ => simpa [wv, GV] using h
  | [x], [v], h, _ =>
    simp only [GVl, List.cons.injEq] at h
    obtain ⟨_, _, ⟨rfl, rfl⟩, h, _⟩ := h
    simpa [wv] using h
  | x :: y :: r, u :: v :: q, h, _ =>
    have : ¬ ((u :: v :: q).toArray.size = 1) := by simp
    rw [dif_neg this]
    simp only [wv, GV]
    exact ⟨_, rfl, h⟩

/-! ### The marks are taken -/
theorem csize_put {w : World} {b : Nat} {o o' : Obj} (h : w.heap[b]? = some o) (ho : ∀ c e f, o ≠ .cells c e f) (ho' : ∀ c e f, o' ≠ .cells c e f) : csize (w.putObj b o') b = csize w b := by
  have hb : b < w.heap.size := (Array.getElem?_eq_some_iff.1 h).1
  unfold csize
  rw [World.putObj_heap_same hb, h]
  cases o <;> cases o' <;> first | rfl | exact absurd rfl (ho _ _ _) | exact absurd rfl (ho' _ _ _)

theorem leaves {F : Fence} {fn : Func} {tmps : Array Value} {R : Ending → World → Prop} {env : Env} {u : FrameMode} (hu : u ≠ .run) : ∀ (l : List Nat) (σ : List AObj) (w : World) (ds : List Deferred), Inv pr w σ β → Evo pr w0 σ0 β0 w σ β →
    GEnv w (stOf pr w σ β) β env tmps → GMarks β l ds → ∀ σ', wq σ l = some σ' → (∀ w', Inv pr w' σ' β → Evo pr w0 σ0 β0 w' σ' β → Evo pr w σ β w' σ' β → GEnv w' (stOf pr w' σ' β) β env tmps → LeavesIn F m P fn tmps R [] u w') → LeavesInM F m P fn tmps R ds u w
  | [], σ, w, ds, I, E, hE, hg, σ', h, H => by
    simp only [GMarks] at hg
    subst hg
    simp only [wq, Option.some.injEq] at h
    subst h
    exact H w I E (Evo.refl _ _ _) hE
  | i :: r, σ, w, ds, I, E, hE, hg, σ', h, H => by
    obtain ⟨b, q, rfl, hb, hq⟩ := hg
    simp only [wq] at h
    split at h
    · rename_i hi
      have hw : w.heap[b]? = some (.deferred (some [])) := I.holds i .dfr b hi hb
      have hlt := (Array.getElem?_eq_some_iff.1 hw).1
      obtain ⟨I', E'⟩ := I.set (w' := w.putObj b (.deferred none)) .gone hi rfl hb rfl rfl rfl (by simp) (fun k hk => World.putObj_heap_other hk) (csize_put hw (by simp) (by simp)) (fun _ _ => trivial)
      refine ⟨hu, .inl ⟨b, _, rfl, run_takeDeferred hw, ?_⟩⟩
      refine leaves hu r (σ.set i .gone) _ q I' (E.trans E') (GEnv.later E'.later E'.onto hE) hq σ' h fun w' I2 E2 E3 hE2 => H w' I2 E2 (E'.trans E3) hE2
    · cases h

/-- The body's regions that draw their order. -/
def gfun (P : Program) (chk : Nat → Array Oper → Bool) (f : FuncId) : Bool := match P.funcs[f]? with
  | some fn => match fn.body with
    | some c => gcode chk 1 c
    | none => true
  | none => true

theorem aenv_append {l : List AV} {G : Globs} {t : Nat} {x : AV} : ∀ {i : Nat}, (x9 i l ++ x7 G).lookup t = some x → (x9 i l).lookup t = some x ∨ (x7 G).lookup t = some x := by
  induction l with
  | nil => intro i h; exact .inr h
  | cons y r ih =>
    intro i h
    simp only [x9, List.cons_append, List.lookup_cons] at h ⊢
    split at h
    · exact .inl h
    · exact ih h

theorem genv_lookup : ∀ {G : Globs} {t : Nat} {x : AV}, (x7 G).lookup t = some x → ∃ g cs, (g, cs) ∈ G ∧ t = j3 + g ∧ x = .d (.rp cs)
  | [], t, x, h => by simp [x7] at h
  | (g, cs) :: r, t, x, h => by
    simp only [x7, List.map_cons, List.lookup_cons] at h
    split at h
    · rename_i e
      simp only [Option.some.injEq] at h
      exact ⟨g, cs, List.mem_cons_self, by simpa using e, h.symm⟩
    · obtain ⟨g', cs', h1, h2⟩ := genv_lookup (G := r) h
      exact ⟨g', cs', List.mem_cons_of_mem _ h1, h2⟩

theorem abody_meets {G Ge : Globs} (hsub : ∀ g cs, (g, cs) ∈ Ge → (g, cs) ∈ G) {C : Oracle} (hC : COk P G C) {M : Nat → Nat → Mach} {fz : Bool} {f : FuncId} {args : List AV} {σ σ' : List AObj} {out : Out}
    (hM : ∀ n pr w0 β0, β0.length = σ.length → GG w0 (stOf pr w0 σ β0) G → MOk P C (M σ.length n) n none 0 pr w0 σ β0) {chk : Nat → Array Oper → Bool} (hchk : ∀ n, (M σ.length n).chk = chk) (hG : gfun P chk f = true) (h : abody P Ge C M fz f args σ = some (out, σ')) : Meets P G f args σ out σ' := by
  intro pr w β vs I hGG hg
  unfold abody at h
  split at h
  · rename_i fn hfn
    split at h
    · rename_i c hc
      have hgc : ∀ n, gcode (M σ.length n).chk 1 c = true := fun n => by rw [hchk]; simpa only [gfun, hfn, hc] using hG
      split at h
      · cases h
      rename_i hlong
      unfold finA at h
      split at h
      · rename_i e s hs
        refine (callsIn_wide (n := 0)).1 ?_
        refine callsIn_of_wp_marks hfn hc trivial ?_
        have hlen := GVl.length hg
        have hA : At pr w σ β (args.length + (fn.ntmps - args.length)) { env := x9 0 args ++ x7 Ge, σ := σ, dfs := [] } { tmps := vs.toArray ++ Array.replicate (fn.ntmps - vs.toArray.size) undef, defers := [] } w β := by
          refine ⟨I, Evo.refl _ _ _, by simp [hlen], fun t x ht => ?_, rfl⟩
          rcases aenv_append ht with ht | ht
          case inr =>
            obtain ⟨g, cs, hm, rfl, rfl⟩ := genv_lookup ht
            refine ⟨fun h => by omega, ?_⟩
            rw [tget_glob]
            simp only [GV, GD]
            exact ⟨g, 0, rfl, (hGG g cs (hsub g cs hm)).1, (hGG g cs (hsub g cs hm)).2.1⟩
          obtain ⟨_, hx⟩ := aenv_lookup args 0 t x ht
          obtain ⟨v, hv, hgx⟩ := GVl.get hg hx
          have hlt : t < vs.length := (List.getElem?_eq_some_iff.1 hv).1
          refine ⟨fun _ => by simp; omega, ?_⟩
          rw [tget_tmp (by omega)]
          have : (vs.toArray ++ Array.replicate (fn.ntmps - vs.toArray.size) undef).getD t undef = v := by
            rw [Array.getD_eq_getD_getElem?, Array.getElem?_append_left (by simpa using hlt)]
            simp only [List.getElem?_toArray]
            rw [Nat.sub_zero] at hv
            rw [hv]
            rfl
          rw [this]
          exact hgx
        refine wpIn_mono (acode_sound (ρ := none) hC hGG (hM _ pr w β I.len hGG) c (hgc _) hs hA) fun e' a' w' hp => ?_
        obtain ⟨β', hA', hge⟩ := hp
        have hk : β.length ≤ σ.length := Nat.le_of_eq I.len
        have hret : ∀ (σ1 : List AObj) (xs : List AV) , wq s.σ s.dfs = some σ1 → yg P σ1 s.env fn.results.toList = some xs → (jo σ.length fz xs σ1).map (fun p => (Out.ret (wv p.1), p.2)) = some (out, σ') →
            LeavesInM Fence.wide 0 P fn a'.tmps (fun e w' => ∃ β', Inv pr w' σ' β' ∧ Evo pr w σ β w' σ' β' ∧ GOut w' (stOf pr w' σ' β') β' out e) a'.defers .returning w' := by
          intro σ1 xs h1 h2 h3
          simp only [Option.map_eq_some_iff, Prod.mk.injEq] at h3
          obtain ⟨⟨ys, σ2⟩, h3, rfl, rfl⟩ := h3
          refine leaves (by simp) s.dfs s.σ w' a'.defers hA'.inv hA'.evo hA'.env hA'.dfs σ1 h1 fun w2 I2 E2 _ hE2 => ?_
          obtain ⟨us, hr, hgu⟩ := results_sound (P := P) I2 hE2 h2
          obtain ⟨β2, I3, E3, hg3⟩ := aclose_sound I2 E2 hk h3 hgu
          exact ⟨_, hr, β2, I3, E3, tupV_sound hg3⟩
        cases e <;> simp only [wp] at h
        · cases e' <;> simp only [GEx] at hge
          split at h
          · rename_i σ1 h1
            split at h
            · rename_i xs h2
              exact hret σ1 xs h1 h2 h
            · cases h
          · cases h
        · cases h
        · cases h
        · cases e' <;> simp only [GEx] at hge
          split at h
          · rename_i σ1 h1
            split at h
            · rename_i xs h2
              exact hret σ1 xs h1 h2 h
            · cases h
          · cases h
        · rename_i x
          cases e' <;> simp only [GEx] at hge
          obtain ⟨v, rfl, hgv⟩ := hge
          split at h
          · rename_i σ1 h1
            split at h
            · rename_i y σ2 h2
              simp only [Option.some.injEq, Prod.mk.injEq] at h
              obtain ⟨rfl, rfl⟩ := h
              refine leaves (by simp) s.dfs s.σ w' a'.defers hA'.inv hA'.evo hA'.env hA'.dfs σ1 h1 fun w2 I2 E2 E4 hE2 => ?_
              obtain ⟨β2, I3, E3, hg3⟩ := aclose_sound I2 E2 hk h2 (vs := [v]) (by simp only [GVl]; exact ⟨v, [], rfl, GV.later E4.later E4.onto x v hgv, rfl⟩)
              simp only [GVl, List.cons.injEq] at hg3
              obtain ⟨_, _, ⟨rfl, rfl⟩, hg3, _⟩ := hg3
              exact ⟨β2, I3, E3, _, rfl, hg3⟩
            · cases h
          · cases h
      · cases h
    · cases h
  · cases h

end
end Go.Proofs.YtblejchodicaoaaGreatDoor.Eng

/-
  THE ENGINE, part R: a region that draws its order: whatever order, it comes to what the text's order comes to. Program-independent. Own work.
-/
namespace Go.Proofs.YtblejchodicaoaaGreatDoor.Eng
open Go Go.RowKit

def edgesOf (o : Oper) : List Nat := (o.after.toList.filter (Region.binds .any)).map (·.on)
def uni : List Nat → List Nat
  | [] => []
  | x :: r => if (uni r).contains x then uni r else x :: uni r
theorem uni_sub : ∀ {l : List Nat} {k : Nat}, k ∈ uni l → k ∈ l
  | [], k, h => by simp [uni] at h
  | x :: r, k, h => by
    simp only [uni] at h
    split at h
    · exact List.mem_cons_of_mem _ (uni_sub h)
    · rcases List.mem_cons.1 h with rfl | h
      · exact List.mem_cons_self
      · exact List.mem_cons_of_mem _ (uni_sub h)

def ancGo : List Oper → List (List Nat) → List (List Nat)
  | [], acc => acc
  | o :: r, acc => ancGo r (acc ++ [uni ((edgesOf o).flatMap fun j => j :: acc.getD j [])])
def ancs (ops : Array Oper) : List (List Nat) := ancGo ops.toList []

theorem ancGo_listed {S : Nat → Prop} : ∀ (l : List Oper) (acc : List (List Nat)), (∀ (i : Nat) (o : Oper), l[i]? = some o → S (acc.length + i) → ∀ j ∈ edgesOf o, S j) →
    (∀ i k, k ∈ acc.getD i [] → S i → S k) → ∀ i k, k ∈ (ancGo l acc).getD i [] → S i → S k
  | [], acc, _, h, i, k, hk, hi => h i k hk hi
  | o :: r, acc, hc, h, i, k, hk, hi => by
    refine ancGo_listed r (acc ++ [uni ((edgesOf o).flatMap fun j => j :: acc.getD j [])]) (fun i' o' ho' hs => hc (i' + 1) o' (by simpa using ho') (by simpa [Nat.add_assoc, Nat.add_comm 1 i'] using hs)) (fun i' k' hk' hi' => ?_) i k hk hi
    rw [List.getD_eq_getElem?_getD] at hk'
    rcases Nat.lt_trichotomy i' acc.length with h1 | h1 | h1
    · rw [List.getElem?_append_left h1, ← List.getD_eq_getElem?_getD] at hk'
      exact h i' k' hk' hi'
    · subst h1
      simp only [List.getElem?_concat_length, Option.getD_some] at hk'
      have hk2 := uni_sub hk'
      simp only [List.mem_flatMap, List.mem_cons] at hk2
      obtain ⟨j, hj, hkj⟩ := hk2
      have hSj := hc 0 o rfl (by simpa using hi') j hj
      rcases hkj with rfl | hkj
      · exact hSj
      · exact h j k' hkj hSj
    · rw [List.getElem?_eq_none (by simp; omega)] at hk'
      simp at hk'

/-- Nothing waits for itself. -/
theorem ancGo_strict_go : ∀ (l : List Oper) (acc : List (List Nat)), (∀ (i : Nat) (o : Oper), l[i]? = some o → ∀ j ∈ edgesOf o, j < acc.length + i) → (∀ i k, k ∈ acc.getD i [] → k < i) → ∀ i k, k ∈ (ancGo l acc).getD i [] → k < i
  | [], acc, _, h, i, k, hk => h i k hk
  | o :: r, acc, hc, h, i, k, hk => by
    refine ancGo_strict_go r (acc ++ [uni ((edgesOf o).flatMap fun j => j :: acc.getD j [])]) (fun i' o' ho' j hj => by have := hc (i' + 1) o' (by simpa using ho') j hj; simp; omega) (fun i' k' hk' => ?_) i k hk
    rw [List.getD_eq_getElem?_getD] at hk'
    rcases Nat.lt_trichotomy i' acc.length with h1 | h1 | h1
    · rw [List.getElem?_append_left h1, ← List.getD_eq_getElem?_getD] at hk'
      exact h i' k' hk'
    · subst h1
      simp only [List.getElem?_concat_length, Option.getD_some] at hk'
      have hk2 := uni_sub hk'
      simp only [List.mem_flatMap, List.mem_cons] at hk2
      obtain ⟨j, hj, hkj⟩ := hk2
      have hlt := hc 0 o rfl j hj
      rcases hkj with rfl | hkj
      · simpa using hlt
      · have := h j k' hkj
        simp only [Nat.add_zero] at hlt
        omega
    · rw [List.getElem?_eq_none (by simp; omega)] at hk'
      simp at hk'
theorem ancGo_strict {ops : Array Oper} (H : ∀ (i : Nat) (o : Oper), ops[i]? = some o → ∀ j ∈ edgesOf o, j < i) {i k : Nat} (h : k ∈ (ancs ops).getD i []) : k < i :=
  ancGo_strict_go ops.toList [] (fun i o ho j hj => by have := H i o (by simpa using ho) j hj; simpa using this) (fun i k hk => by simp at hk) i k h

def actOp (o : Op) : Bool := !(jv o) && !(jw o)

def x6 (ops : Array Oper) (i : Nat) : Option Tmp := (ops[i]?).bind (·.dst)
def actAt (ops : Array Oper) (i : Nat) : Bool := match ops[i]? with | some o => actOp o.op | none => false
def jc (ops : Array Oper) (o : Oper) : List Nat :=
  o.op.operands.toList.filterMap (fun | .tmp t => some t | .global g => some (j3 + g) | _ => none) ++ (match o.guard with | some (j, _) => (x6 ops j).toList | none => [])

def allBelow (n : Nat) (f : Nat → Bool) : Bool := (List.range n).all f
theorem allBelow_spec {n : Nat} {f : Nat → Bool} : allBelow n f = true ↔ ∀ i, i < n → f i = true := by simp [allBelow]

/-- No operation that acts lies between. -/
def calm (ops : Array Oper) (i j : Nat) : Bool := allBelow ops.size fun a => !(actAt ops a) || !(decide (min i j ≤ a) && decide (a < max i j))

/-- What is looked at ahead of any run. 'tbl': for an operation that reads: at which states it is to be tried. -/
def dcheck (ops : Array Oper) (tbl : List (List Nat)) : Bool :=
  let A := ancs ops
  allBelow ops.size fun i => match ops[i]? with
    | none => false
    | some o =>
      (edgesOf o).all (fun j => decide (j < i)) &&
      (jc ops o).all (fun t => allBelow ops.size fun j => !(x6 ops j == some t) || (decide (j < i) && (A.getD i []).contains j) || (decide (i < j) && (A.getD j []).contains i) || decide (i = j)) &&
      allBelow ops.size (fun j => decide (i = j) || (x6 ops i).isNone || !(x6 ops i == x6 ops j)) &&
      (if actOp o.op then allBelow i fun j => !(actAt ops j) || (A.getD i []).contains j
       else jv o.op || allBelow (ops.size + 1) fun J => !(J == 0 || actAt ops (J - 1)) ||
        !(allBelow ops.size fun a => !(actAt ops a) || ((!((A.getD i []).contains a) || decide (a < J)) && (!((A.getD a []).contains i) || decide (J ≤ a)))) || calm ops J i || (tbl.getD i []).contains J)

/-- One operation, with what it looks at. -/
def xz (P : Program) (C : Oracle) (n : Nat) (ops : Array Oper) (o : Oper) (s : St) : Option (AV × List AObj) :=
  match aop P C n ops o { s with env := s.env.filter fun p => (jc ops o).contains p.1 } with
  | some (.normal, s') => some (match o.dst with | some d => (s'.env.lookup d).getD .any | none => .any, s'.σ)
  | _ => none

def w5 (P : Program) (C : Oracle) (n : Nat) (ops : Array Oper) : List Oper → St → Option (List (St × AV) × St)
  | [], s => some ([], s)
  | o :: r, s => match xz P C n ops o s with
    | some (y, σ') => match j5 n s.env o.dst y with
      | some env' => (w5 P C n ops r { s with env := env', σ := σ' }).map fun p => ((s, y) :: p.1, p.2)
      | none => none
    | none => none

def w6 (f : Nat → Prop) : List Nat → Prop
  | [] => True
  | j :: r => f j ∧ w6 f r
theorem allJ_mem {f : Nat → Prop} : ∀ {l : List Nat}, w6 f l → ∀ j ∈ l, f j
  | [], _, j, hj => by cases hj
  | i :: r, h, j, hj => by
    rcases List.mem_cons.1 hj with rfl | hj
    · exact h.1
    · exact allJ_mem h.2 j hj

def x5 (P : Program) (C : Oracle) (n : Nat) (ops : Array Oper) (σs : List (List AObj)) : List Oper → List (St × AV) → List (List Nat) → Prop
  | o :: os, (s, y) :: rs, tbl => (jw o.op = true → xz P C n ops o s = some (y, s.σ) ∧ w6 (fun J => xz P C n ops o { s with σ := σs.getD J [] } = some (y, σs.getD J [])) (tbl.headD [])) ∧ x5 P C n ops σs os rs tbl.tail
  | _, _, _ => True

noncomputable def xy (P : Program) (C : Oracle) (n : Nat) (tbl : List (List Nat)) (ops : Array Oper) (s : St) : Option (AEx × St) :=
  match w5 P C n ops ops.toList s with
  | some (rows, sN) => open Classical in if x5 P C n ops (rows.map (fun r => r.1.σ) ++ [sN.σ]) ops.toList rows tbl then some (.normal, sN) else none
  | none => none

theorem aread_pure {P : Program} {σ σ' : List AObj} {ev : Bool → Operand → AV} {o : Oper} (h : jv o.op = true) : j6 P σ ev o = j6 P σ' ev o := by
  unfold j6
  cases ho : o.op with
  | slice a b lo hi mx => cases lo <;> cases hi <;> cases mx <;> rfl
  | _ => simp only [ho, jv, Bool.false_eq_true] at h <;> rfl

theorem aact_pure {P : Program} {σ : List AObj} {ev : Bool → Operand → AV} {o : Oper} (h : jv o.op = true) : x8 P σ ev o = (j6 P σ ev o).map fun y => (y, σ) := by
  unfold x8
  cases ho : o.op <;> simp only [ho, jv, Bool.false_eq_true] at h <;> rfl

theorem aop_pure {P : Program} {C : Oracle} {n : Nat} {ops : Array Oper} {o : Oper} (h : jv o.op = true) (s : St) :
    aop P C n ops o s = match yq n s.env ops o with
      | none => none
      | some w => match j6 P s.σ (xm w s.env) o with
        | some y => j4 n s o.dst (some (ww o.guard w y, s.σ))
        | none => match w with
          | false => j4 n s o.dst (some (.tup [], s.σ))
          | true => none := by
  unfold aop
  cases yq n s.env ops o with
  | none => rfl
  | some b =>
    simp only [h, Bool.true_or, if_true]
    cases hr : j6 P s.σ (xm b s.env) o with
    | some y => rfl
    | none =>
      cases b with
      | false => rfl
      | true =>
        simp only
        have ha := aact_pure (σ := s.σ) h (P := P) (ev := xm true s.env)
        rw [hr] at ha
        unfold xn
        cases ho : o.op <;> simp only [ho, jv, Bool.false_eq_true] at h <;> rw [ha] <;> rfl

theorem dstep_pure {P : Program} {C : Oracle} {n : Nat} {ops : Array Oper} {o : Oper} (h : jv o.op = true) {s : St} {y : AV} {τ : List AObj} (hs : xz P C n ops o s = some (y, τ)) :
    τ = s.σ ∧ ∀ σ', xz P C n ops o { s with σ := σ' } = some (y, σ') := by
  unfold xz at hs ⊢
  simp only [aop_pure h] at hs ⊢
  generalize (s.env.filter fun p => (jc ops o).contains p.1) = E at *
  cases hw : yq n E ops o with
  | none => simp [hw] at hs
  | some b =>
    simp only [hw] at hs ⊢
    cases hr : j6 P s.σ (xm b E) o with
    | none =>
      have hr' : ∀ σ', j6 P σ' (xm b E) o = none := fun σ' => (aread_pure h).trans hr
      simp only [hr, hr'] at hs ⊢
      cases b with
      | true => simp at hs
      | false =>
        simp only [j4] at hs ⊢
        cases hp : j5 n E o.dst (.tup []) with
        | none => simp [hp] at hs
        | some env' =>
          simp only [hp, Option.map_some, Option.some.injEq, Prod.mk.injEq] at hs ⊢
          exact ⟨hs.2.symm, fun σ' => ⟨hs.1, trivial⟩⟩
    | some z =>
      have hr' : ∀ σ', j6 P σ' (xm b E) o = some z := fun σ' => (aread_pure h).trans hr
      simp only [hr, hr', j4] at hs ⊢
      cases hp : j5 n E o.dst (ww o.guard b z) with
      | none => simp [hp] at hs
      | some env' =>
        simp only [hp, Option.map_some, Option.some.injEq, Prod.mk.injEq] at hs ⊢
        exact ⟨hs.2.symm, fun σ' => ⟨hs.1, trivial⟩⟩

theorem dcheck_spec {ops : Array Oper} {tbl : List (List Nat)} (h : dcheck ops tbl = true) {i : Nat} {o : Oper} (ho : ops[i]? = some o) :
    (∀ j ∈ edgesOf o, j < i) ∧ (∀ t ∈ jc ops o, ∀ j, j < ops.size → x6 ops j = some t → (j < i ∧ j ∈ (ancs ops).getD i []) ∨ (i < j ∧ i ∈ (ancs ops).getD j []) ∨ i = j) ∧
    (∀ j, j < ops.size → i ≠ j → ∀ d, x6 ops i = some d → x6 ops j ≠ some d) ∧ (actOp o.op = true → ∀ j, j < i → actAt ops j = true → j ∈ (ancs ops).getD i []) ∧
    (actOp o.op = false → jv o.op = false → ∀ J, J ≤ ops.size → (J = 0 ∨ actAt ops (J - 1) = true) → (∀ a, a < ops.size → actAt ops a = true → (a ∈ (ancs ops).getD i [] → a < J) ∧ (i ∈ (ancs ops).getD a [] → J ≤ a)) →
      calm ops J i = true ∨ J ∈ tbl.getD i []) := by
  have hi : i < ops.size := (Array.getElem?_eq_some_iff.1 ho).1
  have h1 := allBelow_spec.1 h i hi
  simp only [ho, Bool.and_eq_true] at h1
  obtain ⟨⟨⟨h1, h2⟩, h3⟩, h4⟩ := h1
  refine ⟨fun j hj => ?_, fun t ht j hj hd => ?_, fun j hj hne d hd he => ?_, fun ha j hj hja => ?_, fun ha hp J hJ hc hw => ?_⟩
  · have := List.all_eq_true.1 h1 j hj
    simpa using this
  · have := allBelow_spec.1 (List.all_eq_true.1 h2 t ht) j hj
    simp only [hd, beq_self_eq_true, Bool.not_true, Bool.false_or, Bool.or_eq_true, Bool.and_eq_true, decide_eq_true_eq, List.contains_eq_mem] at this
    rcases this with (h | h) | h
    · exact .inl h
    · exact .inr (.inl h)
    · exact .inr (.inr h)
  · have := allBelow_spec.1 h3 j hj
    simp [hd, he, hne] at this
  · rw [if_pos ha] at h4
    have := allBelow_spec.1 h4 j hj
    simpa [hja] using this
  · rw [if_neg (by simp [ha])] at h4
    simp only [hp, Bool.false_or] at h4
    have h5 := allBelow_spec.1 h4 J (by omega)
    have e1 : (J == 0 || actAt ops (J - 1)) = true := by
      rcases hc with rfl | hc
      · simp
      · simp [hc]
    have e2 : (allBelow ops.size fun a => !(actAt ops a) || ((!(((ancs ops).getD i []).contains a) || decide (a < J)) && (!(((ancs ops).getD a []).contains i) || decide (J ≤ a)))) = true := by
      refine allBelow_spec.2 fun a ha' => ?_
      cases hact : actAt ops a with
      | false => rfl
      | true =>
        obtain ⟨w1, w2⟩ := hw a ha' hact
        simp only [Bool.not_true, Bool.false_or, Bool.and_eq_true, Bool.or_eq_true, Bool.not_eq_true', decide_eq_true_eq, List.contains_eq_mem, decide_eq_false_iff_not]
        refine ⟨?_, ?_⟩
        · by_cases hm : a ∈ (ancs ops).getD i []
          · exact .inr (w1 hm)
          · exact .inl hm
        · by_cases hm : i ∈ (ancs ops).getD a []
          · exact .inr (w2 hm)
          · exact .inl hm
    rw [e1, e2] at h5
    simpa using h5

theorem calm_spec {ops : Array Oper} {i j : Nat} : calm ops i j = true ↔ ∀ a, a < ops.size → actAt ops a = true → ¬ (min i j ≤ a ∧ a < max i j) := by
  unfold calm
  rw [allBelow_spec]
  constructor
  · intro h a ha hact hc
    have := h a ha
    simp [hact, hc.1, hc.2] at this
  · intro h a ha
    cases hact : actAt ops a with
    | false => rfl
    | true =>
      have := h a ha hact
      simp only [Bool.not_true, Bool.false_or, Bool.not_eq_true', Bool.and_eq_false_iff, decide_eq_false_iff_not]
      by_cases h1 : min i j ≤ a
      · exact .inr fun h2 => this ⟨h1, h2⟩
      · exact .inl h1

def stAt (rows : List (St × AV)) (sN : St) (i : Nat) : St := (rows.map (·.1) ++ [sN]).getD i sN
def yAt (rows : List (St × AV)) (i : Nat) : AV := (rows.map (·.2)).getD i .any

section
variable {P : Program} {C : Oracle} {n : Nat} {ops : Array Oper}

theorem drun_facts : ∀ (l : List Oper) (s : St) (rows : List (St × AV)) (sN : St), w5 P C n ops l s = some (rows, sN) → rows.length = l.length ∧ stAt rows sN 0 = s ∧ stAt rows sN l.length = sN ∧
    ∀ (i : Nat) (o : Oper), l[i]? = some o → xz P C n ops o (stAt rows sN i) = some (yAt rows i, (stAt rows sN (i + 1)).σ) ∧ j5 n (stAt rows sN i).env o.dst (yAt rows i) = some (stAt rows sN (i + 1)).env ∧ (stAt rows sN (i + 1)).dfs = (stAt rows sN i).dfs
  | [], s, rows, sN, h => by
    simp only [w5, Option.some.injEq, Prod.mk.injEq] at h
    obtain ⟨rfl, rfl⟩ := h
    exact ⟨rfl, rfl, rfl, fun i o ho => by simp at ho⟩
  | o :: r, s, rows, sN, h => by
    simp only [w5] at h
    split at h
    · rename_i y σ' h1
      split at h
      · rename_i env' h2
        simp only [Option.map_eq_some_iff, Prod.mk.injEq] at h
        obtain ⟨⟨rs, sM⟩, h3, rfl, rfl⟩ := h
        obtain ⟨e1, e2, e3, e4⟩ := drun_facts r _ rs sM h3
        have hs : ∀ i, stAt ((s, y) :: rs) sM (i + 1) = stAt rs sM i := fun i => by simp [stAt]
        refine ⟨by simp [e1], rfl, by rw [List.length_cons, hs, e3], fun i o' ho' => ?_⟩
        cases i with
        | zero =>
          simp only [List.getElem?_cons_zero, Option.some.injEq] at ho'
          subst ho'
          rw [hs, e2]
          exact ⟨h1, h2, rfl⟩
        | succ i =>
          rw [hs, hs]
          exact e4 i o' (by simpa using ho')
      · cases h
    · cases h

theorem dwins_facts {σs : List (List AObj)} : ∀ (l : List Oper) (rows : List (St × AV)) (tbl : List (List Nat)), x5 P C n ops σs l rows tbl → ∀ (i : Nat) (o : Oper) (s : St) (y : AV), l[i]? = some o → rows[i]? = some (s, y) → jw o.op = true →
    xz P C n ops o s = some (y, s.σ) ∧ ∀ J ∈ tbl.getD i [], xz P C n ops o { s with σ := σs.getD J [] } = some (y, σs.getD J [])
  | [], rows, tbl, _, i, o, s, y, ho, _, _ => by simp at ho
  | o :: r, [], tbl, _, i, o', s, y, _, hr, _ => by simp at hr
  | o :: r, (s, y) :: rs, tbl, h, i, o', s', y', ho, hr, hq => by
    simp only [x5] at h
    cases i with
    | zero =>
      simp only [List.getElem?_cons_zero, Option.some.injEq, Prod.mk.injEq] at ho hr
      obtain ⟨rfl, rfl⟩ := hr
      subst ho
      obtain ⟨h1, h2⟩ := h.1 hq
      refine ⟨h1, fun J hJ => allJ_mem h2 J ?_⟩
      cases tbl with
      | nil => simp at hJ
      | cons => simpa using hJ
    | succ i =>
      obtain ⟨h1, h2⟩ := dwins_facts r rs tbl.tail h.2 i o' s' y' (by simpa using ho) (by simpa using hr) hq
      refine ⟨h1, fun J hJ => h2 J ?_⟩
      cases tbl with
      | nil => simp at hJ
      | cons => simpa using hJ

end

/-- What is known of the run in the text's order. -/
structure Plan (P : Program) (C : Oracle) (n : Nat) (ops : Array Oper) (tbl : List (List Nat)) (s : St) (S : Nat → St) (Y : Nat → AV) : Prop where
  chk : dcheck ops tbl = true
  first : S 0 = s
  step : ∀ i o, ops[i]? = some o → xz P C n ops o (S i) = some (Y i, (S (i + 1)).σ)
  put : ∀ i o, ops[i]? = some o → j5 n (S i).env o.dst (Y i) = some (S (i + 1)).env
  dfs : ∀ i, i < ops.size → (S (i + 1)).dfs = (S i).dfs
  own : ∀ i o, ops[i]? = some o → jw o.op = true → xz P C n ops o (S i) = some (Y i, (S i).σ)
  wins : ∀ i o J, ops[i]? = some o → jw o.op = true → J ≤ ops.size → J ∈ tbl.getD i [] → xz P C n ops o { S i with σ := (S J).σ } = some (Y i, (S J).σ)

theorem plan_of {P : Program} {C : Oracle} {n : Nat} {ops : Array Oper} {tbl : List (List Nat)} {s sN : St} {rows : List (St × AV)} (hc : dcheck ops tbl = true) (h : w5 P C n ops ops.toList s = some (rows, sN))
    (hw : x5 P C n ops (rows.map (fun r => r.1.σ) ++ [sN.σ]) ops.toList rows tbl) : Plan P C n ops tbl s (stAt rows sN) (yAt rows) ∧ stAt rows sN ops.size = sN := by
  obtain ⟨e1, e2, e3, e4⟩ := drun_facts _ _ _ _ h
  have hl : ∀ (i : Nat) (o : Oper), ops[i]? = some o → ops.toList[i]? = some o := fun i o ho => by simpa using ho
  have hrow : ∀ (i : Nat) (o : Oper), ops[i]? = some o → rows[i]? = some (stAt rows sN i, yAt rows i) := fun i o ho => by
    have hi : i < rows.length := by
      rw [e1]
      exact (List.getElem?_eq_some_iff.1 (hl i o ho)).1
    simp [stAt, yAt, List.getD_eq_getElem?_getD, hi, List.getElem?_append_left]
  have hσ : ∀ J, J ≤ ops.size → (rows.map (fun r => r.1.σ) ++ [sN.σ]).getD J [] = (stAt rows sN J).σ := fun J hJ => by
    have e : rows.map (fun r => r.1.σ) ++ [sN.σ] = (rows.map (·.1) ++ [sN]).map (·.σ) := by simp
    have hJ' : J < (rows.map (·.1) ++ [sN]).length := by simp [e1]; omega
    rw [e]
    simp only [stAt, List.getD_eq_getElem?_getD, List.getElem?_map, List.getElem?_eq_getElem hJ', Option.map_some, Option.getD_some]
  refine ⟨⟨hc, e2, fun i o ho => (e4 i o (hl i o ho)).1, fun i o ho => (e4 i o (hl i o ho)).2.1, fun i hi => ?_, fun i o ho hq => ?_, fun i o J ho hq hJ hm => ?_⟩, by simpa using e3⟩
  · have ho : ops.toList[i]? = some ops[i] := hl i _ (Array.getElem?_eq_getElem hi)
    exact (e4 i _ ho).2.2
  · exact (dwins_facts _ _ _ hw i o _ _ (hl i o ho) (hrow i o ho) hq).1
  · have := (dwins_facts _ _ _ hw i o _ _ (hl i o ho) (hrow i o ho) hq).2 J hm
    rwa [hσ J hJ] at this

end Go.Proofs.YtblejchodicaoaaGreatDoor.Eng

/-
  THE ENGINE, part S: a region that draws its order, second half. Program-independent. Own work.
-/
namespace Go.Proofs.YtblejchodicaoaaGreatDoor.Eng
open Go Go.RowKit

section
variable {P : Program} {C : Oracle} {n : Nat} {ops : Array Oper} {tbl : List (List Nat)} {s : St} {S : Nat → St} {Y : Nat → AV}

theorem Plan.lookup (H : Plan P C n ops tbl s S Y) : ∀ i, i ≤ ops.size → ∀ t x, (S i).env.lookup t = some x → (∃ j, j < i ∧ x6 ops j = some t ∧ Y j = x) ∨ ((∀ j, j < i → x6 ops j ≠ some t) ∧ s.env.lookup t = some x)
  | 0, _, t, x, h => by
    rw [H.first] at h
    exact .inr ⟨fun j hj => absurd hj (Nat.not_lt_zero _), h⟩
  | i + 1, hi, t, x, h => by
    have ho : ops[i]? = some ops[i] := Array.getElem?_eq_getElem (by omega)
    have hp := H.put i _ ho
    have hd : x6 ops i = ops[i].dst := by simp [x6, ho]
    have old : (S i).env.lookup t = some x → x6 ops i ≠ some t → (∃ j, j < i + 1 ∧ x6 ops j = some t ∧ Y j = x) ∨ ((∀ j, j < i + 1 → x6 ops j ≠ some t) ∧ s.env.lookup t = some x) := fun h hne => by
      rcases H.lookup i (by omega) t x h with ⟨j, hj, e⟩ | ⟨hj, e⟩
      · exact .inl ⟨j, by omega, e⟩
      · refine .inr ⟨fun j hj' => ?_, e⟩
        by_cases hji : j = i
        · subst hji; exact hne
        · exact hj j (by omega)
    cases hdst : ops[i].dst with
    | none =>
      rw [hdst] at hp hd
      simp only [j5, Option.some.injEq] at hp
      rw [← hp] at h
      exact old h (by rw [hd]; simp)
    | some d =>
      rw [hdst] at hp hd
      simp only [j5] at hp
      split at hp
      · simp only [Option.some.injEq] at hp
        rw [← hp, aput_lookup] at h
        split at h
        · rename_i e
          subst e
          simp only [Option.some.injEq] at h
          exact .inl ⟨i, by omega, hd, h⟩
        · rename_i e
          exact old h (by rw [hd]; simp only [ne_eq, Option.some.injEq]; exact fun e' => e e'.symm)
      · cases hp

theorem Plan.quiet (H : Plan P C n ops tbl s S Y) {i : Nat} {o : Oper} (ho : ops[i]? = some o) (hq : actOp o.op = false) : (S (i + 1)).σ = (S i).σ := by
  have hs := H.step i o ho
  simp only [actOp, Bool.and_eq_false_iff, Bool.not_eq_false'] at hq
  rcases hq with hq | hq
  · exact (dstep_pure hq hs).1
  · have := H.own i o ho hq
    rw [hs] at this
    simpa using this

theorem Plan.calmσ (H : Plan P C n ops tbl s S Y) : ∀ (d i : Nat), i + d ≤ ops.size → (∀ a, i ≤ a → a < i + d → actAt ops a = false) → (S (i + d)).σ = (S i).σ
  | 0, _, _, _ => rfl
  | d + 1, i, hi, h => by
    rw [← H.calmσ d i (by omega) (fun a h1 h2 => h a h1 (by omega))]
    have ho : ops[i + d]? = some ops[i + d] := Array.getElem?_eq_getElem (by omega)
    refine H.quiet ho ?_
    have := h (i + d) (by omega) (by omega)
    simpa [actAt, ho] using this

theorem Plan.calm (H : Plan P C n ops tbl s S Y) {i j : Nat} (hi : i ≤ ops.size) (hj : j ≤ ops.size) (h : calm ops i j = true) : (S i).σ = (S j).σ := by
  have h' := calm_spec.1 h
  have hn : ∀ a, min i j ≤ a → a < max i j → actAt ops a = false := fun a h1 h2 => by
    cases hact : actAt ops a with
    | false => rfl
    | true => exact absurd ⟨h1, h2⟩ (h' a (by omega) hact)
  rcases Nat.le_total i j with hij | hij
  · have := H.calmσ (j - i) i (by omega) (fun a h1 h2 => hn a (by omega) (by omega))
    rw [Nat.add_sub_cancel' hij] at this
    exact this.symm
  · have := H.calmσ (i - j) j (by omega) (fun a h1 h2 => hn a (by omega) (by omega))
    rw [Nat.add_sub_cancel' hij] at this
    exact this

theorem Plan.dfs_at (H : Plan P C n ops tbl s S Y) : ∀ i, i ≤ ops.size → (S i).dfs = s.dfs
  | 0, _ => by rw [H.first]
  | i + 1, hi => by rw [H.dfs i (by omega), H.dfs_at i (by omega)]

end

section
variable {pr : Nat → Prop} {P : Program} {C : Oracle} {G : Globs} {w0 : World} {σ0 : List AObj} {β0 : List Nat} {n m : Nat} {ρ : Option Nat} {ops : Array Oper} {tbl : List (List Nat)} {s : St} {S : Nat → St} {Y : Nat → AV}

def lst (listed : Array Bool) (i : Nat) : Prop := listed.getD i false = true

structure Jnv (pr : Nat → Prop) (w0 : World) (σ0 : List AObj) (β0 : List Nat) (n : Nat) (ops : Array Oper) (s : St) (S : Nat → St) (Y : Nat → AV) (listed : Array Bool) (a : Act) (w : World) : Prop where
  size : listed.size = ops.size
  closed : ∀ i o, ops[i]? = some o → lst listed i → ∀ j ∈ edgesOf o, lst listed j
  at_ : ∃ J, J ≤ ops.size ∧ (J = 0 ∨ actAt ops (J - 1) = true) ∧ (∀ b, b < ops.size → actAt ops b = true → (lst listed b ↔ b < J)) ∧
    ∃ β, Inv pr w (S J).σ β ∧ Evo pr w0 σ0 β0 w (S J).σ β ∧ a.tmps.size = n ∧ GMarks β s.dfs a.defers ∧
      (∀ t x, s.env.lookup t = some x → (∀ i, x6 ops i = some t → ¬ lst listed i) → (t < j3 → t < a.tmps.size) ∧ GV w (stOf pr w (S J).σ β) β x (tget a.tmps t)) ∧
      (∀ i d, lst listed i → x6 ops i = some d → (d < j3 → d < a.tmps.size) ∧ GV w (stOf pr w (S J).σ β) β (Y i) (tget a.tmps d))

theorem lst_set {listed : Array Bool} {i j : Nat} (hi : i < listed.size) : lst (listed.setIfInBounds i true) j ↔ j = i ∨ lst listed j := by
  unfold lst
  simp only [Array.getD_eq_getD_getElem?]
  by_cases h : j = i
  · subst h
    simp [hi]
  · rw [Array.getElem?_setIfInBounds_ne (fun e => h e.symm)]
    simp [h]

theorem getD_put {a : Act} {d t : Nat} {v : Value} (hd : d < a.tmps.size) : (a.put (some d) v).tmps.getD t undef = if t = d then v else a.tmps.getD t undef := by
  simp only [Act.put, Array.getD_eq_getD_getElem?]
  split
  · rename_i e
    subst e
    rw [Array.getElem?_setIfInBounds_self_of_lt hd]
    rfl
  · rename_i e
    rw [Array.getElem?_setIfInBounds_ne (fun e' => e e'.symm)]

theorem tget_put {a : Act} {d t : Nat} {v : Value} (hd : d < a.tmps.size) (hg : d < j3) : tget (a.put (some d) v).tmps t = if t = d then v else tget a.tmps t := by
  have key : (a.put (some d) v).tmps.getD t undef = if t = d then v else a.tmps.getD t undef := getD_put hd
  unfold tget
  by_cases ht : t < j3
  · rw [if_pos ht, if_pos ht, key]
  · rw [if_neg ht, if_neg ht, if_neg (by omega)]

def unl (listed : Array Bool) : Nat := (listed.toList.filter (!·)).length

theorem filter_set : ∀ (l : List Bool) (i : Nat), l[i]? = some false → ((l.set i true).filter (!·)).length + 1 = (l.filter (!·)).length
  | [], i, h => by simp at h
  | b :: r, 0, h => by
    simp only [List.getElem?_cons_zero, Option.some.injEq] at h
    subst h
    simp
  | b :: r, i + 1, h => by
    have := filter_set r i (by simpa using h)
    cases b <;> simp <;> omega

/-- The step: an operation that is ready, wherever it stands in the text. -/
theorem Jnv.step (hC : COk P G C) (hGG : GG w0 (stOf pr w0 σ0 β0) G) (H : Plan P C n ops tbl s S Y) {listed : Array Bool} {a : Act} {w : World} (hJ : Jnv pr w0 σ0 β0 n ops s S Y listed a w) {i : Nat} (hi : i ∈ Region.ready .any ops listed)
    {K : Act → World → Prop} {Q : Exit → Act → World → Prop} (hK : ∀ a' w', Jnv pr w0 σ0 β0 n ops s S Y (listed.setIfInBounds i true) a' w' → K a' w') : wpOpIn (FW ρ) m P ops Q i K a w := by
  obtain ⟨hun, o, ho, hed⟩ := mem_ready.1 hi
  have hlt : i < ops.size := (Array.getElem?_eq_some_iff.1 ho).1
  have hli : i < listed.size := by rw [hJ.size]; exact hlt
  have hnl : ¬ lst listed i := by
    unfold lst
    simp only [Array.getD_eq_getD_getElem?, Array.getElem?_eq_getElem hli, Option.getD_some] at hun ⊢
    simp [hun]
  have hed' : ∀ j ∈ edgesOf o, lst listed j := fun j hj => by
    simp only [edgesOf, List.mem_map, List.mem_filter] at hj
    obtain ⟨e, ⟨he, hb⟩, rfl⟩ := hj
    exact hed e (by simpa using he) hb
  -- what an operation waits for, near and far
  have hanc : ∀ (j k : Nat), k ∈ (ancs ops).getD j [] → (lst listed j ∨ j = i) → lst listed k := fun j k hk hj => by
    rcases hj with hj | rfl
    · refine ancGo_listed (S := lst listed) ops.toList [] (fun i' o' ho' hs' => ?_) (fun i' k' hk' _ => by simp at hk') j k hk hj
      exact hJ.closed i' o' (by simpa using ho') (by simpa using hs')
    · refine (ancGo_listed (S := fun x => lst listed x ∨ x = j) ops.toList [] (fun i' o' ho' hs' q hq => ?_) (fun i' k' hk' _ => by simp at hk') j k hk (.inr rfl)).resolve_right fun e => ?_
      · simp only [List.length_nil, Nat.zero_add] at hs'
        have ho2 : ops[i']? = some o' := by simpa using ho'
        rcases hs' with hs' | rfl
        · exact .inl (hJ.closed i' o' ho2 hs' q hq)
        · rw [ho] at ho2
          cases ho2
          exact .inl (hed' q hq)
      · subst e
        have h2 := ancGo_strict (H := fun i' o' ho' q hq => (dcheck_spec H.chk (i := i') (o := o') ho').1 q hq) hk
        omega
  obtain ⟨c1, c2, c3, c4, c5⟩ := dcheck_spec H.chk ho
  obtain ⟨J, hJN, hJc, hJa, β, I, E, hsz, hmk, hold, hnew⟩ := hJ.at_
  -- the operation comes to what it comes to in the text's order
  have hcompat : ∀ b, b < ops.size → actAt ops b = true → (b ∈ (ancs ops).getD i [] → b < J) ∧ (i ∈ (ancs ops).getD b [] → J ≤ b) := fun b hb hact => by
    refine ⟨fun hm => (hJa b hb hact).1 (hanc i b hm (.inr rfl)), fun hm => ?_⟩
    apply Nat.le_of_not_lt
    intro hlt'
    exact hnl (hanc b i hm (.inl ((hJa b hb hact).2 hlt')))
  have hactJ : actOp o.op = true → (S J).σ = (S i).σ := fun hact => by
    refine H.calm hJN (Nat.le_of_lt hlt) (calm_spec.2 fun b hb hb' hc => ?_)
    rcases Nat.lt_or_ge b i with hbi | hbi
    · -- b below i: it is listed, so below J
      have := (hJa b hb hb').1 (hanc i b (c4 hact b hbi hb') (.inr rfl))
      omega
    · -- b is i, or behind it
      have hbJ : b < J := by omega
      have hl := (hJa b hb hb').2 hbJ
      rcases Nat.eq_or_lt_of_le hbi with e | hbi
      · exact hnl (e ▸ hl)
      · have ho' : ops[b]? = some ops[b] := Array.getElem?_eq_getElem hb
        have hactb : actOp ops[b].op = true := by simpa [actAt, ho'] using hb'
        have hacti : actAt ops i = true := by simpa [actAt, ho] using hact
        have := (dcheck_spec H.chk ho').2.2.2.1 hactb i hbi hacti
        exact hnl (hanc b i this (.inl hl))
  have hstep : ∃ σ2 J2, xz P C n ops o { S i with σ := (S J).σ } = some (Y i, σ2) ∧ σ2 = (S J2).σ ∧ J2 ≤ ops.size ∧ (J2 = 0 ∨ actAt ops (J2 - 1) = true) ∧ (∀ b, b < ops.size → actAt ops b = true → (b = i ∨ lst listed b ↔ b < J2)) := by
    have hs := H.step i o ho
    cases hact : actOp o.op with
    | true =>
      refine ⟨(S (i + 1)).σ, i + 1, ?_, rfl, by omega, .inr (by simpa [actAt, ho] using hact), fun b hb hb' => ⟨fun h => ?_, fun h => ?_⟩⟩
      · rw [hactJ hact]
        exact hs
      · rcases h with rfl | hl
        · omega
        · apply Nat.lt_of_not_le
          intro hle
          have ho' : ops[b]? = some ops[b] := Array.getElem?_eq_getElem hb
          have hactb : actOp ops[b].op = true := by simpa [actAt, ho'] using hb'
          have hacti : actAt ops i = true := by simpa [actAt, ho] using hact
          have := (dcheck_spec H.chk ho').2.2.2.1 hactb i (by omega) hacti
          exact hnl (hanc b i this (.inl hl))
      · rcases Nat.eq_or_lt_of_le (Nat.le_of_lt_succ h) with e | hbi
        · exact .inl e
        · exact .inr (hanc i b (c4 hact b hbi hb') (.inr rfl))
    | false =>
      have hni : actAt ops i = false := by simpa [actAt, ho] using hact
      refine ⟨(S J).σ, J, ?_, rfl, hJN, hJc, fun b hb hb' => ⟨fun h => ?_, fun h => .inr ((hJa b hb hb').2 h)⟩⟩
      · cases hp : jv o.op with
        | true => exact (dstep_pure hp hs).2 _
        | false =>
          have hr : jw o.op = true := by
            simp only [actOp, hp, Bool.not_false, Bool.true_and, Bool.not_eq_false'] at hact
            exact hact
          rcases c5 hact hp J hJN hJc hcompat with hcalm | hmem
          · rw [H.calm hJN (Nat.le_of_lt hlt) hcalm]
            exact H.own i o ho hr
          · exact H.wins i o J ho hr hJN hmem
      · rcases h with rfl | hl
        · rw [hni] at hb'
          cases hb'
        · exact (hJa b hb hb').1 hl
  obtain ⟨σ2, J2, hds, rfl, hJ2N, hJ2c, hJ2a⟩ := hstep
  unfold xz at hds
  split at hds
  · rename_i s' haop
    simp only [Option.some.injEq, Prod.mk.injEq] at hds
    obtain ⟨hy, hσ2⟩ := hds
    have hA : At pr w0 σ0 β0 n { (S i) with env := (S i).env.filter (fun p => (jc ops o).contains p.1), σ := (S J).σ } a w β := by
      refine ⟨I, E, hsz, fun t x ht => ?_, by rw [H.dfs_at i (Nat.le_of_lt hlt)]; exact hmk⟩
      have hmem : t ∈ jc ops o := filter_mem _ _ t x ht
      have hx := filter_lookup (fun t => (jc ops o).contains t) _ t x ht
      rcases H.lookup i (Nat.le_of_lt hlt) t x hx with ⟨j, hj, hd, rfl⟩ | ⟨hj, hx⟩
      · rcases c2 t hmem j (by omega) hd with ⟨_, hm⟩ | ⟨hm, _⟩ | hm
        · exact hnew j t (hanc i j hm (.inr rfl)) hd
        · omega
        · omega
      · refine hold t x hx fun j hd hl => ?_
        have hjN : j < ops.size := by
          apply Nat.lt_of_not_le
          intro hle
          simp [x6, Array.getElem?_eq_none hle] at hd
        rcases c2 t hmem j hjN hd with ⟨h1, _⟩ | ⟨h1, hm⟩ | hm
        · exact hj j h1 hd
        · exact hnl (hanc j i hm (.inl hl))
        · exact hnl (hm ▸ hl)
    refine aop_bare hC hGG ho hA haop (fun _ v w' β' y σ' env' hs' hp I' E' hg => hK _ _ ?_) (fun _ _ _ _ he => absurd rfl he)
    subst hs'
    simp only at hσ2 hy
    subst hσ2
    have hdi : x6 ops i = o.dst := by simp [x6, ho]
    refine ⟨by simpa using hJ.size, fun i' o' ho' hl j hj => ?_, J2, hJ2N, hJ2c, fun b hb hb' => by rw [lst_set hli]; exact hJ2a b hb hb', β', I', E.trans E', ?_, ?_, ?_, ?_⟩
    · rw [lst_set hli] at hl ⊢
      rcases hl with rfl | hl
      · rw [ho] at ho'
        cases ho'
        exact .inr (hed' j hj)
      · exact .inr (hJ.closed i' o' ho' hl j hj)
    · cases hdst : o.dst <;> simp [Act.put, hsz]
    · have := GMarks.onto E'.onto hmk
      cases hdst : o.dst <;> simpa [Act.put] using this
    · intro t x hx hun'
      have h1 := hold t x hx fun j hd hl => hun' j hd ((lst_set hli).2 (.inr hl))
      have hg1 := GV.later E'.later E'.onto x _ h1.2
      cases hdst : o.dst with
      | none => exact ⟨h1.1, hg1⟩
      | some d =>
        rw [hdst] at hp hdi
        simp only [j5] at hp
        split at hp
        · rename_i hdn
          have hne : t ≠ d := fun e => hun' i (by rw [hdi, e]) ((lst_set hli).2 (.inl rfl))
          refine ⟨by simpa [Act.put] using h1.1, ?_⟩
          rw [tget_put (by rw [hsz]; exact hdn.1) hdn.2, if_neg hne]
          exact hg1
        · cases hp
    · intro j d hl hd
      rw [lst_set hli] at hl
      by_cases hji : j = i
      · subst hji
        rw [hdi] at hd
        rw [hd] at hp hy
        simp only [j5] at hp
        split at hp
        · rename_i hdn
          simp only [Option.some.injEq] at hp
          subst hp
          simp only [aput_lookup, if_true, Option.getD_some] at hy
          subst hy
          rw [hd]
          refine ⟨fun _ => by simp [Act.put, hsz, hdn.1], ?_⟩
          rw [tget_put (by rw [hsz]; exact hdn.1) hdn.2, if_pos rfl]
          exact hg
        · cases hp
      · have h1 := hnew j d (hl.resolve_left hji) hd
        have hg1 := GV.later E'.later E'.onto (Y j) _ h1.2
        cases hdst : o.dst with
        | none => exact ⟨h1.1, hg1⟩
        | some d' =>
          rw [hdst] at hp hdi
          simp only [j5] at hp
          split at hp
          · rename_i hdn
            have hjN : j < ops.size := by
              apply Nat.lt_of_not_le
              intro hle
              simp [x6, Array.getElem?_eq_none hle] at hd
            have hne : d ≠ d' := fun e => c3 j hjN (fun e' => hji e'.symm) d' hdi (e ▸ hd)
            refine ⟨by simpa [Act.put] using h1.1, ?_⟩
            rw [tget_put (by rw [hsz]; exact hdn.1) hdn.2, if_neg hne]
            exact hg1
          · cases hp
  · cases hds

theorem unl_set {listed : Array Bool} {i : Nat} (h : listed.getD i true = false) : unl (listed.setIfInBounds i true) + 1 = unl listed := by
  unfold unl
  rw [Array.toList_setIfInBounds]
  refine filter_set _ _ ?_
  rw [Array.getD_eq_getD_getElem?] at h
  cases hx : listed[i]? with
  | none => simp [hx] at h
  | some b => simp [hx] at h; subst h; simpa using hx

theorem Jnv.all_of_done (H : Plan P C n ops tbl s S Y) {listed : Array Bool} {a : Act} {w : World} (hJ : Jnv pr w0 σ0 β0 n ops s S Y listed a w) (hr : Region.ready .any ops listed = []) : ∀ i, i < ops.size → lst listed i := by
  intro i
  induction i using Nat.strongRecOn with
  | _ i ih =>
    intro hi
    have ho : ops[i]? = some ops[i] := Array.getElem?_eq_getElem hi
    have hli : i < listed.size := by rw [hJ.size]; exact hi
    cases hb : listed.getD i false with
    | true => exact hb
    | false =>
      exfalso
      have hm : i ∈ Region.ready .any ops listed := by
        refine mem_ready.2 ⟨?_, ops[i], ho, fun e he hbi => ?_⟩
        · simp only [Array.getD_eq_getD_getElem?, Array.getElem?_eq_getElem hli, Option.getD_some] at hb ⊢
          exact hb
        · have hj : e.on ∈ edgesOf ops[i] := by
            simp only [edgesOf, List.mem_map, List.mem_filter]
            exact ⟨e, ⟨by simpa using he, hbi⟩, rfl⟩
          have hlt := (dcheck_spec H.chk ho).1 _ hj
          exact ih e.on hlt (by omega)
      rw [hr] at hm
      cases hm

theorem Jnv.final (H : Plan P C n ops tbl s S Y) {listed : Array Bool} {a : Act} {w : World} (hJ : Jnv pr w0 σ0 β0 n ops s S Y listed a w) (hall : ∀ i, i < ops.size → lst listed i) : Post pr w0 σ0 β0 n .normal (S ops.size) .normal a w := by
  obtain ⟨J, hJN, hJc, hJa, β, I, E, hsz, hmk, hold, hnew⟩ := hJ.at_
  have hσ : (S J).σ = (S ops.size).σ := by
    refine H.calm hJN (Nat.le_refl _) (calm_spec.2 fun b hb hb' hc => ?_)
    have := (hJa b hb hb').1 (hall b hb)
    omega
  rw [hσ] at I E hold hnew
  refine ⟨β, ⟨I, E, hsz, fun t x hx => ?_, by rw [H.dfs_at _ (Nat.le_refl _)]; exact hmk⟩, trivial⟩
  rcases H.lookup _ (Nat.le_refl _) t x hx with ⟨j, hj, hd, rfl⟩ | ⟨hj, hx⟩
  · exact hnew j t (hall j hj) hd
  · refine hold t x hx fun j hd _ => ?_
    have hjN : j < ops.size := by
      apply Nat.lt_of_not_le
      intro hle
      simp [x6, Array.getElem?_eq_none hle] at hd
    exact hj j hjN hd

theorem any_sound (hC : COk P G C) (hGG : GG w0 (stOf pr w0 σ0 β0) G) (H : Plan P C n ops tbl s S Y) : ∀ (fuel : Nat) (listed : Array Bool) (a : Act) (w : World), Jnv pr w0 σ0 β0 n ops s S Y listed a w → unl listed ≤ fuel →
    wpAnyIn (FW ρ) m P .any ops (Post pr w0 σ0 β0 n .normal (S ops.size)) fuel listed a w
  | 0, listed, a, w, hJ, hu => by
    have hr : Region.ready .any ops listed = [] := by
      apply List.eq_nil_iff_forall_not_mem.2
      intro i hi
      have := unl_set (mem_ready.1 hi).1
      omega
    exact ⟨hr, hJ.final H (hJ.all_of_done H hr)⟩
  | fuel + 1, listed, a, w, hJ, hu => by
    refine ⟨fun hr => hJ.final H (hJ.all_of_done H hr), fun i hi => ?_⟩
    refine hJ.step hC hGG H hi fun a' w' hJ' => any_sound hC hGG H fuel _ a' w' hJ' ?_
    have := unl_set (mem_ready.1 hi).1
    omega

/-- **A REGION THAT DRAWS ITS ORDER.** -/
theorem adraw_sound (hm : P.follows .mixedOrders = true) (hC : COk P G C) (hGG : GG w0 (stOf pr w0 σ0 β0) G) (hchk : dcheck ops tbl = true) {s' : St} {e : AEx} {a : Act} {w : World} {β : List Nat} (hA : At pr w0 σ0 β0 n s a w β)
    (h : xy P C n tbl ops s = some (e, s')) (id : Nat) : (Code.region id ops true).wpIn (FW ρ) m P (Post pr w0 σ0 β0 n e s') a w := by
  unfold xy at h
  split at h
  · rename_i rows sN hrun
    split at h
    · rename_i hw
      simp only [Option.some.injEq, Prod.mk.injEq] at h
      obtain ⟨rfl, rfl⟩ := h
      obtain ⟨H, hN⟩ := plan_of hchk hrun hw
      obtain ⟨I', E'⟩ := hA.inv.same (w' := { w with drawn := w.drawn + 1 }) rfl rfl rfl rfl
      have hE := GEnv.later E'.later E'.onto hA.env
      rw [← hN]
      refine wpIn_region_any hm (any_sound hC hGG H _ _ _ _ ?_ ?_)
      · have hnl : ∀ i, ¬ lst (Array.replicate ops.size false) i := fun i => by
          unfold lst
          rw [Array.getD_eq_getD_getElem?, Array.getElem?_replicate]
          split <;> simp
        refine ⟨by simp, fun i o _ hl => absurd hl (hnl i), 0, Nat.zero_le _, .inl rfl, fun b _ _ => ⟨fun hl => absurd hl (hnl b), fun hl => absurd hl (Nat.not_lt_zero _)⟩, β, ?_, ?_, hA.size, GMarks.onto E'.onto hA.dfs, fun t x hx _ => ?_, fun i d hl => absurd hl (hnl i)⟩
        · rw [H.first]; exact I'
        · rw [H.first]; exact hA.evo.trans E'
        · rw [H.first]; exact hE t x hx
      · simp [unl]
    · cases h
  · cases h

end
end Go.Proofs.YtblejchodicaoaaGreatDoor.Eng

/-
  THE ENGINE, part Z: a region that draws its order, in the text's order, where nothing that reads may be moved past what acts. Program-independent. Own work.
-/
namespace Go.Proofs.YtblejchodicaoaaGreatDoor.Eng
open Go Go.RowKit
set_option linter.unusedSimpArgs false

/-! ### An operation looks at its operands alone -/
section
variable {P : Program} {σ : List AObj} {ev ev' : Bool → Operand → AV} {o : Oper}

theorem map_congr' {l : List Operand} (h : ∀ x ∈ l, ev true x = ev' true x) : l.map (ev true) = l.map (ev' true) := List.map_congr_left h

theorem aread_congr (h : ∀ t, ∀ x ∈ o.op.operands.toList, ev t x = ev' t x) : j6 P σ ev o = j6 P σ ev' o := by
  unfold j6
  cases ho : o.op with
  | move x => simp only; rw [h true x (by simp [ho, Op.operands])]
  | assign x => simp only; rw [h true x (by simp [ho, Op.operands])]
  | pick c a b =>
    have h1 := h true c (by simp [ho, Op.operands])
    have h2 := fun t => h t a (by simp [ho, Op.operands])
    have h3 := fun t => h t b (by simp [ho, Op.operands])
    simp only [h1, h2, h3]
  | load t x => simp only; rw [h true x (by simp [ho, Op.operands])]
  | nilCheck x => simp only; rw [h true x (by simp [ho, Op.operands])]
  | binOp op t x y z => simp only; rw [h true x (by simp [ho, Op.operands]), h true y (by simp [ho, Op.operands])]
  | unOp op t x => simp only; rw [h true x (by simp [ho, Op.operands])]
  | convert s d x => simp only; rw [h true x (by simp [ho, Op.operands])]
  | makeInterface t x => simp only; rw [h true x (by simp [ho, Op.operands])]
  | makeFunc fn first cap =>
    simp only
    rw [map_congr' (l := first.toList) fun x hx => h true x (by simp [ho, Op.operands] at hx ⊢; exact .inl hx), map_congr' (l := cap.toList) fun x hx => h true x (by simp [ho, Op.operands] at hx ⊢; exact .inr hx)]
  | fieldAddr s x f => simp only; rw [h true x (by simp [ho, Op.operands])]
  | field s x f => simp only; rw [h true x (by simp [ho, Op.operands])]
  | indexAddr t x i => simp only; rw [h true x (by simp [ho, Op.operands]), h true i (by simp [ho, Op.operands])]
  | index t x i => simp only; rw [h true x (by simp [ho, Op.operands]), h true i (by simp [ho, Op.operands])]
  | slice t x lo hi mx =>
    have h1 := h true x (by simp [ho, Op.operands])
    have h2 : ∀ y, lo = some y → ev true y = ev' true y := fun y hy => h true y (by simp [ho, Op.operands, hy])
    have h3 : ∀ y, hi = some y → ev true y = ev' true y := fun y hy => h true y (by simp [ho, Op.operands, hy])
    have h4 : ∀ y, mx = some y → ev true y = ev' true y := fun y hy => h true y (by simp [ho, Op.operands, hy])
    cases lo <;> cases hi <;> cases mx <;> simp_all
  | lookup t x i c => simp only; rw [h true x (by simp [ho, Op.operands]), h true i (by simp [ho, Op.operands])]
  | extract x i => simp only; rw [h true x (by simp [ho, Op.operands])]
  | build t parts =>
    simp only
    have : (parts.toList.map fun p => (p.1, ev true p.2)) = parts.toList.map fun p => (p.1, ev' true p.2) := by
      apply List.map_congr_left
      intro p hp
      rw [h true p.2 (by simp only [ho, Op.operands]; simp; exact ⟨p.1, by simpa using hp⟩)]
    rw [this]
  | call c =>
    obtain ⟨cal, args, ts⟩ := c
    cases cal with
    | builtin b =>
      have hm : args.toList.map (ev true) = args.toList.map (ev' true) := map_congr' fun x hx => h true x (by simp [ho, Op.operands, Call.operands] at hx ⊢; exact hx)
      have ha : ∀ x, x ∈ args.toList → ev true x = ev' true x := fun x hx => h true x (by simp [ho, Op.operands, Call.operands] at hx ⊢; exact hx)
      simp only
      generalize args.toList = l at hm ha
      cases b <;> try rfl
      all_goals (rcases l with _ | ⟨x, r⟩ <;> try rfl)
      all_goals (rcases ts.toList with _ | ⟨t, q⟩ <;> try rfl)
      all_goals simp only [List.map_cons, List.cons.injEq] at hm
      all_goals first
        | (rcases r with _ | ⟨y, r'⟩ <;> first | rfl | (simp only [hm.1, hm.2]; done) | (simp only [hm.1]; done))
        | (simp only [hm.1, hm.2])
    | value f => rfl
    | invoke r m => rfl
  | _ => rfl

theorem acallee_congr {c : Call} (h : ∀ t, ∀ x ∈ c.operands.toList, ev t x = ev' t x) : yw P ev c = yw P ev' c := by
  obtain ⟨cal, args, ts⟩ := c
  unfold yw
  cases cal with
  | value f =>
    have h1 := h true f (by simp [Call.operands])
    have hm : args.toList.map (ev true) = args.toList.map (ev' true) := map_congr' fun x hx => h true x (by simp [Call.operands] at hx ⊢; exact .inr hx)
    simp only [h1, hm]
  | _ => rfl

theorem aact_congr (h : ∀ t, ∀ x ∈ o.op.operands.toList, ev t x = ev' t x) : x8 P σ ev o = x8 P σ ev' o := by
  have hr := aread_congr (P := P) (σ := σ) h
  unfold x8
  cases ho : o.op with
  | alloc t => rfl
  | box t x => simp only; rw [h true x (by simp [ho, Op.operands])]
  | buildSlice t len parts =>
    simp only
    have : (parts.toList.map fun p => (p.1, ev true p.2)) = parts.toList.map fun p => (p.1, ev' true p.2) := by
      apply List.map_congr_left
      intro p hp
      rw [h true p.2 (by simp only [ho, Op.operands]; simp; exact ⟨p.1, by simpa using hp⟩)]
    rw [this]
  | store t a x => simp only; rw [h true x (by simp [ho, Op.operands]), h true a (by simp [ho, Op.operands])]
  | convert s d x => simp only; rw [h true x (by simp [ho, Op.operands]), hr]
  | makeMap t r =>
    cases r with
    | none => rfl
    | some x => simp only; rw [h true x (by simp [ho, Op.operands])]
  | mapUpdate t m k x => simp only; rw [h true m (by simp [ho, Op.operands]), h true k (by simp [ho, Op.operands]), h true x (by simp [ho, Op.operands])]
  | insert t m k x => simp only; rw [h true m (by simp [ho, Op.operands]), h true k (by simp [ho, Op.operands]), h true x (by simp [ho, Op.operands])]
  | makeInterface t x => simp only; rw [h true x (by simp [ho, Op.operands])]
  | call c =>
    obtain ⟨cal, args, ts⟩ := c
    cases cal with
    | builtin b =>
      have ha : ∀ x, x ∈ args.toList → ev true x = ev' true x := fun x hx => h true x (by simp [ho, Op.operands, Call.operands] at hx ⊢; exact hx)
      simp only [hr]
      generalize args.toList = l at ha
      generalize ts.toList = q
      split
      · rw [ha _ (by simp), ha _ (by simp)]
      · rw [ha _ (by simp), ha _ (by simp)]
      · rfl
    | value f => simp only [hr]
    | invoke r m => simp only [hr]
  | _ => simp only [hr]
end

/-! ### The text's order -/
section
variable {P : Program} {C : Oracle} {n : Nat} {ops : Array Oper}

/-- One operation of a region that draws: what reads, reads. -/
def w7 (P : Program) (C : Oracle) (n : Nat) (ops : Array Oper) (o : Oper) (s : St) : Option (AEx × St) :=
  match yq n s.env ops o with
  | none => none
  | some w => if (jv o.op || jw o.op) = true then
      match j6 P s.σ (xm w s.env) o with
      | some y => j4 n s o.dst (some (ww o.guard w y, s.σ))
      | none => if w = true then none else j4 n s o.dst (some (.tup [], s.σ))
    else if w = true then xn P C n o s else j4 n s o.dst (some (.tup [], s.σ))

def aoplD (P : Program) (C : Oracle) (n : Nat) (ops : Array Oper) : List Oper → St → Option (AEx × St)
  | [], s => some (.normal, s)
  | o :: r, s => bindA (w7 P C n ops o s) (aoplD P C n ops r)

theorem lookup_filter (f : Nat → Bool) : ∀ (env : Env) (t : Nat), f t = true → (env.filter fun p => f p.1).lookup t = env.lookup t
  | [], _, _ => rfl
  | (s, y) :: r, t, ht => by
    simp only [List.filter_cons]
    by_cases hs : f s = true
    · simp only [hs, if_true, List.lookup_cons]
      split
      · rfl
      · exact lookup_filter f r t ht
    · simp only [hs, Bool.false_eq_true, if_false, List.lookup_cons]
      have : (t == s) = false := by
        simp only [beq_eq_false_iff_ne]
        rintro rfl
        exact hs ht
      simp only [this]
      exact lookup_filter f r t ht

/-- What it looks at is all that it takes. -/
theorem aopD_dstep {o : Oper} {s s' : St} (hg : ∀ d, o.dst = some d → d < j3) (h : w7 P C n ops o s = some (.normal, s')) :
    ∃ y, xz P C n ops o s = some (y, s'.σ) ∧ j5 n s.env o.dst y = some s'.env ∧ s'.dfs = s.dfs ∧ (jw o.op = true ∨ jv o.op = true → s'.σ = s.σ) := by
  let E := s.env.filter fun p => (jc ops o).contains p.1
  have hev : ∀ w t, ∀ x ∈ o.op.operands.toList, xm w E t x = xm w s.env t x := by
    intro w t x hx
    unfold xm
    congr 1
    cases x with
    | tmp k =>
      simp only [j7]
      split
      · rw [lookup_filter (fun t => (jc ops o).contains t) s.env k (by
          simp only [jc, List.contains_eq_mem, decide_eq_true_eq, List.mem_append, List.mem_filterMap]
          exact .inl ⟨_, hx, rfl⟩)]
      · rfl
    | const v => rfl
    | global g =>
      simp only [j7]
      rw [lookup_filter (fun t => (jc ops o).contains t) s.env (j3 + g) (by
          simp only [jc, List.contains_eq_mem, decide_eq_true_eq, List.mem_append, List.mem_filterMap]
          exact .inl ⟨_, hx, rfl⟩)]
    | func f => rfl
  have haw : yq n E ops o = yq n s.env ops o := by
    unfold yq
    split
    · rfl
    · rename_i j want hgd
      congr 1
      unfold jd
      split
      · rfl
      · rename_i d hd
        rw [lookup_filter (fun t => (jc ops o).contains t) s.env d (by
          simp only [jc, List.contains_eq_mem, decide_eq_true_eq, List.mem_append]
          refine .inr ?_
          simp only [hgd]
          simp only [x6]
          rw [hd]
          simp)]
  have hput : ∀ (y : AV) (σ' : List AObj), j4 n { s with env := E } o.dst (some (y, σ')) = (j5 n E o.dst y).map fun env => (.normal, { s with env := env, σ := σ' }) := fun _ _ => rfl
  have hfin : ∀ (y : AV) (σ' : List AObj), j4 n s o.dst (some (y, σ')) = some (.normal, s') → aop P C n ops o { s with env := E } = j4 n { s with env := E } o.dst (some (y, σ')) →
      ∃ y', xz P C n ops o s = some (y', s'.σ) ∧ j5 n s.env o.dst y' = some s'.env ∧ s'.dfs = s.dfs ∧ σ' = s'.σ := by
    intro y σ' hp ho
    simp only [j4, Option.map_eq_some_iff, Prod.mk.injEq, true_and] at hp
    obtain ⟨env', h1, rfl⟩ := hp
    have hds : xz P C n ops o s = ((j5 n E o.dst y).map fun env => (match o.dst with | some d => (env.lookup d).getD .any | none => .any, σ')) := by
      unfold xz
      rw [show aop P C n ops o { s with env := s.env.filter fun p => (jc ops o).contains p.1 } = _ from ho, hput]
      cases j5 n E o.dst y <;> rfl
    rw [hds]
    unfold j5 at h1 ⊢
    cases hd : o.dst with
    | none =>
      simp only [hd, Option.some.injEq] at h1 ⊢
      exact ⟨.any, rfl, h1, by trivial, by trivial⟩
    | some d =>
      simp only [hd] at h1 ⊢
      split at h1
      · rename_i hc
        simp only [Option.some.injEq] at h1
        refine ⟨y, ?_, ?_, by trivial, by trivial⟩
        · rw [if_pos hc, Option.map_some, aput_lookup, if_pos rfl]; rfl
        · rw [if_pos hc, h1]
      · cases h1
  have hmain : ∀ w, yq n E ops o = some w → aop P C n ops o { s with env := E } = match (if (jv o.op || jw o.op) = true then j6 P s.σ (xm w E) o else none) with
      | some y => j4 n { s with env := E } o.dst (some (ww o.guard w y, s.σ))
      | none => match w with
        | false => j4 n { s with env := E } o.dst (some (.tup [], s.σ))
        | true => xn P C n o { s with env := E } := by
    intro w hw
    unfold aop
    simp only [hw]
    cases (if (jv o.op || jw o.op) = true then j6 P s.σ (xm w E) o else none) <;> cases w <;> rfl
  unfold w7 at h
  split at h
  · cases h
  rename_i w hw
  rw [← haw] at hw
  have hrd : j6 P s.σ (xm w E) o = j6 P s.σ (xm w s.env) o := aread_congr fun t x hx => hev w t x hx
  split at h
  · rename_i hpr
    split at h
    · rename_i y hy
      obtain ⟨y', h1, h2, h3, h4⟩ := hfin _ _ h (by rw [hmain _ hw, if_pos hpr, hrd, hy])
      exact ⟨y', h1, h2, h3, fun _ => h4.symm⟩
    · rename_i hy
      split at h
      · cases h
      · rename_i hwf
        have hwf' : w = false := by simpa using hwf
        subst hwf'
        obtain ⟨y', h1, h2, h3, h4⟩ := hfin _ _ h (by rw [hmain _ hw, if_pos hpr, hrd, hy])
        exact ⟨y', h1, h2, h3, fun _ => h4.symm⟩
  · rename_i hpr
    have hno : ¬ (jw o.op = true ∨ jv o.op = true) := by
      intro hx
      apply hpr
      rcases hx with hx | hx <;> simp [hx]
    split at h
    · rename_i hwt
      subst hwt
      have hlook : ∀ t, ∀ x ∈ o.op.operands.toList, xm true E t x = xm true s.env t x := fun t x hx => hev true t x hx
      unfold xn at h
      split at h
      · split at h <;> cases h
      · cases h
      · rename_i f args argTypes hop
        split at h
        · rename_i g xs hcal
          split at h
          · rename_i y σ' hcall
            obtain ⟨y', h1, h2, h3, h4⟩ := hfin _ _ h (by
              rw [hmain _ hw, if_neg hpr]
              simp only
              unfold xn
              rw [hop]
              simp only
              have := acallee_congr (P := P) (ev := xm true E) (ev' := xm true s.env) (c := { callee := .value f, args, argTypes }) (fun t x hx => hlook t x (by rw [hop]; exact hx))
              rw [this, hcal]
              simp only [hcall])
            exact ⟨y', h1, h2, h3, fun hx => absurd hx hno⟩
          · cases h
          · cases h
        · cases h
      · rename_i h1x h2x h3x
        cases hact : x8 P s.σ (xm true s.env) o with
        | none => rw [hact] at h; simp [j4] at h
        | some p =>
          obtain ⟨y, σ'⟩ := p
          rw [hact] at h
          obtain ⟨y', h1, h2, h3, h4⟩ := hfin _ _ h (by
            rw [hmain _ hw, if_neg hpr]
            simp only
            unfold xn
            split
            · rename_i x hx; exact absurd hx (h1x x)
            · rename_i x hx; exact absurd hx (h2x x)
            · rename_i a b c hx; exact absurd hx (h3x a b c)
            · have := aact_congr (P := P) (σ := s.σ) (ev := xm true E) (ev' := xm true s.env) (o := o) (fun t x hx => hlook t x hx)
              simp only [this, hact])
          exact ⟨y', h1, h2, h3, fun hx => absurd hx hno⟩
    · rename_i hwf
      have hwf' : w = false := by simpa using hwf
      subst hwf'
      obtain ⟨y', h1, h2, h3, h4⟩ := hfin _ _ h (by rw [hmain _ hw, if_neg hpr])
      exact ⟨y', h1, h2, h3, fun hx => absurd hx hno⟩


theorem aopD_normal {o : Oper} {s s' : St} {e : AEx} (hn : e = .normal) (h : w7 P C n ops o s = some (e, s')) : w7 P C n ops o s = some (.normal, s') := hn ▸ h

/-- The states on the way. -/
theorem aoplD_states (hg : ∀ (i : Nat) (o : Oper), ops[i]? = some o → ∀ d, o.dst = some d → d < j3) : ∀ (l : List Oper) (k : Nat) (s sN : St), ops.toList.drop k = l → aoplD P C n ops l s = some (.normal, sN) →
    ∃ (S : Nat → St) (Y : Nat → AV), S k = s ∧ S (k + l.length) = sN ∧ ∀ i o, k ≤ i → ops[i]? = some o → xz P C n ops o (S i) = some (Y i, (S (i + 1)).σ) ∧ j5 n (S i).env o.dst (Y i) = some (S (i + 1)).env ∧ (S (i + 1)).dfs = (S i).dfs ∧
      (jw o.op = true → (S (i + 1)).σ = (S i).σ)
  | [], k, s, sN, hl, h => by
    simp only [aoplD, Option.some.injEq, Prod.mk.injEq, true_and] at h
    subst h
    refine ⟨fun _ => s, fun _ => .any, rfl, rfl, fun i o hi ho => ?_⟩
    have hlt : i < ops.size := (Array.getElem?_eq_some_iff.1 ho).1
    have : ops.toList.length ≤ k := by simpa using hl
    rw [Array.length_toList] at this
    omega
  | o :: r, k, s, sN, hl, h => by
    have ho : ops[k]? = some o := by
      have : ops.toList[k]? = some o := by
        have := congrArg (fun l => l[0]?) hl
        simpa using this
      simpa using this
    have hr : ops.toList.drop (k + 1) = r := by
      have := congrArg List.tail hl
      simpa using this
    simp only [aoplD, bindA] at h
    split at h
    · rename_i s1 h1
      obtain ⟨y, d1, d2, d3, d4⟩ := aopD_dstep (hg k o ho) h1
      obtain ⟨S, Y, hS, hN, H⟩ := aoplD_states hg r (k + 1) s1 sN hr h
      refine ⟨fun i => if i ≤ k then s else S i, fun i => if i = k then y else Y i, by simp, ?_, fun i oi hi hoi => ?_⟩
      · have hk : ¬ k + (o :: r).length ≤ k := by simp
        show (if k + (o :: r).length ≤ k then s else S (k + (o :: r).length)) = sN
        rw [if_neg hk, ← hN]
        congr 1
        simp only [List.length_cons]
        omega
      · by_cases hik : i = k
        · subst hik
          rw [ho] at hoi
          cases hoi
          simp only [Nat.le_refl, if_true, if_neg (show ¬ i + 1 ≤ i by omega), hS]
          exact ⟨d1, d2, d3, fun hx => d4 (.inl hx)⟩
        · have h1' : ¬ i ≤ k := by omega
          have h2' : ¬ i + 1 ≤ k := by omega
          simp only [if_neg h1', if_neg h2', if_neg hik]
          exact H i oi (by omega) hoi
    · rename_i hx
      exact absurd h (hx _)

noncomputable def adrawT (P : Program) (C : Oracle) (n : Nat) (ops : Array Oper) (s : St) : Option (AEx × St) := match aoplD P C n ops ops.toList s with
  | some (.normal, s') => some (.normal, s')
  | _ => none
/-- No window is needed; and temporaries are temporaries. -/
def tcheck (ops : Array Oper) : Bool := dcheck ops [] && ops.toList.all fun o => match o.dst with | some d => decide (d < j3) | none => true

theorem adrawT_sound {pr : Nat → Prop} {G : Globs} {w0 : World} {σ0 : List AObj} {β0 : List Nat} {m : Nat} {ρ : Option Nat} {s : St} (hm : P.follows .mixedOrders = true) (hC : COk P G C) (hGG : GG w0 (stOf pr w0 σ0 β0) G) (hchk : tcheck ops = true) {s' : St} {e : AEx} {a : Act} {w : World} {β : List Nat} (hA : At pr w0 σ0 β0 n s a w β)
    (h : adrawT P C n ops s = some (e, s')) (id : Nat) : (Code.region id ops true).wpIn (FW ρ) m P (Post pr w0 σ0 β0 n e s') a w := by
  unfold adrawT at h
  split at h
  rotate_left
  · cases h
  rename_i sN hrun
  simp only [Option.some.injEq, Prod.mk.injEq] at h
  obtain ⟨rfl, rfl⟩ := h
  simp only [tcheck, Bool.and_eq_true] at hchk
  have hg : ∀ (i : Nat) (o : Oper), ops[i]? = some o → ∀ d, o.dst = some d → d < j3 := fun i o ho d hd => by
    have hmem : o ∈ ops.toList := List.mem_of_getElem? (by simpa using ho)
    have := List.all_eq_true.1 hchk.2 o hmem
    simpa [hd] using this
  obtain ⟨S, Y, hS, hN, H⟩ := aoplD_states hg ops.toList 0 s sN (by simp) hrun
  have hN' : S ops.size = sN := by simpa using hN
  have HP : Plan P C n ops [] s S Y := by
    refine ⟨hchk.1, hS, fun i o ho => (H i o (Nat.zero_le _) ho).1, fun i o ho => (H i o (Nat.zero_le _) ho).2.1, fun i hi => ?_, fun i o ho hr => ?_, fun i o J ho hr hJ hm => by simp at hm⟩
    · have ho : ops[i]? = some ops[i] := by simp [hi]
      exact (H i _ (Nat.zero_le _) ho).2.2.1
    · have h1 := H i o (Nat.zero_le _) ho
      rw [h1.1, h1.2.2.2 hr]
  obtain ⟨I', E'⟩ := hA.inv.same (w' := { w with drawn := w.drawn + 1 }) rfl rfl rfl rfl
  have hE := GEnv.later E'.later E'.onto hA.env
  rw [← hN']
  refine wpIn_region_any hm (any_sound hC hGG HP _ _ _ _ ?_ ?_)
  · have hnl : ∀ i, ¬ lst (Array.replicate ops.size false) i := fun i => by
      unfold lst
      rw [Array.getD_eq_getD_getElem?, Array.getElem?_replicate]
      split <;> simp
    refine ⟨by simp, fun i o _ hl => absurd hl (hnl i), 0, Nat.zero_le _, .inl rfl, fun b _ _ => ⟨fun hl => absurd hl (hnl b), fun hl => absurd hl (Nat.not_lt_zero _)⟩, β, ?_, ?_, hA.size, GMarks.onto E'.onto hA.dfs, fun t x hx _ => ?_, fun i d hl => absurd hl (hnl i)⟩
    · rw [HP.first]; exact I'
    · rw [HP.first]; exact hA.evo.trans E'
    · rw [HP.first]; exact hE t x hx
  · simp [unl]

end
end Go.Proofs.YtblejchodicaoaaGreatDoor.Eng

/-
  THE ENGINE, part Y: a region that draws its order, by trying each order (two stores that stand in either order). Program-independent. Own work.
-/
namespace Go.Proofs.YtblejchodicaoaaGreatDoor.Eng
open Go Go.RowKit

/-- In whatever order: from s to s'. -/
def AnyTo (P : Program) (C : Oracle) (n : Nat) (ops : Array Oper) : Nat → Array Bool → St → St → Prop
  | 0, listed, s, s' => Region.ready .any ops listed = [] ∧ s = s'
  | k + 1, listed, s, s' => (Region.ready .any ops listed = [] → s = s') ∧
      ∀ i ∈ Region.ready .any ops listed, ∃ o s1, ops[i]? = some o ∧ aop P C n ops o s = some (.normal, s1) ∧ AnyTo P C n ops k (listed.setIfInBounds i true) s1 s'

theorem AnyTo.det {P : Program} {C : Oracle} {n : Nat} {ops : Array Oper} : ∀ {k : Nat} {listed : Array Bool} {s s1 s2 : St}, AnyTo P C n ops k listed s s1 → AnyTo P C n ops k listed s s2 → s1 = s2
  | 0, _, _, _, _, h1, h2 => h1.2.symm.trans h2.2
  | k + 1, listed, s, s1, s2, h1, h2 => by
    by_cases hr : Region.ready .any ops listed = []
    · exact (h1.1 hr).symm.trans (h2.1 hr)
    · obtain ⟨i, hi⟩ := List.exists_mem_of_ne_nil _ hr
      obtain ⟨o, t1, ho, ha, hx⟩ := h1.2 i hi
      obtain ⟨o', t2, ho', ha', hx'⟩ := h2.2 i hi
      rw [ho] at ho'
      cases ho'
      rw [ha] at ha'
      cases ha'
      exact hx.det hx'

noncomputable def aany (P : Program) (C : Oracle) (n : Nat) (ops : Array Oper) (s : St) : Option (AEx × St) :=
  open Classical in if h : ∃ s', AnyTo P C n ops ops.size (Array.replicate ops.size false) s s' then some (.normal, Classical.choose h) else none

theorem aany_iff {P : Program} {C : Oracle} {n : Nat} {ops : Array Oper} {s : St} {r : AEx × St} : aany P C n ops s = some r ↔ r.1 = .normal ∧ AnyTo P C n ops ops.size (Array.replicate ops.size false) s r.2 := by
  unfold aany
  split
  · rename_i h
    have hc := Classical.choose_spec h
    simp only [Option.some.injEq]
    constructor
    · rintro rfl
      exact ⟨rfl, hc⟩
    · rintro ⟨h1, h2⟩
      obtain ⟨e, s2⟩ := r
      simp only at h1 h2
      subst h1
      rw [hc.det h2]
  · rename_i h
    constructor
    · intro h'; cases h'
    · rintro ⟨_, h2⟩
      exact absurd ⟨_, h2⟩ h

section
variable {pr : Nat → Prop} {P : Program} {C : Oracle} {G : Globs} {w0 : World} {σ0 : List AObj} {β0 : List Nat} {n m : Nat} {ρ : Option Nat} {ops : Array Oper} {s s' : St}

theorem anyTo_sound (hC : COk P G C) (hGG : GG w0 (stOf pr w0 σ0 β0) G) : ∀ (k : Nat) (listed : Array Bool) (s : St) (a : Act) (w : World) (β : List Nat), AnyTo P C n ops k listed s s' → At pr w0 σ0 β0 n s a w β →
    wpAnyIn (FW ρ) m P .any ops (Post pr w0 σ0 β0 n .normal s') k listed a w
  | 0, listed, s, a, w, β, h, hA => by
    obtain ⟨h1, rfl⟩ := h
    exact ⟨h1, β, hA, trivial⟩
  | k + 1, listed, s, a, w, β, h, hA => by
    refine ⟨fun hr => ?_, fun i hi => ?_⟩
    · have := h.1 hr
      subst this
      exact ⟨β, hA, trivial⟩
    · obtain ⟨o, s1, ho, ha, hx⟩ := h.2 i hi
      exact aop_sound hC hGG ho hA ha (fun _ a' w' β' hA' => anyTo_sound hC hGG k _ s1 a' w' β' hx hA') (fun _ _ _ _ he => absurd rfl he)

theorem aany_sound (hm : P.follows .mixedOrders = true) (hC : COk P G C) (hGG : GG w0 (stOf pr w0 σ0 β0) G) {e : AEx} {a : Act} {w : World} {β : List Nat} (hA : At pr w0 σ0 β0 n s a w β)
    (h : aany P C n ops s = some (e, s')) (id : Nat) : (Code.region id ops true).wpIn (FW ρ) m P (Post pr w0 σ0 β0 n e s') a w := by
  obtain ⟨rfl, h2⟩ := aany_iff.1 h
  obtain ⟨I', E'⟩ := hA.inv.same (w' := { w with drawn := w.drawn + 1 }) rfl rfl rfl rfl
  have hE := GEnv.later E'.later E'.onto hA.env
  exact wpIn_region_any hm (anyTo_sound hC hGG _ _ _ _ _ β h2 ⟨I', hA.evo.trans E', hA.size, hE, GMarks.onto E'.onto hA.dfs⟩)

end
end Go.Proofs.YtblejchodicaoaaGreatDoor.Eng

/-
  THE ENGINE, part U: ranges over functions: a round of a loop; the statement. Program-independent. Own work.
-/
namespace Go.Proofs.YtblejchodicaoaaGreatDoor.Eng
open Go Go.RowKit

/-! ### A round -/
/-- The parameters are put. -/
def jb (n : Nat) : Env → List Tmp → List AV → Option Env
  | env, [], [] => some env
  | env, t :: ts, x :: xs => if t < n ∧ t < j3 then jb n (wb env t x) ts xs else none
  | _, _, _ => none

/-- How a round's end is told: what yield hands back, the record's state, the jump that waits. -/
def xw : AEx → Option (Bool × LoopState × Option Code)
  | .normal => some (true, .ready, none)
  | .ret => some (false, .done, some .ret)
  | .exit id => some (false, .done, some (.exit id))
  | _ => none

def around (P : Program) (C : Oracle) (M : Nat → Nat → Mach) (pa pb : Nat) (args : List AV) (σ : List AObj) : Option (Out × List AObj) :=
  match args with
  | .yld o :: xs => match σ[o]? with
    | some (.loop env n ps assign body .ready _ _) => if gcode (M σ.length n).chk pa assign = true ∧ gcode (M σ.length n).chk pb body = true then match jb n env ps.toList xs with
      | some env' => match acode P C (M σ.length n) n pa assign { env := env', σ := σ, dfs := [] } with
        | some (.normal, s1) => match s1.σ[o]? with
          | some (.loop e2 n2 ps2 a2 b2 .ready pd2 d2) =>
            match acode P C (M σ.length n) n pb body { s1 with σ := s1.σ.set o (.loop e2 n2 ps2 a2 b2 .busy pd2 d2) } with
            | some (e, s2) => match s2.σ[o]?, xw e with
              | some (.loop e3 n3 ps3 a3 b3 _ _ d3), some (v, stt, jmp) =>
                (jo σ.length false [] (s2.σ.set o (.loop e3 n3 ps3 a3 b3 stt jmp d3))).map fun r => (.ret (.d (.bool v)), r.2)
              | _, _ => none
            | none => none
          | _ => none
        | _ => none
      | none => none
      else none
    | _ => none
  | _ => none

section
variable {pr : Nat → Prop} {P : Program} {G : Globs} {C : Oracle} {w0 w : World} {σ0 : List AObj} {β0 β : List Nat} {n m : Nat}

theorem aparams_sound {st : Nat → Prop} : ∀ {ps : List Tmp} {xs : List AV} {env env' : Env} {tmps : Array Value} {vs : List Value}, jb tmps.size env ps xs = some env' → GEnv w st β env tmps → GVl w st β xs vs →
    vs.length = ps.length ∧ ((ps.zip vs).foldl (fun tmps (p : Tmp × Value) => tmps.setIfInBounds p.1 p.2) tmps).size = tmps.size ∧ GEnv w st β env' ((ps.zip vs).foldl (fun tmps (p : Tmp × Value) => tmps.setIfInBounds p.1 p.2) tmps)
  | [], [], env, env', tmps, vs, h, hE, hg => by
    simp only [jb, Option.some.injEq] at h
    subst h
    simp only [GVl] at hg
    subst hg
    exact ⟨rfl, rfl, hE⟩
  | t :: ts, x :: xs, env, env', tmps, vs, h, hE, hg => by
    simp only [jb] at h
    split at h
    · rename_i hc
      simp only [GVl] at hg
      obtain ⟨v, q, rfl, h1, h2⟩ := hg
      have hput : GEnv w st β (wb env t x) (tmps.setIfInBounds t v) := by
        have := GEnv.put (a := { tmps := tmps, defers := [] }) hE (d := t) (y := x) (v := v) hc.1 hc.2 h1
        simpa [Act.put] using this
      have hsz : (tmps.setIfInBounds t v).size = tmps.size := by simp
      have := aparams_sound (tmps := tmps.setIfInBounds t v) (by rw [hsz]; exact h) hput h2
      refine ⟨by simp [this.1], ?_, ?_⟩
      · simpa using this.2.1
      · simpa using this.2.2
    · cases h
  | [], _ :: _, _, _, _, _, h, _, _ => by simp [jb] at h
  | _ :: _, [], _, _, _, _, h, _, _ => by simp [jb] at h

/-- A record's state is turned. -/
theorem Inv.turn {σ : List AObj} (I : Inv pr w σ β) {o bl : Nat} {env : Env} {k d : Nat} {ps : Array Tmp} {assign body : Code} {stt stt' : LoopState} {pd pd' : Option Code}
    (ho : σ[o]? = some (.loop env k ps assign body stt pd d)) (hb : β[o]? = some bl) {fn : FuncId} {tmps : Array Value} {db : Nat}
    (hh : w.heap[bl]? = some (.loop { state := stt, pending := pd, fn := fn, tmps := tmps, params := ps, assign := assign, body := body, defers := db })) (hn : tmps.size = k) (hE : GEnv w (stOf pr w σ β) β env tmps) (hd : β[d]? = some db) :
    Inv pr (w.putObj bl (.loop { state := stt', pending := pd', fn := fn, tmps := tmps, params := ps, assign := assign, body := body, defers := db })) (σ.set o (.loop env k ps assign body stt' pd' d)) β ∧
      Evo pr w σ β (w.putObj bl (.loop { state := stt', pending := pd', fn := fn, tmps := tmps, params := ps, assign := assign, body := body, defers := db })) (σ.set o (.loop env k ps assign body stt' pd' d)) β := by
  have hlt := (Array.getElem?_eq_some_iff.1 hh).1
  exact I.set _ ho rfl hb rfl rfl rfl (by simp) (fun k hk => World.putObj_heap_other hk) (csize_put hh (by simp) (by simp)) (fun L B => ⟨fn, tmps, db, World.putObj_heap_same hlt, hn, GEnv.later L B hE, B.at_ _ _ hd⟩)

theorem around_meets (hC : COk P G C) {M : Nat → Nat → Mach} {pa pb : Nat}
    (hM : ∀ k n ρ pr w0 σ0 β0, β0.length = k → GG w0 (stOf pr w0 σ0 β0) G → MOk P C (M k n) n ρ 0 pr w0 σ0 β0)
    {args : List AV} {σ σ' : List AObj} {out : Out}
    (h : around P C M pa pb args σ = some (out, σ')) : YMeets P G args σ out σ' := by
  unfold around at h
  split at h
  rotate_left
  · cases h
  rename_i o xs
  split at h
  rotate_left
  · cases h
  rename_i env n ps assign body pd d hσ
  split at h
  rotate_left
  · cases h
  rename_i hcode
  obtain ⟨hga, hgb⟩ := hcode
  split at h
  rotate_left
  · cases h
  rename_i env' hpar
  split at h
  rotate_left
  · cases h
  rename_i s1 hass
  split at h
  rotate_left
  · cases h
  rename_i e2 n2 ps2 a2 b2 pd2 d2 hσ1
  split at h
  rotate_left
  · cases h
  rename_i e s2 hbody
  split at h
  rotate_left
  · cases h
  rename_i e3 n3 ps3 a3 b3 stt3 pd3 d3 v stt jmp hσ2 hj
  simp only [Option.map_eq_some_iff, Prod.mk.injEq] at h
  obtain ⟨⟨ys, σ4⟩, hcl, rfl, rfl⟩ := h
  refine ⟨o, xs, v, rfl, rfl, fun pr w β vs bl I hGG hg hbl => ?_⟩
  have hH := I.holds o _ bl hσ hbl
  obtain ⟨fn, tmps, db, hh, hn, hE, hd⟩ := hH
  subst hn
  obtain ⟨hl, hs, hE'⟩ := aparams_sound hpar hE hg
  refine ⟨_, hh, by simpa using hl, ?_⟩
  have hfold : (ps.zip vs.toArray).foldl (fun tmps (t, a) => tmps.setIfInBounds t a) tmps = (ps.toList.zip vs).foldl (fun tmps (p : Tmp × Value) => tmps.setIfInBounds p.1 p.2) tmps := by
    rw [← Array.foldl_toList]
    simp
  simp only [hfold]
  refine roundIn_of_wpIn trivial ?_
  have hA : At pr w σ β tmps.size { env := env', σ := σ, dfs := [] } { tmps := (ps.toList.zip vs).foldl (fun tmps (p : Tmp × Value) => tmps.setIfInBounds p.1 p.2) tmps, defers := [] } w β :=
    ⟨I, Evo.refl _ _ _, hs, hE', rfl⟩
  have hMk : ∀ ρ, MOk P C (M σ.length tmps.size) tmps.size ρ 0 pr w σ β := fun ρ => hM _ _ ρ pr w σ β I.len hGG
  refine wpIn_mono (acode_sound (ρ := some bl) hC hGG (hMk _) assign hga hass hA) fun x1 a1 w1 hp => ?_
  obtain ⟨β1, hA1, hx1⟩ := hp
  cases x1 <;> simp only [GEx] at hx1
  have hbl1 : β1[o]? = some bl := hA1.evo.onto.at_ o bl hbl
  obtain ⟨fn1, tmps1, db1, hh1, hn1, hE1, hd1⟩ := hA1.inv.holds o _ bl hσ1 hbl1
  obtain ⟨I2, E2⟩ := hA1.inv.turn (stt' := .busy) (pd' := pd2) hσ1 hbl1 hh1 hn1 hE1 hd1
  refine ⟨_, run_beginRound hh1 rfl, ?_⟩
  have hA2 : At pr w σ β tmps.size { s1 with σ := s1.σ.set o (.loop e2 n2 ps2 a2 b2 .busy pd2 d2) } a1 _ β1 := ⟨I2, hA1.evo.trans E2, hA1.size, GEnv.later E2.later E2.onto hA1.env, hA1.dfs⟩
  refine wpIn_mono (acode_sound (ρ := some bl) hC hGG (hMk _) body hgb hbody hA2) fun x3 a3' w3 hp => ?_
  obtain ⟨β3, hA3, hx3⟩ := hp
  have hbl3 : β3[o]? = some bl := hA3.evo.onto.at_ o bl hbl
  obtain ⟨fn3, tmps3, db3, hh3, hn3, hE3, hd3⟩ := hA3.inv.holds o _ bl hσ2 hbl3
  have hend : ∀ (jump : Option Code), jump = jmp → (v = jump.isNone) → (stt = if jump.isNone then LoopState.ready else .done) → ∃ u w', (Instr.endRound bl jump).run P w3 = .ok u w' ∧
      (∃ β', Inv pr w' σ4 β' ∧ Evo pr w σ β w' σ4 β' ∧ Ending.returned u = .returned (.bool v)) := by
    intro jump hjm hv hst
    obtain ⟨I4, E4⟩ := hA3.inv.turn (stt' := stt) (pd' := jmp) hσ2 hbl3 hh3 hn3 hE3 hd3
    obtain ⟨β5, I5, E5, _⟩ := aclose_sound I4 (hA3.evo.trans E4) (Nat.le_of_eq I.len) hcl (vs := []) (by simp [GVl])
    refine ⟨_, _, run_endRound jump hh3, β5, ?_, ?_, ?_⟩
    · rw [hst, ← hjm] at I5
      exact I5
    · rw [hst, ← hjm] at E5
      exact E5
    · rw [hv]
  cases e <;> simp only [xw] at hj <;> cases hj <;> cases x3 <;> simp only [GEx] at hx3
  · exact hend none rfl rfl rfl
  · subst hx3
    exact hend (some (.exit _)) rfl rfl rfl
  · exact hend (some .ret) rfl rfl rfl

/-! ### The statement -/
def wx (P : Program) (C : Oracle) (k n : Nat) (keep : Option (List Nat)) (g : Operand) (ps : Array Tmp) (x y : Code) (s0 : St) : Option (AEx × St) :=
  let s : St := match keep with
    | some l => xk k l s0
    | none => s0
  match afn (xm true s.env true g) with
  | some (.func gf, first, cap) => if hasBody P gf then
      match xe C (s.σ ++ [.dfr] ++ [.loop s.env n ps x y .ready none s.σ.length]) gf (first ++ [.yld (s.σ.length + 1)] ++ cap) with
      | some (Out.ret _, σ2) => match σ2[s.σ.length + 1]? with
        | some (AObj.loop _ _ _ _ _ stt pend _) => if stt = .busy then none else
            match pend with
            | none => some (.normal, { env := s.env, σ := σ2.set (s.σ.length + 1) .gone, dfs := s.σ.length :: s.dfs })
            | some .ret => some (.ret, { env := s.env, σ := σ2.set (s.σ.length + 1) .gone, dfs := s.σ.length :: s.dfs })
            | some (.exit id) => some (.exit id, { env := s.env, σ := σ2.set (s.σ.length + 1) .gone, dfs := s.σ.length :: s.dfs })
            | _ => none
        | _ => none
      | _ => none
    else none
  | _ => none

theorem arng_sound (hC : COk P G C) (hGG : GG w0 (stOf pr w0 σ0 β0) G) {k : Nat} (hk : β0.length ≤ k) {keep : Option (List Nat)} {g : Operand} {ps : Array Tmp} {x y : Code} {s0 s' : St} {e : AEx} {a : Act}
    (h : wx P C k n keep g ps x y s0 = some (e, s')) (hA0 : At pr w0 σ0 β0 n s0 a w β) : (Code.rangeFunc g ps x y).wpIn (FW none) m P (Post pr w0 σ0 β0 n e s') a w := by
  unfold wx at h
  simp only at h
  generalize hs : (match keep with | some l => xk k l s0 | none => s0) = s at h
  have hL : Less pr w0 σ0 β0 n s0 s := by
    cases keep with
    | none => subst hs; exact fun a w β hA => ⟨β, hA⟩
    | some l => subst hs; exact atrim_less hk l s0
  obtain ⟨β1, hA⟩ := hL a w β hA0
  clear hA0
  split at h
  rotate_left
  · cases h
  rename_i gf first cap hfn
  split at h
  rotate_left
  · cases h
  rename_i hb
  split at h
  rotate_left
  · cases h
  rename_i yy σ2 hcall
  split at h
  rotate_left
  · cases h
  rename_i le ln lps lx ly stt pend ld hσ2
  split at h
  · cases h
  rename_i hbusy
  obtain ⟨us, vs, hv, hus, hvs⟩ := afn_sound (alook_sound hA.env true g rfl) hfn
  refine wpIn_rangeFunc fun fn _ => ?_
  -- the block for the deferred calls
  obtain ⟨I1, E1⟩ := hA.inv.alloc (.deferred (some [])) .dfr rfl (fun _ _ => heap_alloc_at w _)
  have hlen := hA.inv.len
  obtain ⟨I2, E2⟩ := I1.alloc (.loop { state := .ready, pending := none, fn := fn, tmps := a.tmps, params := ps, assign := x, body := y, defers := w.heap.size }) (.loop s.env n ps x y .ready none s.σ.length) rfl
    (fun L B => ⟨fn, a.tmps, w.heap.size, heap_alloc_at _ _, hA.size, GEnv.later L B (GEnv.later E1.later E1.onto hA.env), B.at_ _ _ (by rw [← hlen]; simp)⟩)
  have hsz : (w.alloc (.deferred (some []))).heap.size = w.heap.size + 1 := by simp
  have E12 := E1.trans E2
  have hbl : (β1 ++ [w.heap.size] ++ [(w.alloc (.deferred (some []))).heap.size])[s.σ.length + 1]? = some (w.heap.size + 1) := by
    rw [← hlen, hsz]
    simp
  have hbd : (β1 ++ [w.heap.size] ++ [(w.alloc (.deferred (some []))).heap.size])[s.σ.length]? = some w.heap.size := by
    rw [← hlen]
    simp
  have hg : GVl _ (stOf pr _ (s.σ ++ [.dfr] ++ [.loop s.env n ps x y .ready none s.σ.length]) (β1 ++ [w.heap.size] ++ [(w.alloc (.deferred (some []))).heap.size])) (β1 ++ [w.heap.size] ++ [(w.alloc (.deferred (some []))).heap.size])
      (first ++ [.yld (s.σ.length + 1)] ++ cap) (us ++ [.func (.yield (w.heap.size + 1)) #[] #[]] ++ vs) :=
    GVl.append (GVl.append (GVl.later E12.later E12.onto _ _ hus) (by simp only [GVl, GV]; exact ⟨_, _, rfl, ⟨_, hbl, rfl⟩, rfl⟩)) (GVl.later E12.later E12.onto _ _ hvs)
  have hmeet := (acall_sound hC hcall).fn (hasBody_lt hb) pr _ _ _ I2 (hGG.later (hA.evo.trans E12).later) hg
  refine ⟨w.heap.size + 1, _, _, { target := .fn (.func gf) vs.toArray, args := us.toArray ++ #[.func (.yield (w.heap.size + 1)) #[] #[]] }, (w.alloc (.deferred (some []))).alloc (.loop { state := .ready, pending := none, fn := fn, tmps := a.tmps, params := ps, assign := x, body := y, defers := w.heap.size }), gf, us.toArray ++ #[.func (.yield (w.heap.size + 1)) #[] #[]] ++ vs.toArray, (w.alloc (.deferred (some []))).alloc (.loop { state := .ready, pending := none, fn := fn, tmps := a.tmps, params := ps, assign := x, body := y, defers := w.heap.size }), run_enterLoop_outer fn a.tmps ps x y, ?_, fun _ _ => trivial, ?_, fun hd => by simp [FW] at hd, ?_⟩
  · have he : (#[Operand.const (.func (.yield (w.heap.size + 1)) #[] #[])] : Array Operand).map a.eval = #[Value.func (.yield (w.heap.size + 1)) #[] #[]] := by
      apply Array.toList_inj.1
      simp only [Array.toList_map, List.map_cons, List.map_nil]
      rfl
    simp only [resolve, rangeCall, hv, Deferred.ofValue, he, Sem.run_pure]
  · have := invoke_enter (P := P) (w := (w.alloc (.deferred (some []))).alloc (.loop { state := .ready, pending := none, fn := fn, tmps := a.tmps, params := ps, assign := x, body := y, defers := w.heap.size })) (us := us.toArray) (args := #[.func (.yield (w.heap.size + 1)) #[] #[]]) (vs := vs.toArray) hb
    exact this
  · have hcc := (callsIn_wide (n := m - 1)).2 hmeet
    have e1 : (us ++ [Value.func (.yield (w.heap.size + 1)) #[] #[]] ++ vs).toArray = us.toArray ++ #[Value.func (.yield (w.heap.size + 1)) #[] #[]] ++ vs.toArray := by
      apply Array.toList_inj.1; simp
    rw [e1] at hcc
    have : CallsIn (FW none) (m - 1) P gf _ _ _ := hcc
    refine CallsIn.mono this fun e w3 he => ?_
    obtain ⟨β3, I3, E3, hout⟩ := he
    cases e with
    | panicked chain => exact hout.elim
    | outgrown => exact hout.elim
    | returned v =>
      have hbl3 := E3.onto.at_ _ _ hbl
      have hbd3 := E3.onto.at_ _ _ hbd
      obtain ⟨fn3, tmps3, db3, hh3, hn3, hE3, hd3⟩ := I3.holds _ _ _ hσ2 hbl3
      have hlt3 := (Array.getElem?_eq_some_iff.1 hh3).1
      obtain ⟨I4, E4⟩ := I3.set (w' := w3.putObj (w.heap.size + 1) (.loop { state := .exhausted, pending := pend, fn := fn3, tmps := tmps3, params := lps, assign := lx, body := ly, defers := db3 })) .gone hσ2 rfl hbl3 rfl rfl rfl (by simp)
        (fun k hk => World.putObj_heap_other hk) (csize_put hh3 (by simp) (by simp)) (fun _ _ => trivial)
      have E14 := (E12.trans E3).trans E4
      have hA4 : At pr w0 σ0 β0 n { env := s.env, σ := σ2.set (s.σ.length + 1) .gone, dfs := s.σ.length :: s.dfs } { a with defers := [{ target := .collected w.heap.size, args := #[] }] ++ a.defers }
          (w3.putObj (w.heap.size + 1) (.loop { state := .exhausted, pending := pend, fn := fn3, tmps := tmps3, params := lps, assign := lx, body := ly, defers := db3 })) β3 :=
        ⟨I4, hA.evo.trans E14, hA.size, GEnv.later E14.later E14.onto hA.env, ⟨_, _, rfl, hbd3, GMarks.onto E14.onto hA.dfs⟩⟩
      refine ⟨pend, _, run_endLoop hh3 (by simpa using hbusy), ?_⟩
      split at h
      · simp only [Option.some.injEq, Prod.mk.injEq] at h
        obtain ⟨rfl, rfl⟩ := h
        exact ⟨β3, hA4, trivial⟩
      · simp only [Option.some.injEq, Prod.mk.injEq] at h
        obtain ⟨rfl, rfl⟩ := h
        exact wpIn_ret ⟨β3, hA4, trivial⟩
      · simp only [Option.some.injEq, Prod.mk.injEq] at h
        obtain ⟨rfl, rfl⟩ := h
        exact wpIn_exit ⟨β3, hA4, rfl⟩
      · cases h

end
end Go.Proofs.YtblejchodicaoaaGreatDoor.Eng

/-
  THE ENGINE, part Q: a machine with loops. Program-independent. Own work.
-/
namespace Go.Proofs.YtblejchodicaoaaGreatDoor.Eng
open Go Go.RowKit

/-- What is said of a function's code from outside: at a loop's head, which temporaries are kept; at a region that draws its order, at which states what reads is tried. By the place in the code. -/
structure Tbl where
  keep : List (Nat × List Nat) := []
  wins : List (Nat × List (List Nat)) := []
  anys : List Nat := []
  outs : List (Nat × List Nat) := []
  deriving Inhabited

def tchk (tbl : Tbl) (p : Nat) (ops : Array Oper) : Bool := tbl.anys.contains p || (match tbl.wins.lookup p with | none => tcheck ops | some w => dcheck ops w)
noncomputable def xx (P : Program) (C : Oracle) (n : Nat) (tbl : Tbl) (p : Nat) (ops : Array Oper) (s : St) : Option (AEx × St) := if tbl.anys.contains p = true then aany P C n ops s else
  match tbl.wins.lookup p with
  | none => adrawT P C n ops s
  | some w => xy P C n w ops s
theorem tdraw_sound {P : Program} (hm : P.follows .mixedOrders = true) {G : Globs} {C : Oracle} (hC : COk P G C) {tbl : Tbl} {n m p : Nat} {ρ : Option Nat} {ops : Array Oper} {pr : Nat → Prop} {w0 : World} {σ0 : List AObj} {β0 : List Nat} (hGG : GG w0 (stOf pr w0 σ0 β0) G) {s s' : St} {e : AEx} {a : Act} {w : World} {β : List Nat}
    (hc : tchk tbl p ops = true) (h : xx P C n tbl p ops s = some (e, s')) (hA : At pr w0 σ0 β0 n s a w β) (id : Nat) : (Code.region id ops true).wpIn (FW ρ) m P (Post pr w0 σ0 β0 n e s') a w := by
  unfold xx at h
  split at h
  · exact aany_sound hm hC hGG hA h id
  · rename_i hn
    unfold tchk at hc
    rw [Bool.or_eq_true] at hc
    rcases hc with hc | hc
    · exact absurd hc hn
    · split at h
      · rename_i hl
        rw [hl] at hc
        exact adrawT_sound hm hC hGG hc hA h id
      · rename_i w' hl
        rw [hl] at hc
        exact adraw_sound hm hC hGG hc hA h id

/-- What is kept of a state behind a loop. -/
def j2 (k : Nat) (keep : Option (List Nat)) (e : AEx) (s : St) : St := match keep, e with
  | none, _ => s
  | some _, .pan _ => s
  | some l, _ => xk k l s
noncomputable def aloop (k : Nat) (keep : List Nat) (out : Option (List Nat)) (step : St → Option (AEx × St)) (s : St) : Option (AEx × St) := (alim (xk k keep) step s).map fun r => (r.1, j2 k out r.1 r.2)
theorem aloop_ok {pr : Nat → Prop} {w0 : World} {σ0 : List AObj} {β0 : List Nat} {n k : Nat} (hk : β0.length = k) {keep : List Nat} {out : Option (List Nat)} {step : St → Option (AEx × St)} {s : St} {r : AEx × St} (h : aloop k keep out step s = some r) :
    ∃ t s', (∀ s, Less pr w0 σ0 β0 n s (t s)) ∧ Rounds t step s (r.1, s') ∧ (r.2 = s' ∨ ((∀ x, r.1 ≠ .pan x) ∧ Less pr w0 σ0 β0 n s' r.2)) := by
  obtain ⟨⟨e, s'⟩, h1, rfl⟩ := Option.map_eq_some_iff.1 h
  refine ⟨_, s', fun s => atrim_less (Nat.le_of_eq hk) _ s, alim_iff.1 h1, ?_⟩
  simp only
  unfold j2
  split
  · exact .inl rfl
  · exact .inl rfl
  · rename_i hx
    exact .inr ⟨fun x hx' => hx x hx', atrim_less (Nat.le_of_eq hk) _ _⟩

/-- For the rounds of a loop: without ranges over functions within. -/
noncomputable def machR (P : Program) (C : Oracle) (tbl : Tbl) (k n : Nat) : Mach where
  chk := tchk tbl
  draw := fun p ops s => xx P C n tbl p ops s
  loop := fun p step s => aloop k ((tbl.keep.lookup p).getD []) (tbl.outs.lookup p) step s
  rng := fun _ _ _ _ _ _ => none
noncomputable def mach (P : Program) (C : Oracle) (tbl : Tbl) (k n : Nat) : Mach where
  chk := tchk tbl
  draw := fun p ops s => xx P C n tbl p ops s
  loop := fun p step s => aloop k ((tbl.keep.lookup p).getD []) (tbl.outs.lookup p) step s
  rng := fun p g ps x y s => wx P C k n (tbl.keep.lookup p) g ps x y s

theorem machR_ok {P : Program} (hm : P.follows .mixedOrders = true) {G : Globs} {C : Oracle} (hC : COk P G C) {tbl : Tbl} {k n m : Nat} {ρ : Option Nat} {pr : Nat → Prop} {w0 : World} {σ0 : List AObj} {β0 : List Nat} (hk : β0.length = k) (hGG : GG w0 (stOf pr w0 σ0 β0) G) :
    MOk P C (machR P C tbl k n) n ρ m pr w0 σ0 β0 where
  draw := fun p ops s e s' a w β hc h hA id => tdraw_sound hm hC hGG hc h hA id
  loop := fun p step s r h => aloop_ok hk h
  rng := fun _ _ _ _ _ _ _ _ _ _ _ h => by simp [machR] at h

theorem mach_ok {P : Program} (hm : P.follows .mixedOrders = true) {G : Globs} {C : Oracle} (hC : COk P G C) {tbl : Tbl} {k n m : Nat} {pr : Nat → Prop} {w0 : World} {σ0 : List AObj} {β0 : List Nat} (hk : β0.length = k) (hGG : GG w0 (stOf pr w0 σ0 β0) G) :
    MOk P C (mach P C tbl k n) n none m pr w0 σ0 β0 where
  draw := fun p ops s e s' a w β hc h hA id => tdraw_sound hm hC hGG hc h hA id
  loop := fun p step s r h => aloop_ok hk h
  rng := fun _ _ _ _ _ _ _ _ _ _ _ h hA => arng_sound hC hGG (Nat.le_of_eq hk) h hA

/-- The rounds of the loop at p. -/
noncomputable def rounds (P : Program) (C : Oracle) (tbl : Tbl) (p : Nat) (args : List AV) (σ : List AObj) : Option (Out × List AObj) := around P C (machR P C tbl) (2 * p) (2 * p + 1) args σ
theorem rounds_ok {P : Program} (hm : P.follows .mixedOrders = true) {G : Globs} {C : Oracle} (hC : COk P G C) (tbl : Tbl) (p : Nat) {args : List AV} {σ σ' : List AObj} {out : Out} (h : rounds P C tbl p args σ = some (out, σ')) : YMeets P G args σ out σ' :=
  around_meets hC (fun k n ρ pr w0 σ0 β0 hk hGG => machR_ok hm hC hk hGG) h

theorem body_meets {P : Program} (hm : P.follows .mixedOrders = true) {G Ge : Globs} (hsub : ∀ g cs, (g, cs) ∈ Ge → (g, cs) ∈ G) {C : Oracle} (hC : COk P G C) (tbl : Tbl) (fz : Bool) {f : FuncId} (hG : gfun P (tchk tbl) f = true) {args : List AV} {σ σ' : List AObj} {out : Out}
    (h : abody P Ge C (mach P C tbl) fz f args σ = some (out, σ')) : Meets P G f args σ out σ' :=
  abody_meets hsub hC (fun _ _ _ _ hk hGG => mach_ok hm hC hk hGG) (fun _ => rfl) hG h

/-! ### To be rewritten with -/
section
variable (P : Program) (C : Oracle) (M : Mach) (n p : Nat) (s : St)
theorem zw : acode P C M n p .skip s = some (.normal, s) := rfl
theorem zf (l : Nat) : acode P C M n p (.label l) s = some (.normal, s) := rfl
theorem za (id : Nat) (ops : Array Oper) : acode P C M n p (.region id ops false) s = aopl P C n ops ops.toList s := rfl
theorem zx (id : Nat) (ops : Array Oper) : acode P C M n p (.region id ops true) s = M.draw p ops s := rfl
theorem qp (x y : Code) : acode P C M n p (.seq x y) s = bindA (acode P C M n (2 * p) x s) (acode P C M n (2 * p + 1) y) := rfl
theorem zy (c : Operand) (x y : Code) : acode P C M n p (.cond c x y) s = condA (xm true s.env true c) (acode P C M n (2 * p) x) (acode P C M n (2 * p + 1) y) s := rfl
theorem zg (id : Nat) (x : Code) : acode P C M n p (.block id x) s = blockA id (acode P C M n (2 * p) x s) := rfl
theorem zz (x : Code) : acode P C M n p (.loop x) s = M.loop p (acode P C M n (2 * p) x) s := rfl
theorem z6 (id : Nat) : acode P C M n p (.exit id) s = some (.exit id, s) := rfl
theorem qq : acode P C M n p .ret s = some (.ret, s) := rfl
theorem zj (g : Operand) (ps : Array Tmp) (x y : Code) : acode P C M n p (.rangeFunc g ps x y) s = M.rng p g ps x y s := rfl
theorem zh (x : Code) : acode P C M n p (.scope x) s = scopeA (acode P C M n (2 * p) x s) := rfl
theorem yf (ops : Array Oper) : aopl P C n ops [] s = some (.normal, s) := rfl
theorem qr (ops : Array Oper) (o : Oper) (r : List Oper) : aopl P C n ops (o :: r) s = bindA (aop P C n ops o s) (aopl P C n ops r) := rfl
end
theorem alim_round (t : St → St) (step : St → Option (AEx × St)) (s : St) : alim t step s = bindA (step (t s)) (alim t step) := alim_eq t step s

theorem qd (P : Program) (C : Oracle) (tbl : Tbl) (k n p : Nat) (step : St → Option (AEx × St)) (s : St) : (machR P C tbl k n).loop p step s = aloop k ((tbl.keep.lookup p).getD []) (tbl.outs.lookup p) step s := rfl
theorem qe (P : Program) (C : Oracle) (tbl : Tbl) (k n p : Nat) (ops : Array Oper) (s : St) : (machR P C tbl k n).draw p ops s = xx P C n tbl p ops s := rfl
theorem yl (P : Program) (C : Oracle) (tbl : Tbl) (k n p : Nat) (g : Operand) (ps : Array Tmp) (x y : Code) (s : St) : (mach P C tbl k n).rng p g ps x y s = wx P C k n (tbl.keep.lookup p) g ps x y s := rfl
theorem mach_loop (P : Program) (C : Oracle) (tbl : Tbl) (k n p : Nat) (step : St → Option (AEx × St)) (s : St) : (mach P C tbl k n).loop p step s = aloop k ((tbl.keep.lookup p).getD []) (tbl.outs.lookup p) step s := rfl
theorem mach_draw (P : Program) (C : Oracle) (tbl : Tbl) (k n p : Nat) (ops : Array Oper) (s : St) : (mach P C tbl k n).draw p ops s = xx P C n tbl p ops s := rfl
theorem ye (s : St) (f : St → Option (AEx × St)) : bindA (some (.normal, s)) f = f s := rfl
theorem zk (f : St → Option (AEx × St)) : bindA none f = none := rfl
theorem zm (id : Nat) (s : St) (f : St → Option (AEx × St)) : bindA (some (.exit id, s)) f = some (.exit id, s) := rfl
theorem qj (s : St) (f : St → Option (AEx × St)) : bindA (some (.ret, s)) f = some (.ret, s) := rfl
theorem qk (x : AV) (s : St) (f : St → Option (AEx × St)) : bindA (some (.pan x, s)) f = some (.pan x, s) := rfl
theorem qm (b : Prop) [Decidable b] (x y : Option (AEx × St)) (f : St → Option (AEx × St)) : bindA (if b then x else y) f = if b then bindA x f else bindA y f := by split <;> rfl
theorem qn (id : Nat) (s : St) : blockA id (some (.normal, s)) = some (.normal, s) := rfl
theorem zb (id : Nat) : blockA id none = none := rfl
theorem zc (id id' : Nat) (s : St) : blockA id (some (.exit id', s)) = if id' = id then some (.normal, s) else some (.exit id', s) := rfl
theorem zn (id : Nat) (s : St) : blockA id (some (.ret, s)) = some (.ret, s) := rfl
theorem zp (id : Nat) (x : AV) (s : St) : blockA id (some (.pan x, s)) = some (.pan x, s) := rfl
theorem zq (id : Nat) (b : Prop) [Decidable b] (x y : Option (AEx × St)) : blockA id (if b then x else y) = if b then blockA id x else blockA id y := by split <;> rfl
theorem qo (s : St) : scopeA (some (.normal, s)) = some (.normal, s) := rfl
theorem zd : scopeA none = none := rfl
theorem ze (id : Nat) (s : St) : scopeA (some (.exit id, s)) = some (.exit id, s) := rfl
theorem zr (s : St) : scopeA (some (.ret, s)) = some (.ret, s) := rfl
theorem zt (x : AV) (s : St) : scopeA (some (.pan x, s)) = some (.pan x, s) := rfl
theorem zu (b : Bool) (f g : St → Option (AEx × St)) (s : St) : condA (.d (.bool b)) f g s = if b then f s else g s := rfl

/-- A region that draws, in the text's order. -/
def normA : Option (AEx × St) → Option (AEx × St)
  | some (.normal, s') => some (.normal, s')
  | _ => none
theorem yb (P : Program) (C : Oracle) (n : Nat) (ops : Array Oper) (s : St) : adrawT P C n ops s = normA (aoplD P C n ops ops.toList s) := by
  unfold adrawT
  generalize aoplD P C n ops ops.toList s = r
  rcases r with _ | ⟨e, s'⟩
  · rfl
  · cases e <;> rfl
theorem yp (s : St) : normA (some (.normal, s)) = some (.normal, s) := rfl
theorem yc (b : Prop) [Decidable b] (x y : Option (AEx × St)) : normA (if b then x else y) = if b then normA x else normA y := by split <;> rfl
theorem yd (P : Program) (C : Oracle) (n : Nat) (ops : Array Oper) (s : St) : aoplD P C n ops [] s = some (.normal, s) := rfl
theorem qi (P : Program) (C : Oracle) (n : Nat) (ops : Array Oper) (o : Oper) (r : List Oper) (s : St) : aoplD P C n ops (o :: r) s = bindA (w7 P C n ops o s) (aoplD P C n ops r) := rfl
theorem q5 (P : Program) (fn : List ResultVar) (k : Nat) (fz : Bool) (e : AEx) (s : St) : finA P fn k fz (some (e, s)) = wp P fn k fz e s := rfl
theorem q6 (P : Program) (fn : List ResultVar) (k : Nat) (fz : Bool) : finA P fn k fz none = none := rfl
theorem yn (P : Program) (fn : List ResultVar) (k : Nat) (fz : Bool) (b : Prop) [Decidable b] (x y : Option (AEx × St)) : finA P fn k fz (if b then x else y) = if b then finA P fn k fz x else finA P fn k fz y := by split <;> rfl
theorem q7 (b : Prop) [Decidable b] (x y : AV) (f g : St → Option (AEx × St)) (s : St) : condA (if b then x else y) f g s = if b then condA x f g s else condA y f g s := by split <;> rfl

theorem qt (w : Bool) (x : AV) : unopt w (.opt w x) = x := by simp [unopt]
theorem yh (w : Bool) (x : AV) : unopt (w && true) x = unopt w x := by rw [Bool.and_true]
theorem yi (w : Bool) (x : AV) : unopt (true && w) x = unopt w x := by rw [Bool.true_and]
theorem y6 (w : Bool) (x : D) : unopt w (.d x) = .d x := rfl
theorem qu (w : Bool) (o j : Nat) : unopt w (.ptr o j) = .ptr o j := rfl
theorem qa (w : Bool) (o sz i j : Nat) : unopt w (.eptr o sz i j) = .eptr o sz i j := rfl
theorem yj (w : Bool) (o sz i n : Nat) : unopt w (.sl o sz i n) = .sl o sz i n := rfl
theorem yk (w : Bool) (f : Fn) (a b : List AV) : unopt w (.fn f a b) = .fn f a b := rfl
theorem qv (w : Bool) (o : Nat) : unopt w (.map o) = .map o := rfl
theorem qw (w : Bool) (o : Nat) : unopt w (.yld o) = .yld o := rfl
theorem qx (w : Bool) (cs : List AV) : unopt w (.agg cs) = .agg cs := rfl
theorem qy (w : Bool) (cs : List AV) : unopt w (.tup cs) = .tup cs := rfl
theorem qb (w : Bool) (sz : Nat) : unopt w (.cap0 sz) = .cap0 sz := rfl
theorem qz (w : Bool) : unopt w .any = .any := rfl
theorem qc (w c : Bool) (x : AV) : unopt w (.opt c x) = if w = true → c = true then x else .any := rfl

/-- A loop that is to be opened so many times. -/
noncomputable def alimN (_ : Nat) (t : St → St) (step : St → Option (AEx × St)) (s : St) : Option (AEx × St) := alim t step s
theorem alim_open (k : Nat) (t : St → St) (step : St → Option (AEx × St)) (s : St) : alim t step s = alimN k t step s := rfl
theorem alimN_more (k : Nat) (t : St → St) (step : St → Option (AEx × St)) (s : St) : alimN (k + 1) t step s = bindA (step (t s)) (alimN k t step) := alim_eq t step s
theorem alimN_zero (t : St → St) (step : St → Option (AEx × St)) (s : St) : alimN 0 t step s = alim t step s := rfl

/-- Nobody is called. -/
def none_ : Oracle := fun _ _ _ => none
theorem none_ok (P : Program) (G : Globs) : COk P G none_ := fun _ _ _ _ _ h => by simp [none_] at h

end Go.Proofs.YtblejchodicaoaaGreatDoor.Eng

/-
  THE ENGINE, part T: contracts from elsewhere (the shelf's) taken in. Program-independent. Own work.
-/
namespace Go.Proofs.YtblejchodicaoaaGreatDoor.Eng
open Go Go.RowKit

section
variable {pr : Nat → Prop} {P : Program} {w w' : World} {σ : List AObj} {β : List Nat}

/-- A contract that leaves the world as it was, but for what is new; on data. -/
theorem meets_of_calls {G : Globs} {f : FuncId} {args : List AV} {σ : List AObj} {out : Out}
    (h : ∀ (pr : Nat → Prop) (w : World) (β : List Nat) (vs : List Value), Inv pr w σ β → GG w (stOf pr w σ β) G → GVl w (stOf pr w σ β) β args vs → Calls P f vs.toArray w fun e w' =>
      w.heap.size ≤ w'.heap.size ∧ (∀ b, b < w.heap.size → w'.heap[b]? = w.heap[b]?) ∧ w'.os = w.os ∧ w'.tape = w.tape ∧ w'.output = w.output ∧ GOut w' (stOf pr w' σ β) β out e) : Meets P G f args σ out σ := by
  intro pr w β vs I hGG hg
  refine Calls.mono (h pr w β vs I hGG hg) fun e w' he => ?_
  obtain ⟨h1, h2, h3, h4, h5, h6⟩ := he
  obtain ⟨I', E'⟩ := I.grown h1 h2 h3 h4 h5
  exact ⟨β, I', E', h6⟩

end

/-- Two oracles: what the first does not tell, the second does. -/
def orElse_ (C D : Oracle) : Oracle := fun f args σ => match C f args σ with
  | some r => some r
  | none => D f args σ

theorem orElse_ok {P : Program} {G : Globs} {C D : Oracle} (hC : COk P G C) (hD : COk P G D) : COk P G (orElse_ C D) := fun f args σ out σ' h => by
  unfold orElse_ at h
  split at h
  · rename_i r hr
    cases h
    exact hC _ _ _ _ _ hr
  · exact hD _ _ _ _ _ h

/-- The table of one function. -/
def onlyAt (f : FuncId) (m : List AV → List AObj → Option (Out × List AObj)) : Oracle := fun g args σ => if g = f then m args σ else none

theorem onlyAt_ok {P : Program} {G : Globs} {f : FuncId} (hf : f < yId) {m : List AV → List AObj → Option (Out × List AObj)} (h : ∀ args σ out σ', m args σ = some (out, σ') → Meets P G f args σ out σ') : COk P G (onlyAt f m) := fun g args σ out σ' hg => by
  unfold onlyAt at hg
  split at hg
  · rename_i e
    subst e
    simpa only [MeetsAt, if_neg (Nat.ne_of_lt hf), if_neg (Nat.lt_asymm hf)] using h _ _ _ _ hg
  · cases hg

/-- The table of a function without a body. -/
theorem onlyX_ok {P : Program} {G : Globs} {g : FuncId} {m : List AV → List AObj → Option (Out × List AObj)} (h : ∀ args σ out σ', m args σ = some (out, σ') → XMeets P G g args σ out σ') : COk P G (onlyAt (xId g) m) := fun f args σ out σ' hg => by
  unfold onlyAt at hg
  split at hg
  · rename_i e
    subst e
    have h1 := xId_ne g
    have h2 := xId_lt g
    have h3 := xId_sub g
    simpa only [MeetsAt, if_neg h1, if_pos h2, h3] using h _ _ _ _ hg
  · cases hg

/-- The table of a loop's rounds. -/
theorem onlyY_ok {P : Program} {G : Globs} {m : List AV → List AObj → Option (Out × List AObj)} (h : ∀ args σ out σ', m args σ = some (out, σ') → YMeets P G args σ out σ') : COk P G (onlyAt yId m) := fun g args σ out σ' hg => by
  unfold onlyAt at hg
  split at hg
  · rename_i e
    subst e
    simpa only [MeetsAt, if_true] using h _ _ _ _ hg
  · cases hg

end Go.Proofs.YtblejchodicaoaaGreatDoor.Eng

/-
  THE ENGINE, part X: contracts as tables: what is called at what arguments, and what comes of it. Program-independent. Own work.
-/
namespace Go.Proofs.YtblejchodicaoaaGreatDoor.Eng
open Go Go.RowKit

/-- A CONTRACT: a family of calls of one function, each met; what comes of a call hangs on nothing but the call. -/
structure Ctr (P : Program) (G : Globs) where
  f : FuncId
  α : Type
  args : α → List AV
  σ : α → List AObj
  out : α → Out
  σ' : α → List AObj
  det : ∀ a b, args a = args b → σ a = σ b → out a = out b ∧ σ' a = σ' b
  meets : ∀ a, MeetsAt P G f (args a) (σ a) (out a) (σ' a)

variable {P : Program} {G : Globs}

noncomputable def Ctr.orc (c : Ctr P G) (args : List AV) (σ : List AObj) : Option (Out × List AObj) :=
  open Classical in if h : ∃ a, c.args a = args ∧ c.σ a = σ then some (c.out (Classical.choose h), c.σ' (Classical.choose h)) else none

theorem Ctr.orc_eq (c : Ctr P G) (a : c.α) : c.orc (c.args a) (c.σ a) = some (c.out a, c.σ' a) := by
  have h : ∃ b, c.args b = c.args a ∧ c.σ b = c.σ a := ⟨a, rfl, rfl⟩
  unfold Ctr.orc
  rw [dif_pos h]
  obtain ⟨h1, h2⟩ := Classical.choose_spec h
  obtain ⟨h3, h4⟩ := c.det _ _ h1 h2
  rw [h3, h4]

theorem Ctr.orc_meets (c : Ctr P G) {args : List AV} {σ σ' : List AObj} {out : Out} (h : c.orc args σ = some (out, σ')) : MeetsAt P G c.f args σ out σ' := by
  unfold Ctr.orc at h
  split at h
  · rename_i hx
    simp only [Option.some.injEq, Prod.mk.injEq] at h
    obtain ⟨h1, h2⟩ := Classical.choose_spec hx
    have := c.meets (Classical.choose hx)
    rw [h1, h2, h.1, h.2] at this
    exact this
  · cases h

/-- The first contract for a function that has the call. -/
noncomputable def orcs : List (Ctr P G) → Oracle
  | [], _, _, _ => none
  | c :: r, f, args, σ => if f = c.f then (match c.orc args σ with | some x => some x | none => orcs r f args σ) else orcs r f args σ

theorem orcs_ok : ∀ (l : List (Ctr P G)), COk P G (orcs l)
  | [] => fun f args σ out σ' h => by simp [orcs] at h
  | c :: r => fun f args σ out σ' h => by
    simp only [orcs] at h
    split at h
    · rename_i hf
      subst hf
      split at h
      · rename_i x hx
        simp only [Option.some.injEq] at h
        subst h
        exact c.orc_meets hx
      · exact orcs_ok r _ _ _ _ _ h
    · exact orcs_ok r _ _ _ _ _ h

theorem orcs_here (c : Ctr P G) (r : List (Ctr P G)) (a : c.α) {f : FuncId} {args : List AV} {σ : List AObj} (hf : f = c.f) (ha : args = c.args a) (hs : σ = c.σ a) : orcs (c :: r) f args σ = some (c.out a, c.σ' a) := by
  subst hf ha hs
  simp only [orcs, if_true, c.orc_eq a]
theorem orcs_next (c : Ctr P G) (r : List (Ctr P G)) {f : FuncId} {args : List AV} {σ : List AObj} (hf : f ≠ c.f) : orcs (c :: r) f args σ = orcs r f args σ := by
  simp only [orcs, if_neg hf]

/-! ### Loops over lists -/
theorem alim_ind {α : Type} {t : St → St} {step : St → Option (AEx × St)} (S : List α → List α → St) (R : List α → List α → Option (AEx × St))
    (h0 : ∀ pre, bindA (step (t (S pre []))) (alim t step) = R pre []) (h1 : ∀ pre x suf, alim t step (S (pre ++ [x]) suf) = R (pre ++ [x]) suf → bindA (step (t (S pre (x :: suf)))) (alim t step) = R pre (x :: suf)) :
    ∀ (suf pre : List α), alim t step (S pre suf) = R pre suf
  | [], pre => by rw [alim_round]; exact h0 pre
  | x :: suf, pre => by rw [alim_round]; exact h1 pre x suf (alim_ind S R h0 h1 suf (pre ++ [x]))

/-- On with the loop, or out of it. -/
def bindL (k : Nat) (out : Option (List Nat)) (r : Option (AEx × St)) (f : St → Option (AEx × St)) : Option (AEx × St) := match r with
  | some (.normal, s) => f s
  | some (e, s) => some (e, j2 k out e s)
  | none => none
section
variable (k : Nat) (out : Option (List Nat)) (s : St) (f : St → Option (AEx × St))
theorem yo : bindL k out (some (.normal, s)) f = f s := rfl
theorem qg (id : Nat) : bindL k out (some (.exit id, s)) f = some (.exit id, j2 k out (.exit id) s) := rfl
theorem q8 : bindL k out (some (.ret, s)) f = some (.ret, j2 k out .ret s) := rfl
theorem q9 (x : AV) : bindL k out (some (.pan x, s)) f = some (.pan x, j2 k out (.pan x) s) := rfl
theorem qh : bindL k out none f = none := rfl
theorem ya (b : Prop) [Decidable b] (x y : Option (AEx × St)) : bindL k out (if b then x else y) f = if b then bindL k out x f else bindL k out y f := by split <;> rfl
end
theorem aloop_round (k : Nat) (keep : List Nat) (out : Option (List Nat)) (step : St → Option (AEx × St)) (s : St) : aloop k keep out step s = bindL k out (step (xk k keep s)) (aloop k keep out step) := by
  unfold aloop
  rw [alim_round]
  cases h : step (xk k keep s) with
  | none => rfl
  | some r =>
    obtain ⟨e, s'⟩ := r
    cases e <;> rfl

/-- A loop over a list. -/
theorem aloop_list {α : Type} {k : Nat} {keep : List Nat} {out : Option (List Nat)} {step : St → Option (AEx × St)} {s0 : St} (l : List α) (S : List α → List α → St) (R : List α → List α → Option (AEx × St)) (hs : xk k keep s0 = xk k keep (S [] l))
    (h0 : ∀ pre, pre = l → bindL k out (step (xk k keep (S pre []))) (aloop k keep out step) = R pre [])
    (h1 : ∀ pre x suf, pre ++ x :: suf = l → (∀ s, xk k keep s = xk k keep (S (pre ++ [x]) suf) → aloop k keep out step s = R (pre ++ [x]) suf) → bindL k out (step (xk k keep (S pre (x :: suf)))) (aloop k keep out step) = R pre (x :: suf)) :
    aloop k keep out step s0 = R [] l := by
  have key : ∀ (suf pre : List α), pre ++ suf = l → ∀ s, xk k keep s = xk k keep (S pre suf) → aloop k keep out step s = R pre suf := by
    intro suf
    induction suf with
    | nil =>
      intro pre hp s hs
      rw [aloop_round, hs]
      exact h0 pre (by simpa using hp)
    | cons x suf ih =>
      intro pre hp s hs
      rw [aloop_round, hs]
      exact h1 pre x suf hp (ih (pre ++ [x]) (by simpa using hp))
  exact key l [] rfl s0 hs

/-- So many rounds. -/
theorem alim_count {t : St → St} {step : St → Option (AEx × St)} (S : Nat → St) : ∀ (n : Nat), (∀ i, i < n → step (t (S i)) = some (.normal, S (i + 1))) → alim t step (S 0) = alim t step (S n)
  | 0, _ => rfl
  | n + 1, h => by
    rw [alim_count S n (fun i hi => h i (by omega)), alim_round, h n (by omega)]
    rfl

theorem mid_lt (a b : Nat) : ((a : Int) < a + (b + 1)) = True := by simp; omega
theorem pos1 (a : Nat) : ((0 : Int) < a + 1) = True := by simp
theorem get_mid {α β : Type} (f : α → β) (pre suf : List α) (x : α) : ((pre ++ x :: suf).map f)[pre.length]? = some (f x) := by simp

end Go.Proofs.YtblejchodicaoaaGreatDoor.Eng

/-
  THE ENGINE, part W: contracts up to nil slices against empty ones; arguments frozen at a call. Program-independent. Own work.
-/
namespace Go.Proofs.YtblejchodicaoaaGreatDoor.Eng
open Go Go.RowKit

/-! ### The weakest reading of data: an empty slice is whichever -/
mutual
def nD : D → D
  | .nils => .rs 0 []
  | .rs _ [] => .rs 0 []
  | .rs sz (e :: r) => .rs sz (nDs e :: nDe r)
  | .rp cs => .rp (nDs cs)
  | .fn f a b => .fn f (nDs a) (nDs b)
  | .iface t x => .iface t (nD x)
  | .any => .any
  | .int k n => .int k n
  | .bool b => .bool b
  | .str s => .str s
  | .nilp => .nilp
  | .nilf => .nilf
  | .nili => .nili
  | .nilm => .nilm
def nDs : List D → List D
  | [] => []
  | x :: r => nD x :: nDs r
def nDe : List (List D) → List (List D)
  | [] => []
  | e :: r => nDs e :: nDe r
end
mutual
/-- Is nothing said to be nil that may be empty? -/
def fD : D → Bool
  | .nils => false
  | .rs _ es => fDe es
  | .rp cs => fDs cs
  | .fn _ a b => fDs a && fDs b
  | .iface _ x => fD x
  | _ => true
def fDs : List D → Bool
  | [] => true
  | x :: r => fD x && fDs r
def fDe : List (List D) → Bool
  | [] => true
  | e :: r => fDs e && fDe r
end
theorem nDs_len : ∀ l : List D, (nDs l).length = l.length
  | [] => rfl
  | x :: r => by simp [nDs, nDs_len r]
theorem nDe_len : ∀ l : List (List D), (nDe l).length = l.length
  | [] => rfl
  | x :: r => by simp [nDe, nDe_len r]

section
variable {w : World} {st : Nat → Prop}
mutual
theorem GD_n : ∀ (x : D) (v : Value), GD w st x v → GD w st (nD x) v
  | .nils, v, h => by
    simp only [GD] at h
    subst h
    simp only [nD, GD, List.length_nil]
    exact .inl ⟨trivial, none, 0, rfl⟩
  | .rs sz [], v, h => by
    simp only [GD, GDe, List.length_nil] at h
    simp only [nD, GD, GDe, List.length_nil]
    rcases h with h | ⟨b, off, c, rfl, h2, h3, _⟩
    · exact .inl h
    · exact .inl ⟨trivial, _, c, rfl⟩
  | .rs sz (e :: r), v, h => by
    simp only [GD] at h
    simp only [nD, GD]
    rcases h with ⟨h, _⟩ | ⟨b, off, c, hv, hl, hb, hg⟩
    · simp at h
    · refine .inr ⟨b, off, c, ?_, ?_, hb, ?_⟩
      · simpa [nDe_len] using hv
      · simpa [nDe_len] using hl
      · simp only [GDe] at hg ⊢
        exact ⟨by rw [nDs_len]; exact hg.1, GDs_n e b off hg.2.1, GDe_n r b (off + sz) hg.2.2⟩
  | .rp cs, v, h => by
    simp only [GD] at h
    simp only [nD, GD]
    obtain ⟨b, off, hv, hb, hc⟩ := h
    exact ⟨b, off, hv, hb, GDs_n cs b off hc⟩
  | .fn f a c, v, h => by
    simp only [GD] at h
    simp only [nD, GD]
    obtain ⟨us, vs, hv, h1, h2⟩ := h
    exact ⟨us, vs, hv, GDl_n a us h1, GDl_n c vs h2⟩
  | .iface t x, v, h => by
    simp only [GD] at h
    simp only [nD, GD]
    obtain ⟨u, hv, h1⟩ := h
    exact ⟨u, hv, GD_n x u h1⟩
  | .any, v, h => by simpa only [nD] using h
  | .int k n, v, h => by simpa only [nD] using h
  | .bool b, v, h => by simpa only [nD] using h
  | .str s, v, h => by simpa only [nD] using h
  | .nilp, v, h => by simpa only [nD] using h
  | .nilf, v, h => by simpa only [nD] using h
  | .nili, v, h => by simpa only [nD] using h
  | .nilm, v, h => by simpa only [nD] using h
theorem GDs_n : ∀ (xs : List D) (b off : Nat), GDs w st xs b off → GDs w st (nDs xs) b off
  | [], _, _, _ => by simp [nDs, GDs]
  | x :: r, b, off, h => by
    simp only [GDs] at h
    simp only [nDs, GDs]
    obtain ⟨⟨u, hu, hx⟩, hr⟩ := h
    exact ⟨⟨u, hu, GD_n x u hx⟩, GDs_n r b (off + 1) hr⟩
theorem GDe_n {sz : Nat} : ∀ (es : List (List D)) (b off : Nat), GDe w st sz es b off → GDe w st sz (nDe es) b off
  | [], _, _, _ => by simp [nDe, GDe]
  | e :: r, b, off, h => by
    simp only [GDe] at h
    simp only [nDe, GDe]
    exact ⟨by rw [nDs_len]; exact h.1, GDs_n e b off h.2.1, GDe_n r b (off + sz) h.2.2⟩
theorem GDl_n : ∀ (xs : List D) (vs : List Value), GDl w st xs vs → GDl w st (nDs xs) vs
  | [], _, h => by simpa [nDs, GDl] using h
  | x :: r, vs, h => by
    simp only [GDl] at h
    simp only [nDs, GDl]
    obtain ⟨v, q, hv, hx, hr⟩ := h
    exact ⟨v, q, hv, GD_n x v hx, GDl_n r q hr⟩
end
mutual
theorem GD_f : ∀ (x : D) (v : Value), fD x = true → GD w st (nD x) v → GD w st x v
  | .nils, v, hf, _ => by simp [fD] at hf
  | .rs sz [], v, hf, h => by
    simp only [nD, GD, GDe, List.length_nil] at h
    simp only [GD, GDe, List.length_nil]
    rcases h with h | ⟨b, off, c, rfl, h2, h3, _⟩
    · exact .inl h
    · exact .inl ⟨trivial, _, c, rfl⟩
  | .rs sz (e :: r), v, hf, h => by
    simp only [fD, fDe, Bool.and_eq_true] at hf
    simp only [nD, GD] at h
    simp only [GD]
    rcases h with ⟨h, _⟩ | ⟨b, off, c, hv, hl, hb, hg⟩
    · simp at h
    · refine .inr ⟨b, off, c, ?_, ?_, hb, ?_⟩
      · simpa [nDe_len] using hv
      · simpa [nDe_len] using hl
      · simp only [GDe] at hg ⊢
        exact ⟨by rw [← nDs_len]; exact hg.1, GDs_f e b off hf.1 hg.2.1, GDe_f r b (off + sz) hf.2 hg.2.2⟩
  | .rp cs, v, hf, h => by
    simp only [fD] at hf
    simp only [nD, GD] at h
    simp only [GD]
    obtain ⟨b, off, hv, hb, hc⟩ := h
    exact ⟨b, off, hv, hb, GDs_f cs b off hf hc⟩
  | .fn f a c, v, hf, h => by
    simp only [fD, Bool.and_eq_true] at hf
    simp only [nD, GD] at h
    simp only [GD]
    obtain ⟨us, vs, hv, h1, h2⟩ := h
    exact ⟨us, vs, hv, GDl_f a us hf.1 h1, GDl_f c vs hf.2 h2⟩
  | .iface t x, v, hf, h => by
    simp only [fD] at hf
    simp only [nD, GD] at h
    simp only [GD]
    obtain ⟨u, hv, h1⟩ := h
    exact ⟨u, hv, GD_f x u hf h1⟩
  | .any, v, _, h => by simpa only [nD] using h
  | .int k n, v, _, h => by simpa only [nD] using h
  | .bool b, v, _, h => by simpa only [nD] using h
  | .str s, v, _, h => by simpa only [nD] using h
  | .nilp, v, _, h => by simpa only [nD] using h
  | .nilf, v, _, h => by simpa only [nD] using h
  | .nili, v, _, h => by simpa only [nD] using h
  | .nilm, v, _, h => by simpa only [nD] using h
theorem GDs_f : ∀ (xs : List D) (b off : Nat), fDs xs = true → GDs w st (nDs xs) b off → GDs w st xs b off
  | [], _, _, _, _ => by simp [GDs]
  | x :: r, b, off, hf, h => by
    simp only [fDs, Bool.and_eq_true] at hf
    simp only [nDs, GDs] at h
    simp only [GDs]
    obtain ⟨⟨u, hu, hx⟩, hr⟩ := h
    exact ⟨⟨u, hu, GD_f x u hf.1 hx⟩, GDs_f r b (off + 1) hf.2 hr⟩
theorem GDe_f {sz : Nat} : ∀ (es : List (List D)) (b off : Nat), fDe es = true → GDe w st sz (nDe es) b off → GDe w st sz es b off
  | [], _, _, _, _ => by simp [GDe]
  | e :: r, b, off, hf, h => by
    simp only [fDe, Bool.and_eq_true] at hf
    simp only [nDe, GDe] at h
    simp only [GDe]
    exact ⟨by rw [← nDs_len]; exact h.1, GDs_f e b off hf.1 h.2.1, GDe_f r b (off + sz) hf.2 h.2.2⟩
theorem GDl_f : ∀ (xs : List D) (vs : List Value), fDs xs = true → GDl w st (nDs xs) vs → GDl w st xs vs
  | [], _, _, h => by simpa [nDs, GDl] using h
  | x :: r, vs, hf, h => by
    simp only [fDs, Bool.and_eq_true] at hf
    simp only [nDs, GDl] at h
    simp only [GDl]
    obtain ⟨v, q, hv, hx, hr⟩ := h
    exact ⟨v, q, hv, GD_f x v hf.1 hx, GDl_f r q hf.2 hr⟩
end
end

mutual
def nA : AV → AV
  | .d x => .d (nD x)
  | .fn f a b => .fn f (nAs a) (nAs b)
  | .agg cs => .agg (nAs cs)
  | .tup cs => .tup (nAs cs)
  | .cap0 _ => .d (.rs 0 [])
  | .opt w x => .opt w (nA x)
  | .any => .any
  | .ptr o j => .ptr o j
  | .eptr o sz i j => .eptr o sz i j
  | .sl o sz i n => .sl o sz i n
  | .map o => .map o
  | .obj o => .obj o
  | .yld o => .yld o
  | .pany => .pany
def nAs : List AV → List AV
  | [] => []
  | x :: r => nA x :: nAs r
end
mutual
def fA : AV → Bool
  | .d x => fD x
  | .fn _ a b => fAs a && fAs b
  | .agg cs => fAs cs
  | .tup cs => fAs cs
  | .cap0 _ => false
  | .opt _ x => fA x
  | _ => true
def fAs : List AV → Bool
  | [] => true
  | x :: r => fA x && fAs r
end
section
variable {w : World} {st : Nat → Prop} {β : List Nat}
mutual
theorem GV_n : ∀ (x : AV) (v : Value), GV w st β x v → GV w st β (nA x) v
  | .d x, v, h => by
    simp only [GV] at h
    simp only [nA, GV]
    exact GD_n x v h
  | .fn f a c, v, h => by
    simp only [GV] at h
    simp only [nA, GV]
    obtain ⟨us, vs, hv, h1, h2⟩ := h
    exact ⟨us, vs, hv, GVl_n a us h1, GVl_n c vs h2⟩
  | .agg cs, v, h => by
    simp only [GV] at h
    simp only [nA, GV]
    obtain ⟨vs, hv, h1⟩ := h
    exact ⟨vs, hv, GVl_n cs vs h1⟩
  | .tup cs, v, h => by
    simp only [GV] at h
    simp only [nA, GV]
    obtain ⟨vs, hv, h1⟩ := h
    exact ⟨vs, hv, GVl_n cs vs h1⟩
  | .cap0 _, v, h => by
    simp only [GV] at h
    obtain ⟨a, rfl⟩ := h
    simp only [nA, GV, GD, List.length_nil]
    exact .inl ⟨trivial, a, 0, rfl⟩
  | .opt c x, v, h => by
    simp only [GV] at h
    simp only [nA, GV]
    exact ⟨fun hc => GV_n x v (h.1 hc), h.2⟩
  | .any, v, h => by simpa only [nA] using h
  | .ptr .., v, h => by simpa only [nA] using h
  | .eptr .., v, h => by simpa only [nA] using h
  | .sl .., v, h => by simpa only [nA] using h
  | .map _, v, h => by simpa only [nA] using h
  | .obj _, v, h => by simpa only [nA] using h
  | .yld _, v, h => by simpa only [nA] using h
  | .pany, v, h => by simpa only [nA] using h
theorem GVl_n : ∀ (xs : List AV) (vs : List Value), GVl w st β xs vs → GVl w st β (nAs xs) vs
  | [], _, h => by simpa [nAs, GVl] using h
  | x :: r, vs, h => by
    simp only [GVl] at h
    simp only [nAs, GVl]
    obtain ⟨v, q, hv, hx, hr⟩ := h
    exact ⟨v, q, hv, GV_n x v hx, GVl_n r q hr⟩
end
mutual
theorem GV_f : ∀ (x : AV) (v : Value), fA x = true → GV w st β (nA x) v → GV w st β x v
  | .d x, v, hf, h => by
    simp only [fA] at hf
    simp only [nA, GV] at h
    simp only [GV]
    exact GD_f x v hf h
  | .fn f a c, v, hf, h => by
    simp only [fA, Bool.and_eq_true] at hf
    simp only [nA, GV] at h
    simp only [GV]
    obtain ⟨us, vs, hv, h1, h2⟩ := h
    exact ⟨us, vs, hv, GVl_f a us hf.1 h1, GVl_f c vs hf.2 h2⟩
  | .agg cs, v, hf, h => by
    simp only [fA] at hf
    simp only [nA, GV] at h
    simp only [GV]
    obtain ⟨vs, hv, h1⟩ := h
    exact ⟨vs, hv, GVl_f cs vs hf h1⟩
  | .tup cs, v, hf, h => by
    simp only [fA] at hf
    simp only [nA, GV] at h
    simp only [GV]
    obtain ⟨vs, hv, h1⟩ := h
    exact ⟨vs, hv, GVl_f cs vs hf h1⟩
  | .cap0 _, v, hf, h => by simp [fA] at hf
  | .opt c x, v, hf, h => by
    simp only [fA] at hf
    simp only [nA, GV] at h
    simp only [GV]
    exact ⟨fun hc => GV_f x v hf (h.1 hc), h.2⟩
  | .any, v, _, h => by simpa only [nA] using h
  | .ptr .., v, _, h => by simpa only [nA] using h
  | .eptr .., v, _, h => by simpa only [nA] using h
  | .sl .., v, _, h => by simpa only [nA] using h
  | .map _, v, _, h => by simpa only [nA] using h
  | .obj _, v, _, h => by simpa only [nA] using h
  | .yld _, v, _, h => by simpa only [nA] using h
  | .pany, v, _, h => by simpa only [nA] using h
theorem GVl_f : ∀ (xs : List AV) (vs : List Value), fAs xs = true → GVl w st β (nAs xs) vs → GVl w st β xs vs
  | [], _, _, h => by simpa [nAs, GVl] using h
  | x :: r, vs, hf, h => by
    simp only [fAs, Bool.and_eq_true] at hf
    simp only [nAs, GVl] at h
    simp only [GVl]
    obtain ⟨v, q, hv, hx, hr⟩ := h
    exact ⟨v, q, hv, GV_f x v hf.1 hx, GVl_f r q hf.2 hr⟩
end
theorem GVl_conv {xs ys : List AV} {vs : List Value} (h : nAs xs = nAs ys) (hf : fAs ys = true) (hg : GVl w st β xs vs) : GVl w st β ys vs := GVl_f ys vs hf (h ▸ GVl_n xs vs hg)
theorem GV_conv {x y : AV} {v : Value} (h : nA x = nA y) (hf : fA y = true) (hg : GV w st β x v) : GV w st β y v := GV_f y v hf (h ▸ GV_n x v hg)
end
def nO : Out → Out
  | .ret x => .ret (nA x)
  | .pan x => .pan (nA x)
def fO : Out → Bool
  | .ret x => fA x
  | .pan x => fA x
theorem GOut_conv {w : World} {st : Nat → Prop} {β : List Nat} {x y : Out} {e : Ending} (h : nO x = nO y) (hf : fO y = true) (hg : GOut w st β x e) : GOut w st β y e := by
  cases x <;> cases y <;> simp only [nO, Out.ret.injEq, Out.pan.injEq, reduceCtorEq] at h
  · cases e with
    | returned v => exact GV_conv h hf hg
    | panicked c => exact hg.elim
    | outgrown => exact hg.elim
  · cases e with
    | returned v => exact hg.elim
    | panicked c =>
      obtain ⟨v, h1, h2⟩ := hg
      exact ⟨v, h1, GV_conv h hf h2⟩
    | outgrown => exact hg.elim

theorem Meets.conv {P : Program} {G : Globs} {f : FuncId} {args args' : List AV} {σ σ' : List AObj} {out out' : Out} (h : Meets P G f args σ out σ') (ha : nAs args' = nAs args) (hf : fAs args = true) (ho : nO out = nO out') (hfo : fO out' = true) : Meets P G f args' σ out' σ' := by
  intro pr w β vs I hGG hg
  refine Calls.mono (h pr w β vs I hGG (GVl_conv ha hf hg)) fun e w' he => ?_
  obtain ⟨β', I', E', hout⟩ := he
  exact ⟨β', I', E', GOut_conv ho hfo hout⟩
theorem Meets.weak {P : Program} {G : Globs} {f : FuncId} {args : List AV} {σ σ' : List AObj} {out out' : Out} (h : Meets P G f args σ out σ') (ho : nO out = nO out') (hfo : fO out' = true) : Meets P G f args σ out' σ' := by
  intro pr w β vs I hGG hg
  refine Calls.mono (h pr w β vs I hGG hg) fun e w' he => ?_
  obtain ⟨β', I', E', hout⟩ := he
  exact ⟨β', I', E', GOut_conv ho hfo hout⟩

/-! ### Contracts up to that -/
structure Ct (P : Program) (G : Globs) where
  f : FuncId
  lt : f < yId
  α : Type
  args : α → List AV
  σ : α → List AObj
  out : α → Out
  σ' : α → List AObj
  full : ∀ a, fAs (args a) = true
  det : ∀ a b, nAs (args a) = nAs (args b) → σ a = σ b → out a = out b ∧ σ' a = σ' b
  meets : ∀ a, Meets P G f (args a) (σ a) (out a) (σ' a)

variable {P : Program} {G : Globs}

noncomputable def Ct.orc (c : Ct P G) (args : List AV) (σ : List AObj) : Option (Out × List AObj) :=
  open Classical in if h : ∃ a, nAs args = nAs (c.args a) ∧ σ = c.σ a then some (c.out (Classical.choose h), c.σ' (Classical.choose h)) else none

theorem Ct.orc_eq (c : Ct P G) (a : c.α) {args : List AV} (ha : nAs args = nAs (c.args a)) : c.orc args (c.σ a) = some (c.out a, c.σ' a) := by
  have h : ∃ b, nAs args = nAs (c.args b) ∧ c.σ a = c.σ b := ⟨a, ha, rfl⟩
  unfold Ct.orc
  rw [dif_pos h]
  obtain ⟨h1, h2⟩ := Classical.choose_spec h
  obtain ⟨h3, h4⟩ := c.det (Classical.choose h) a (h1.symm.trans ha) h2.symm
  rw [h3, h4]

theorem Ct.orc_meets (c : Ct P G) {args : List AV} {σ σ' : List AObj} {out : Out} (h : c.orc args σ = some (out, σ')) : Meets P G c.f args σ out σ' := by
  unfold Ct.orc at h
  split at h
  · rename_i hx
    simp only [Option.some.injEq, Prod.mk.injEq] at h
    obtain ⟨h1, h2⟩ := Classical.choose_spec hx
    have hm := c.meets (Classical.choose hx)
    rw [← h2, h.1, h.2] at hm
    intro pr w β vs I hGG hg
    exact hm pr w β vs I hGG (GVl_conv h1 (c.full _) hg)
  · cases h

noncomputable def octs : List (Ct P G) → Oracle
  | [], _, _, _ => none
  | c :: r, f, args, σ => if f = c.f then (match c.orc args σ with | some x => some x | none => octs r f args σ) else octs r f args σ

theorem octs_ok : ∀ (l : List (Ct P G)), COk P G (octs l)
  | [] => fun f args σ out σ' h => by simp [octs] at h
  | c :: r => fun f args σ out σ' h => by
    simp only [octs] at h
    split at h
    · rename_i hf
      subst hf
      split at h
      · rename_i x hx
        simp only [Option.some.injEq] at h
        subst h
        simpa only [MeetsAt, if_neg (Nat.ne_of_lt c.lt), if_neg (Nat.lt_asymm c.lt)] using c.orc_meets hx
      · exact octs_ok r _ _ _ _ _ h
    · exact octs_ok r _ _ _ _ _ h

theorem octs_here {c : Ct P G} {r : List (Ct P G)} (a : c.α) {f : FuncId} {args : List AV} {σ : List AObj} (hf : f = c.f) (ha : nAs args = nAs (c.args a)) (hs : σ = c.σ a) : octs (c :: r) f args σ = some (c.out a, c.σ' a) := by
  subst hf hs
  simp only [octs, if_true, c.orc_eq a ha]
theorem octs_next {c : Ct P G} {r : List (Ct P G)} {f : FuncId} {args : List AV} {σ : List AObj} (hf : f ≠ c.f) : octs (c :: r) f args σ = octs r f args σ := by
  simp only [octs, if_neg hf]

/-! ### A piece of code, by its place -/
def codeAt : List Bool → Code → Code
  | false :: r, .seq x _ => codeAt r x
  | true :: r, .seq _ y => codeAt r y
  | false :: r, .cond _ x _ => codeAt r x
  | true :: r, .cond _ _ y => codeAt r y
  | _ :: r, .block _ x => codeAt r x
  | _ :: r, .loop x => codeAt r x
  | _ :: r, .scope x => codeAt r x
  | _, c => c
def rfPs : Code → Array Tmp
  | .rangeFunc _ ps _ _ => ps
  | _ => #[]
def rfA : Code → Code
  | .rangeFunc _ _ x _ => x
  | _ => .skip
def rfB : Code → Code
  | .rangeFunc _ _ _ y => y
  | _ => .skip

/-! ### Arguments frozen at the call: for the functions named -/
noncomputable def frO (fs : List Nat) (C : Oracle) : Oracle := fun f args σ => if fs.contains f = true ∧ f < yId then (match xj σ args with
      | some (ys, σ1) => xe C σ1 f ys
      | none => none)
    else C f args σ
theorem frO_ok {fs : List Nat} {C : Oracle} (hC : COk P G C) : COk P G (frO fs C) := fun f args σ out σ' h => by
  unfold frO at h
  split at h
  · rename_i hf
    split at h
    · rename_i ys σ1 hfr
      have hm := (acall_sound hC h).fn hf.2
      simp only [MeetsAt, if_neg (Nat.ne_of_lt hf.2), if_neg (Nat.lt_asymm hf.2)]
      intro pr w β vs I hGG hg
      obtain ⟨k, g⟩ := frzsA_sound I hfr
      refine Calls.mono (hm pr w β vs k.inv (hGG.later k.evo.later) (g vs hg)) fun e w' he => ?_
      obtain ⟨β', I', E', hout⟩ := he
      exact ⟨β', I', k.evo.trans E', hout⟩
    · cases h
  · exact hC _ _ _ _ _ h
theorem frO_other {fs : List Nat} {C : Oracle} {f : FuncId} {args : List AV} {σ : List AObj} (h : fs.contains f = false) : frO fs C f args σ = C f args σ := by
  unfold frO
  rw [if_neg (by rw [h]; simp)]
theorem frO_at {fs : List Nat} {C : Oracle} {f : FuncId} {args : List AV} {σ : List AObj} (h : fs.contains f = true) (hf : f < yId) {ys : List AV} {σ1 : List AObj} (hz : xj σ args = some (ys, σ1)) : frO fs C f args σ = xe C σ1 f ys := by
  unfold frO
  rw [if_pos ⟨h, hf⟩]
  simp only [hz]

end Go.Proofs.YtblejchodicaoaaGreatDoor.Eng

/-
  VALUES, as Lean data: what the program's struct Value (and Member, PatchOp) is, and how it lies in memory. Own work.
-/
namespace Go.Proofs.YtblejchodicaoaaGreatDoor.Eng
open Go Go.RowKit

mutual
/-- A value: kind, bool, number, text, list, members. -/
inductive V where | mk (k : Int) (b : Bool) (n : Int) (t : List UInt8) (l : List V) (o : List M)
inductive M where | mk (key : List UInt8) (v : V)
end
instance : Inhabited V := ⟨.mk 0 false 0 [] [] []⟩
instance : Inhabited M := ⟨.mk [] default⟩
def V.k : V → Int | .mk k _ _ _ _ _ => k
def V.b : V → Bool | .mk _ b _ _ _ _ => b
def V.n : V → Int | .mk _ _ n _ _ _ => n
def V.t : V → List UInt8 | .mk _ _ _ t _ _ => t
def V.l : V → List V | .mk _ _ _ _ l _ => l
def V.o : V → List M | .mk _ _ _ _ _ o => o
def M.key : M → List UInt8 | .mk k _ => k
def M.v : M → V | .mk _ v => v

mutual
def encV : V → List D
  | .mk k b n t l o => [.int .i64 k, .bool b, .int .i64 n, .str t, .rs 6 (encVs l), .rs 7 (encMs o)]
def encM : M → List D
  | .mk k v => .str k :: encV v
def encVs : List V → List (List D)
  | [] => []
  | v :: r => encV v :: encVs r
def encMs : List M → List (List D)
  | [] => []
  | m :: r => encM m :: encMs r
end
theorem encVs_map (l : List V) : encVs l = l.map encV := by
  induction l with
  | nil => simp [encVs]
  | cons v r ih => simp [encVs, ih]
theorem encMs_map (l : List M) : encMs l = l.map encM := by
  induction l with
  | nil => simp [encMs]
  | cons v r ih => simp [encMs, ih]
theorem encV_eq (v : V) : encV v = [.int .i64 v.k, .bool v.b, .int .i64 v.n, .str v.t, .rs 6 (v.l.map encV), .rs 7 (v.o.map encM)] := by
  obtain ⟨k, b, n, t, l, o⟩ := v
  simp [encV, encVs_map, encMs_map, V.k, V.b, V.n, V.t, V.l, V.o]
theorem encM_eq (m : M) : encM m = .str m.key :: encV m.v := by
  obtain ⟨k, v⟩ := m
  simp [encM, M.key, M.v]
theorem encV_len (v : V) : (encV v).length = 6 := by rw [encV_eq]; rfl
theorem encM_len (m : M) : (encM m).length = 7 := by rw [encM_eq, List.length_cons, encV_len]
mutual
theorem encV_inj : ∀ (a b : V), encV a = encV b → a = b
  | .mk k b n t l o, .mk k' b' n' t' l' o', h => by
    simp only [encV, List.cons.injEq, D.int.injEq, D.bool.injEq, D.str.injEq, D.rs.injEq, true_and, and_true] at h
    obtain ⟨rfl, rfl, rfl, rfl, h1, h2⟩ := h
    rw [encVs_inj _ _ h1, encMs_inj _ _ h2]
theorem encM_inj : ∀ (a b : M), encM a = encM b → a = b
  | .mk k v, .mk k' v', h => by
    simp only [encM, List.cons.injEq, D.str.injEq] at h
    obtain ⟨rfl, h⟩ := h
    rw [encV_inj _ _ h]
theorem encVs_inj : ∀ (a b : List V), encVs a = encVs b → a = b
  | [], [], _ => rfl
  | [], _ :: _, h => by simp [encVs] at h
  | _ :: _, [], h => by simp [encVs] at h
  | x :: r, y :: q, h => by
    simp only [encVs, List.cons.injEq] at h
    rw [encV_inj _ _ h.1, encVs_inj _ _ h.2]
theorem encMs_inj : ∀ (a b : List M), encMs a = encMs b → a = b
  | [], [], _ => rfl
  | [], _ :: _, h => by simp [encMs] at h
  | _ :: _, [], h => by simp [encMs] at h
  | x :: r, y :: q, h => by
    simp only [encMs, List.cons.injEq] at h
    rw [encM_inj _ _ h.1, encMs_inj _ _ h.2]
end

/-! ### How great a value is -/
mutual
def V.size : V → Nat
  | .mk _ _ _ t l o => 1 + t.length + V.sizes l + M.sizes o
def M.size : M → Nat
  | .mk k v => 1 + k.length + V.size v
def V.sizes : List V → Nat
  | [] => 0
  | v :: r => V.size v + V.sizes r
def M.sizes : List M → Nat
  | [] => 0
  | m :: r => M.size m + M.sizes r
end
theorem V.size_mem {v : V} : ∀ {l : List V}, v ∈ l → v.size ≤ V.sizes l
  | [], h => by cases h
  | x :: r, h => by
    simp only [V.sizes]
    rcases List.mem_cons.1 h with rfl | h
    · omega
    · have := V.size_mem h; omega
theorem M.size_mem {m : M} : ∀ {l : List M}, m ∈ l → m.size ≤ M.sizes l
  | [], h => by cases h
  | x :: r, h => by
    simp only [M.sizes]
    rcases List.mem_cons.1 h with rfl | h
    · omega
    · have := M.size_mem h; omega
theorem V.size_eq (v : V) : v.size = 1 + v.t.length + V.sizes v.l + M.sizes v.o := by obtain ⟨k, b, n, t, l, o⟩ := v; simp [V.size, V.t, V.l, V.o]
theorem M.size_eq (m : M) : m.size = 1 + m.key.length + m.v.size := by obtain ⟨k, v⟩ := m; simp [M.size, M.key, M.v]
theorem V.len_le : ∀ (l : List V), l.length ≤ V.sizes l
  | [] => Nat.le_refl _
  | v :: r => by
    have := V.len_le r
    have h1 : 1 ≤ v.size := by obtain ⟨k, b, n, t, l, o⟩ := v; simp only [V.size]; omega
    simp only [V.sizes, List.length_cons]; omega
theorem M.len_le : ∀ (l : List M), l.length ≤ M.sizes l
  | [] => Nat.le_refl _
  | v :: r => by
    have := M.len_le r
    have h1 : 1 ≤ v.size := by obtain ⟨k, x⟩ := v; simp only [M.size]; omega
    simp only [M.sizes, List.length_cons]; omega
theorem V.size_l {v x : V} (h : x ∈ v.l) : x.size < v.size := by have := V.size_mem h; rw [V.size_eq v]; omega
theorem V.size_o {v : V} {m : M} (h : m ∈ v.o) : m.v.size < v.size := by have := M.size_mem h; rw [V.size_eq v]; have := M.size_eq m; omega

theorem V.key_len {v : V} {m : M} (h : m ∈ v.o) : m.key.length < v.size := by have := M.size_mem h; rw [V.size_eq v]; have := M.size_eq m; omega
theorem V.l_len (v : V) : v.l.length < v.size := by have := V.len_le v.l; rw [V.size_eq v]; omega
theorem V.o_len (v : V) : v.o.length < v.size := by have := M.len_le v.o; rw [V.size_eq v]; omega
theorem V.t_len (v : V) : v.t.length < v.size := by rw [V.size_eq v]; omega

/-! ### Ops of patches -/
structure PO where
  k : Int
  key : List UInt8
  v : V
  deriving Inhabited
def encPO (p : PO) : List D := .int .i64 p.k :: .str p.key :: encV p.v
theorem encPO_inj {a b : PO} (h : encPO a = encPO b) : a = b := by
  obtain ⟨k, t, v⟩ := a
  obtain ⟨k', t', v'⟩ := b
  simp only [encPO, List.cons.injEq, D.int.injEq, D.str.injEq, true_and] at h
  obtain ⟨rfl, rfl, h⟩ := h
  rw [encV_inj _ _ h]

end Go.Proofs.YtblejchodicaoaaGreatDoor.Eng
