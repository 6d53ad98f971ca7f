/-
  THE ENGINE, part H: what is made, what is stored, what becomes data. Program-independent. Own work.
-/
import Derived.Test.YtblejchodicaoaaGreatDoorJ1
import Derived.Maps.AppendAt
import Derived.Deep.AppendSrc
import Derived.Lib.ConvBytes
import Derived.RangeFuncRecord
set_option linter.unusedVariables false
set_option linter.unusedSimpArgs false
namespace Go.Proofs.YtblejchodicaoaaGreatDoor.Eng
open Go Go.RowKit

/-! ### What becomes data: it is written no more -/
def jp (f : List AObj → AV → Option (D × List AObj)) : List AObj → List AV → Option (List D × List AObj)
  | σ, [] => some ([], σ)
  | σ, x :: r => match f σ x with
    | some (d, σ1) => match jp f σ1 r with
      | some (ds, σ2) => some (d :: ds, σ2)
      | none => none
    | none => none

def frz : Nat → List AObj → AV → Option (D × List AObj)
  | 0, σ, x => match x with | .d y => some (y, σ) | .cap0 sz => some (.rs sz [], σ) | _ => none
  | n + 1, σ, x =>
    match x with
    | .d y => some (y, σ)
    | .cap0 sz => some (.rs sz [], σ)
    | .sl o sz i k => match σ[o]? with
      | some (.drow es _ sz') => if sz = sz' ∧ i + k ≤ es.length then some (.rs sz ((es.drop i).take k), σ.set o (.fz sz es)) else none
      | some (.fz sz' es) => if sz = sz' ∧ i + k ≤ es.length then some (.rs sz ((es.drop i).take k), σ) else none
      | _ => none
    | .ptr o j => match σ[o]? with
      | some (.box cs _) => match jp (frz n) σ cs with
        | some (ds, σ1) => match σ1[o]? with
          | some (.box _ _) => some (.rp (ds.drop j), σ1.set o (.fzb ds))
          | _ => none
        | none => none
      | some (.fzb ds) => some (.rp (ds.drop j), σ)
      | _ => none
    | .fn f first cap => match jp (frz n) σ first with
      | some (ds, σ1) => match jp (frz n) σ1 cap with
        | some (es, σ2) => some (.fn f ds es, σ2)
        | none => none
      | none => none
    | _ => none

section
variable {pr : Nat → Prop} {P : Program} {w : World} {β : List Nat}

structure FrzOk (pr : Nat → Prop) (w : World) (β : List Nat) (σ σ' : List AObj) : Prop where
  inv : Inv pr w σ' β
  evo : Evo pr w σ β w σ' β

theorem FrzOk.refl {σ : List AObj} (I : Inv pr w σ β) : FrzOk pr w β σ σ := ⟨I, Evo.refl _ _ _⟩
theorem FrzOk.trans {σ σ1 σ2 : List AObj} (h : FrzOk pr w β σ σ1) (k : FrzOk pr w β σ1 σ2) : FrzOk pr w β σ σ2 := ⟨k.inv, h.evo.trans k.evo⟩

theorem GDs_of_vals {st : Nat → Prop} {b : Nat} {c : Array Value} {ty : TypeId} {fr : Nat × Nat} (hh : w.heap[b]? = some (.cells c ty fr)) : ∀ (ds : List D) (vs : List Value) (off : Nat), c.toList.drop off = vs → GDl w st ds vs → GDs w st ds b off
  | [], _, _, _, _ => by simp [GDs]
  | d :: ds, vs, off, he, h => by
    simp only [GDl] at h
    obtain ⟨v, r, rfl, hd, hr⟩ := h
    simp only [GDs]
    have hget : c.toList[off]? = some v := by
      have := congrArg (·[0]?) he
      simpa [List.getElem?_drop] using this
    refine ⟨⟨v, by simpa [World.cell?, hh] using hget, hd⟩, GDs_of_vals hh ds r (off + 1) ?_ hr⟩
    have := congrArg (List.drop 1) he
    simpa [List.drop_drop] using this

theorem frzAll_sound {f : List AObj → AV → Option (D × List AObj)}
    (hf : ∀ (σ : List AObj) (x : AV) (d : D) (σ' : List AObj), Inv pr w σ β → f σ x = some (d, σ') → FrzOk pr w β σ σ' ∧ ∀ v, GV w (stOf pr w σ β) β x v → GD w (stOf pr w σ' β) d v) :
    ∀ (xs : List AV) (σ : List AObj) (ds : List D) (σ' : List AObj), Inv pr w σ β → jp f σ xs = some (ds, σ') → FrzOk pr w β σ σ' ∧ ∀ vs, GVl w (stOf pr w σ β) β xs vs → GDl w (stOf pr w σ' β) ds vs
  | [], σ, ds, σ', I, h => by
    simp only [jp, Option.some.injEq, Prod.mk.injEq] at h
    obtain ⟨rfl, rfl⟩ := h
    exact ⟨.refl I, fun vs hv => by simpa [GVl, GDl] using hv⟩
  | x :: xs, σ, ds, σ', I, h => by
    simp only [jp] at h
    split at h
    · rename_i d σ1 h1
      split at h
      · rename_i ds2 σ2 h2
        simp only [Option.some.injEq, Prod.mk.injEq] at h
        obtain ⟨rfl, rfl⟩ := h
        obtain ⟨k1, g1⟩ := hf σ x d σ1 I h1
        obtain ⟨k2, g2⟩ := frzAll_sound hf xs σ1 ds2 σ2 k1.inv h2
        refine ⟨k1.trans k2, fun vs hv => ?_⟩
        simp only [GVl] at hv
        obtain ⟨v, r, rfl, hx, hr⟩ := hv
        simp only [GDl]
        exact ⟨v, r, rfl, GD.later k2.evo.later d v (g1 v hx), g2 r (GVl.later k1.evo.later k1.evo.onto xs r hr)⟩
      · cases h
    · cases h

theorem frz_sound : ∀ (n : Nat) (σ : List AObj) (x : AV) (d : D) (σ' : List AObj), Inv pr w σ β → frz n σ x = some (d, σ') → FrzOk pr w β σ σ' ∧ ∀ v, GV w (stOf pr w σ β) β x v → GD w (stOf pr w σ' β) d v
  | 0, σ, x, d, σ', I, h => by
    simp only [frz] at h
    split at h
    · simp only [Option.some.injEq, Prod.mk.injEq] at h
      obtain ⟨rfl, rfl⟩ := h
      exact ⟨.refl I, fun v hv => by simpa [GV] using hv⟩
    · simp only [Option.some.injEq, Prod.mk.injEq] at h
      obtain ⟨rfl, rfl⟩ := h
      refine ⟨.refl I, fun v hv => ?_⟩
      simp only [GV] at hv
      obtain ⟨a, rfl⟩ := hv
      simp only [GD]
      exact .inl ⟨rfl, a, 0, rfl⟩
    · cases h
  | n + 1, σ, x, d, σ', I, h => by
    simp only [frz] at h
    split at h
    · simp only [Option.some.injEq, Prod.mk.injEq] at h
      obtain ⟨rfl, rfl⟩ := h
      exact ⟨.refl I, fun v hv => by simpa [GV] using hv⟩
    · simp only [Option.some.injEq, Prod.mk.injEq] at h
      obtain ⟨rfl, rfl⟩ := h
      refine ⟨.refl I, fun v hv => ?_⟩
      simp only [GV] at hv
      obtain ⟨a, rfl⟩ := hv
      simp only [GD]
      exact .inl ⟨rfl, a, 0, rfl⟩
    · rename_i o sz i k
      split at h
      · rename_i es ty sz' hσ
        split at h
        · rename_i hc
          obtain ⟨rfl, hle⟩ := hc
          simp only [Option.some.injEq, Prod.mk.injEq] at h
          obtain ⟨rfl, rfl⟩ := h
          obtain ⟨b, hb, hlt, hold⟩ := I.at_ hσ
          obtain ⟨c, hh, hcs, hg⟩ := hold
          have hstb := stOf_set_dead I hσ rfl hb (y := .fz sz es) rfl
          obtain ⟨I', E'⟩ := I.set (w' := w) (.fz sz es) hσ rfl hb rfl rfl rfl rfl (fun _ _ => rfl) rfl
            (fun L B => ⟨hstb, GDe.later L sz es b 0 rfl hg⟩)
          refine ⟨⟨I', E'⟩, fun v hv => ?_⟩
          simp only [GV] at hv
          obtain ⟨b', c', hb', rfl, hk, _, _⟩ := hv
          obtain rfl : b = b' := by rw [hb] at hb'; simpa using hb'
          simp only [GD]
          have hlen : ((es.drop i).take k).length = k := by rw [List.length_take, List.length_drop]; omega
          refine .inr ⟨b, i * sz, c', by rw [hlen], by rw [hlen]; exact hk, hstb, ?_⟩
          have := ((GDe.later E'.later sz es b 0 rfl hg).drop i).take k
          simpa using this
        · cases h
      · rename_i sz' es hσ
        split at h
        · rename_i hc
          obtain ⟨rfl, hle⟩ := hc
          simp only [Option.some.injEq, Prod.mk.injEq] at h
          obtain ⟨rfl, rfl⟩ := h
          refine ⟨.refl I, fun v hv => ?_⟩
          simp only [GV] at hv
          obtain ⟨b', c', hb', rfl, hk, _, _⟩ := hv
          obtain ⟨hs, hg⟩ := I.holds o _ b' hσ hb'
          simp only [GD]
          have hlen : ((es.drop i).take k).length = k := by rw [List.length_take, List.length_drop]; omega
          refine .inr ⟨b', i * sz, c', by rw [hlen], by rw [hlen]; exact hk, hs, ?_⟩
          simpa using (hg.drop i).take k
        · cases h
      · cases h
    · rename_i o j
      split at h
      · rename_i cs ty hσ
        split at h
        · rename_i ds σ1 h1
          obtain ⟨k1, g1⟩ := frzAll_sound (fun σ x d σ' => frz_sound n σ x d σ') cs σ ds σ1 I h1
          split at h
          · rename_i cs1 ty1 hσ1
            simp only [Option.some.injEq, Prod.mk.injEq] at h
            obtain ⟨rfl, rfl⟩ := h
            obtain ⟨b, hb, hlt, vs, hh, hg⟩ := I.at_ hσ
            have hstb := stOf_set_dead k1.inv hσ1 rfl hb (y := .fzb ds) rfl
            have hds : GDs w (stOf pr w σ1 β) ds b 0 := GDs_of_vals hh ds vs 0 (by simp) (g1 vs hg)
            obtain ⟨I', E'⟩ := k1.inv.set (w' := w) (.fzb ds) hσ1 rfl hb rfl rfl rfl rfl (fun _ _ => rfl) rfl
              (fun L B => ⟨hstb, GDs.later L ds b 0 rfl hds⟩)
            refine ⟨k1.trans ⟨I', E'⟩, fun v hv => ?_⟩
            simp only [GV] at hv
            obtain ⟨b', hb', rfl⟩ := hv
            obtain rfl : b = b' := by rw [hb] at hb'; simpa using hb'
            simp only [GD]
            refine ⟨b, j, rfl, hstb, ?_⟩
            simpa using (GDs.later E'.later ds b 0 rfl hds).drop j
          · cases h
        · cases h
      · rename_i ds hσ
        simp only [Option.some.injEq, Prod.mk.injEq] at h
        obtain ⟨rfl, rfl⟩ := h
        refine ⟨.refl I, fun v hv => ?_⟩
        simp only [GV] at hv
        obtain ⟨b', hb', rfl⟩ := hv
        obtain ⟨hs, hg⟩ := I.holds o _ b' hσ hb'
        simp only [GD]
        exact ⟨b', j, rfl, hs, by simpa using hg.drop j⟩
      · cases h
    · rename_i f first cap
      split at h
      · rename_i ds σ1 h1
        split at h
        · rename_i es σ2 h2
          simp only [Option.some.injEq, Prod.mk.injEq] at h
          obtain ⟨rfl, rfl⟩ := h
          obtain ⟨k1, g1⟩ := frzAll_sound (fun σ x d σ' => frz_sound n σ x d σ') first σ ds σ1 I h1
          obtain ⟨k2, g2⟩ := frzAll_sound (fun σ x d σ' => frz_sound n σ x d σ') cap σ1 es σ2 k1.inv h2
          refine ⟨k1.trans k2, fun v hv => ?_⟩
          simp only [GV] at hv
          obtain ⟨us, vs, rfl, hu, hv⟩ := hv
          simp only [GD]
          exact ⟨us, vs, rfl, GDl.later k2.evo.later ds us (g1 us hu), g2 vs (GVl.later k1.evo.later k1.evo.onto cap vs hv)⟩
        · cases h
      · cases h
    · cases h

/-- How deep what becomes data may lie. -/
def yx : Nat := 12
def wu (σ : List AObj) (xs : List AV) : Option (List D × List AObj) := jp (frz yx) σ xs
theorem frzs_sound {σ σ' : List AObj} {xs : List AV} {ds : List D} (I : Inv pr w σ β) (h : wu σ xs = some (ds, σ')) : FrzOk pr w β σ σ' ∧ ∀ vs, GVl w (stOf pr w σ β) β xs vs → GDl w (stOf pr w σ' β) ds vs :=
  frzAll_sound (fun σ x d σ' => frz_sound yx σ x d σ') xs σ ds σ' I h

/-- A struct's cells, too. -/
def ws (σ : List AObj) : AV → Option (AV × List AObj)
  | .agg cs => match wu σ cs with
    | some (ds, σ1) => some (.agg (ds.map AV.d), σ1)
    | none => none
  | x => match frz yx σ x with
    | some (d, σ1) => some (.d d, σ1)
    | none => none
theorem frzA_sound {σ σ' : List AObj} {x y : AV} (I : Inv pr w σ β) (h : ws σ x = some (y, σ')) : FrzOk pr w β σ σ' ∧ ∀ v, GV w (stOf pr w σ β) β x v → GV w (stOf pr w σ' β) β y v := by
  unfold ws at h
  split at h
  · split at h
    · rename_i cs ds σ1 hf
      simp only [Option.some.injEq, Prod.mk.injEq] at h
      obtain ⟨rfl, rfl⟩ := h
      obtain ⟨k, g⟩ := frzs_sound I hf
      refine ⟨k, fun v hv => ?_⟩
      simp only [GV] at hv ⊢
      obtain ⟨vs, h1, h2⟩ := hv
      exact ⟨vs, h1, GDl.lift (g vs h2)⟩
    · cases h
  · split at h
    · rename_i d σ1 hf
      simp only [Option.some.injEq, Prod.mk.injEq] at h
      obtain ⟨rfl, rfl⟩ := h
      obtain ⟨k, g⟩ := frz_sound yx _ _ _ _ I hf
      refine ⟨k, fun v hv => ?_⟩
      simp only [GV]
      exact g v hv
    · cases h
def xj : List AObj → List AV → Option (List AV × List AObj)
  | σ, [] => some ([], σ)
  | σ, x :: r => match ws σ x with
    | some (y, σ1) => match xj σ1 r with
      | some (ys, σ2) => some (y :: ys, σ2)
      | none => none
    | none => none
theorem frzsA_sound : ∀ {xs ys : List AV} {σ σ' : List AObj}, Inv pr w σ β → xj σ xs = some (ys, σ') → FrzOk pr w β σ σ' ∧ ∀ vs, GVl w (stOf pr w σ β) β xs vs → GVl w (stOf pr w σ' β) β ys vs
  | [], ys, σ, σ', I, h => by
    simp only [xj, Option.some.injEq, Prod.mk.injEq] at h
    obtain ⟨rfl, rfl⟩ := h
    exact ⟨FrzOk.refl I, fun vs hv => hv⟩
  | x :: r, ys, σ, σ', I, h => by
    simp only [xj] at h
    split at h
    · rename_i y σ1 h1
      split at h
      · rename_i zs σ2 h2
        simp only [Option.some.injEq, Prod.mk.injEq] at h
        obtain ⟨rfl, rfl⟩ := h
        obtain ⟨k1, g1⟩ := frzA_sound I h1
        obtain ⟨k2, g2⟩ := frzsA_sound k1.inv h2
        refine ⟨k1.trans k2, fun vs hv => ?_⟩
        simp only [GVl] at hv ⊢
        obtain ⟨v, q, rfl, hx, hr⟩ := hv
        exact ⟨v, q, rfl, GV.later k2.evo.later k2.evo.onto y v (g1 v hx), g2 q (GVl.later k1.evo.later k1.evo.onto r q hr)⟩
      · cases h
    · cases h

/-! ### What an operation that acts comes to -/
structure Acts (pr : Nat → Prop) (P : Program) (β : List Nat) (w : World) (σ : List AObj) (s : Sem Value) (y : AV) (σ' : List AObj) : Prop where
  run : ∃ u w' β', s.run P w = .ok u w' ∧ Inv pr w' σ' β' ∧ Evo pr w σ β w' σ' β' ∧ GV w' (stOf pr w' σ' β') β' y u

/-! ### New variables -/
theorem newBox {σ : List AObj} (I : Inv pr w σ β) {cs : List AV} {c : Array Value} (t : TypeId) (hg : GVl w (stOf pr w σ β) β cs c.toList) :
    ∃ w' β', (do pure (.pointer (some (← newRow t c))) : Sem Value).run P w = .ok (.pointer (some ⟨w.heap.size, 0, none⟩)) w' ∧ Inv pr w' (σ ++ [.box cs t]) β' ∧ Evo pr w σ β w' (σ ++ [.box cs t]) β' ∧
      GV w' (stOf pr w' (σ ++ [.box cs t]) β') β' (.ptr σ.length 0) (.pointer (some ⟨w.heap.size, 0, none⟩)) := by
  obtain ⟨I', E'⟩ := I.alloc (.cells c t) (.box cs t) rfl (fun L B => ⟨c.toList, by rw [Array.toArray_toList]; exact heap_alloc_at w _, GVl.later L B cs c.toList hg⟩)
  refine ⟨_, _, ?_, I', E', ?_⟩
  · simp [newRow]
  · simp only [GV]
    exact ⟨w.heap.size, by rw [← I.len]; simp, rfl⟩

theorem alloc_acts {σ : List AObj} (I : Inv pr w σ β) {t : TypeId} {cs : List AV} (hz : zeroT P t = some cs) : Acts pr P β w σ (Instr.alloc t true (.tuple #[])) (.ptr σ.length 0) (σ ++ [.box cs t]) := by
  obtain ⟨z, hzv, hzc⟩ := run_zeroValue (P := P) (w := w) hz
  obtain ⟨w', β', hr, I', E', hg⟩ := newBox (P := P) I (c := z.cells) t (aconsts_sound hzc)
  refine ⟨⟨_, w', β', ?_, I', E', hg⟩⟩
  simp only [Instr.alloc, Sem.run_bind, hzv, Result.andThen_ok, newVar]
  rw [Sem.run_bind] at hr
  exact hr

theorem box_acts {σ : List AObj} (I : Inv pr w σ β) {t : TypeId} {x : AV} {cs : List AV} {v : Value} (hx : GV w (stOf pr w σ β) β x v) (hc : je x = some cs) : Acts pr P β w σ (Instr.box t v) (.ptr σ.length 0) (σ ++ [.box cs t]) := by
  obtain ⟨w', β', hr, I', E', hg⟩ := newBox (P := P) I (c := v.cells) t (acells_sound hx hc)
  refine ⟨⟨_, w', β', ?_, I', E', hg⟩⟩
  simp only [Instr.box, newVar]
  exact hr

/-! ### Slices written out -/
def jt (sz : Nat) : Nat → List D → List (List D)
  | 0, _ => []
  | n + 1, l => l.take sz :: jt sz n (l.drop sz)
theorem chunks_length (sz : Nat) : ∀ (n : Nat) (l : List D), (jt sz n l).length = n
  | 0, _ => rfl
  | n + 1, l => by simp [jt, chunks_length sz n]
theorem GDs.take {st : Nat → Prop} : ∀ {cs : List D} {b off : Nat} (n : Nat), GDs w st cs b off → GDs w st (cs.take n) b off
  | _, _, _, 0, _ => by simp [GDs]
  | [], _, _, _ + 1, _ => by simp [GDs]
  | c :: cs, b, off, n + 1, h => by
    simp only [GDs] at h
    simp only [List.take_succ_cons, GDs]
    exact ⟨h.1, GDs.take n h.2⟩
theorem chunks_sound {st : Nat → Prop} (sz : Nat) : ∀ (n : Nat) (l : List D) (b off : Nat), l.length = n * sz → GDs w st l b off → GDe w st sz (jt sz n l) b off
  | 0, _, _, _, _, _ => by simp [jt, GDe]
  | n + 1, l, b, off, hl, h => by
    simp only [jt, GDe]
    refine ⟨?_, h.take sz, ?_⟩
    · rw [List.length_take, hl, Nat.succ_mul]; omega
    · exact chunks_sound sz n (l.drop sz) b (off + sz) (by rw [List.length_drop, hl, Nat.succ_mul]; omega) (h.drop sz)

/-- A NEW ROW. -/
theorem newDrow {σ : List AObj} (I : Inv pr w σ β) {es : List (List D)} {sz : Nat} {c : Array Value} (t : TypeId) (hs : es.length * sz ≤ c.size)
    (hg : ∀ w1 st1, Later w (stOf pr w σ β) w1 st1 → w1.heap[w.heap.size]? = some (.cells c t (0, 0)) → GDe w1 st1 sz es w.heap.size 0) :
    Inv pr (w.alloc (.cells c t)) (σ ++ [.drow es t sz]) (β ++ [w.heap.size]) ∧ Evo pr w σ β (w.alloc (.cells c t)) (σ ++ [.drow es t sz]) (β ++ [w.heap.size]) :=
  I.alloc (.cells c t) (.drow es t sz) rfl (fun L _ => ⟨c, heap_alloc_at w _, hs, hg _ _ L (heap_alloc_at w _)⟩)

/-- A new block that no object of ours is. -/
theorem Inv.more {σ : List AObj} (I : Inv pr w σ β) (ob : Obj) : Inv pr (w.alloc ob) σ β ∧ Evo pr w σ β (w.alloc ob) σ β := by
  have L : Later w (stOf pr w σ β) (w.alloc ob) (stOf pr (w.alloc ob) σ β) := ⟨fun b hb => ⟨⟨by have := hb.1.1; simp; omega, hb.1.2⟩, hb.2⟩, fun b hb => heap_alloc_old w ob hb.1.1⟩
  have B : Onto w β (w.alloc ob) β := ⟨fun _ _ h => h, fun i b hb => csize_same (heap_alloc_old w ob (I.lt i b hb))⟩
  exact ⟨⟨fun b hb => by have := I.prt b hb; simp; omega, I.npr, I.len, fun i b hb => by have := I.lt i b hb; simp; omega, I.inj, fun i o b ho hb => Holds.later L B (heap_alloc_old w ob (I.lt i b hb)) (I.holds i o b ho hb)⟩, ⟨rfl, rfl, rfl, by simp, fun b hb => heap_alloc_old w ob (I.prt b hb), L, B⟩⟩

def zi (P : Program) (σ : List AObj) (t : TypeId) (len : Nat) (parts : List (Nat × AV)) : Option (AV × List AObj) :=
  match elemT P t with
  | some e => match sizeT P e, zeroT P e with
    | some (sz + 1), some z =>
      if z.length = sz + 1 ∧ len * (sz + 1) ≤ 2 ^ 24 then
        match xd (fun i => some (i * (sz + 1), sz + 1)) (List.replicate (len * (sz + 1)) (.d .any)) parts with
        | some cs => match wu σ cs with
          | some (ds, σ1) => if ds.length = len * (sz + 1) then
              (if len = 0 then (if parts.isEmpty then some (.cap0 (sz + 1), σ1) else none) else some (.sl σ1.length (sz + 1) 0 len, σ1 ++ [.drow (jt (sz + 1) len ds) e (sz + 1)])) else none
          | none => none
        | none => none
      else none
    | _, _ => none
  | none => none

theorem GVl_replicate {st : Nat → Prop} : ∀ (vs : List Value), (∀ v ∈ vs, v.oneCell' = true) → GVl w st β (List.replicate vs.length (.d .any)) vs
  | [], _ => by simp [GVl]
  | v :: r, h => by
    simp only [List.length_cons, List.replicate_succ, GVl]
    exact ⟨v, r, rfl, by simpa [GV, GD] using h v (by simp), GVl_replicate r (fun u hu => h u (by simp [hu]))⟩
theorem aconsts_one : ∀ {vs : List Value} {xs : List AV}, yu vs = some xs → ∀ v ∈ vs, v.oneCell' = true
  | [], _, _, v, hv => by cases hv
  | u :: r, xs, h, v, hv => by
    simp only [yu] at h
    split at h
    · rename_i x xs' h1 h2
      rcases List.mem_cons.1 hv with rfl | hv
      · unfold yt at h1
        split at h1 <;> first | rfl | cases h1
      · exact aconsts_one h2 v hv
    · cases h

theorem GDl.length {st : Nat → Prop} : ∀ {ds : List D} {vs : List Value}, GDl w st ds vs → vs.length = ds.length
  | [], vs, h => by
    simp only [GDl] at h
    simp [h]
  | d :: ds, vs, h => by
    simp only [GDl] at h
    obtain ⟨v, r, rfl, _, h⟩ := h
    simp [GDl.length h]

theorem buildSlice_acts {σ σ' : List AObj} (I : Inv pr w σ β) {t : TypeId} {len : Nat} {parts : List (Nat × AV)} {vparts : Array (Nat × Value)} {y : AV} (he : parts.map (·.1) = vparts.toList.map (·.1))
    (hp : GVl w (stOf pr w σ β) β (parts.map (·.2)) (vparts.toList.map (·.2))) (h : zi P σ t len parts = some (y, σ')) : Acts pr P β w σ (Instr.buildSlice t len vparts) y σ' := by
  unfold zi at h
  split at h
  · rename_i e hel
    split at h
    · rename_i sz z hs hz
      split at h
      · rename_i hc
        obtain ⟨hzl, hbig⟩ := hc
        split at h
        · rename_i cs hcs
          split at h
          · rename_i ds σ1 hds
            split at h
            · rename_i hdl
              unfold elemT at hel
              split at hel
              · rename_i e' hu
                simp only [Option.some.injEq] at hel; subst hel
                obtain ⟨zv, hzv, hzc⟩ := run_zeroValue (P := P) (w := w) hz
                have hzsz : zv.cells.size = sz + 1 := by
                  have := GVl.length (aconsts_sound (w := w) (st := stOf pr w σ β) (β := β) hzc)
                  rw [Array.length_toList] at this
                  omega
                obtain ⟨k1, g1⟩ := frzs_sound I hds
                by_cases hl0 : len * (sz + 1) = 0
                · have hlen0 : len = 0 := by
                    rcases Nat.mul_eq_zero.1 hl0 with h0 | h0
                    · exact h0
                    · omega
                  subst hlen0
                  rw [if_pos rfl] at h
                  split at h
                  · rename_i hpe
                    simp only [Option.some.injEq, Prod.mk.injEq] at h
                    obtain ⟨rfl, rfl⟩ := h
                    have hv0 : vparts.toList = [] := by
                      have : parts = [] := by simpa using hpe
                      subst this
                      simpa using he.symm
                    obtain ⟨I', E'⟩ := k1.inv.more (.cells ((Array.range 0).map fun x => (#[] : Array Value)[x % (#[] : Array Value).size]!) e')
                    refine ⟨⟨.slice (some ⟨w.heap.size, 0, none⟩) 0 0, _, _, ?_, I', k1.evo.trans E', by simp [GV, GD]⟩⟩
                    have hb0 : ¬ ((0 : Nat) > 2 ^ 24) := by omega
                    simp only [Instr.buildSlice, Sem.run_bind, run_underlying hu, Result.andThen_ok, run_sizeOf hs, Nat.zero_mul, hb0, if_false, if_true, Sem.run_pure, hv0, Instr.fill]
                    rfl
                  · cases h
                · have hlen0 : len ≠ 0 := fun e => by subst e; simp at hl0
                  rw [if_neg hlen0] at h
                  simp only [Option.some.injEq, Prod.mk.injEq] at h
                  obtain ⟨rfl, rfl⟩ := h
                  let base : Array Value := (Array.range (len * (sz + 1))).map (zv.cells[· % zv.cells.size]!)
                  have hbl : base.toList.length = len * (sz + 1) := by simp [base]
                  have hbone : ∀ v ∈ base.toList, v.oneCell' = true := by
                    intro v hv
                    simp only [base, Array.toList_map, List.mem_map] at hv
                    obtain ⟨i, _, rfl⟩ := hv
                    have hlt : i % zv.cells.size < zv.cells.size := Nat.mod_lt _ (by omega)
                    rw [getElem!_pos zv.cells (i % zv.cells.size) hlt]
                    exact aconsts_one hzc _ (by simp)
                  obtain ⟨us, hus, hg⟩ := afill_sound (w := w) (st := stOf pr w σ β) (β := β) (vs := base.toList) he hp (by rw [← hbl]; exact GVl_replicate base.toList hbone) hcs
                  rw [Array.toArray_toList] at hus
                  have hgd := g1 us hg
                  have hul : us.length = len * (sz + 1) := by rw [GDl.length hgd]; exact hdl
                  obtain ⟨I', E'⟩ := newDrow (w := w) (β := β) k1.inv (es := jt (sz + 1) len ds) (sz := sz + 1) (c := us.toArray) e' (by rw [chunks_length]; simp [hul])
                    (fun w1 st1 L hh => chunks_sound (sz + 1) len ds _ 0 hdl (GDs_of_vals hh ds us 0 (by simp) (GDl.later L ds us hgd)))
                  refine ⟨⟨.slice (some ⟨w.heap.size, 0, none⟩) len len, _, _, ?_, I', k1.evo.trans E', ?_⟩⟩
                  · have hbig' : ¬ (len * (sz + 1) > 2 ^ 24) := by omega
                    have hbig'' : ¬ (16777216 < len * (sz + 1)) := by omega
                    have hus' : Instr.fill (fun i => some (i * (sz + 1), sz + 1)) ((Array.range (len * (sz + 1))).map (zv.cells[· % zv.cells.size]!)) vparts.toList = some us.toArray := hus
                    simp only [Instr.buildSlice, Sem.run_bind, run_underlying hu, Result.andThen_ok, run_sizeOf hs, hbig', if_false, hl0, hzv, Sem.run_pure]
                    rw [hus']
                    rfl
                  · simp only [GV]
                    refine ⟨w.heap.size, len, by rw [← k1.inv.len]; simp, by simp, Nat.le_refl _, by simp only [maxLen]; have : len ≤ len * (sz + 1) := Nat.le_mul_of_pos_right _ (by omega); omega, ?_⟩
                    rw [csize, heap_alloc_at]
                    simp [hul]
              · cases hel
            · cases h
          · cases h
        · cases h
      · cases h
    · cases h
  · cases h
end
end Go.Proofs.YtblejchodicaoaaGreatDoor.Eng

/-
  THE ENGINE, part I: stores and appends. Program-independent. Own work.
-/
namespace Go.Proofs.YtblejchodicaoaaGreatDoor.Eng
open Go Go.RowKit

section
variable {pr : Nat → Prop} {P : Program} {w : World} {β : List Nat}

theorem GDs.mk {st : Nat → Prop} : ∀ {cs : List D} {b off : Nat}, (∀ (m : Nat) (x : D), cs[m]? = some x → ∃ u, w.cell? ⟨b, off + m, none⟩ = some u ∧ GD w st x u) → GDs w st cs b off
  | [], _, _, _ => by simp [GDs]
  | c :: cs, b, off, h => by
    simp only [GDs]
    refine ⟨by simpa using h 0 c (by simp), GDs.mk fun m x hm => ?_⟩
    obtain ⟨u, hu, hx⟩ := h (m + 1) x (by simpa using hm)
    exact ⟨u, by rw [← hu]; congr 2; omega, hx⟩
theorem GDe.mk {st : Nat → Prop} {sz : Nat} : ∀ {es : List (List D)} {b off : Nat}, (∀ (k : Nat) (e : List D), es[k]? = some e → e.length = sz ∧ GDs w st e b (off + k * sz)) → GDe w st sz es b off
  | [], _, _, _ => by simp [GDe]
  | c :: es, b, off, h => by
    simp only [GDe]
    obtain ⟨h1, h2⟩ := h 0 c (by simp)
    refine ⟨h1, by simpa using h2, GDe.mk fun k e hk => ?_⟩
    obtain ⟨h1, h2⟩ := h (k + 1) e (by simpa using hk)
    exact ⟨h1, by rw [show off + sz + k * sz = off + (k + 1) * sz from by rw [Nat.succ_mul]; omega]; exact h2⟩
theorem GDl.get {st : Nat → Prop} : ∀ {ds : List D} {vs : List Value} {i : Nat} {x : D}, GDl w st ds vs → ds[i]? = some x → ∃ u, vs[i]? = some u ∧ GD w st x u
  | [], _, _, _, _, h => by simp at h
  | d :: ds, vs, 0, x, hg, h => by
    simp only [GDl] at hg
    obtain ⟨v, r, rfl, hx, _⟩ := hg
    obtain rfl : d = x := by simpa using h
    exact ⟨v, by simp, hx⟩
  | d :: ds, vs, i + 1, x, hg, h => by
    simp only [GDl] at hg
    obtain ⟨v, r, rfl, _, hr⟩ := hg
    obtain ⟨u, hu, hx⟩ := GDl.get (i := i) hr (by simpa using h)
    exact ⟨u, by simpa using hu, hx⟩
theorem GVl.one {st : Nat → Prop} : ∀ {cs : List AV} {vs : List Value}, GVl w st β cs vs → cs.all AV.one = true → ∀ v ∈ vs, v.oneCell' = true
  | [], vs, h, _, v, hv => by
    simp only [GVl] at h
    subst h; cases hv
  | c :: cs, vs, h, ha, v, hv => by
    simp only [GVl] at h
    obtain ⟨u, r, rfl, hx, hr⟩ := h
    simp only [List.all_cons, Bool.and_eq_true] at ha
    rcases List.mem_cons.1 hv with rfl | hv
    · exact hx.one ha.1
    · exact GVl.one hr ha.2 v hv

theorem setRow_same (w : World) (b : Nat) (c : Array Value) {k : Nat} (h : k ≠ b) : (w.setRow b c).heap[k]? = w.heap[k]? := by
  simp only [World.setRow, Array.getElem?_modify]
  rw [if_neg (by omega)]
theorem setRow_size (w : World) (b : Nat) (c : Array Value) : (w.setRow b c).heap.size = w.heap.size := by simp [World.setRow]

/-- What a store comes to. -/
def StoreOk (pr : Nat → Prop) (P : Program) (β : List Nat) (w : World) (σ : List AObj) (s : Sem Unit) (σ' : List AObj) : Prop :=
  ∃ w' β', s.run P w = .ok () w' ∧ Inv pr w' σ' β' ∧ Evo pr w σ β w' σ' β'

def jq (P : Program) (σ : List AObj) (t : TypeId) (addr x : AV) : Option (List AObj) :=
  match je x, sizeT P t with
  | some cs, some n =>
    if cs.length = n ∧ cs.all AV.one = true then
      match addr with
      | .ptr o j => match σ[o]? with
        | some (.box cs0 ty) => if j + n ≤ cs0.length then some (σ.set o (.box (cs0.take j ++ cs ++ cs0.drop (j + n)) ty)) else none
        | _ => none
      | .eptr o sz i j => match wu σ cs with
        | some (ds, σ1) => match σ1[o]? with
          | some (.drow es ty sz') => if sz = sz' ∧ j + n ≤ sz then
              match es[i]? with
              | some e => some (σ1.set o (.drow (es.set i (e.take j ++ ds ++ e.drop (j + n))) ty sz))
              | none => none
            else none
          | _ => none
        | none => none
      | _ => none
    else none
  | _, _ => none

theorem astore_sound {σ σ' : List AObj} (I : Inv pr w σ β) {t : TypeId} {addr x : AV} {va vx : Value} (ha : GV w (stOf pr w σ β) β addr va) (hx : GV w (stOf pr w σ β) β x vx) (h : jq P σ t addr x = some σ') :
    StoreOk pr P β w σ (Instr.storeAt t va vx) σ' := by
  unfold jq at h
  split at h
  · rename_i cs n hcs hn
    split at h
    · rename_i hc
      obtain ⟨hl, hone⟩ := hc
      have hgx := acells_sound hx hcs
      have h1 := hgx.one hone
      have hxl : vx.cells.size = n := by have := hgx.length; rw [Array.length_toList] at this; omega
      have hstore : ∀ (b off : Nat) (cur : Array Value) (ty : TypeId), va = .pointer (some ⟨b, off, none⟩) → w.heap[b]? = some (.cells cur ty (0, 0)) → off + n ≤ cur.size →
          (Instr.storeAt t va vx).run P w = .ok () (w.setRow b (cur.toList.take off ++ vx.cells.toList ++ cur.toList.drop (off + n)).toArray) := by
        intro b off cur ty hva hh hle
        subst hva
        have := run_storeCells_at P b off ty vx.cells.toList 0 cur w hh (by simp [hxl]; omega) h1
        simp only [Nat.add_zero, Array.length_toList, hxl] at this
        simp [Instr.storeAt, Instr.sureAddr, storeVar, run_sizeOf hn, hxl, this]
      split at h
      · rename_i o j
        split at h
        · rename_i cs0 ty hσ
          split at h
          · rename_i hle
            simp only [Option.some.injEq] at h; subst h
            obtain ⟨b, hb, hlt, vs, hh, hg⟩ := I.at_ hσ
            have hva : va = .pointer (some ⟨b, j, none⟩) := by
              simp only [GV] at ha
              obtain ⟨b', hb', rfl⟩ := ha
              rw [hb] at hb'
              simp only [Option.some.injEq] at hb'
              rw [hb']
            have hvl : vs.length = cs0.length := hg.length
            have hrun := hstore b j vs.toArray ty hva hh (by simp; omega)
            simp only at hrun
            have hh' : (w.setRow b (vs.take j ++ vx.cells.toList ++ vs.drop (j + n)).toArray).heap[b]? = some (.cells (vs.take j ++ vx.cells.toList ++ vs.drop (j + n)).toArray ty (0, 0)) :=
              setRow_heap w b vs.toArray _ ty (0, 0) hh
            obtain ⟨I', E'⟩ := I.set (w' := w.setRow b (vs.take j ++ vx.cells.toList ++ vs.drop (j + n)).toArray) (.box (cs0.take j ++ cs ++ cs0.drop (j + n)) ty) hσ rfl hb rfl rfl rfl
              (setRow_size _ _ _) (fun k hk => setRow_same _ _ _ hk) (by rw [csize, csize, hh', hh]; simp [hxl]; omega)
              (fun L B => ⟨_, hh', GVl.later L B _ _ (((hg.take j).append hgx).append (hg.drop (j + n)))⟩)
            exact ⟨_, _, hrun, I', E'⟩
          · cases h
        · cases h
      · rename_i o sz i j
        split at h
        · rename_i ds σ1 hds
          obtain ⟨k1, g1⟩ := frzs_sound I hds
          have hgd := g1 _ hgx
          split at h
          · rename_i es ty sz' hσ
            split at h
            · rename_i hc
              obtain ⟨rfl, hle⟩ := hc
              split at h
              · rename_i e he
                simp only [Option.some.injEq] at h; subst h
                obtain ⟨b, hb, hlt, c, hh, hcs', hg⟩ := k1.inv.at_ hσ
                have hva : va = .pointer (some ⟨b, i * sz + j, none⟩) := by
                  simp only [GV] at ha
                  obtain ⟨b', hb', rfl⟩ := ha
                  rw [hb] at hb'
                  simp only [Option.some.injEq] at hb'
                  rw [hb']
                obtain ⟨hel, hge⟩ := hg.get he
                have hil : i < es.length := (List.getElem?_eq_some_iff.1 he).1
                have hbig : i * sz + sz ≤ es.length * sz := by rw [← Nat.succ_mul]; exact Nat.mul_le_mul_right sz hil
                have hrun := hstore b (i * sz + j) c ty hva hh (by omega)
                let c' : Array Value := (c.toList.take (i * sz + j) ++ vx.cells.toList ++ c.toList.drop (i * sz + j + n)).toArray
                have hh' : (w.setRow b c').heap[b]? = some (.cells c' ty (0, 0)) := setRow_heap w b c _ ty (0, 0) hh
                have hc'sz : c'.size = c.size := by simp [c', hxl]; omega
                have hdl : ds.length = n := by have := GDl.length hgd; rw [Array.length_toList] at this; omega
                have hcell : ∀ p, (w.setRow b c').cell? ⟨b, p, none⟩ = if p < i * sz + j then c[p]? else if p < i * sz + j + n then vx.cells[p - (i * sz + j)]? else c[p]? := by
                  intro p
                  rw [cell_of_row _ b p c' ty (0, 0) hh']
                  simp only [c', List.getElem?_toArray]
                  have htl : (List.take (i * sz + j) c.toList).length = i * sz + j := by rw [List.length_take, Array.length_toList]; omega
                  split
                  · rw [List.append_assoc, List.getElem?_append_left (by omega), List.getElem?_take, if_pos (by assumption), Array.getElem?_toList]
                  · split
                    · rw [List.append_assoc, List.getElem?_append_right (by omega), List.getElem?_append_left (by rw [htl, Array.length_toList]; omega), htl, Array.getElem?_toList]
                    · rw [List.getElem?_append_right (by rw [List.length_append, htl, Array.length_toList]; omega), List.length_append, htl, Array.length_toList, List.getElem?_drop, Array.getElem?_toList, hxl]
                      congr 1; omega
                obtain ⟨I', E'⟩ := k1.inv.set (w' := w.setRow b c') (.drow (es.set i (e.take j ++ ds ++ e.drop (j + n))) ty sz) hσ rfl hb rfl rfl rfl
                  (setRow_size _ _ _) (fun k hk => setRow_same _ _ _ hk) (by simp [csize, hh, hh', hc'sz])
                  (fun L B => by
                    refine ⟨c', hh', by simp [hc'sz]; exact hcs', GDe.mk fun k e' hk => ?_⟩
                    by_cases hki : i = k
                    · subst hki
                      rw [List.getElem?_set_self hil] at hk
                      simp only [Option.some.injEq] at hk; subst hk
                      refine ⟨by simp [hel, hdl]; omega, GDs.mk fun m y hm => ?_⟩
                      have htl : (List.take j e).length = j := by rw [List.length_take]; omega
                      rw [show 0 + i * sz + m = i * sz + m from by omega, hcell]
                      by_cases hm1 : m < j
                      · rw [if_pos (by omega)]
                        rw [List.append_assoc, List.getElem?_append_left (by omega), List.getElem?_take, if_pos hm1] at hm
                        obtain ⟨u, hu, hy⟩ := hge.get hm
                        exact ⟨u, by rw [← hu, cell_of_row w b _ c ty (0, 0) hh]; congr 1; omega, GD.later L y u hy⟩
                      · by_cases hm2 : m < j + n
                        · rw [if_neg (by omega), if_pos (by omega)]
                          rw [List.append_assoc, List.getElem?_append_right (by omega), List.getElem?_append_left (by rw [htl]; omega), htl] at hm
                          obtain ⟨u, hu, hy⟩ := hgd.get hm
                          exact ⟨u, by rw [← hu, Array.getElem?_toList]; congr 1; omega, GD.later L y u hy⟩
                        · rw [if_neg (by omega), if_neg (by omega)]
                          rw [List.getElem?_append_right (by rw [List.length_append, htl]; omega), List.length_append, htl, List.getElem?_drop] at hm
                          obtain ⟨u, hu, hy⟩ := hge.get hm
                          refine ⟨u, ?_, GD.later L y u hy⟩
                          rw [← hu, cell_of_row w b _ c ty (0, 0) hh]; congr 1; omega
                    · rw [List.getElem?_set_ne hki] at hk
                      obtain ⟨hel', hge'⟩ := hg.get hk
                      refine ⟨hel', GDs.mk fun m y hm => ?_⟩
                      obtain ⟨u, hu, hy⟩ := hge'.get hm
                      refine ⟨u, ?_, GD.later L y u hy⟩
                      have hml : m < sz := by rw [← hel']; exact (List.getElem?_eq_some_iff.1 hm).1
                      rw [hcell, ← hu, cell_of_row w b _ c ty (0, 0) hh]
                      rcases Nat.lt_or_gt_of_ne hki with hlt' | hgt'
                      · have : (i + 1) * sz ≤ k * sz := Nat.mul_le_mul_right sz hlt'
                        rw [Nat.succ_mul] at this
                        rw [if_neg (by omega), if_neg (by omega)]
                      · have : (k + 1) * sz ≤ i * sz := Nat.mul_le_mul_right sz hgt'
                        rw [Nat.succ_mul] at this
                        rw [if_pos (by omega)])
                exact ⟨_, _, hrun, I', k1.evo.trans E'⟩
              · cases h
            · cases h
          · cases h
        · cases h
      · cases h
    · cases h
  · cases h

/-! ### append -/
def bytesT (P : Program) (t : TypeId) : Option Nat := (P.info? t).map (·.bytes)
/-- How many bytes a row may take. -/
def xu : Nat := 140737488355328

/-- What is appended: a slice's elements, or a string's bytes. -/
def wz (P : Program) (σ : List AObj) (tx : TypeId) (x : AV) : Option (Nat × List (List D)) :=
  match x with
  | .d (.str l) => if isStrT P tx then some (1, l.map fun b => [.int .u8 b.toNat]) else none
  | _ => if (elemT P tx).isSome then j1 σ x else none

def ja (P : Program) (σ : List AObj) (t tx : TypeId) (s x : AV) : Option (AV × List AObj) :=
  match elemT P t with
  | some e => match sizeT P e, zeroT P e, bytesT P e with
    | some (sz + 1), some z, some by_ =>
      if z.length = sz + 1 then
        match wz P σ tx x with
        | some (szx, xs) =>
          if xs.length = 0 then
            (match s with
             | .d .nils => some (.d .nils, σ)
             | .cap0 k => some (.cap0 k, σ)
             | .sl o sz' i n => some (.sl o sz' i n, σ)
             | _ => none)
          else if szx = sz + 1 then
            match s with
            | .d .nils => if xs.length * by_ ≤ xu ∧ xs.length ≤ xu then some (.sl σ.length (sz + 1) 0 xs.length, σ ++ [.drow xs e (sz + 1)]) else none
            | .cap0 _ => if xs.length * by_ ≤ xu ∧ xs.length ≤ xu then some (.sl σ.length (sz + 1) 0 xs.length, σ ++ [.drow xs e (sz + 1)]) else none
            | .sl o sz' i n => match σ[o]? with
              | some (.drow es ty sz'') =>
                if sz' = sz + 1 ∧ sz'' = sz + 1 ∧ i = 0 ∧ n = es.length ∧ ty = e ∧ (n + xs.length) * by_ ≤ xu ∧ n + xs.length ≤ xu then
                  some (.sl σ.length (sz + 1) 0 (n + xs.length), σ.set o .gone ++ [.drow (es ++ xs) e (sz + 1)])
                else none
              | _ => none
            | _ => none
          else none
        | none => none
      else none
    | _, _, _ => none
  | none => none

/-- The elements' cells, one behind the other. -/
theorem GDe.vals {st : Nat → Prop} {sz : Nat} : ∀ {es : List (List D)} {b off : Nat}, GDe w st sz es b off →
    ∃ vs : List Value, vs.length = es.length * sz ∧ (∀ (j : Nat) (v : Value), vs[j]? = some v → w.cell? ⟨b, off + j, none⟩ = some v) ∧ GDl w st es.flatten vs
  | [], _, _, _ => ⟨[], by simp, fun _ _ h => by simp at h, by simp [GDl]⟩
  | e :: es, b, off, h => by
    simp only [GDe] at h
    obtain ⟨hel, he, hr⟩ := h
    obtain ⟨vs, hl, hc, hg⟩ := GDe.vals hr
    have key : ∀ (e : List D) (off : Nat), GDs w st e b off → ∃ us : List Value, us.length = e.length ∧ (∀ (j : Nat) (v : Value), us[j]? = some v → w.cell? ⟨b, off + j, none⟩ = some v) ∧ GDl w st e us := by
      intro e
      induction e with
      | nil => intro off _; exact ⟨[], rfl, fun _ _ h => by simp at h, by simp [GDl]⟩
      | cons d ds ih =>
        intro off hd
        simp only [GDs] at hd
        obtain ⟨⟨u, hu, hx⟩, hr⟩ := hd
        obtain ⟨us, h1, h2, h3⟩ := ih (off + 1) hr
        refine ⟨u :: us, by simp [h1], fun j v hj => ?_, by simp only [GDl]; exact ⟨u, us, rfl, hx, h3⟩⟩
        cases j with
        | zero =>
          obtain rfl : u = v := by simpa using hj
          exact hu
        | succ j =>
          rw [show off + (j + 1) = off + 1 + j from by omega]
          exact h2 j v (by simpa using hj)
    obtain ⟨us, h1, h2, h3⟩ := key e off he
    refine ⟨us ++ vs, by simp [h1, hl, hel, Nat.succ_mul]; omega, fun j v hj => ?_, ?_⟩
    · by_cases hlt : j < us.length
      · rw [List.getElem?_append_left hlt] at hj; exact h2 j v hj
      · rw [List.getElem?_append_right (by omega)] at hj
        have := hc _ v hj
        rw [← this]; congr 2; omega
    · simp only [List.flatten_cons]
      have app : ∀ (a b' : List D) (p q : List Value), GDl w st a p → GDl w st b' q → GDl w st (a ++ b') (p ++ q) := by
        intro a
        induction a with
        | nil => intro b' p q hp hq; simp only [GDl] at hp; simpa [hp] using hq
        | cons d ds ih =>
          intro b' p q hp hq
          simp only [GDl] at hp
          obtain ⟨v, r, rfl, hx, hr⟩ := hp
          simp only [List.cons_append, GDl]
          exact ⟨v, r ++ q, rfl, hx, ih b' r q hr hq⟩
      exact app _ _ _ _ h3 hg

theorem GDl.ones {st : Nat → Prop} : ∀ {ds : List D} {vs : List Value}, GDl w st ds vs → ∀ v ∈ vs, v.oneCell' = true
  | [], vs, h, v, hv => by
    simp only [GDl] at h
    subst h; cases hv
  | d :: ds, vs, h, v, hv => by
    simp only [GDl] at h
    obtain ⟨u, r, rfl, hx, hr⟩ := h
    rcases List.mem_cons.1 hv with rfl | hv
    · exact hx.one
    · exact GDl.ones hr v hv

/-- Elements, out of a block's first cells. -/
theorem GDe_of_vals {st : Nat → Prop} {b : Nat} {sz : Nat} : ∀ (es : List (List D)) (vs : List Value) (off : Nat), (∀ e ∈ es, e.length = sz) → (∀ (j : Nat) (v : Value), vs[j]? = some v → w.cell? ⟨b, off + j, none⟩ = some v) → GDl w st es.flatten vs → GDe w st sz es b off
  | [], _, _, _, _, _ => by simp [GDe]
  | e :: es, vs, off, hs, hc, hg => by
    have hel := hs e (by simp)
    simp only [List.flatten_cons] at hg
    refine GDe.mk fun k e' hk => ?_
    have he' : e' ∈ e :: es := List.mem_of_getElem? hk
    refine ⟨hs e' he', GDs.mk fun m x hm => ?_⟩
    have hidx : ∀ (l : List (List D)) (k m : Nat) (e' : List D) (x : D), (∀ e ∈ l, e.length = sz) → l[k]? = some e' → e'[m]? = some x → l.flatten[k * sz + m]? = some x := by
      intro l
      induction l with
      | nil => intro k m e' x _ h _; simp at h
      | cons a l ih =>
        intro k m e' x hs hk hm
        have ha := hs a (by simp)
        cases k with
        | zero =>
          obtain rfl : a = e' := by simpa using hk
          simp only [List.flatten_cons, Nat.zero_mul, Nat.zero_add]
          rw [List.getElem?_append_left (List.getElem?_eq_some_iff.1 hm).1]; exact hm
        | succ k =>
          simp only [List.flatten_cons]
          rw [List.getElem?_append_right (by rw [ha, Nat.succ_mul]; omega), ha, show (k + 1) * sz + m - sz = k * sz + m from by rw [Nat.succ_mul]; omega]
          exact ih k m e' x (fun e he => hs e (by simp [he])) (by simpa using hk) hm
    have hfl := hidx (e :: es) k m e' x hs hk hm
    simp only [List.flatten_cons] at hfl
    obtain ⟨u, hu, hx⟩ := hg.get hfl
    exact ⟨u, by have := hc _ u hu; rw [← this]; congr 2; omega, hx⟩

theorem GDe.lens {st : Nat → Prop} {sz : Nat} : ∀ {es : List (List D)} {b off : Nat}, GDe w st sz es b off → ∀ e ∈ es, e.length = sz
  | [], _, _, _, e, he => by cases he
  | c :: es, b, off, h, e, he => by
    simp only [GDe] at h
    rcases List.mem_cons.1 he with rfl | he
    · exact h.1
    · exact GDe.lens h.2.2 e he

/-- An object's row goes on in a new object: in the same block, or in a new one. -/
theorem Inv.move {σ : List AObj} (I : Inv pr w σ β) {w' : World} {i b b' : Nat} {o o' : AObj} (hi : σ[i]? = some o) (hl : o.live = true) (hb : β[i]? = some b) (hl' : o'.live = true)
    (hg : w.grownBy w' (some b)) (hb' : b' = b ∨ b' = w.heap.size) (hlt : b' < w'.heap.size) (hc : csize w' b = csize w b)
    (h : Later w (stOf pr w σ β) w' (stOf pr w' (σ.set i .gone ++ [o']) (β ++ [b'])) → Onto w β w' (β ++ [b']) → Holds w' (stOf pr w' (σ.set i .gone ++ [o']) (β ++ [b'])) (β ++ [b']) b' o') :
    Inv pr w' (σ.set i .gone ++ [o']) (β ++ [b']) ∧ Evo pr w σ β w' (σ.set i .gone ++ [o']) (β ++ [b']) := by
  have hlive : liveAt σ i := ⟨o, hi, hl⟩
  have hil : i < σ.length := (List.getElem?_eq_some_iff.1 hi).1
  have hat : ∀ (j k : Nat), β[j]? = some k → (β ++ [b'])[j]? = some k := fun j k hk => by
    rw [List.getElem?_append_left (List.getElem?_eq_some_iff.1 hk).1]; exact hk
  have hor : ∀ (j k : Nat), (β ++ [b'])[j]? = some k → β[j]? = some k ∨ (j = σ.length ∧ k = b') := fun j k hk => by
    rcases Nat.lt_trichotomy j β.length with h' | h' | h'
    · rw [List.getElem?_append_left h'] at hk; exact .inl hk
    · subst h'; simp at hk; exact .inr ⟨I.len, hk.symm⟩
    · rw [List.getElem?_eq_none (by simp; omega)] at hk; cases hk
  -- who lives then
  have hlv : ∀ j, liveAt (σ.set i .gone ++ [o']) j → (liveAt σ j ∧ j ≠ i) ∨ j = σ.length := by
    intro j hj
    rcases liveAt_append.1 hj with hj | ⟨hj, _⟩
    · refine .inl ⟨liveAt_set hi hl hj, fun e => ?_⟩
      subst e
      obtain ⟨z, hz, hzl⟩ := hj
      rw [List.getElem?_set_self hil] at hz
      simp only [Option.some.injEq] at hz
      subst hz
      cases hzl
    · exact .inr (by simpa using hj)
  have hst : ∀ k, stOf pr w σ β k → stOf pr w' (σ.set i .gone ++ [o']) (β ++ [b']) k := fun k hk => by
    refine ⟨⟨Nat.lt_of_lt_of_le hk.1.1 hg.size, hk.1.2⟩, fun j hj he => ?_⟩
    rcases hor j k he with he' | ⟨hj', hk'⟩
    · rcases hlv j hj with ⟨hj2, _⟩ | hj2
      · exact hk.2 j hj2 he'
      · have := (List.getElem?_eq_some_iff.1 he').1; rw [I.len] at this; omega
    · rcases hb' with hb' | hb'
      · exact hk.2 i hlive (by rw [hb, ← hb', hk'])
      · have := hk.1.1; omega
  have hne : ∀ k, stOf pr w σ β k → k ≠ b := fun k hk e => hk.2 i hlive (e ▸ hb)
  have hsame : ∀ k, k < w.heap.size → k ≠ b → w'.heap[k]? = w.heap[k]? := fun k hk hkb => hg.block k hk (by simpa using hkb)
  have L : Later w (stOf pr w σ β) w' (stOf pr w' (σ.set i .gone ++ [o']) (β ++ [b'])) := ⟨hst, fun k hk => hsame k hk.1.1 (hne k hk)⟩
  have B : Onto w β w' (β ++ [b']) := ⟨hat, fun j k hk => by
    by_cases e : k = b
    · subst e; exact hc
    · exact csize_same (hsame k (I.lt j k hk) e)⟩
  refine ⟨⟨fun k hk => Nat.lt_of_lt_of_le (I.prt k hk) hg.size, fun j k hj hk => ?_, by simp [I.len], fun j k hk => ?_, fun j k c hj hk hjc hkc => ?_, fun j x k hx hk => ?_⟩, ⟨hg.os, hg.tape, hg.output, hg.size, fun k hk => hsame k (I.prt k hk) (fun e => I.npr i b hlive hb (e ▸ hk)), L, B⟩⟩
  · rcases hor j k hk with hk' | ⟨_, rfl⟩
    · rcases hlv j hj with ⟨hj2, _⟩ | hj2
      · exact I.npr j k hj2 hk'
      · have := (List.getElem?_eq_some_iff.1 hk').1; rw [I.len] at this; omega
    · rcases hb' with rfl | rfl
      · exact I.npr i _ hlive hb
      · exact fun hp => by have := I.prt _ hp; omega
  · rcases hor j k hk with hk' | ⟨_, rfl⟩
    · exact Nat.lt_of_lt_of_le (I.lt j k hk') hg.size
    · exact hlt
  · have one : ∀ j, liveAt (σ.set i .gone ++ [o']) j → (β ++ [b'])[j]? = some c → (liveAt σ j ∧ j ≠ i ∧ β[j]? = some c) ∨ (j = σ.length ∧ c = b') := by
      intro j hj hjc
      rcases hor j c hjc with hjc' | ⟨h1, h2⟩
      · rcases hlv j hj with ⟨h1, h2⟩ | h1
        · exact .inl ⟨h1, h2, hjc'⟩
        · have := (List.getElem?_eq_some_iff.1 hjc').1; rw [I.len] at this; omega
      · exact .inr ⟨h1, h2⟩
    have cross : ∀ j, liveAt σ j → j ≠ i → β[j]? = some c → c = b' → False := by
      intro j hj hji hjc hcb
      rcases hb' with hb' | hb'
      · exact hji (I.inj j i c hj hlive hjc (by rw [hb, hcb, hb']))
      · have := I.lt j c hjc; omega
    rcases one j hj hjc with ⟨h1, h2, h3⟩ | ⟨h1, h2⟩ <;> rcases one k hk hkc with ⟨k1, k2, k3⟩ | ⟨k1, k2⟩
    · exact I.inj j k c h1 k1 h3 k3
    · exact (cross j h1 h2 h3 k2).elim
    · exact (cross k k1 k2 k3 h2).elim
    · omega
  · rcases Nat.lt_trichotomy j σ.length with h' | h' | h'
    · rw [List.getElem?_append_left (by simpa using h')] at hx
      rcases hor j k hk with hk' | ⟨hj', _⟩
      · by_cases e : i = j
        · subst e
          rw [List.getElem?_set_self hil] at hx
          simp only [Option.some.injEq] at hx
          subst hx
          trivial
        · rw [List.getElem?_set_ne e] at hx
          have hx' := I.holds j x k hx hk'
          by_cases ek : k = b
          · subst ek
            have hxl : x.live = false := by
              cases hxl : x.live with
              | false => rfl
              | true => exact absurd (I.inj i j k hlive ⟨x, hx, hxl⟩ hb hk') e
            cases x with
            | gone => trivial
            | fz sz es => exact absurd rfl (hne k hx'.1)
            | fzb cs => exact absurd rfl (hne k hx'.1)
            | _ => cases hxl
          · exact Holds.later L B (hsame k (I.lt j k hk') ek) hx'
      · omega
    · subst h'
      have e1 : x = o' := by
        rw [List.getElem?_append_right (by simp)] at hx
        simpa using hx.symm
      have e2 : k = b' := by
        rcases hor σ.length k hk with hk' | ⟨_, hk'⟩
        · have := (List.getElem?_eq_some_iff.1 hk').1; rw [I.len] at this; omega
        · exact hk'
      subst e1; subst e2
      exact h L B
    · rw [List.getElem?_eq_none (by simp; omega)] at hx; cases hx
end
end Go.Proofs.YtblejchodicaoaaGreatDoor.Eng

/-
  THE ENGINE, part J: append, whole. Program-independent. Own work.
-/
namespace Go.Proofs.YtblejchodicaoaaGreatDoor.Eng
open Go Go.RowKit

section
variable {pr : Nat → Prop} {P : Program} {w : World} {β : List Nat}

/-- A world with the same memory. -/
theorem Inv.same {σ : List AObj} (I : Inv pr w σ β) {w' : World} (hh : w'.heap = w.heap) (os : w'.os = w.os) (tape : w'.tape = w.tape) (output : w'.output = w.output) : Inv pr w' σ β ∧ Evo pr w σ β w' σ β := by
  have L : Later w (stOf pr w σ β) w' (stOf pr w' σ β) := ⟨fun b hb => ⟨⟨by rw [hh]; exact hb.1.1, hb.1.2⟩, hb.2⟩, fun b _ => by rw [hh]⟩
  have B : Onto w β w' β := ⟨fun _ _ h => h, fun i b _ => by simp [csize, hh]⟩
  exact ⟨⟨fun b hb => by rw [hh]; exact I.prt b hb, I.npr, I.len, fun i b hb => by rw [hh]; exact I.lt i b hb, I.inj, fun i o b ho hb => Holds.later L B (by rw [hh]) (I.holds i o b ho hb)⟩, ⟨os, tape, output, by rw [hh]; exact Nat.le_refl _, fun b _ => by rw [hh], L, B⟩⟩

theorem run_append_zero {t tx ty e : TypeId} {size : Nat} (ht : P.underlying t = some (.slice e)) (hz : sizeT P e = some size) {x : Value} (hs : Src P size tx x 0 [] w) (base : Option Addr) (n c : Nat) (hn : n ≤ c) :
    (Builtin.append_ #[t, tx] ty #[.slice base n c, x]).run P w = .ok (.slice base n c) w := by
  have hf := hs.cells
  cases base with
  | none => rcases hs.kind with ⟨e', hk⟩ | hk <;> simp [Builtin.append_, run_underlying ht, run_underlying hk, run_sizeOf hz, hs.len, hn, hf]
  | some ad => rcases hs.kind with ⟨e', hk⟩ | hk <;> simp [Builtin.append_, run_underlying ht, run_underlying hk, run_sizeOf hz, hs.len, hn, hf, storeCells]

theorem run_append_room_of_src (t tx ty e : TypeId) (i : TypeInfo) (ht : P.underlying t = some (.slice e)) (hi : P.info? e = some i) (g sLen sCap : Nat) (cur : Array Value) (hg : w.heap[g]? = some (.cells cur e (0, 0)))
    (x : Value) (m : Nat) (news : List Value) (hs : Src P i.size tx x m news w) (hroom : sLen + m ≤ sCap) (hfit : sLen * i.size + news.length ≤ cur.size) :
    (Builtin.append_ #[t, tx] ty #[.slice (some ⟨g, 0, none⟩) sLen sCap, x]).run P w =
      .ok (.slice (some ⟨g, 0, none⟩) (sLen + m) sCap) (w.setRow g (cur.toList.take (sLen * i.size) ++ news ++ cur.toList.drop (sLen * i.size + news.length)).toArray) := by
  have hst := run_storeCells_at P g (sLen * i.size) e news 0 cur w hg (by simpa using hfit) hs.one
  simp only [Nat.add_zero] at hst
  rcases hs.kind with ⟨e', hk⟩ | hk <;> simp [Builtin.append_, run_underlying ht, run_underlying hk, sizeOf, typeInfo, hi, hs.len, hroom, hs.cells, Addr.add_lit, hst]

theorem byte_one {st : Nat → Prop} : ∀ (l : List UInt8), GDl w st (l.map fun b => [D.int .u8 b.toNat]).flatten (l.map fun b => Value.int .u8 b.toNat)
  | [] => by simp [GDl]
  | b :: r => by
    simp only [List.map_cons, List.flatten_cons, List.singleton_append, GDl]
    exact ⟨_, _, rfl, by simp [GD], byte_one r⟩

/-- A source, as it lies. -/
theorem asrc_sound {σ : List AObj} (I : Inv pr w σ β) {tx : TypeId} {x : AV} {vx : Value} (hx : GV w (stOf pr w σ β) β x vx) {sz : Nat} {xs : List (List D)} (h : wz P σ tx x = some (sz, xs)) :
    ∃ news, Src P sz tx vx xs.length news w ∧ (∀ e ∈ xs, e.length = sz) ∧ GDl w (stOf pr w σ β) xs.flatten news := by
  unfold wz at h
  split at h
  · rename_i l
    split at h
    · rename_i hk
      simp only [Option.some.injEq, Prod.mk.injEq] at h
      obtain ⟨rfl, rfl⟩ := h
      unfold isStrT at hk
      split at hk
      · rename_i hu
        obtain rfl : vx = sval l := by simpa [GV, GD] using hx
        have hsrc := Src.ofString (P := P) w hu ⟨l.toArray⟩
        have hb : byteCells ⟨l.toArray⟩ = l.map fun b => Value.int .u8 b.toNat := by simp [byteCells]
        rw [hb, bsize] at hsrc
        refine ⟨_, by simpa [sval] using hsrc, fun e he => ?_, byte_one l⟩
        obtain ⟨b, _, rfl⟩ := List.mem_map.1 he
        rfl
      · cases hk
    · cases h
  · split at h
    · rename_i hk
      obtain ⟨e', he'⟩ := Option.isSome_iff_exists.1 hk
      have hu : P.underlying tx = some (.slice e') := by
        unfold elemT at he'
        split at he'
        · rename_i e2 hu
          simp only [Option.some.injEq] at he'; subst he'; exact hu
        · cases he'
      rcases aelems_sound I hx h with ⟨rfl, a, c, rfl⟩ | ⟨b, off, c, rfl, hg⟩
      · refine ⟨[], ?_, (fun e he => by cases he), by simp [GDl]⟩
        cases a with
        | none => exact Src.ofNil w hu c
        | some ad => exact Src.ofSlice w hu ad 0 c [] (by simp) (fun j u hj => by simp at hj) (fun u hu => by cases hu)
      · obtain ⟨news, hnl, hnc, hng⟩ := hg.vals
        exact ⟨news, Src.ofSlice w hu _ _ c news hnl (fun j v hj => by rw [add_spotless]; exact hnc j v hj) hng.ones, hg.lens, hng⟩
    · cases h

theorem GDl.app {st : Nat → Prop} : ∀ {a b : List D} {p q : List Value}, GDl w st a p → GDl w st b q → GDl w st (a ++ b) (p ++ q)
  | [], b, p, q, hp, hq => by
    simp only [GDl] at hp
    simpa [hp] using hq
  | d :: ds, b, p, q, hp, hq => by
    simp only [GDl] at hp
    obtain ⟨v, r, rfl, hx, hr⟩ := hp
    simp only [List.cons_append, GDl]
    exact ⟨v, r ++ q, rfl, hx, GDl.app hr hq⟩

/-- The row that a growing append makes. -/
theorem grown_row {e : TypeId} {sz : Nat} {W : World} {g : Nat} {c : Array Value} (hh : W.heap[g]? = some (.cells c e (0, 0))) {st : Nat → Prop} {es : List (List D)} {vs rest : List Value} (hlen : ∀ x ∈ es, x.length = sz)
    (hc : c.toList = vs ++ rest) (hg : GDl W st es.flatten vs) : GDe W st sz es g 0 := by
  refine GDe_of_vals es vs 0 hlen (fun j v hj => ?_) hg
  rw [cell_of_row W g (0 + j) c e (0, 0) hh, Nat.zero_add, ← Array.getElem?_toList, hc, List.getElem?_append_left (List.getElem?_eq_some_iff.1 hj).1]
  exact hj

theorem flat_len : ∀ {es : List (List D)} {sz : Nat}, (∀ x ∈ es, x.length = sz) → es.flatten.length = es.length * sz
  | [], _, _ => by simp
  | e :: es, sz, h => by
    simp only [List.flatten_cons, List.length_append, List.length_cons, Nat.succ_mul]
    rw [flat_len (fun x hx => h x (by simp [hx])), h e (by simp)]; omega

theorem aappend_sound {σ σ' : List AObj} (I : Inv pr w σ β) {t tx ty : TypeId} {s x y : AV} {vs vx : Value} (hs : GV w (stOf pr w σ β) β s vs) (hx : GV w (stOf pr w σ β) β x vx) (h : ja P σ t tx s x = some (y, σ')) :
    Acts pr P β w σ (Builtin.append_ #[t, tx] ty #[vs, vx]) y σ' := by
  unfold ja at h
  split at h
  · rename_i e hel
    split at h
    · rename_i sz z by_ hsz hz hby
      split at h
      · rename_i hzl
        split at h
        · rename_i szx xs hxs
          have ht : P.underlying t = some (.slice e) := by
            unfold elemT at hel
            split at hel
            · rename_i e' hu
              simp only [Option.some.injEq] at hel; subst hel; exact hu
            · cases hel
          obtain ⟨inf, hinf, hisz⟩ := Option.map_eq_some_iff.1 (show (P.info? e).map (·.size) = some (sz + 1) from hsz)
          have hiby : inf.bytes = by_ := by
            unfold bytesT at hby
            rw [hinf] at hby
            simpa using hby
          obtain ⟨zv, hzv, hzc⟩ : ∃ zv, inf.zero = some zv ∧ yu zv.cells.toList = some z := by
            unfold zeroT at hz
            rw [hinf] at hz
            obtain ⟨zv, h1, h2⟩ := Option.bind_eq_some_iff.1 hz
            exact ⟨zv, by simpa using h1, h2⟩
          have hzsz : zv.cells.size = sz + 1 := by
            have := GVl.length (aconsts_sound (w := w) (st := stOf pr w σ β) (β := β) hzc)
            rw [Array.length_toList] at this; omega
          split at h
          · -- nothing is appended
            rename_i hx0
            obtain ⟨news, hsrc, hxl, hgx⟩ := asrc_sound (P := P) I hx hxs
            have hxe : xs = [] := List.eq_nil_of_length_eq_zero hx0
            subst hxe
            have hne : news = [] := by simpa using hsrc.newsLen
            subst hne
            have hsrc' : Src P (sz + 1) tx vx 0 [] w := ⟨hsrc.kind, hsrc.len, by
              have := hsrc.cells
              cases vx <;> simp_all [Builtin.firstCells], by
              have := hsrc.cellsD
              cases vx <;> simp_all [Builtin.firstCells], by simp, hsrc.one⟩
            split at h
            · simp only [Option.some.injEq, Prod.mk.injEq] at h
              obtain ⟨rfl, rfl⟩ := h
              have hs' := hs
              simp only [GV, GD] at hs'
              subst hs'
              exact ⟨⟨_, w, β, run_append_zero ht hsz hsrc' none 0 0 (Nat.le_refl _), I, Evo.refl _ _ _, hs⟩⟩
            · simp only [Option.some.injEq, Prod.mk.injEq] at h
              obtain ⟨rfl, rfl⟩ := h
              have hs' := hs
              simp only [GV] at hs'
              obtain ⟨b0, rfl⟩ := hs'
              exact ⟨⟨_, w, β, run_append_zero ht hsz hsrc' b0 0 0 (Nat.le_refl _), I, Evo.refl _ _ _, hs⟩⟩
            · simp only [Option.some.injEq, Prod.mk.injEq] at h
              obtain ⟨rfl, rfl⟩ := h
              have hs' := hs
              simp only [GV] at hs'
              obtain ⟨b0, c0, _, rfl, hn0, _⟩ := hs'
              exact ⟨⟨_, w, β, run_append_zero ht hsz hsrc' _ _ _ hn0, I, Evo.refl _ _ _, hs⟩⟩
            · cases h
          · rename_i hx0
            split at h
            · rename_i hszx
              subst hszx
              obtain ⟨news, hsrc, hxlen, hng⟩ := asrc_sound (P := P) I hx hxs
              have hnl := hsrc.newsLen
              have hsrc' : Src P inf.size tx vx xs.length news w := by rw [hisz]; exact hsrc
              have hnil : ∀ a0, vs = .slice a0 0 0 → (if xs.length * by_ ≤ xu ∧ xs.length ≤ xu then some (AV.sl σ.length (sz + 1) 0 xs.length, σ ++ [.drow xs e (sz + 1)]) else none) = some (y, σ') → Acts pr P β w σ (Builtin.append_ #[t, tx] ty #[vs, vx]) y σ' := by
                intro a0 hvs h
                subst hvs
                split at h
                · rename_i hroom
                  obtain ⟨hroom, hroom2⟩ := hroom
                  simp only [xu] at hroom hroom2
                  simp only [Option.some.injEq, Prod.mk.injEq] at h
                  obtain ⟨rfl, rfl⟩ := h
                  let cap := grownCap w xs.length 0 e
                  let C : Array Value := news.toArray ++ Builtin.zeroCells zv.cells (cap - xs.length)
                  have hcap : xs.length ≤ cap := grownCap_ge _ _ _ _
                  have hrun : (Builtin.append_ #[t, tx] ty #[.slice a0 0 0, vx]).run P w = .ok (.slice (some ⟨w.heap.size, 0, none⟩) xs.length cap) (w.drew.alloc (.cells C e)) := by
                    have h0 : (Builtin.firstCells inf.size 0 (.slice a0 0 0)).run P w.drew = .ok ([] : List Value).toArray w.drew := by
                      cases a0 with
                      | none => simp [Builtin.firstCells]
                      | some ad => simp [Builtin.firstCells, loadCells, loadCellsFrom]
                    have hnx : Builtin.nextslicecap (0 + xs.length) 0 * inf.bytes ≤ 281474976710656 := by
                      rw [hiby]
                      have := nextslicecap_le (need := 0 + xs.length) (old := 0) (by omega)
                      have h2 : Builtin.nextslicecap (0 + xs.length) 0 * by_ ≤ (2 * (0 + xs.length)) * by_ := Nat.mul_le_mul_right _ this
                      rw [Nat.mul_assoc] at h2
                      simp only [Nat.zero_add] at h2 ⊢
                      omega
                    have hpos : 0 < xs.length := by omega
                    have := run_append_grow_src w t tx ty e inf zv ht hinf hzv a0 0 0 [] h0 vx xs.length news hsrc' (by omega) (by omega) hnx
                    simpa [C, cap] using this
                  obtain ⟨I1, E1⟩ := I.same (w' := w.drew) rfl rfl rfl rfl
                  have hCsz : C.size = cap * (sz + 1) := by
                    simp only [C, Array.size_append, List.size_toArray, hnl, size_zeroCells, hzsz]
                    rw [← Nat.add_mul]; congr 1; omega
                  obtain ⟨I2, E2⟩ := newDrow (w := w.drew) (β := β) I1 (es := xs) (sz := sz + 1) (c := C) e (by rw [hCsz]; exact Nat.mul_le_mul_right _ hcap)
                    (fun w1 st1 L hh => grown_row hh hxlen (vs := news) (rest := (Builtin.zeroCells zv.cells (cap - xs.length)).toList) (by simp [C]) (GDl.later (E1.later.trans L) _ _ hng))
                  refine ⟨⟨_, _, _, hrun, I2, E1.trans E2, ?_⟩⟩
                  simp only [GV]
                  refine ⟨w.heap.size, cap, by rw [← I.len]; simp, by simp, hcap, grownCap_le_maxLen _ _ _ _ (by simp only [maxLen]; omega), ?_⟩
                  rw [csize, show w.heap.size = w.drew.heap.size from rfl, heap_alloc_at]
                  simp [hCsz]
                · cases h
              split at h
              · simp only [GV, GD] at hs
                exact hnil none hs h
              · simp only [GV] at hs
                obtain ⟨a0, hs⟩ := hs
                exact hnil a0 hs h
              · -- onto a row of our own
                rename_i o sz' i n
                split at h
                · rename_i es ty' sz'' hσ
                  split at h
                  · rename_i hc
                    obtain ⟨rfl, rfl, rfl, rfl, rfl, hroom, hroom2⟩ := hc
                    simp only [xu] at hroom hroom2
                    simp only [Option.some.injEq, Prod.mk.injEq] at h
                    obtain ⟨rfl, rfl⟩ := h
                    obtain ⟨b, hb, hlt, cur, hh, hfit, hg⟩ := I.at_ hσ
                    simp only [GV] at hs
                    obtain ⟨b', c, hb', rfl, hnc', hcm, hcs⟩ := hs
                    obtain rfl : b = b' := by rw [hb] at hb'; simpa using hb'
                    have hcursz : cur.size = c * (sz + 1) := by
                      rw [csize, hh] at hcs
                      simp only [Nat.zero_add] at hcs
                      exact hcs.symm
                    obtain ⟨olds, hol, hoc, hog⟩ := hg.vals
                    have hlens := hg.lens
                    have hlenall : ∀ x ∈ es ++ xs, x.length = sz + 1 := fun x hx => by
                      rcases List.mem_append.1 hx with hx | hx
                      · exact hlens x hx
                      · exact hxlen x hx
                    have hflat : (es ++ xs).flatten = es.flatten ++ xs.flatten := by simp
                    have holds : cur.toList.take (es.length * (sz + 1)) = olds := by
                      apply List.ext_getElem?
                      intro j
                      by_cases hj : j < es.length * (sz + 1)
                      · rw [List.getElem?_take, if_pos hj, Array.getElem?_toList]
                        have hv : olds[j]? = some olds[j] := List.getElem?_eq_getElem (by omega)
                        have := hoc j _ hv
                        rw [cell_of_row w b _ cur ty' (0, 0) hh, Nat.zero_add] at this
                        rw [this, hv]
                      · rw [List.getElem?_take, if_neg hj, List.getElem?_eq_none (by omega)]
                    simp only [Nat.zero_mul]
                    by_cases hrm : es.length + xs.length ≤ c
                    · -- there is room
                      have hrun := run_append_room_of_src (P := P) (w := w) t tx ty ty' inf ht hinf b es.length c cur hh vx xs.length news hsrc' hrm
                        (by rw [hisz, hnl, hcursz, ← Nat.add_mul]; exact Nat.mul_le_mul_right _ hrm)
                      rw [hisz, holds] at hrun
                      let C : Array Value := (olds ++ news ++ cur.toList.drop (es.length * (sz + 1) + news.length)).toArray
                      have hCsz : C.size = cur.size := by
                        have hle : es.length * (sz + 1) + xs.length * (sz + 1) ≤ c * (sz + 1) := by rw [← Nat.add_mul]; exact Nat.mul_le_mul_right _ hrm
                        simp only [C, List.size_toArray, List.length_append, List.length_drop, Array.length_toList, hol, hnl]
                        omega
                      have hh' : (w.setRow b C).heap[b]? = some (.cells C ty' (0, 0)) := setRow_heap w b cur _ ty' (0, 0) hh
                      have hgb : w.grownBy (w.setRow b C) (some b) := ⟨rfl, rfl, rfl, by rw [setRow_size]; exact Nat.le_refl _, fun k _ hk => setRow_same _ _ _ (by simpa using hk)⟩
                      obtain ⟨I', E'⟩ := I.move (w' := w.setRow b C) (b' := b) (o' := .drow (es ++ xs) ty' (sz + 1)) hσ rfl hb rfl hgb (.inl rfl) (by rw [setRow_size]; exact hlt) (by rw [csize, csize, hh', hh]; exact hCsz)
                        (fun L B => ⟨C, hh', by rw [hCsz, hcursz, List.length_append]; exact Nat.mul_le_mul_right _ hrm,
                          grown_row hh' hlenall (vs := olds ++ news) (rest := cur.toList.drop (es.length * (sz + 1) + news.length)) (by simp [C]) (by rw [hflat]; exact GDl.app (GDl.later L _ _ hog) (GDl.later L _ _ hng))⟩)
                      refine ⟨⟨_, _, _, hrun, I', E', ?_⟩⟩
                      simp only [GV]
                      refine ⟨b, c, by rw [← I.len]; simp, by simp, hrm, hcm, ?_⟩
                      have hgoal : csize (w.setRow b C) b = c * (sz + 1) := by rw [csize, hh']; show C.size = _; rw [hCsz, hcursz]
                      rw [Nat.zero_add]; exact hgoal.symm
                    · -- a new block
                      have hnx : Builtin.nextslicecap (es.length + xs.length) c * inf.bytes ≤ 281474976710656 := by
                        have h1 := nextslicecap_le (need := es.length + xs.length) (old := c) (by omega)
                        have h2 : Builtin.nextslicecap (es.length + xs.length) c * by_ ≤ (2 * (es.length + xs.length)) * by_ := Nat.mul_le_mul_right _ h1
                        rw [Nat.mul_assoc] at h2
                        rw [hiby]; omega
                      have hrun := run_append_grow_src w t tx ty ty' inf zv ht hinf hzv (some ⟨b, 0, none⟩) es.length c olds
                        (run_firstCells_some w.drew inf.size es.length ⟨b, 0, none⟩ es.length c olds (by rw [hol, hisz]) (fun j v hj => by rw [add_spotless, World.cell?_drew]; exact hoc j v hj)) vx xs.length news hsrc' (by omega) (by omega) hnx
                      let cap := grownCap w (es.length + xs.length) c ty'
                      let C : Array Value := (olds ++ news).toArray ++ Builtin.zeroCells zv.cells (cap - (es.length + xs.length))
                      have hcap : es.length + xs.length ≤ cap := grownCap_ge _ _ _ _
                      have hCsz : C.size = cap * (sz + 1) := by
                        simp only [C, Array.size_append, List.size_toArray, List.length_append, hnl, hol, size_zeroCells, hzsz]
                        rw [← Nat.add_mul, ← Nat.add_mul]; congr 1; omega
                      have hh' : (w.drew.alloc (.cells C ty')).heap[w.heap.size]? = some (.cells C ty' (0, 0)) := heap_alloc_at w.drew _
                      have hgb : w.grownBy (w.drew.alloc (.cells C ty')) (some b) := ⟨rfl, rfl, rfl, by simp, fun k hk _ => heap_alloc_old w.drew _ hk⟩
                      obtain ⟨I', E'⟩ := I.move (w' := w.drew.alloc (.cells C ty')) (b' := w.heap.size) (o' := .drow (es ++ xs) ty' (sz + 1)) hσ rfl hb rfl hgb (.inr rfl) (by simp) (csize_same (heap_alloc_old w.drew _ hlt))
                        (fun L B => ⟨C, hh', by rw [hCsz, List.length_append]; exact Nat.mul_le_mul_right _ hcap,
                          grown_row hh' hlenall (vs := olds ++ news) (rest := (Builtin.zeroCells zv.cells (cap - (es.length + xs.length))).toList) (by simp [C]) (by rw [hflat]; exact GDl.app (GDl.later L _ _ hog) (GDl.later L _ _ hng))⟩)
                      refine ⟨⟨_, _, _, hrun, I', E', ?_⟩⟩
                      simp only [GV]
                      refine ⟨w.heap.size, cap, by rw [← I.len]; simp, by simp; rfl, hcap, grownCap_le_maxLen _ _ _ _ (by simp only [maxLen]; omega), ?_⟩
                      have hgoal : csize (w.drew.alloc (.cells C ty')) w.heap.size = cap * (sz + 1) := by rw [csize, hh']; exact hCsz
                      rw [Nat.zero_add]; exact hgoal.symm
                  · cases h
                · cases h
              · cases h
            · cases h
        · cases h
      · cases h
    · cases h
  · cases h
/-! ### A string made bytes -/
/-- A world that has only grown. -/
theorem Inv.grown {w' : World} {σ : List AObj} (I : Inv pr w σ β) (hsz : w.heap.size ≤ w'.heap.size) (hsame : ∀ b, b < w.heap.size → w'.heap[b]? = w.heap[b]?) (os : w'.os = w.os) (tape : w'.tape = w.tape) (output : w'.output = w.output) :
    Inv pr w' σ β ∧ Evo pr w σ β w' σ β := by
  have L : Later w (stOf pr w σ β) w' (stOf pr w' σ β) := ⟨fun b hb => ⟨⟨Nat.lt_of_lt_of_le hb.1.1 hsz, hb.1.2⟩, hb.2⟩, fun b hb => hsame b hb.1.1⟩
  have B : Onto w β w' β := ⟨fun _ _ h => h, fun i b hb => csize_same (hsame b (I.lt i b hb))⟩
  exact ⟨⟨fun b hb => Nat.lt_of_lt_of_le (I.prt b hb) hsz, I.npr, I.len, fun i b hb => Nat.lt_of_lt_of_le (I.lt i b hb) hsz, I.inj, fun i o b ho hb => Holds.later L B (hsame b (I.lt i b hb)) (I.holds i o b ho hb)⟩,
    ⟨os, tape, output, hsz, fun b hb => hsame b (I.prt b hb), L, B⟩⟩


def ym (P : Program) (src dst : TypeId) (x : AV) : Option AV :=
  match x with
  | .d (.str l) => if (P.underlying src).isSome ∧ isBytesT P dst = true then some (.d (.rs 1 (l.map fun b => [D.int .u8 b.toNat]))) else none
  | _ => none

theorem abytesOf_acts {σ : List AObj} (I : Inv pr w σ β) {src dst : TypeId} {x y : AV} {v : Value} (hx : GV w (stOf pr w σ β) β x v) (h : ym P src dst x = some y) : Acts pr P β w σ (convert src dst v) y σ := by
  unfold ym at h
  split at h
  rotate_left
  · cases h
  rename_i l
  split at h
  rotate_left
  · cases h
  rename_i hc
  obtain ⟨hs, hd⟩ := hc
  simp only [Option.some.injEq] at h
  subst h
  obtain ⟨u, hu⟩ := Option.isSome_iff_exists.1 hs
  unfold isBytesT at hd
  split at hd
  rotate_left
  · cases hd
  rename_i e hde
  split at hd
  rotate_left
  · cases hd
  rename_i he
  simp only [GV, GD] at hx
  subst hx
  have hrun := Lib.run_convert_string_bytes (P := P) w src dst e ⟨l.toArray⟩ hu hde he
  have hsz : (Lib.bytesWorld w e ⟨l.toArray⟩).heap.size = w.heap.size + 1 := Lib.bytesWorld_size w e _
  obtain ⟨I', E'⟩ := I.grown (w' := Lib.bytesWorld w e ⟨l.toArray⟩) (by omega) (fun b hb => Lib.bytesWorld_at_old w e _ b hb) rfl rfl rfl
  refine ⟨⟨_, _, β, hrun, I', E', ?_⟩⟩
  simp only [GV, GD]
  have hst : stOf pr (Lib.bytesWorld w e ⟨l.toArray⟩) σ β w.heap.size :=
    ⟨⟨by omega, fun hp => Nat.lt_irrefl _ (I.prt _ hp)⟩, fun i _ hb => Nat.lt_irrefl _ (I.lt i _ hb)⟩
  have hlen : (⟨l.toArray⟩ : ByteArray).size = l.length := bsize l
  refine .inr ⟨w.heap.size, 0, grownCap w l.length 0 e, ?_, ?_, hst, ?_⟩
  · rw [hlen]; simp
  · rw [List.length_map]; exact grownCap_ge _ _ _ _
  · refine GDe.mk fun k el hk => ?_
    rw [List.getElem?_map, Option.map_eq_some_iff] at hk
    obtain ⟨b, hb, rfl⟩ := hk
    refine ⟨rfl, GDs.mk fun m d hm => ?_⟩
    have hm0 : m = 0 := by
      have := (List.getElem?_eq_some_iff.1 hm).1
      simp at this
      exact this
    subst hm0
    simp only [List.getElem?_cons_zero, Option.some.injEq] at hm
    subst hm
    have hkl : k < l.length := (List.getElem?_eq_some_iff.1 hb).1
    refine ⟨_, ?_, by simp only [GD]; rfl⟩
    have := Lib.bytesWorld_cell w e ⟨l.toArray⟩ k (by rw [hlen]; exact hkl)
    rw [show 0 + k * 1 + 0 = k by omega, this]
    have hg : (⟨l.toArray⟩ : ByteArray).data.toList.getD k 0 = b := by
      simp [hb]
    rw [hg]
end
end Go.Proofs.YtblejchodicaoaaGreatDoor.Eng

/-
  THE ENGINE, part K: a call sees only what it is led to: the store is parted and put together again. Program-independent. Own work.
-/
namespace Go.Proofs.YtblejchodicaoaaGreatDoor.Eng
open Go Go.RowKit

/-! ### Other numbers for the objects -/
mutual
def ren (m : Nat → Option Nat) : AV → AV
  | .any => .any
  | .d x => .d x
  | .ptr o j => match m o with | some p => .ptr p j | none => .any
  | .eptr o sz i j => match m o with | some p => .eptr p sz i j | none => .any
  | .sl o sz i n => match m o with | some p => .sl p sz i n | none => .any
  | .fn f first cap => .fn f (wn m first) (wn m cap)
  | .map o => match m o with | some p => .map p | none => .any
  | .obj o => match m o with | some p => .obj p | none => .any
  | .yld o => match m o with | some p => .yld p | none => .any
  | .agg cs => .agg (wn m cs)
  | .tup cs => .tup (wn m cs)
  | .cap0 sz => .cap0 sz
  | .pany => .pany
  | .opt c x => .opt c (ren m x)
def wn (m : Nat → Option Nat) : List AV → List AV
  | [] => []
  | x :: r => ren m x :: wn m r
end

def jr (m : Nat → Option Nat) : Env → Env
  | [] => []
  | (t, x) :: r => (t, ren m x) :: jr m r
def ju (m : Nat → Option Nat) : List (D × AV) → List (D × AV)
  | [] => []
  | (k, x) :: r => (k, ren m x) :: ju m r

def wo (m : Nat → Option Nat) : AObj → AObj
  | .gone => .gone
  | .fz sz es => .fz sz es
  | .fzb cs => .fzb cs
  | .box cs ty => .box (wn m cs) ty
  | .drow es ty sz => .drow es ty sz
  | .amap es => .amap (ju m es)
  | .loop env n ps assign body state pending defers => match m defers with
    | some d => .loop (jr m env) n ps assign body state pending d
    | none => .gone
  | .dfr => .dfr

section
variable {w : World} {st : Nat → Prop} {β β' : List Nat} {m : Nat → Option Nat}

def MapsTo (m : Nat → Option Nat) (β β' : List Nat) : Prop := ∀ (o p b : Nat), m o = some p → β[o]? = some b → β'[p]? = some b

mutual
theorem GV.ren (hm : MapsTo m β β') : ∀ (x : AV) (v : Value), GV w st β x v → GV w st β' (ren m x) v
  | .any, _, _ => by simp [Eng.ren, GV]
  | .d x, v, h => by simpa [Eng.ren, GV] using h
  | .ptr o j, v, h => by
    simp only [GV] at h
    obtain ⟨b, hb, hv⟩ := h
    simp only [Eng.ren]
    cases ho : m o with
    | none => simp [GV]
    | some p => simp only [GV]; exact ⟨b, hm o p b ho hb, hv⟩
  | .eptr o sz i j, v, h => by
    simp only [GV] at h
    obtain ⟨b, hb, hv⟩ := h
    simp only [Eng.ren]
    cases ho : m o with
    | none => simp [GV]
    | some p => simp only [GV]; exact ⟨b, hm o p b ho hb, hv⟩
  | .sl o sz i n, v, h => by
    simp only [GV] at h
    obtain ⟨b, c, hb, hv⟩ := h
    simp only [Eng.ren]
    cases ho : m o with
    | none => simp [GV]
    | some p => simp only [GV]; exact ⟨b, c, hm o p b ho hb, hv⟩
  | .fn f first cap, v, h => by
    simp only [GV] at h
    obtain ⟨us, vs, hv, h1, h2⟩ := h
    simp only [Eng.ren, GV]
    exact ⟨us, vs, hv, GVl.ren hm first us h1, GVl.ren hm cap vs h2⟩
  | .map o, v, h => by
    simp only [GV] at h
    obtain ⟨b, hb, hv⟩ := h
    simp only [Eng.ren]
    cases ho : m o with
    | none => simp [GV]
    | some p => simp only [GV]; exact ⟨b, hm o p b ho hb, hv⟩
  | .obj o, v, h => by
    simp only [GV] at h
    obtain ⟨b, hb, hv⟩ := h
    simp only [Eng.ren]
    cases ho : m o with
    | none => simp [GV]
    | some p => simp only [GV]; exact ⟨b, hm o p b ho hb, hv⟩
  | .yld o, v, h => by
    simp only [GV] at h
    obtain ⟨b, hb, hv⟩ := h
    simp only [Eng.ren]
    cases ho : m o with
    | none => simp [GV]
    | some p => simp only [GV]; exact ⟨b, hm o p b ho hb, hv⟩
  | .agg cs, v, h => by
    simp only [GV] at h
    obtain ⟨vs, hv, h1⟩ := h
    simp only [Eng.ren, GV]
    exact ⟨vs, hv, GVl.ren hm cs vs h1⟩
  | .tup cs, v, h => by
    simp only [GV] at h
    obtain ⟨vs, hv, h1⟩ := h
    simp only [Eng.ren, GV]
    exact ⟨vs, hv, GVl.ren hm cs vs h1⟩
  | .cap0 _, v, h => by simpa [Eng.ren, GV] using h
  | .pany, v, h => by simpa [Eng.ren, GV] using h
  | .opt c x, v, h => by
    simp only [Eng.ren, GV] at h ⊢
    exact ⟨fun hc => GV.ren hm x v (h.1 hc), h.2⟩
theorem GVl.ren (hm : MapsTo m β β') : ∀ (xs : List AV) (vs : List Value), GVl w st β xs vs → GVl w st β' (wn m xs) vs
  | [], vs, h => by simpa [wn, GVl] using h
  | x :: xs, vs, h => by
    simp only [GVl] at h
    obtain ⟨v, r, hv, hx, hr⟩ := h
    simp only [wn, GVl]
    exact ⟨v, r, hv, GV.ren hm x v hx, GVl.ren hm xs r hr⟩
end

theorem renEnv_lookup : ∀ (env : Env) (t : Nat) (y : AV), (jr m env).lookup t = some y → ∃ x, env.lookup t = some x ∧ y = ren m x
  | [], _, _, h => by simp [jr] at h
  | (s, x) :: r, t, y, h => by
    simp only [jr, List.lookup_cons] at h ⊢
    split at h
    · simp only [Option.some.injEq] at h
      exact ⟨x, by simp, h.symm⟩
    · exact renEnv_lookup r t y h

theorem GEnv.ren (hm : MapsTo m β β') {env : Env} {tmps : Array Value} (h : GEnv w st β env tmps) : GEnv w st β' (jr m env) tmps := fun t y hy => by
  obtain ⟨x, hx, rfl⟩ := renEnv_lookup env t y hy
  exact ⟨(h t x hx).1, GV.ren hm x _ (h t x hx).2⟩

theorem GMap.ren (hm : MapsTo m β β') : ∀ {es : List (D × AV)} {l : List MapEntry}, GMap w st β es l → GMap w st β' (ju m es) l
  | [], l, h => by simpa [ju, GMap] using h
  | (k, x) :: r, l, h => by
    simp only [GMap] at h
    obtain ⟨e, l', hl, hk, hx, hr⟩ := h
    simp only [ju, GMap]
    exact ⟨e, l', hl, hk, GV.ren hm x _ hx, GMap.ren hm hr⟩

theorem Holds.ren (hm : MapsTo m β β') {b : Nat} : ∀ {o : AObj}, Holds w st β b o → Holds w st β' b (wo m o)
  | .gone, _ => trivial
  | .fz _ _, h => h
  | .fzb _, h => h
  | .box cs ty, h => by
    obtain ⟨vs, hh, hg⟩ := h
    exact ⟨vs, hh, GVl.ren hm cs vs hg⟩
  | .drow _ _ _, h => h
  | .amap es, h => by
    obtain ⟨l, cl, hh, hg⟩ := h
    exact ⟨l, cl, hh, GMap.ren hm hg⟩
  | .loop env n ps assign body state pending defers, h => by
    obtain ⟨fn, tmps, db, hh, hn, hg, hd⟩ := h
    simp only [wo]
    cases hm' : m defers with
    | none => trivial
    | some d => exact ⟨fn, tmps, db, hh, hn, GEnv.ren hm hg, hm defers d db hm' hd⟩
  | .dfr, h => h
end

/-! ### Where a number stands in a list -/
def pos : List Nat → Nat → Option Nat
  | [], _ => none
  | a :: r, i => if a = i then some 0 else (pos r i).map (· + 1)
theorem pos_some : ∀ {l : List Nat} {i k : Nat}, pos l i = some k → l[k]? = some i
  | [], _, _, h => by simp [pos] at h
  | a :: r, i, k, h => by
    simp only [pos] at h
    split at h
    · rename_i e
      simp only [Option.some.injEq] at h; subst h; subst e; simp
    · obtain ⟨k', hk', rfl⟩ := Option.map_eq_some_iff.1 h
      simpa using pos_some hk'
theorem pos_none : ∀ {l : List Nat} {i : Nat}, pos l i = none → ∀ (k : Nat), l[k]? ≠ some i
  | [], _, _, k => by simp
  | a :: r, i, h, k => by
    simp only [pos] at h
    split at h
    · cases h
    · rename_i e
      cases k with
      | zero => simpa using e
      | succ k => simpa using pos_none (by simpa using h) k
def distinct : List Nat → Bool
  | [] => true
  | a :: r => !r.contains a && distinct r
theorem distinct_inj : ∀ {l : List Nat}, distinct l = true → ∀ (j k i : Nat), l[j]? = some i → l[k]? = some i → j = k
  | [], _, j, k, i, h, _ => by simp at h
  | a :: r, hd, j, k, i, hj, hk => by
    simp only [distinct, Bool.and_eq_true, Bool.not_eq_true', List.contains_eq_mem, decide_eq_false_iff_not] at hd
    cases j with
    | zero => cases k with
      | zero => rfl
      | succ k =>
        obtain rfl : a = i := by simpa using hj
        exact absurd (List.mem_of_getElem? (by simpa using hk)) hd.1
    | succ j => cases k with
      | zero =>
        obtain rfl : a = i := by simpa using hk
        exact absurd (List.mem_of_getElem? (by simpa using hj)) hd.1
      | succ k => rw [distinct_inj hd.2 j k i (by simpa using hj) (by simpa using hk)]
theorem distinct_pos {l : List Nat} (hd : distinct l = true) {i k : Nat} (h : l[k]? = some i) : pos l i = some k := by
  cases hp : pos l i with
  | none => exact absurd h (pos_none hp k)
  | some j => rw [distinct_inj hd j k i (pos_some hp) h]

/-! ### What a call is handed -/
def wl (σ : List AObj) (ids : List Nat) : List AObj := ids.map fun i => wo (pos ids) (σ.getD i .gone)
/-- May this be handed over? -/
def xh (σ : List AObj) (ids : List Nat) : Bool := distinct ids && ids.all fun i => decide (i < σ.length) && ((wo (pos ids) (σ.getD i .gone)).live == (σ.getD i .gone).live)
def subβ (β ids : List Nat) : List Nat := ids.map fun i => β.getD i 0
def subPr (pr : Nat → Prop) (σ : List AObj) (β ids : List Nat) (b : Nat) : Prop := pr b ∨ ∃ i, liveAt σ i ∧ pos ids i = none ∧ β[i]? = some b

section
variable {pr : Nat → Prop} {w : World} {σ : List AObj} {β ids : List Nat}

theorem subOk_spec (h : xh σ ids = true) : distinct ids = true ∧ ∀ i, i ∈ ids → i < σ.length ∧ (wo (pos ids) (σ.getD i .gone)).live = (σ.getD i .gone).live := by
  simp only [xh, Bool.and_eq_true, List.all_eq_true, decide_eq_true_eq, beq_iff_eq] at h
  exact h

theorem sub_at (I : Inv pr w σ β) (h : xh σ ids = true) {k i : Nat} (hk : ids[k]? = some i) : ∃ o b, σ[i]? = some o ∧ β[i]? = some b ∧ (wl σ ids)[k]? = some (wo (pos ids) o) ∧ (subβ β ids)[k]? = some b ∧ (wo (pos ids) o).live = o.live := by
  obtain ⟨_, hs⟩ := subOk_spec h
  obtain ⟨hi, hl⟩ := hs i (List.mem_of_getElem? hk)
  have ho : σ[i]? = some σ[i] := List.getElem?_eq_getElem hi
  have hb : β[i]? = some (β[i]'(by rw [I.len]; exact hi)) := List.getElem?_eq_getElem _
  refine ⟨_, _, ho, hb, ?_, ?_, ?_⟩
  · simp [wl, hk, List.getD_eq_getElem?_getD, ho]
  · simp [subβ, hk, List.getD_eq_getElem?_getD, hb]
  · simpa [List.getD_eq_getElem?_getD, ho] using hl

theorem sub_live (I : Inv pr w σ β) (h : xh σ ids = true) {k : Nat} (hl : liveAt (wl σ ids) k) : ∃ i, ids[k]? = some i ∧ liveAt σ i ∧ (subβ β ids)[k]? = β[i]? := by
  obtain ⟨o, ho, hol⟩ := hl
  have hk : k < ids.length := by have := (List.getElem?_eq_some_iff.1 ho).1; simpa [wl] using this
  have hi : ids[k]? = some ids[k] := List.getElem?_eq_getElem hk
  obtain ⟨o', b, h1, h2, h3, h4, h5⟩ := sub_at I h hi
  rw [h3] at ho
  simp only [Option.some.injEq] at ho
  subst ho
  exact ⟨_, hi, ⟨o', h1, by rw [← h5]; exact hol⟩, by rw [h4, h2]⟩

theorem sub_st (I : Inv pr w σ β) (h : xh σ ids = true) (b : Nat) : stOf (subPr pr σ β ids) w (wl σ ids) (subβ β ids) b ↔ stOf pr w σ β b := by
  constructor
  · rintro ⟨⟨hlt, hnp⟩, hnl⟩
    refine ⟨⟨hlt, fun hp => hnp (.inl hp)⟩, fun i hi hb => ?_⟩
    cases hp : pos ids i with
    | none => exact hnp (.inr ⟨i, hi, hp, hb⟩)
    | some k =>
      have hk := pos_some hp
      obtain ⟨o, b', h1, h2, h3, h4, h5⟩ := sub_at I h hk
      obtain ⟨o', ho', hl'⟩ := hi
      rw [h1] at ho'
      simp only [Option.some.injEq] at ho'
      subst ho'
      rw [h2] at hb
      simp only [Option.some.injEq] at hb
      subst hb
      exact hnl k ⟨_, h3, by rw [h5]; exact hl'⟩ h4
  · rintro ⟨⟨hlt, hnp⟩, hnl⟩
    refine ⟨⟨hlt, fun hp => ?_⟩, fun k hk hb => ?_⟩
    · rcases hp with hp | ⟨i, hi, _, hb⟩
      · exact hnp hp
      · exact hnl i hi hb
    · obtain ⟨i, _, hi, he⟩ := sub_live I h hk
      exact hnl i hi (by rw [← he]; exact hb)

theorem sub_maps (I : Inv pr w σ β) (h : xh σ ids = true) : MapsTo (pos ids) β (subβ β ids) := fun i k b hp hb => by
  obtain ⟨o, b', h1, h2, h3, h4, h5⟩ := sub_at I h (pos_some hp)
  rw [h4]
  rw [h2] at hb
  exact hb

theorem Inv.sub (I : Inv pr w σ β) (h : xh σ ids = true) : Inv (subPr pr σ β ids) w (wl σ ids) (subβ β ids) := by
  obtain ⟨hd, hs⟩ := subOk_spec h
  refine ⟨fun b hb => ?_, fun k b hk hb hp => ?_, by simp [wl, subβ], fun k b hb => ?_, fun j k b hj hk hjb hkb => ?_, fun k o b ho hb => ?_⟩
  · rcases hb with hb | ⟨i, _, _, hb⟩
    · exact I.prt b hb
    · exact I.lt i b hb
  · obtain ⟨i, hi, hl, he⟩ := sub_live I h hk
    rcases hp with hp | ⟨i', hl', hp', hb'⟩
    · exact I.npr i b hl (by rw [← he]; exact hb) hp
    · have := I.inj i i' b hl hl' (by rw [← he]; exact hb) hb'
      subst this
      exact pos_none hp' k hi
  · have hk : k < ids.length := by have := (List.getElem?_eq_some_iff.1 hb).1; simpa [subβ] using this
    obtain ⟨o, b', h1, h2, h3, h4, h5⟩ := sub_at I h (List.getElem?_eq_getElem hk)
    rw [h4] at hb
    simp only [Option.some.injEq] at hb
    subst hb
    exact I.lt _ _ h2
  · obtain ⟨i, hi, hl, he⟩ := sub_live I h hj
    obtain ⟨i', hi', hl', he'⟩ := sub_live I h hk
    have := I.inj i i' b hl hl' (by rw [← he]; exact hjb) (by rw [← he']; exact hkb)
    subst this
    exact distinct_inj hd j k i hi hi'
  · have hk : k < ids.length := by have := (List.getElem?_eq_some_iff.1 ho).1; simpa [wl] using this
    obtain ⟨o', b', h1, h2, h3, h4, h5⟩ := sub_at I h (List.getElem?_eq_getElem hk)
    rw [h3] at ho
    rw [h4] at hb
    simp only [Option.some.injEq] at ho hb
    subst ho; subst hb
    have h0 := I.holds _ _ _ h1 h2
    have h1' := Holds.later (w' := w) (st' := stOf (subPr pr σ β ids) w (wl σ ids) (subβ β ids)) (β' := β) ⟨fun b hb => (sub_st I h b).2 hb, fun _ _ => rfl⟩ (Onto.refl w β) rfl h0
    exact Holds.ren (sub_maps I h) h1'

/-- A value, as the callee sees it. -/
theorem GV.sub (I : Inv pr w σ β) (h : xh σ ids = true) {x : AV} {v : Value} (hx : GV w (stOf pr w σ β) β x v) : GV w (stOf (subPr pr σ β ids) w (wl σ ids) (subβ β ids)) (subβ β ids) (Eng.ren (pos ids) x) v :=
  GV.ren (sub_maps I h) x v (GV.later (w' := w) (β' := β) ⟨fun b hb => (sub_st I h b).2 hb, fun _ _ => rfl⟩ (Onto.refl w β) x v hx)
theorem GVl.sub (I : Inv pr w σ β) (h : xh σ ids = true) {xs : List AV} {vs : List Value} (hx : GVl w (stOf pr w σ β) β xs vs) : GVl w (stOf (subPr pr σ β ids) w (wl σ ids) (subβ β ids)) (subβ β ids) (wn (pos ids) xs) vs :=
  GVl.ren (sub_maps I h) xs vs (GVl.later (w' := w) (β' := β) ⟨fun b hb => (sub_st I h b).2 hb, fun _ _ => rfl⟩ (Onto.refl w β) xs vs hx)

/-! ### What a call leaves -/
def xi (n : Nat) (ids : List Nat) (k : Nat) : Option Nat := if k < ids.length then ids[k]? else some (n + (k - ids.length))
def jm (σ : List AObj) (ids : List Nat) (σc : List AObj) : List AObj :=
  (σ.zipIdx.map fun p => match pos ids p.2 with
    | some k => wo (xi σ.length ids) (σc.getD k .gone)
    | none => p.1) ++ (σc.drop ids.length).map (wo (xi σ.length ids))
def mergeβ (β ids βc : List Nat) : List Nat := β ++ βc.drop ids.length

variable {w' : World} {σc : List AObj} {βc : List Nat}

theorem renO_back_live (n : Nat) (o : AObj) : (wo (xi n ids) o).live = o.live := by
  cases o <;> try rfl
  rename_i env n' ps assign body state pending defers
  have hs : (xi n ids defers).isSome = true := by
    unfold xi
    split
    · rename_i h
      simp [List.getElem?_eq_getElem h]
    · rfl
  obtain ⟨d, hd⟩ := Option.isSome_iff_exists.1 hs
  simp only [wo, hd]
  rfl

/-- The objects behind a call: those that it did not see; and its own. -/
theorem merge_at (I : Inv pr w σ β) (h : xh σ ids = true) (Ic : Inv (subPr pr σ β ids) w' σc βc) (E : Evo (subPr pr σ β ids) w (wl σ ids) (subβ β ids) w' σc βc) {p : Nat} {o : AObj} (ho : (jm σ ids σc)[p]? = some o) :
    (pos ids p = none ∧ σ[p]? = some o ∧ (mergeβ β ids βc)[p]? = β[p]?) ∨
    ∃ k oc, xi σ.length ids k = some p ∧ σc[k]? = some oc ∧ o = wo (xi σ.length ids) oc ∧ (mergeβ β ids βc)[p]? = βc[k]? := by
  by_cases hp : p < σ.length
  · have hpb : p < β.length := by rw [I.len]; exact hp
    simp only [jm] at ho
    rw [List.getElem?_append_left (by simpa using hp), List.getElem?_map, List.getElem?_zipIdx, List.getElem?_eq_getElem hp] at ho
    simp only [Option.map_some, Nat.zero_add, Option.some.injEq] at ho
    have hβ : (mergeβ β ids βc)[p]? = β[p]? := by rw [mergeβ, List.getElem?_append_left hpb]
    cases hpos : pos ids p with
    | none =>
      rw [hpos] at ho
      simp only at ho
      subst ho
      exact .inl ⟨rfl, List.getElem?_eq_getElem hp, hβ⟩
    | some k =>
      rw [hpos] at ho
      simp only at ho
      have hk := pos_some hpos
      have hkl : k < ids.length := (List.getElem?_eq_some_iff.1 hk).1
      obtain ⟨o', b', h1, h2, h3, h4, h5⟩ := sub_at I h hk
      have hbc : βc[k]? = some b' := E.onto.at_ k b' h4
      have hkc : k < σc.length := by have := (List.getElem?_eq_some_iff.1 hbc).1; rw [Ic.len] at this; exact this
      refine .inr ⟨k, σc[k], by rw [xi, if_pos hkl, hk], List.getElem?_eq_getElem hkc, ?_, by rw [hβ, h2, hbc]⟩
      rw [← ho, List.getD_eq_getElem?_getD, List.getElem?_eq_getElem hkc]; rfl
  · simp only [jm] at ho
    rw [List.getElem?_append_right (by simp; omega), List.getElem?_map, List.getElem?_drop] at ho
    obtain ⟨oc, hoc, rfl⟩ := Option.map_eq_some_iff.1 ho
    simp only [List.length_map, List.length_zipIdx] at hoc
    refine .inr ⟨ids.length + (p - σ.length), oc, ?_, hoc, rfl, ?_⟩
    · rw [xi, if_neg (by omega)]; congr 1; omega
    · rw [mergeβ, List.getElem?_append_right (by rw [I.len]; omega), List.getElem?_drop, I.len]

theorem merge_of (I : Inv pr w σ β) (h : xh σ ids = true) (_Ic : Inv (subPr pr σ β ids) w' σc βc) (E : Evo (subPr pr σ β ids) w (wl σ ids) (subβ β ids) w' σc βc) {k : Nat} {oc : AObj} (hoc : σc[k]? = some oc) :
    ∃ p, xi σ.length ids k = some p ∧ (jm σ ids σc)[p]? = some (wo (xi σ.length ids) oc) ∧ (mergeβ β ids βc)[p]? = βc[k]? := by
  obtain ⟨hd, hs⟩ := subOk_spec h
  by_cases hk : k < ids.length
  · have hi : ids[k]? = some ids[k] := List.getElem?_eq_getElem hk
    obtain ⟨o', b', h1, h2, h3, h4, h5⟩ := sub_at I h hi
    have hp : ids[k] < σ.length := (List.getElem?_eq_some_iff.1 h1).1
    refine ⟨ids[k], by rw [xi, if_pos hk, hi], ?_, ?_⟩
    · simp only [jm]
      rw [List.getElem?_append_left (by simpa using hp), List.getElem?_map, List.getElem?_zipIdx, List.getElem?_eq_getElem hp]
      simp only [Option.map_some, Nat.zero_add, distinct_pos hd hi]
      rw [List.getD_eq_getElem?_getD, hoc]; rfl
    · rw [mergeβ, List.getElem?_append_left (by rw [I.len]; exact hp), h2, E.onto.at_ k b' h4]
  · refine ⟨σ.length + (k - ids.length), by rw [xi, if_neg hk], ?_, ?_⟩
    · simp only [jm]
      rw [List.getElem?_append_right (by simp), List.getElem?_map, List.getElem?_drop]
      simp only [List.length_map, List.length_zipIdx]
      rw [show ids.length + (σ.length + (k - ids.length) - σ.length) = k from by omega, hoc]; rfl
    · rw [mergeβ, List.getElem?_append_right (by rw [I.len]; omega), List.getElem?_drop, I.len, show ids.length + (σ.length + (k - ids.length) - σ.length) = k from by omega]

theorem backm_inj (h : xh σ ids = true) {j k p : Nat} (hj : xi σ.length ids j = some p) (hk : xi σ.length ids k = some p) : j = k := by
  obtain ⟨hd, hs⟩ := subOk_spec h
  unfold xi at hj hk
  split at hj <;> split at hk
  · exact distinct_inj hd j k p hj hk
  · have := (hs p (List.mem_of_getElem? hj)).1
    simp only [Option.some.injEq] at hk
    omega
  · have := (hs p (List.mem_of_getElem? hk)).1
    simp only [Option.some.injEq] at hj
    omega
  · simp only [Option.some.injEq] at hj hk
    omega

theorem merge_st (I : Inv pr w σ β) (h : xh σ ids = true) (Ic : Inv (subPr pr σ β ids) w' σc βc) (E : Evo (subPr pr σ β ids) w (wl σ ids) (subβ β ids) w' σc βc) (b : Nat) :
    stOf pr w' (jm σ ids σc) (mergeβ β ids βc) b ↔ stOf (subPr pr σ β ids) w' σc βc b := by
  constructor
  · rintro ⟨⟨hlt, hnp⟩, hnl⟩
    refine ⟨⟨hlt, fun hp => ?_⟩, fun k hk hb => ?_⟩
    · rcases hp with hp | ⟨i, ⟨o, ho, hol⟩, hp, hb⟩
      · exact hnp hp
      · have hi : i < σ.length := (List.getElem?_eq_some_iff.1 ho).1
        refine hnl i ⟨o, ?_, hol⟩ ?_
        · simp only [jm]
          rw [List.getElem?_append_left (by simpa using hi), List.getElem?_map, List.getElem?_zipIdx, ho]
          simp [hp]
        · rw [mergeβ, List.getElem?_append_left (by rw [I.len]; exact hi)]; exact hb
    · obtain ⟨oc, hoc, hl⟩ := hk
      obtain ⟨p, h1, h2, h3⟩ := merge_of I h Ic E hoc
      exact hnl p ⟨_, h2, by rw [renO_back_live]; exact hl⟩ (by rw [h3]; exact hb)
  · rintro ⟨⟨hlt, hnp⟩, hnl⟩
    refine ⟨⟨hlt, fun hp => hnp (.inl hp)⟩, fun p hp hb => ?_⟩
    obtain ⟨o, ho, hl⟩ := hp
    rcases merge_at I h Ic E ho with ⟨h1, h2, h3⟩ | ⟨k, oc, h1, h2, rfl, h3⟩
    · exact hnp (.inr ⟨p, ⟨o, h2, hl⟩, h1, by rw [← h3]; exact hb⟩)
    · exact hnl k ⟨oc, h2, by rw [← renO_back_live (ids := ids) σ.length]; exact hl⟩ (by rw [← h3]; exact hb)

theorem merge_maps (I : Inv pr w σ β) (h : xh σ ids = true) (Ic : Inv (subPr pr σ β ids) w' σc βc) (E : Evo (subPr pr σ β ids) w (wl σ ids) (subβ β ids) w' σc βc) : MapsTo (xi σ.length ids) βc (mergeβ β ids βc) := fun k p b hp hb => by
  have hk : k < σc.length := by rw [← Ic.len]; exact (List.getElem?_eq_some_iff.1 hb).1
  obtain ⟨p', h1, _, h3⟩ := merge_of I h Ic E (List.getElem?_eq_getElem hk)
  rw [h1] at hp
  simp only [Option.some.injEq] at hp
  subst hp
  rw [h3, hb]

/-- BEHIND A CALL. -/
theorem Inv.merge (I : Inv pr w σ β) (h : xh σ ids = true) (Ic : Inv (subPr pr σ β ids) w' σc βc) (E : Evo (subPr pr σ β ids) w (wl σ ids) (subβ β ids) w' σc βc) :
    Inv pr w' (jm σ ids σc) (mergeβ β ids βc) ∧ Evo pr w σ β w' (jm σ ids σc) (mergeβ β ids βc) := by
  have hstc := fun b => sub_st I h b
  have hst := fun b => merge_st I h Ic E b
  have L : Later w (stOf pr w σ β) w' (stOf pr w' (jm σ ids σc) (mergeβ β ids βc)) :=
    ⟨fun b hb => (hst b).2 (E.later.sub b ((hstc b).2 hb)), fun b hb => E.later.same b ((hstc b).2 hb)⟩
  -- every block of before keeps its size
  have hcs : ∀ b, b < w.heap.size → csize w' b = csize w b := by
    intro b hb
    by_cases h1 : subPr pr σ β ids b
    · exact csize_same (E.prot b h1)
    · by_cases h2 : ∃ k, liveAt (wl σ ids) k ∧ (subβ β ids)[k]? = some b
      · obtain ⟨k, _, hk⟩ := h2
        exact E.onto.size k b hk
      · exact csize_same (E.later.same b ⟨⟨hb, h1⟩, fun k hk he => h2 ⟨k, hk, he⟩⟩)
  have B : Onto w β w' (mergeβ β ids βc) := ⟨fun o b hb => by rw [mergeβ, List.getElem?_append_left (List.getElem?_eq_some_iff.1 hb).1]; exact hb, fun o b hb => hcs b (I.lt o b hb)⟩
  have hor : ∀ (p b : Nat), (mergeβ β ids βc)[p]? = some b → ∃ o, (jm σ ids σc)[p]? = some o := by
    intro p b hb
    have hlen : (mergeβ β ids βc).length = (jm σ ids σc).length := by simp [mergeβ, jm, I.len, Ic.len]
    have hp : p < (jm σ ids σc).length := by rw [← hlen]; exact (List.getElem?_eq_some_iff.1 hb).1
    exact ⟨_, List.getElem?_eq_getElem hp⟩
  refine ⟨⟨fun b hb => Nat.lt_of_lt_of_le (I.prt b hb) E.size, fun p b hp hb => ?_, by simp [mergeβ, jm, I.len, Ic.len], fun p b hb => ?_, fun p q b hp hq hpb hqb => ?_, fun p o b ho hb => ?_⟩,
    ⟨E.os, E.tape, E.output, E.size, fun b hb => E.prot b (.inl hb), L, B⟩⟩
  · obtain ⟨o, ho, hl⟩ := hp
    rcases merge_at I h Ic E ho with ⟨h1, h2, h3⟩ | ⟨k, oc, h1, h2, rfl, h3⟩
    · exact I.npr p b ⟨o, h2, hl⟩ (by rw [← h3]; exact hb)
    · exact fun hpr => Ic.npr k b ⟨oc, h2, by rw [← renO_back_live (ids := ids) σ.length]; exact hl⟩ (by rw [← h3]; exact hb) (.inl hpr)
  · obtain ⟨o, ho⟩ := hor p b hb
    rcases merge_at I h Ic E ho with ⟨h1, h2, h3⟩ | ⟨k, oc, h1, h2, rfl, h3⟩
    · exact Nat.lt_of_lt_of_le (I.lt p b (by rw [← h3]; exact hb)) E.size
    · exact Ic.lt k b (by rw [← h3]; exact hb)
  · obtain ⟨o, ho, hl⟩ := hp
    obtain ⟨o', ho', hl'⟩ := hq
    rcases merge_at I h Ic E ho with ⟨h1, h2, h3⟩ | ⟨k, oc, h1, h2, rfl, h3⟩ <;> rcases merge_at I h Ic E ho' with ⟨g1, g2, g3⟩ | ⟨k', oc', g1, g2, rfl, g3⟩
    · exact I.inj p q b ⟨o, h2, hl⟩ ⟨o', g2, hl'⟩ (by rw [← h3]; exact hpb) (by rw [← g3]; exact hqb)
    · exact absurd (.inr ⟨p, ⟨o, h2, hl⟩, h1, by rw [← h3]; exact hpb⟩) (Ic.npr k' b ⟨oc', g2, by rw [← renO_back_live (ids := ids) σ.length]; exact hl'⟩ (by rw [← g3]; exact hqb))
    · exact absurd (.inr ⟨q, ⟨o', g2, hl'⟩, g1, by rw [← g3]; exact hqb⟩) (Ic.npr k b ⟨oc, h2, by rw [← renO_back_live (ids := ids) σ.length]; exact hl⟩ (by rw [← h3]; exact hpb))
    · have := Ic.inj k k' b ⟨oc, h2, by rw [← renO_back_live (ids := ids) σ.length]; exact hl⟩ ⟨oc', g2, by rw [← renO_back_live (ids := ids) σ.length]; exact hl'⟩ (by rw [← h3]; exact hpb) (by rw [← g3]; exact hqb)
      subst this
      rw [h1] at g1
      exact Option.some.inj g1
  · rcases merge_at I h Ic E ho with ⟨h1, h2, h3⟩ | ⟨k, oc, h1, h2, rfl, h3⟩
    · have hb' : β[p]? = some b := by rw [← h3]; exact hb
      have h0 := I.holds p o b h2 hb'
      cases hol : o.live with
      | true => exact Holds.later L B (E.prot b (.inr ⟨p, ⟨o, h2, hol⟩, h1, hb'⟩)) h0
      | false =>
        cases o with
        | gone => trivial
        | fz sz es => exact Holds.later L B (L.same b h0.1) h0
        | fzb cs => exact Holds.later L B (L.same b h0.1) h0
        | _ => cases hol
    · have h0 := Ic.holds k oc b h2 (by rw [← h3]; exact hb)
      have h1' := Holds.later (w' := w') (st' := stOf pr w' (jm σ ids σc) (mergeβ β ids βc)) (β' := βc) ⟨fun b hb => (hst b).2 hb, fun _ _ => rfl⟩ (Onto.refl w' βc) rfl h0
      exact Holds.ren (merge_maps I h Ic E) h1'

theorem GV.merge (I : Inv pr w σ β) (h : xh σ ids = true) (Ic : Inv (subPr pr σ β ids) w' σc βc) (E : Evo (subPr pr σ β ids) w (wl σ ids) (subβ β ids) w' σc βc) {x : AV} {v : Value}
    (hx : GV w' (stOf (subPr pr σ β ids) w' σc βc) βc x v) : GV w' (stOf pr w' (jm σ ids σc) (mergeβ β ids βc)) (mergeβ β ids βc) (Eng.ren (xi σ.length ids) x) v :=
  GV.ren (merge_maps I h Ic E) x v (GV.later (w' := w') (β' := βc) ⟨fun b hb => (merge_st I h Ic E b).2 hb, fun _ _ => rfl⟩ (Onto.refl w' βc) x v hx)
end
end Go.Proofs.YtblejchodicaoaaGreatDoor.Eng

/-
  THE ENGINE, part L: an operation that acts; the state of an activation. Program-independent. Own work.
-/
namespace Go.Proofs.YtblejchodicaoaaGreatDoor.Eng
open Go Go.RowKit

def isMapT (P : Program) (t : TypeId) : Bool := match P.underlying t with | some (.map _ _) => true | _ => false

/-- An operation that acts (or reads): its value, and the store behind it. -/
def x8 (P : Program) (σ : List AObj) (ev : Bool → Operand → AV) (o : Oper) : Option (AV × List AObj) :=
  match o.op with
  | .alloc t => (zeroT P t).map fun cs => (.ptr σ.length 0, σ ++ [.box cs t])
  | .box t x => (je (ev true x)).map fun cs => (.ptr σ.length 0, σ ++ [.box cs t])
  | .buildSlice t len parts => zi P σ t len (parts.toList.map fun p => (p.1, ev true p.2))
  | .store t a x => (jq P σ t (ev true a) (ev true x)).map fun σ' => (.any, σ')
  | .convert s d x => match ym P s d (ev true x) with
    | some y => some (y, σ)
    | none => (j6 P σ ev o).map fun y => (y, σ)
  | .makeMap _ none => some (.map σ.length, σ ++ [.amap []])
  | .makeMap t (some r) => match ev true r with
    | .d (.int _ _) => if isMapT P t then some (.map σ.length, σ ++ [.amap []]) else none
    | _ => none
  | .mapUpdate t m k x | .insert t m k x => (y8 P σ t (ev true m) (ev true k) (ev true x)).map fun σ' => (.any, σ')
  | .call { callee := .builtin b, args, argTypes } => match b, args.toList, argTypes.toList with
    | .append, [s, x], [t, t'] => ja P σ t t' (ev true s) (ev true x)
    | .unsafeString, [p, n], [pt, _] => y9 P σ pt (ev true p) (ev true n)
    | _, _, _ => (j6 P σ ev o).map fun y => (y, σ)
  | .makeInterface t x => if P.concrete t then match wu σ [ev true x] with
    | some ([y], σ') => some (.d (.iface t y), σ')
    | _ => none else none
  | _ => (j6 P σ ev o).map fun y => (y, σ)

/-- What it does. -/
def ActOk (pr : Nat → Prop) (P : Program) (β : List Nat) (w : World) (σ : List AObj) (s : Sem Next) (y : AV) (σ' : List AObj) : Prop :=
  ∃ u w' β', (s.run P w = .ok (.value u) w' ∨ (s.run P w = .ok .skip w' ∧ u = undef)) ∧ Inv pr w' σ' β' ∧ Evo pr w σ β w' σ' β' ∧ GV w' (stOf pr w' σ' β') β' y u

section
variable {pr : Nat → Prop} {P : Program} {w : World} {β : List Nat}

theorem ActOk.of_acts {σ σ' : List AObj} {s : Sem Value} {y : AV} (h : Acts pr P β w σ s y σ') {t : Sem Next} (ht : t = (do pure (.value (← s)))) : ActOk pr P β w σ t y σ' := by
  obtain ⟨u, w', β', hr, h1, h2, h3⟩ := h.run
  refine ⟨u, w', β', .inl ?_, h1, h2, h3⟩
  subst ht
  simp [hr, Result.andThen]

theorem aact_sound {σ σ' : List AObj} (I : Inv pr w σ β) {ev : Bool → Operand → AV} {a : Act} (hE : ∀ t x, t = true → GV w (stOf pr w σ β) β (ev t x) (a.eval x)) {o : Oper} {y : AV} (h : x8 P σ ev o = some (y, σ')) :
    ActOk pr P β w σ (execOp a.eval o) y σ' := by
  have hread : (j6 P σ ev o).map (fun y => (y, σ)) = some (y, σ') → ActOk pr P β w σ (execOp a.eval o) y σ' := fun h => by
    simp only [Option.map_eq_some_iff, Prod.mk.injEq] at h
    obtain ⟨y', hy, rfl, rfl⟩ := h
    obtain ⟨u, hu, hg⟩ := aread_sound I hE hy
    exact ⟨u, w, β, .inl hu, I, Evo.refl _ _ _, hg⟩
  unfold x8 at h
  split at h
  · rename_i t ho
    simp only [Option.map_eq_some_iff, Prod.mk.injEq] at h
    obtain ⟨cs, hz, rfl, rfl⟩ := h
    exact .of_acts (alloc_acts I hz) (by simp [execOp, ho])
  · rename_i t x ho
    simp only [Option.map_eq_some_iff, Prod.mk.injEq] at h
    obtain ⟨cs, hc, rfl, rfl⟩ := h
    exact .of_acts (box_acts I (hE true x rfl) hc) (by simp [execOp, ho])
  · rename_i t len parts ho
    refine .of_acts (buildSlice_acts I (vparts := parts.map fun p => (p.1, a.eval p.2)) (by simp [Function.comp_def]) ?_ h) (by simp [execOp, ho])
    have := GVl.map (w := w) (st := stOf pr w σ β) (β := β) hE (parts.toList.map (·.2))
    simpa [Function.comp_def] using this
  · rename_i t x z ho
    simp only [Option.map_eq_some_iff, Prod.mk.injEq] at h
    obtain ⟨σ'', hs, rfl, rfl⟩ := h
    obtain ⟨w', β', hr, h1, h2⟩ := astore_sound (P := P) I (hE true x rfl) (hE true z rfl) hs
    exact ⟨undef, w', β', .inr ⟨by simp [execOp, ho, hr, Result.andThen], rfl⟩, h1, h2, GV_any _⟩
  · rename_i s d x ho
    split at h
    · rename_i y' hb
      simp only [Option.some.injEq, Prod.mk.injEq] at h
      obtain ⟨rfl, rfl⟩ := h
      exact .of_acts (abytesOf_acts I (hE true x rfl) hb) (by simp [execOp, ho])
    · exact hread h
  · rename_i t ho
    simp only [Option.some.injEq, Prod.mk.injEq] at h
    obtain ⟨rfl, rfl⟩ := h
    obtain ⟨I', E', hg⟩ := newMap I
    exact ⟨_, _, _, .inl (by simp [execOp, ho, run_makeMap]), I', E', hg⟩
  · rename_i t r ho
    split at h
    · rename_i k n hr
      split at h
      · rename_i hm
        simp only [Option.some.injEq, Prod.mk.injEq] at h
        obtain ⟨rfl, rfl⟩ := h
        obtain ⟨I', E', hg⟩ := newMap I
        have hv := hE true r rfl
        rw [hr] at hv
        simp only [GV, GD] at hv
        unfold isMapT at hm
        split at hm
        · rename_i kt et hu
          exact ⟨_, _, _, .inl (by simp [execOp, ho, Instr.makeMap, run_underlying hu, hv, asInt, asIntOf, Sem.run_bind, Result.andThen, run_newObj_alloc]), I', E', hg⟩
        · cases hm
      · cases h
    · cases h
  · rename_i t m k x ho
    simp only [Option.map_eq_some_iff, Prod.mk.injEq] at h
    obtain ⟨σ'', hs, rfl, rfl⟩ := h
    obtain ⟨w', hr, h1, h2⟩ := amapSet_sound (P := P) I (hE true m rfl) (hE true k rfl) (hE true x rfl) hs
    exact ⟨undef, w', β, .inr ⟨by simp [execOp, ho, hr, Result.andThen], rfl⟩, h1, h2, GV_any _⟩
  · rename_i t m k x ho
    simp only [Option.map_eq_some_iff, Prod.mk.injEq] at h
    obtain ⟨σ'', hs, rfl, rfl⟩ := h
    obtain ⟨w', hr, h1, h2⟩ := amapSet_sound (P := P) I (hE true m rfl) (hE true k rfl) (hE true x rfl) hs
    exact ⟨undef, w', β, .inr ⟨by simp [execOp, ho, hr, Result.andThen], rfl⟩, h1, h2, GV_any _⟩
  · rename_i b args argTypes ho
    split at h
    · rename_i s x t t' h1 h2
      have e1 : args = #[s, x] := by rw [← Array.toArray_toList (xs := args), h1]
      have e2 : argTypes = #[t, t'] := by rw [← Array.toArray_toList (xs := argTypes), h2]
      refine .of_acts (aappend_sound I (ty := o.type) (hE true s rfl) (hE true x rfl) h) ?_
      simp [execOp, ho, resolve, invoke, builtin, e1, e2]
    · rename_i p n pt it h1 h2
      have e1 : args = #[p, n] := by rw [← Array.toArray_toList (xs := args), h1]
      have e2 : argTypes = #[pt, it] := by rw [← Array.toArray_toList (xs := argTypes), h2]
      obtain ⟨u, w', hu, I', E', hg⟩ := astring_sound (P := P) I (it := it) (ty := o.type) (hE true p rfl) (hE true n rfl) h
      exact ⟨u, w', β, .inl (by simp [execOp, ho, resolve, invoke, builtin, e1, e2, hu]), I', E', hg⟩
    · exact hread h
  · rename_i t x ho
    split at h
    · rename_i hc
      split at h
      · rename_i d σ1 hf
        simp only [Option.some.injEq, Prod.mk.injEq] at h
        obtain ⟨rfl, rfl⟩ := h
        obtain ⟨hok, hv⟩ := frzs_sound I hf
        have hd := hv [a.eval x] (by simp only [GVl]; exact ⟨_, _, rfl, hE true x rfl, rfl⟩)
        simp only [GDl, List.cons.injEq] at hd
        obtain ⟨v, r, ⟨rfl, rfl⟩, hd, _⟩ := hd
        refine ⟨.iface t (a.eval x), w, β, .inl ?_, hok.inv, hok.evo, ?_⟩
        · simp [execOp, ho, run_makeInterface w t (a.eval x) hc]
        · simp only [GV, GD]
          exact ⟨_, rfl, hd⟩
      · cases h
    · cases h
  · exact hread h

end

/-- Operations that read no object. -/
def jv : Op → Bool
  | .move _ | .assign _ | .pick .. | .nilCheck _ | .binOp .. | .unOp .. | .makeFunc .. | .fieldAddr .. | .field .. | .indexAddr .. | .index .. | .slice .. | .extract .. | .build .. => true
  | _ => false
/-- Operations that leave the objects as they are. -/
def jw : Op → Bool
  | .load .. | .convert .. | .lookup .. | .typeAssert .. | .makeInterface .. => true
  | .call { callee := .builtin b, .. } => match b with
    | .len | .cap | .max | .min | .unsafeSliceData => true
    | _ => false
  | _ => false
/-- What is done though it may not be wanted: nothing but a value comes of it. -/
def ww (g : Option (Nat × Bool)) (w : Bool) (y : AV) : AV := match g with | none => y | some _ => .opt w y

/-! ### The state of an activation -/
structure St where
  env : Env
  σ : List AObj
  dfs : List Nat
  deriving Inhabited

def wb : Env → Nat → AV → Env
  | [], d, y => [(d, y)]
  | (t, x) :: r, d, y => if d < t then (d, y) :: (t, x) :: r else if d = t then (d, y) :: r else (t, x) :: wb r d y

theorem aput_lookup : ∀ (env : Env) (d t : Nat) (y : AV), (wb env d y).lookup t = if t = d then some y else env.lookup t
  | [], d, t, y => by
    simp only [wb, List.lookup_cons, List.lookup_nil]
    by_cases h : t = d
    · simp [h]
    · have : (t == d) = false := by simpa using h
      simp [h, this]
  | (s, x) :: r, d, t, y => by
    simp only [wb]
    split
    · simp only [List.lookup_cons]
      by_cases h : t = d
      · simp [h]
      · have : (t == d) = false := by simpa using h
        simp [h, this]
    · split
      · rename_i h1 h2
        subst h2
        simp only [List.lookup_cons]
        by_cases h : t = d
        · simp [h]
        · have : (t == d) = false := by simpa using h
          simp [h, this]
      · rename_i h1 h2
        simp only [List.lookup_cons, aput_lookup r d t y]
        by_cases h : t = s
        · subst h
          have : t ≠ d := fun e => h2 e.symm
          simp [this]
        · have : (t == s) = false := by simpa using h
          simp [this]

def GMarks (β : List Nat) : List Nat → List Deferred → Prop
  | [], ds => ds = []
  | i :: r, ds => ∃ b l, ds = { target := .collected b, args := #[] } :: l ∧ β[i]? = some b ∧ GMarks β r l

theorem GMarks.onto {w w' : World} {β β' : List Nat} (B : Onto w β w' β') : ∀ {l : List Nat} {ds : List Deferred}, GMarks β l ds → GMarks β' l ds
  | [], ds, h => h
  | i :: r, ds, h => by
    obtain ⟨b, l, h1, h2, h3⟩ := h
    exact ⟨b, l, h1, B.at_ _ _ h2, GMarks.onto B h3⟩

/-- WHERE AN ACTIVATION IS, since it (or its round) began at (w0, σ0, β0). -/
structure At (pr : Nat → Prop) (w0 : World) (σ0 : List AObj) (β0 : List Nat) (n : Nat) (s : St) (a : Act) (w : World) (β : List Nat) : Prop where
  inv : Inv pr w s.σ β
  evo : Evo pr w0 σ0 β0 w s.σ β
  size : a.tmps.size = n
  env : GEnv w (stOf pr w s.σ β) β s.env a.tmps
  dfs : GMarks β s.dfs a.defers

theorem undef_tup {w : World} {st : Nat → Prop} {β : List Nat} : GV w st β (.tup []) undef := by
  simp only [GV, GVl]
  exact ⟨[], rfl, rfl⟩

theorem GEnv.put {w : World} {st : Nat → Prop} {β : List Nat} {env : Env} {a : Act} (h : GEnv w st β env a.tmps) {d : Nat} {y : AV} {v : Value} (hd : d < a.tmps.size) (hg : d < j3) (hy : GV w st β y v) :
    GEnv w st β (wb env d y) (a.put (some d) v).tmps := fun t x hx => by
  rw [aput_lookup] at hx
  simp only [Act.put, Array.size_setIfInBounds]
  split at hx
  · rename_i e
    subst e
    cases hx
    refine ⟨fun _ => hd, ?_⟩
    rw [tget_tmp hg, Array.getD_eq_getD_getElem?, Array.getElem?_setIfInBounds_self_of_lt hd]
    exact hy
  · rename_i e
    obtain ⟨h1, h2⟩ := h t x hx
    refine ⟨h1, ?_⟩
    unfold tget at h2 ⊢
    split
    · rename_i ht
      rw [if_pos ht] at h2
      rw [Array.getD_eq_getD_getElem?, Array.getElem?_setIfInBounds_ne (fun he => e he.symm), ← Array.getD_eq_getD_getElem?]
      exact h2
    · rename_i ht
      rw [if_neg ht] at h2
      exact h2

/-- Into which temporary, if any: there must be such a one. -/
def j5 (n : Nat) (env : Env) (dst : Option Tmp) (y : AV) : Option Env :=
  match dst with
  | none => some env
  | some d => if d < n ∧ d < j3 then some (wb env d y) else none

section
variable {pr : Nat → Prop} {P : Program} {w0 w : World} {σ0 : List AObj} {β0 β : List Nat} {n : Nat}

/-- An operation's value is put. -/
theorem At.put {s : St} {a : Act} (h : At pr w0 σ0 β0 n s a w β) {w' : World} {σ' : List AObj} {β' : List Nat} {dst : Option Tmp} {y : AV} {v : Value} {env' : Env}
    (I : Inv pr w' σ' β') (E : Evo pr w s.σ β w' σ' β') (hy : GV w' (stOf pr w' σ' β') β' y v) (he : j5 n s.env dst y = some env') :
    At pr w0 σ0 β0 n { s with env := env', σ := σ' } (a.put dst v) w' β' := by
  have hE := GEnv.later E.later E.onto h.env
  refine ⟨I, h.evo.trans E, ?_, ?_, ?_⟩
  · cases dst with
    | none => exact h.size
    | some d => simp [Act.put, h.size]
  · cases dst with
    | none =>
      simp only [j5, Option.some.injEq] at he
      subst he
      exact hE
    | some d =>
      simp only [j5] at he
      split at he
      · rename_i hd
        simp only [Option.some.injEq] at he
        subst he
        exact hE.put (by rw [h.size]; exact hd.1) hd.2 hy
      · cases he
  · have := GMarks.onto E.onto h.dfs
    cases dst <;> exact this

/-! ### Guards -/
/-- What operation j of the region has yielded: a boolean, or none; none: not known. -/
def jd (n : Nat) (env : Env) (ops : Array Oper) (j : Nat) : Option (Option Bool) :=
  match (ops[j]?).bind (·.dst) with
  | none => some none
  | some d => if d < n ∧ d < j3 then match env.lookup d with
    | some (.d (.bool b)) => some (some b)
    | some (.tup _) => some none
    | some (.d (.int _ _)) => some none
    | some (.d (.str _)) => some none
    | some (.opt c (.d (.bool b))) => some (if c = true then some b else none)
    | some (.opt _ (.d (.int _ _))) => some none
    | some (.opt _ (.d (.str _))) => some none
    | some (.opt _ (.tup _)) => some none
    | _ => none else none

theorem ayield_sound {st : Nat → Prop} {env : Env} {tmps : Array Value} (h : GEnv w st β env tmps) {ops : Array Oper} {j : Nat} {r : Option Bool} (hy : jd tmps.size env ops j = some r) : yielded ops tmps j = r := by
  unfold jd at hy
  unfold yielded
  split at hy
  · rename_i e
    simp only [Option.some.injEq] at hy
    simp [e, hy]
  · rename_i d e
    split at hy
    · rename_i hd
      have ht : tmps[d]? = some (tmps.getD d undef) := by simp [Array.getD_eq_getD_getElem?, hd.1]
      simp only [e, Option.bind_some, ht]
      split at hy <;> simp only [Option.some.injEq, reduceCtorEq] at hy <;> subst hy <;> rename_i x hx <;> have hg := (h _ _ hx).2 <;> rw [tget_tmp hd.2] at hg <;> simp only [GV, GD, sval] at hg
      · simp [hg]
      · obtain ⟨vs, hv, _⟩ := hg
        simp [hv]
      · simp [hg]
      · simp [hg]
      · rename_i c
        cases c
        · simp [hg.2 rfl]
        · simp [hg.1 rfl]
      · rename_i c _
        cases c
        · simp [hg.2 rfl]
        · simp [hg.1 rfl]
      · rename_i c
        cases c
        · simp [hg.2 rfl]
        · simp [hg.1 rfl]
      · rename_i c
        cases c
        · simp [hg.2 rfl]
        · obtain ⟨vs, hv, _⟩ := hg.1 rfl
          simp [hv]
    · cases hy

def yq (n : Nat) (env : Env) (ops : Array Oper) (o : Oper) : Option Bool :=
  match o.guard with
  | none => some true
  | some (j, want) => (jd n env ops j).map fun r => r == some want

theorem awanted_sound {st : Nat → Prop} {env : Env} {tmps : Array Value} (h : GEnv w st β env tmps) {ops : Array Oper} {o : Oper} {b : Bool} (hy : yq tmps.size env ops o = some b) : Region.wanted o (yielded ops tmps) = b := by
  unfold yq at hy
  unfold Region.wanted
  split at hy
  · rename_i e
    simp only [Option.some.injEq] at hy
    simp [e, hy]
  · rename_i j want e
    simp only [Option.map_eq_some_iff] at hy
    obtain ⟨r, h1, h2⟩ := hy
    simp [e, ayield_sound h h1, h2]

end
end Go.Proofs.YtblejchodicaoaaGreatDoor.Eng

/-
  THE ENGINE, part M: calls by an oracle; the operations of a region, in text order. Program-independent. Own work.
-/
namespace Go.Proofs.YtblejchodicaoaaGreatDoor.Eng
open Go Go.RowKit

/-- How a call ends. -/
inductive Out where
  | ret (x : AV)
  | pan (x : AV)
  deriving Inhabited

abbrev Oracle := FuncId → List AV → List AObj → Option (Out × List AObj)

def GOut (w : World) (st : Nat → Prop) (β : List Nat) : Out → Ending → Prop
  | .ret x, .returned v => GV w st β x v
  | .pan x, .panicked chain => ∃ v, chain = [{ v, recovered := false }] ∧ GV w st β x v
  | _, _ => False

/-- What is known of the package's variables. -/
abbrev Globs := List (Nat × List D)
def GG (w : World) (st : Nat → Prop) (G : Globs) : Prop := ∀ g cs, (g, cs) ∈ G → st g ∧ GDs w st cs g 0 ∧ csize w g = cs.length
theorem GG.later {w w' : World} {st st' : Nat → Prop} (L : Later w st w' st') {G : Globs} (h : GG w st G) : GG w' st' G := fun g cs hm => ⟨L.sub g (h g cs hm).1, GDs.later L cs g 0 (L.same g (h g cs hm).1) (h g cs hm).2.1, (csize_same (L.same g (h g cs hm).1)).trans (h g cs hm).2.2⟩

/-- WHAT A CALL OF f AT THESE ARGUMENTS AND OBJECTS COMES TO, in whatever world. -/
def Meets (P : Program) (G : Globs) (f : FuncId) (args : List AV) (σ : List AObj) (out : Out) (σ' : List AObj) : Prop :=
  ∀ (pr : Nat → Prop) (w : World) (β : List Nat) (vs : List Value), Inv pr w σ β → GG w (stOf pr w σ β) G → GVl w (stOf pr w σ β) β args vs →
    Calls P f vs.toArray w fun e w' => ∃ β', Inv pr w' σ' β' ∧ Evo pr w σ β w' σ' β' ∧ GOut w' (stOf pr w' σ' β') β' out e

/-- The number under which a loop's rounds are asked for: no function's. -/
def yId : Nat := 1099511627776
/-- WHAT A CALL OF A LOOP's yield COMES TO: a round of the loop. -/
def YMeets (P : Program) (G : Globs) (args : List AV) (σ : List AObj) (out : Out) (σ' : List AObj) : Prop :=
  ∃ o xs b, args = .yld o :: xs ∧ out = .ret (.d (.bool b)) ∧ ∀ (pr : Nat → Prop) (w : World) (β : List Nat) (vs : List Value) (bl : Nat), Inv pr w σ β → GG w (stOf pr w σ β) G → GVl w (stOf pr w σ β) β xs vs → β[o]? = some bl →
    ∃ r : Loop, w.heap[bl]? = some (.loop r) ∧ vs.length = r.params.size ∧
      RoundIn Fence.wide 0 P bl r.fn ((r.params.zip vs.toArray).foldl (fun tmps (t, a) => tmps.setIfInBounds t a) r.tmps) r.assign r.body w fun e w' => ∃ β', Inv pr w' σ' β' ∧ Evo pr w σ β w' σ' β' ∧ e = .returned (.bool b)
/-- WHAT A CALL OF A FUNCTION WITHOUT A BODY COMES TO. -/
def XMeets (P : Program) (G : Globs) (g : FuncId) (args : List AV) (σ : List AObj) (out : Out) (σ' : List AObj) : Prop :=
  ∃ y, out = .ret y ∧ ∀ (pr : Nat → Prop) (w : World) (β : List Nat) (vs : List Value), Inv pr w σ β → GG w (stOf pr w σ β) G → GVl w (stOf pr w σ β) β args vs →
    ∃ u w' β', (callFunc g vs.toArray).run P w = .ok (.value u) w' ∧ Inv pr w' σ' β' ∧ Evo pr w σ β w' σ' β' ∧ GV w' (stOf pr w' σ' β') β' y u
/-- The number under which a function without a body is asked for. -/
def xId (g : Nat) : Nat := yId + 1 + g
theorem xId_ne (g : Nat) : xId g ≠ yId := by unfold xId; omega
theorem xId_lt (g : Nat) : yId < xId g := by unfold xId; omega
theorem xId_sub (g : Nat) : xId g - yId - 1 = g := by unfold xId; omega
theorem xId_of {f : Nat} (h : yId < f) : ∃ g, f = xId g := ⟨f - yId - 1, by unfold xId; omega⟩
theorem lt_yId {f : Nat} (h1 : f ≠ yId) (h2 : ¬ yId < f) : f < yId := by omega
def MeetsAt (P : Program) (G : Globs) (f : FuncId) (args : List AV) (σ : List AObj) (out : Out) (σ' : List AObj) : Prop := if f = yId then YMeets P G args σ out σ' else if yId < f then XMeets P G (f - yId - 1) args σ out σ' else Meets P G f args σ out σ'
theorem MeetsAt.fn {P : Program} {G : Globs} {f : FuncId} {args : List AV} {σ σ' : List AObj} {out : Out} (h : MeetsAt P G f args σ out σ') (hf : f < yId) : Meets P G f args σ out σ' := by simpa only [MeetsAt, if_neg (Nat.ne_of_lt hf), if_neg (Nat.lt_asymm hf)] using h
theorem MeetsAt.yld {P : Program} {G : Globs} {args : List AV} {σ σ' : List AObj} {out : Out} (h : MeetsAt P G yId args σ out σ') : YMeets P G args σ out σ' := by simpa only [MeetsAt, if_true] using h
theorem MeetsAt.ext {P : Program} {G : Globs} {g : FuncId} {args : List AV} {σ σ' : List AObj} {out : Out} (h : MeetsAt P G (xId g) args σ out σ') : XMeets P G g args σ out σ' := by
  have h1 := xId_ne g
  have h2 := xId_lt g
  have h3 := xId_sub g
  simpa only [MeetsAt, if_neg h1, if_pos h2, h3] using h

def COk (P : Program) (G : Globs) (C : Oracle) : Prop := ∀ f args σ out σ', C f args σ = some (out, σ') → MeetsAt P G f args σ out σ'

/-! ### What is handed over -/
mutual
def xg : AV → List Nat
  | .ptr o _ | .eptr o _ _ _ | .sl o _ _ _ | .map o | .obj o | .yld o => [o]
  | .fn _ first cap => jl first ++ jl cap
  | .agg cs | .tup cs => jl cs
  | .any | .d _ | .cap0 _ | .pany => []
  | .opt _ x => xg x
def jl : List AV → List Nat
  | [] => []
  | x :: r => xg x ++ jl r
end
def wj : AObj → List Nat
  | .box cs _ => jl cs
  | .amap es => jl (es.map (·.2))
  | .loop env _ _ _ _ _ _ d => d :: jl (env.map (·.2))
  | _ => []
def xf (σ : List AObj) : Nat → List Nat → List Nat → List Nat
  | 0, _, seen => seen
  | _, [], seen => seen
  | n + 1, i :: r, seen => if seen.contains i then xf σ n r seen else xf σ n (wj (σ.getD i .gone) ++ r) (seen ++ [i])

def Out.ren (m : Nat → Option Nat) : Out → Out
  | .ret x => .ret (Eng.ren m x)
  | .pan x => .pan (Eng.ren m x)

/-- A call, with what it can come to, and nothing else. -/
def xe (C : Oracle) (σ : List AObj) (f : FuncId) (args : List AV) : Option (Out × List AObj) :=
  let ids := xf σ 4096 (jl args) []
  if xh σ ids then (C f (wn (pos ids) args) (wl σ ids)).map fun r => (r.1.ren (xi σ.length ids), jm σ ids r.2) else none

theorem ren_yld {m : Nat → Option Nat} {x : AV} {p : Nat} (h : Eng.ren m x = .yld p) : ∃ o, x = .yld o ∧ m o = some p := by
  cases x <;> simp only [Eng.ren] at h <;> try cases h
  all_goals split at h <;> cases h
  exact ⟨_, rfl, by assumption⟩

theorem acall_sound {P : Program} {G : Globs} {C : Oracle} (hC : COk P G C) {σ σ' : List AObj} {f : FuncId} {args : List AV} {out : Out} (h : xe C σ f args = some (out, σ')) : MeetsAt P G f args σ out σ' := by
  unfold xe at h
  simp only at h
  split at h
  rotate_left
  · cases h
  rename_i hs
  simp only [Option.map_eq_some_iff, Prod.mk.injEq] at h
  obtain ⟨⟨out', σc⟩, hc, rfl, rfl⟩ := h
  have hm := hC _ _ _ _ _ hc
  by_cases hf : f = yId
  · subst hf
    obtain ⟨p, xs, b, ha, ho, H⟩ := hm.yld
    simp only [MeetsAt, if_true]
    cases args with
    | nil => simp [wn] at ha
    | cons x ys =>
      simp only [wn, List.cons.injEq] at ha
      obtain ⟨hx, rfl⟩ := ha
      obtain ⟨o, rfl, hp⟩ := ren_yld hx
      subst ho
      refine ⟨o, ys, b, rfl, by simp [Out.ren, Eng.ren], fun pr w β vs bl I hGG hg hbl => ?_⟩
      obtain ⟨r, h1, h2, h3⟩ := H _ w _ vs bl (I.sub hs) (hGG.later ⟨fun b hb => (sub_st I hs b).2 hb, fun _ _ => rfl⟩) (GVl.sub I hs hg) (sub_maps I hs o p bl hp hbl)
      refine ⟨r, h1, h2, RoundIn.mono h3 fun e w' he => ?_⟩
      obtain ⟨βc, Ic, E, hb⟩ := he
      obtain ⟨I', E'⟩ := I.merge hs Ic E
      exact ⟨_, I', E', hb⟩
  by_cases hfx : yId < f
  · obtain ⟨g, rfl⟩ := xId_of hfx
    obtain ⟨y, hy, H⟩ := hm.ext
    subst hy
    have h3 := xId_sub g
    simp only [MeetsAt, if_neg hf, if_pos hfx, h3]
    refine ⟨_, rfl, fun pr w β vs I hGG hg => ?_⟩
    obtain ⟨u, w', βc, hr, Ic, E, hu⟩ := H _ w _ vs (I.sub hs) (hGG.later ⟨fun b hb => (sub_st I hs b).2 hb, fun _ _ => rfl⟩) (GVl.sub I hs hg)
    obtain ⟨I', E'⟩ := I.merge hs Ic E
    exact ⟨u, w', _, hr, I', E', GV.merge I hs Ic E hu⟩
  · have hlt : f < yId := lt_yId hf hfx
    simp only [MeetsAt, if_neg hf, if_neg hfx]
    intro pr w β vs I hGG hg
    refine Calls.mono (hm.fn hlt _ w _ vs (I.sub hs) (hGG.later ⟨fun b hb => (sub_st I hs b).2 hb, fun _ _ => rfl⟩) (GVl.sub I hs hg)) fun e w' he => ?_
    obtain ⟨βc, Ic, E, ho⟩ := he
    obtain ⟨I', E'⟩ := I.merge hs Ic E
    refine ⟨_, I', E', ?_⟩
    cases out' with
    | ret x =>
      cases e with
      | returned v => exact GV.merge I hs Ic E ho
      | panicked chain => exact ho.elim
      | outgrown => exact ho.elim
    | pan x =>
      cases e with
      | returned v => exact ho.elim
      | panicked chain =>
        obtain ⟨v, hv, hx⟩ := ho
        exact ⟨v, hv, GV.merge I hs Ic E hx⟩
      | outgrown => exact ho.elim

/-! ### Who is called -/
def afn : AV → Option (Fn × List AV × List AV)
  | .fn f first cap => some (f, first, cap)
  | .d (.fn f first cap) => some (f, first.map .d, cap.map .d)
  | _ => none

theorem afn_sound {w : World} {st : Nat → Prop} {β : List Nat} {x : AV} {v : Value} (hx : GV w st β x v) {f : Fn} {first cap : List AV} (h : afn x = some (f, first, cap)) :
    ∃ us vs, v = .func f us.toArray vs.toArray ∧ GVl w st β first us ∧ GVl w st β cap vs := by
  unfold afn at h
  split at h
  · cases h
    simpa only [GV] using hx
  · cases h
    simp only [GV, GD] at hx
    obtain ⟨us, vs, h1, h2, h3⟩ := hx
    exact ⟨us, vs, h1, GDl.lift h2, GDl.lift h3⟩
  · cases h

def hasBody (P : Program) (g : FuncId) : Bool := match P.funcs[g]? with
  | some fn => Nat.blt g yId && !(fn.name == "runtime.NumGoroutine") && fn.body.isSome
  | none => false

theorem hasBody_lt {P : Program} {g : FuncId} (h : hasBody P g = true) : g < yId := by
  unfold hasBody at h
  split at h
  · simp only [Bool.and_eq_true, Nat.blt_eq] at h
    exact h.1.1
  · cases h

def noBody (P : Program) (g : FuncId) : Bool := match P.funcs[g]? with
  | some fn => !(fn.name == "runtime.NumGoroutine") && fn.body.isNone
  | none => false

def yw (P : Program) (ev : Bool → Operand → AV) (c : Call) : Option (FuncId × List AV) :=
  match c.callee with
  | .value x => match ev true x with
    | .yld o => some (yId, .yld o :: c.args.toList.map (ev true))
    | v => match afn v with
      | some (.func g, first, cap) => if hasBody P g then some (g, first ++ c.args.toList.map (ev true) ++ cap) else if noBody P g then some (xId g, first ++ c.args.toList.map (ev true) ++ cap) else none
      | _ => none
  | _ => none

theorem acallee_yld {P : Program} {ev : Bool → Operand → AV} {c : Call} {args : List AV} (h : yw P ev c = some (yId, args)) :
    ∃ x o, c.callee = .value x ∧ ev true x = .yld o ∧ args = .yld o :: c.args.toList.map (ev true) := by
  unfold yw at h
  split at h
  · rename_i x hc
    split at h
    · rename_i o ho
      simp only [Option.some.injEq, Prod.mk.injEq, true_and] at h
      exact ⟨x, o, hc, ho, h.symm⟩
    · split at h
      · split at h
        · rename_i hb
          simp only [Option.some.injEq, Prod.mk.injEq] at h
          have := hasBody_lt hb
          rw [h.1] at this
          exact absurd this (Nat.lt_irrefl _)
        · split at h
          · simp only [Option.some.injEq, Prod.mk.injEq] at h
            exact absurd h.1 (xId_ne _)
          · cases h
      · cases h
  · cases h

theorem invoke_enter {P : Program} {w : World} {g : FuncId} {us args vs : Array Value} (hb : hasBody P g = true) : (invoke (.fn (.func g) vs) (us ++ args)).run P w = .ok (.enter g (us ++ args ++ vs)) w := by
  unfold hasBody at hb
  split at hb
  · rename_i fn hfn
    simp only [Bool.and_eq_true, Bool.not_eq_true'] at hb
    have h3 : (fn.name == "runtime.NumGoroutine") = false := hb.1.2
    have h4 : fn.body.isNone = false := by cases hbb : fn.body <;> simp_all
    have h5 : (program.run P w : Result Program) = .ok P w := rfl
    simp only [invoke, callFunc, Sem.run_bind, h5, Result.andThen, hfn, h3, h4, Bool.false_eq_true, if_false, Sem.run_pure]
  · cases hb

theorem acallee_sound {P : Program} {w : World} {st : Nat → Prop} {β : List Nat} {ev : Bool → Operand → AV} {a : Act} (hE : ∀ t x, t = true → GV w st β (ev t x) (a.eval x)) {c : Call} {ty : TypeId} {g : FuncId} {args : List AV} (h : yw P ev c = some (g, args)) (hgy : g < yId) :
    ∃ vs d, (resolve a.eval c ty).run P w = .ok d w ∧ (invoke d.target d.args).run P w = .ok (.enter g vs.toArray) w ∧ GVl w st β args vs := by
  unfold yw at h
  split at h
  · rename_i x hc
    split at h
    · simp only [Option.some.injEq, Prod.mk.injEq] at h
      exact absurd h.1.symm (Nat.ne_of_lt hgy)
    · split at h
      · rename_i g' first cap hf
        split at h
        · rename_i hb
          simp only [Option.some.injEq, Prod.mk.injEq] at h
          obtain ⟨rfl, rfl⟩ := h
          obtain ⟨us, vs, hv, h1, h2⟩ := afn_sound (hE true x rfl) hf
          refine ⟨us ++ c.args.toList.map a.eval ++ vs, { target := .fn (.func g') vs.toArray, args := us.toArray ++ c.args.map a.eval }, ?_, ?_, GVl.append (GVl.append h1 (GVl.map hE _)) h2⟩
          · simp [resolve, hc, hv, Deferred.ofValue]
          · have e : us.toArray ++ c.args.map a.eval ++ vs.toArray = (us ++ c.args.toList.map a.eval ++ vs).toArray := by
              apply Array.toList_inj.1; simp
            rw [← e]
            exact invoke_enter hb
        · split at h
          · simp only [Option.some.injEq, Prod.mk.injEq] at h
            have h1 := h.1
            rw [← h1] at hgy
            exact absurd hgy (Nat.lt_asymm (xId_lt _))
          · cases h
      · cases h
  · cases h

theorem acallee_ext {P : Program} {w : World} {st : Nat → Prop} {β : List Nat} {ev : Bool → Operand → AV} {a : Act} (hE : ∀ t x, t = true → GV w st β (ev t x) (a.eval x)) {c : Call} {ty : TypeId} {g : FuncId} {args : List AV} (h : yw P ev c = some (g, args)) (hgy : yId < g) :
    ∃ k vs d, g = xId k ∧ (resolve a.eval c ty).run P w = .ok d w ∧ invoke d.target d.args = callFunc k vs.toArray ∧ GVl w st β args vs := by
  unfold yw at h
  split at h
  · rename_i x hc
    split at h
    · simp only [Option.some.injEq, Prod.mk.injEq] at h
      exact absurd h.1.symm (Nat.ne_of_gt hgy)
    · split at h
      · rename_i g' first cap hf
        split at h
        · rename_i hb
          simp only [Option.some.injEq, Prod.mk.injEq] at h
          have := hasBody_lt hb
          rw [h.1] at this
          exact absurd this (Nat.lt_asymm hgy)
        · split at h
          · simp only [Option.some.injEq, Prod.mk.injEq] at h
            obtain ⟨rfl, rfl⟩ := h
            obtain ⟨us, vs, hv, h1, h2⟩ := afn_sound (hE true x rfl) hf
            refine ⟨g', us ++ c.args.toList.map a.eval ++ vs, { target := .fn (.func g') vs.toArray, args := us.toArray ++ c.args.map a.eval }, rfl, ?_, ?_, GVl.append (GVl.append h1 (GVl.map hE _)) h2⟩
            · simp [resolve, hc, hv, Deferred.ofValue]
            · have e : us.toArray ++ c.args.map a.eval ++ vs.toArray = (us ++ c.args.toList.map a.eval ++ vs).toArray := by
                apply Array.toList_inj.1; simp
              rw [← e]
              rfl
          · cases h
      · cases h
  · cases h

/-! ### The operations -/
inductive AEx where
  | normal
  | exit (id : Nat)
  | goto (l : Nat)
  | ret
  | pan (x : AV)
  deriving Inhabited

def GEx (w : World) (st : Nat → Prop) (β : List Nat) : AEx → Exit → Prop
  | .normal, .normal => True
  | .exit id, .exit id' => id' = id
  | .goto l, .goto l' => l' = l
  | .ret, .ret => True
  | .pan x, .panic chain => ∃ v, chain = [{ v, recovered := false }] ∧ GV w st β x v
  | _, _ => False

def Post (pr : Nat → Prop) (w0 : World) (σ0 : List AObj) (β0 : List Nat) (n : Nat) (e : AEx) (s : St) (e' : Exit) (a : Act) (w : World) : Prop :=
  ∃ β, At pr w0 σ0 β0 n s a w β ∧ GEx w (stOf pr w s.σ β) β e e'

def FW (ρ : Option Nat) : Fence := { fn := fun _ => True, depth := none, alive := false, round := ρ }

def j4 (n : Nat) (s : St) (dst : Option Tmp) : Option (AV × List AObj) → Option (AEx × St)
  | some (y, σ') => (j5 n s.env dst y).map fun env => (.normal, { s with env := env, σ := σ' })
  | none => none

def xn (P : Program) (C : Oracle) (n : Nat) (o : Oper) (s : St) : Option (AEx × St) :=
  match o.op with
  | .panic x => match xm true s.env true x with
    | .d (.iface t y) => some (.pan (.d (.iface t y)), s)
    | _ => none
  | .defer _ => none
  | .call { callee := .value f, args, argTypes } => match yw P (xm true s.env) { callee := .value f, args, argTypes } with
    | some (g, xs) => match xe C s.σ g xs with
      | some (.ret y, σ') => j4 n s o.dst (some (y, σ'))
      | some (.pan y, σ') => some (.pan y, { s with σ := σ' })
      | none => none
    | none => none
  | _ => j4 n s o.dst (x8 P s.σ (xm true s.env) o)

def aop (P : Program) (C : Oracle) (n : Nat) (ops : Array Oper) (o : Oper) (s : St) : Option (AEx × St) :=
  match yq n s.env ops o with
  | none => none
  | some w => match (if (jv o.op || jw o.op) = true then j6 P s.σ (xm w s.env) o else none) with
    | some y => j4 n s o.dst (some (ww o.guard w y, s.σ))
    | none => match w with
      | false => j4 n s o.dst (some (.tup [], s.σ))
      | true => xn P C n o s

theorem awanted_none {n : Nat} {env : Env} {ops : Array Oper} {o : Oper} (h : o.guard = none) : yq n env ops o = some true := by
  unfold yq
  rw [h]

section
variable {pr : Nat → Prop} {P : Program} {G : Globs} {C : Oracle} {w0 w : World} {σ0 : List AObj} {β0 β : List Nat} {n m : Nat} {ρ : Option Nat}

theorem aputs_some {s s' : St} {dst : Option Tmp} {r : Option (AV × List AObj)} {e : AEx} (h : j4 n s dst r = some (e, s')) :
    e = .normal ∧ ∃ y σ' env', r = some (y, σ') ∧ j5 n s.env dst y = some env' ∧ s' = { s with env := env', σ := σ' } := by
  cases r with
  | none => simp [j4] at h
  | some p =>
    obtain ⟨y, σ'⟩ := p
    simp only [j4, Option.map_eq_some_iff, Prod.mk.injEq] at h
    obtain ⟨env', h1, h2, h3⟩ := h
    exact ⟨h2.symm, y, σ', env', rfl, h1, h3.symm⟩

theorem aop_bare (hC : COk P G C) (hGG : GG w0 (stOf pr w0 σ0 β0) G) {ops : Array Oper} {i : Nat} {o : Oper} (ho : ops[i]? = some o) {s s' : St} {e : AEx} {a : Act} (hA : At pr w0 σ0 β0 n s a w β) (h : aop P C n ops o s = some (e, s'))
    {K : Act → World → Prop} {Q : Exit → Act → World → Prop} (hK : e = .normal → ∀ (v : Value) (w' : World) (β' : List Nat) (y : AV) (σ' : List AObj) (env' : Env), s' = { s with env := env', σ := σ' } → j5 n s.env o.dst y = some env' →
      Inv pr w' σ' β' → Evo pr w s.σ β w' σ' β' → GV w' (stOf pr w' σ' β') β' y v → K (a.put o.dst v) w') (hQ : ∀ e' a' w', Post pr w0 σ0 β0 n e s' e' a' w' → e ≠ .normal → Q e' a' w') :
    wpOpIn (FW ρ) m P ops Q i K a w := by
  unfold wpOpIn
  simp only [ho]
  unfold aop at h
  have hs := hA.size
  have hsem : (∀ c, o.op ≠ .defer c) → o.semAt (FW ρ).round a.eval = execOp a.eval o := fun hd => Oper.semAt_eq _ _ _ hd
  have hlook := alook_sound hA.env
  split at h
  · cases h
  rename_i wt hw
  have hw0 := hw
  rw [← hs] at hw
  split at h
  · -- a value alone
    rename_i y0 hr
    split at hr
    rotate_left
    · cases hr
    rename_i hpr
    obtain ⟨rfl, y, σ', env', h1, h2, rfl⟩ := aputs_some h
    simp only [Option.some.injEq, Prod.mk.injEq] at h1
    obtain ⟨rfl, rfl⟩ := h1
    rw [awanted_sound hA.env hw]
    cases wt with
    | false =>
      simp only [Bool.false_eq_true, if_false]
      refine ⟨fun _ _ => trivial, ?_⟩
      refine hK rfl _ _ _ _ _ _ rfl h2 hA.inv (Evo.refl _ _ _) ?_
      cases hg : o.guard with
      | none => rw [awanted_none hg] at hw0; cases hw0
      | some p =>
        simp only [ww, GV]
        exact ⟨fun h => by (cases h), fun _ => rfl⟩
    | true =>
      simp only [if_true, Oper.wpIn]
      refine ⟨fun _ _ => trivial, ?_⟩
      rw [hsem (fun c hc => by rw [hc] at hpr; simp [jv, jw] at hpr)]
      obtain ⟨u, hu, hg⟩ := aread_sound (P := P) hA.inv hlook hr
      rw [hu]
      refine hK rfl _ _ _ _ _ _ rfl h2 hA.inv (Evo.refl _ _ _) ?_
      cases hgd : o.guard with
      | none => simpa only [ww] using hg
      | some p =>
        simp only [ww, GV]
        exact ⟨fun _ => hg, fun h => by (cases h)⟩
  split at h
  · rw [awanted_sound hA.env hw]
    simp only [Bool.false_eq_true, if_false]
    refine ⟨fun _ _ => trivial, ?_⟩
    obtain ⟨rfl, y, σ', env', h1, h2, rfl⟩ := aputs_some h
    simp only [Option.some.injEq, Prod.mk.injEq] at h1
    obtain ⟨rfl, rfl⟩ := h1
    exact hK rfl _ _ _ _ _ _ rfl h2 hA.inv (Evo.refl _ _ _) undef_tup
  · rw [awanted_sound hA.env hw]
    simp only [if_true, Oper.wpIn]
    refine ⟨fun _ _ => trivial, ?_⟩
    unfold xn at h
    split at h
    · rename_i x hx
      rw [hsem (by simp [hx])]
      split at h
      · rename_i t y hy
        simp only [Option.some.injEq, Prod.mk.injEq] at h
        obtain ⟨rfl, rfl⟩ := h
        have hg := hlook true x rfl
        rw [hy] at hg
        have hg' := hg
        simp only [GV, GD] at hg'
        obtain ⟨u, hu, _⟩ := hg'
        have hr : (execOp a.eval o).run P w = .halt (.panic (.iface t u)) w := by
          simp [execOp, hx, hu, Instr.panic, goPanic, Result.andThen]
        rw [hr]
        simp only [Oper.uponIn]
        exact hQ _ _ _ ⟨β, hA, ⟨_, rfl, hu ▸ hg⟩⟩ (by simp)
      · cases h
    · cases h
    · rename_i f args argTypes hx
      rw [hsem (by simp [hx])]
      split at h
      · rename_i g xs hcal
        by_cases hgy : g = yId
        · subst hgy
          obtain ⟨x', ob, hcx, hxo, rfl⟩ := acallee_yld hcal
          simp only [Callee.value.injEq] at hcx
          subst hcx
          have hv := hlook true f rfl
          rw [hxo] at hv
          simp only [GV] at hv
          obtain ⟨bl, hbl, hv⟩ := hv
          have hfin : ∀ {y : AV} {σ' : List AObj}, xe C s.σ yId (.yld ob :: args.toList.map (xm true s.env true)) = some (.ret y, σ') → j4 n s o.dst (some (y, σ')) = some (e, s') →
              Oper.uponIn (FW ρ) m P o a K Q ((execOp a.eval o).run P w) := by
            intro y σ' hcall hp
            obtain ⟨rfl, y', σ'', env', e1, e2, rfl⟩ := aputs_some hp
            simp only [Option.some.injEq, Prod.mk.injEq] at e1
            obtain ⟨rfl, rfl⟩ := e1
            obtain ⟨o', xs', b, ha, hout, H⟩ := (acall_sound hC hcall).yld
            simp only [List.cons.injEq, AV.yld.injEq] at ha
            obtain ⟨rfl, rfl⟩ := ha
            simp only [Out.ret.injEq] at hout
            subst hout
            obtain ⟨r, hh, hlen, hround⟩ := H pr w β (args.toList.map a.eval) bl hA.inv (hGG.later hA.evo.later) (GVl.map hlook _) hbl
            have ea : (args.toList.map a.eval).toArray = args.map a.eval := by apply Array.toList_inj.1; simp
            have hr : (execOp a.eval o).run P w = .ok (.round bl r.fn ((r.params.zip (args.map a.eval)).foldl (fun tmps (t, a) => tmps.setIfInBounds t a) r.tmps) r.assign r.body) w := by
              have := run_yield (P := P) (args := args.map a.eval) hh (by simpa using hlen)
              simp only [execOp, hx, Sem.run_bind, resolve, hv, Deferred.ofValue, Sem.run_pure, Result.andThen, invoke, Array.empty_append]
              exact this
            rw [hr]
            rw [Oper.uponIn_round]
            refine ⟨fun hd => by simp [FW] at hd, ?_⟩
            rw [ea] at hround
            refine ⟨trivial, fun c cs _ => ?_⟩
            obtain ⟨e, w', hR, hcm⟩ := hround.2 c cs (fun d hd => by cases hd)
            refine ⟨e, w', ?_, hcm⟩
            obtain ⟨β', I', E', rfl⟩ := hR
            exact hK rfl _ _ _ _ _ _ rfl e2 I' E' (by simp only [GV, GD])
          split at h
          · rename_i y σ' hcall
            exact hfin hcall h
          · rename_i y σ' hcall
            obtain ⟨o', xs', b, ha, hout, H⟩ := (acall_sound hC hcall).yld
            cases hout
          · cases h
        by_cases hgx : yId < g
        · obtain ⟨k, vs, d, rfl, h1, h2, h3⟩ := acallee_ext (P := P) (w := w) (ty := o.type) hlook hcal hgx
          split at h
          · rename_i y σ' hcall
            obtain ⟨rfl, y', σ'', env', e1, e2, rfl⟩ := aputs_some h
            simp only [Option.some.injEq, Prod.mk.injEq] at e1
            obtain ⟨rfl, rfl⟩ := e1
            obtain ⟨y2, hy2, H⟩ := (acall_sound hC hcall).ext
            simp only [Out.ret.injEq] at hy2
            subst hy2
            obtain ⟨u, w', β', hu, I', E', hgu⟩ := H pr w β vs hA.inv (hGG.later hA.evo.later) h3
            have hr : (execOp a.eval o).run P w = .ok (.value u) w' := by
              simp only [execOp, hx, Sem.run_bind, h1, Result.andThen, h2, hu]
            rw [hr]
            exact hK rfl _ _ _ _ _ _ rfl e2 I' E' hgu
          · rename_i y σ' hcall
            obtain ⟨y2, hy2, H⟩ := (acall_sound hC hcall).ext
            cases hy2
          · cases h
        have hgl : g < yId := lt_yId hgy hgx
        obtain ⟨vs, d, h1, h2, h3⟩ := acallee_sound (P := P) (w := w) (ty := o.type) hlook hcal hgl
        have hr : (execOp a.eval o).run P w = .ok (.enter g vs.toArray) w := by
          simp only [execOp, hx, Sem.run_bind, h1, Result.andThen, h2]
        rw [hr]
        simp only [Oper.uponIn]
        refine ⟨fun hd => by simp [FW] at hd, ?_⟩
        split at h
        · rename_i y σ' hcall
          obtain ⟨rfl, y', σ'', env', e1, e2, rfl⟩ := aputs_some h
          simp only [Option.some.injEq, Prod.mk.injEq] at e1
          obtain ⟨rfl, rfl⟩ := e1
          have hcc := (callsIn_wide (n := m - 1)).2 ((acall_sound hC hcall).fn hgl pr w β vs hA.inv (hGG.later hA.evo.later) h3)
          have : CallsIn (FW ρ) (m - 1) P g vs.toArray w _ := hcc
          refine CallsIn.mono this fun e w' he => ?_
          obtain ⟨β', I', E', hout⟩ := he
          cases e with
          | returned v => exact hK rfl _ _ _ _ _ _ rfl e2 I' E' hout
          | panicked chain => exact hout.elim
          | outgrown => exact hout.elim
        · rename_i y σ' hcall
          simp only [Option.some.injEq, Prod.mk.injEq] at h
          obtain ⟨rfl, rfl⟩ := h
          have hcc := (callsIn_wide (n := m - 1)).2 ((acall_sound hC hcall).fn hgl pr w β vs hA.inv (hGG.later hA.evo.later) h3)
          have : CallsIn (FW ρ) (m - 1) P g vs.toArray w _ := hcc
          refine CallsIn.mono this fun e w' he => ?_
          obtain ⟨β', I', E', hout⟩ := he
          cases e with
          | returned v => exact hout.elim
          | panicked chain =>
            refine hQ _ _ _ ⟨β', ⟨I', hA.evo.trans E', hA.size, GEnv.later E'.later E'.onto hA.env, GMarks.onto E'.onto hA.dfs⟩, hout⟩ (by simp)
          | outgrown => exact hout.elim
        · cases h
      · cases h
    · rename_i h1 h2 h3
      rw [hsem h2]
      obtain ⟨rfl, y, σ', env', e1, e2, rfl⟩ := aputs_some h
      obtain ⟨u, w', β', hr, I', E', hg⟩ := aact_sound (P := P) hA.inv hlook e1
      rcases hr with hr | ⟨hr, rfl⟩
      · rw [hr]
        exact hK rfl _ _ _ _ _ _ rfl e2 I' E' hg
      · rw [hr]
        exact hK rfl _ _ _ _ _ _ rfl e2 I' E' hg

theorem aop_sound (hC : COk P G C) (hGG : GG w0 (stOf pr w0 σ0 β0) G) {ops : Array Oper} {i : Nat} {o : Oper} (ho : ops[i]? = some o) {s s' : St} {e : AEx} {a : Act} (hA : At pr w0 σ0 β0 n s a w β) (h : aop P C n ops o s = some (e, s'))
    {K : Act → World → Prop} {Q : Exit → Act → World → Prop} (hK : e = .normal → ∀ a' w' β', At pr w0 σ0 β0 n s' a' w' β' → K a' w') (hQ : ∀ e' a' w', Post pr w0 σ0 β0 n e s' e' a' w' → e ≠ .normal → Q e' a' w') :
    wpOpIn (FW ρ) m P ops Q i K a w :=
  aop_bare hC hGG ho hA h (fun he v w' β' y σ' env' hs hp I' E' hg => by
    subst hs
    exact hK he _ _ _ (hA.put I' E' hg hp)) hQ

/-- On, if it is to go on. -/
def bindA (r : Option (AEx × St)) (f : St → Option (AEx × St)) : Option (AEx × St) := match r with
  | some (.normal, s) => f s
  | r => r

/-- The operations, one behind the other. -/
def aopl (P : Program) (C : Oracle) (n : Nat) (ops : Array Oper) : List Oper → St → Option (AEx × St)
  | [], s => some (.normal, s)
  | o :: r, s => bindA (aop P C n ops o s) (aopl P C n ops r)

theorem aopl_sound (hC : COk P G C) (hGG : GG w0 (stOf pr w0 σ0 β0) G) {ops : Array Oper} : ∀ (l : List Oper) (k : Nat) {s s' : St} {e : AEx} {a : Act} {w : World} {β : List Nat}, ops.toList.drop k = l → At pr w0 σ0 β0 n s a w β → aopl P C n ops l s = some (e, s') →
    wpOpsIn (FW ρ) m P ops (Post pr w0 σ0 β0 n e s') (List.range' k l.length) a w
  | [], k, s, s', e, a, w, β, hl, hA, h => by
    simp only [aopl, Option.some.injEq, Prod.mk.injEq] at h
    obtain ⟨rfl, rfl⟩ := h
    exact ⟨β, hA, trivial⟩
  | o :: r, k, s, s', e, a, w, β, hl, hA, h => by
    have ho : ops[k]? = some o := by
      have : ops.toList[k]? = some o := by
        have := congrArg (fun l => l[0]?) hl
        simpa using this
      simpa using this
    have hr : ops.toList.drop (k + 1) = r := by
      have := congrArg List.tail hl
      simpa using this
    simp only [List.length_cons, List.range'_succ]
    rw [wpOpsIn_cons]
    simp only [aopl, bindA] at h
    split at h
    · rename_i s1 h1
      exact aop_sound hC hGG ho hA h1 (fun _ a' w' β' hA' => aopl_sound hC hGG r (k + 1) hr hA' h) (fun _ _ _ _ he => absurd rfl he)
    · rename_i h1
      exact aop_sound hC hGG ho hA h (fun he => absurd (he ▸ h) (h1 _)) (fun e' a' w' hp _ => hp)

end
end Go.Proofs.YtblejchodicaoaaGreatDoor.Eng

/-
  THE ENGINE, part N: code, loops; weaker states (garbage). Program-independent. Own work.
-/
namespace Go.Proofs.YtblejchodicaoaaGreatDoor.Eng
open Go Go.RowKit

/-- Stepping a scope that no jump comes back to. -/
theorem stepR_scope {P : Program} {b : Frame} {a : Act} {k : List Item} {cs : List Frame} {w : World} {c : Code} : step P (lone (b.atR a (.code (.scope c) :: k)) cs w) = .next (lone (b.atR a (.code c :: .inScope c :: k)) cs w) :=
  step_lone_go (by simp [stepG, stepG.exec, Frame.atR])
theorem stepR_inScope {P : Program} {b : Frame} {a : Act} {k : List Item} {cs : List Frame} {w : World} {c : Code} : step P (lone (b.atR a (.inScope c :: k)) cs w) = .next (lone (b.atR a k) cs w) :=
  step_lone_go (by simp [stepG, stepG.exec, Frame.atR])

def notGoto (Q : Exit → Act → World → Prop) : Exit → Act → World → Prop
  | .goto _, _, _ => False
  | e, a, w => Q e a w

theorem wpIn_scope_straight {F : Fence} {n : Nat} {P : Program} {Q : Exit → Act → World → Prop} {a : Act} {w : World} {c : Code} (h : c.wpIn F n P (notGoto Q) a w) : (Code.scope c).wpIn F n P Q a w := by
  intro b k cs hro hb hr
  have h0 : (lone (b.atR a (.code (.scope c) :: k)) cs w).fenced P F := fenced_calm hb hr rfl
  obtain ⟨e, a₁, w₁, hq, harr⟩ := h b (.inScope c :: k) cs hro hb hr
  cases e with
  | normal => exact ⟨.normal, a₁, w₁, hq, .head h0 stepR_scope (StepsIn.trans harr (.one (fenced_calm hb hr rfl) stepR_inScope))⟩
  | exit id =>
    have hx : exitTo id (.inScope c :: k) = exitTo id k := by simp [exitTo]
    exact ⟨.exit id, a₁, w₁, hq, fun k' hk => .head h0 stepR_scope (harr.1 k' (by rw [hx]; exact hk)),
      fun hr' hk => let ⟨k₁, h1, h2⟩ := harr.2 hr' (by rw [hx]; exact hk); ⟨k₁, h1, .head h0 stepR_scope h2⟩⟩
  | goto l => exact hq.elim
  | ret => exact ⟨_, a₁, w₁, hq, .of_steps (.one h0 stepR_scope) harr⟩
  | panic ch => exact ⟨_, a₁, w₁, hq, .of_steps (.one h0 stepR_scope) harr⟩
  | outgrown => exact ⟨_, a₁, w₁, hq, .of_steps (.one h0 stepR_scope) harr⟩

/-! ### Loops -/
inductive Rounds (t : St → St) (step : St → Option (AEx × St)) : St → AEx × St → Prop where
  | again {s s2 : St} {r : AEx × St} : step (t s) = some (.normal, s2) → Rounds t step s2 r → Rounds t step s r
  | stop {s : St} {r : AEx × St} : step (t s) = some r → r.1 ≠ .normal → Rounds t step s r

theorem Rounds.det {t : St → St} {step : St → Option (AEx × St)} {s : St} {r r' : AEx × St} (h : Rounds t step s r) : Rounds t step s r' → r = r' := by
  induction h with
  | again h1 _ ih =>
    intro h
    cases h with
    | again h3 h4 =>
      rw [h1] at h3
      cases h3
      exact ih h4
    | stop h3 h4 =>
      rw [h1] at h3
      cases h3
      exact absurd rfl h4
  | stop h1 h2 =>
    intro h
    cases h with
    | again h3 h4 =>
      rw [h1] at h3
      cases h3
      exact absurd rfl h2
    | stop h3 h4 =>
      rw [h1] at h3
      cases h3
      rfl

/-- A loop, however long it takes. -/
noncomputable def alim (t : St → St) (step : St → Option (AEx × St)) (s : St) : Option (AEx × St) :=
  open Classical in if h : ∃ r, Rounds t step s r then some (Classical.choose h) else none

theorem alim_iff {t : St → St} {step : St → Option (AEx × St)} {s : St} {r : AEx × St} : alim t step s = some r ↔ Rounds t step s r := by
  unfold alim
  constructor
  · intro h
    split at h
    · rename_i hx
      cases h
      exact Classical.choose_spec hx
    · cases h
  · intro h
    have hx : ∃ r, Rounds t step s r := ⟨r, h⟩
    rw [dif_pos hx, (Classical.choose_spec hx).det h]

theorem alim_eq (t : St → St) (step : St → Option (AEx × St)) (s : St) : alim t step s = match step (t s) with
    | some (.normal, s2) => alim t step s2
    | r => r := by
  cases hs : step (t s) with
  | none =>
    cases ha : alim t step s with
    | none => rfl
    | some r =>
      cases alim_iff.1 ha with
      | again h _ => rw [hs] at h; cases h
      | stop h _ => rw [hs] at h; cases h
  | some p =>
    obtain ⟨e, s2⟩ := p
    by_cases he : e = .normal
    · subst he
      simp only
      apply Option.ext
      intro r
      rw [alim_iff, alim_iff]
      constructor
      · intro h
        cases h with
        | again h h' => rw [hs] at h; cases h; exact h'
        | stop h h' => rw [hs] at h; cases h; exact absurd rfl h'
      · intro h
        exact .again hs h
    · have : alim t step s = some (e, s2) := alim_iff.2 (.stop hs he)
      rw [this]
      cases e <;> first | rfl | exact absurd rfl he

/-- The same, with a number of rounds: to be computed. -/
def aiter (t : St → St) (step : St → Option (AEx × St)) : Nat → St → Option (AEx × St)
  | 0, _ => none
  | n + 1, s => match step (t s) with
    | some (.normal, s2) => aiter t step n s2
    | r => r

theorem aiter_rounds {t : St → St} {step : St → Option (AEx × St)} : ∀ {n : Nat} {s : St} {r : AEx × St}, aiter t step n s = some r → Rounds t step s r
  | 0, _, _, h => by simp [aiter] at h
  | n + 1, s, r, h => by
    simp only [aiter] at h
    split at h
    · rename_i s2 hs
      exact .again hs (aiter_rounds h)
    · rename_i hn
      refine .stop h fun he => hn r.2 ?_
      rw [h, ← he]

/-! ### The code -/
/-- What is left open: the order of a region that draws it; how a loop is run. -/
structure Mach where
  chk : Nat → Array Oper → Bool
  draw : Nat → Array Oper → St → Option (AEx × St)
  loop : Nat → (St → Option (AEx × St)) → St → Option (AEx × St)
  rng : Nat → Operand → Array Tmp → Code → Code → St → Option (AEx × St)

def condA (b : AV) (f g : St → Option (AEx × St)) (s : St) : Option (AEx × St) := match b with
  | .d (.bool b) => if b then f s else g s
  | _ => none
def blockA (id : Nat) (r : Option (AEx × St)) : Option (AEx × St) := match r with
  | some (.exit id', s') => if id' = id then some (.normal, s') else some (.exit id', s')
  | r => r
def scopeA (r : Option (AEx × St)) : Option (AEx × St) := match r with
  | some (.goto _, _) => none
  | r => r

def acode (P : Program) (C : Oracle) (M : Mach) (n : Nat) : Nat → Code → St → Option (AEx × St)
  | _, .skip, s | _, .label _, s => some (.normal, s)
  | _, .region _ ops false, s => aopl P C n ops ops.toList s
  | p, .region _ ops true, s => M.draw p ops s
  | p, .seq x y, s => bindA (acode P C M n (2 * p) x s) (acode P C M n (2 * p + 1) y)
  | p, .cond c x y, s => condA (xm true s.env true c) (acode P C M n (2 * p) x) (acode P C M n (2 * p + 1) y) s
  | p, .block id x, s => blockA id (acode P C M n (2 * p) x s)
  | p, .loop x, s => M.loop p (acode P C M n (2 * p) x) s
  | _, .exit id, s => some (.exit id, s)
  | _, .goto l, s => some (.goto l, s)
  | _, .ret, s => some (.ret, s)
  | p, .scope x, s => scopeA (acode P C M n (2 * p) x s)
  | p, .rangeFunc g ps x y, s => M.rng p g ps x y s
  | _, .refuse _, _ => none

/-- What of the code is held to be so ahead of any run: the regions that draw their order. -/
def gcode (chk : Nat → Array Oper → Bool) : Nat → Code → Bool
  | p, .region _ ops true => chk p ops
  | p, .seq x y | p, .cond _ x y => gcode chk (2 * p) x && gcode chk (2 * p + 1) y
  | p, .block _ x | p, .loop x | p, .scope x => gcode chk (2 * p) x
  | _, _ => true

section
variable {pr : Nat → Prop} {P : Program} {G : Globs} {C : Oracle} {M : Mach} {w0 w : World} {σ0 : List AObj} {β0 β : List Nat} {n m : Nat} {ρ : Option Nat}

/-- One state says less than another. -/
def Less (pr : Nat → Prop) (w0 : World) (σ0 : List AObj) (β0 : List Nat) (n : Nat) (s s' : St) : Prop := ∀ a w β, At pr w0 σ0 β0 n s a w β → ∃ β', At pr w0 σ0 β0 n s' a w β'

structure MOk (P : Program) (C : Oracle) (M : Mach) (n : Nat) (ρ : Option Nat) (m : Nat) (pr : Nat → Prop) (w0 : World) (σ0 : List AObj) (β0 : List Nat) : Prop where
  draw : ∀ p ops s e s' a w β, M.chk p ops = true → M.draw p ops s = some (e, s') → At pr w0 σ0 β0 n s a w β → ∀ id, (Code.region id ops true).wpIn (FW ρ) m P (Post pr w0 σ0 β0 n e s') a w
  loop : ∀ p step s r, M.loop p step s = some r → ∃ t s', (∀ s, Less pr w0 σ0 β0 n s (t s)) ∧ Rounds t step s (r.1, s') ∧ (r.2 = s' ∨ ((∀ x, r.1 ≠ .pan x) ∧ Less pr w0 σ0 β0 n s' r.2))
  rng : ∀ p g ps x y s e s' a w β, M.rng p g ps x y s = some (e, s') → At pr w0 σ0 β0 n s a w β → (Code.rangeFunc g ps x y).wpIn (FW ρ) m P (Post pr w0 σ0 β0 n e s') a w

theorem post_not_normal {e : AEx} (he : e ≠ .normal) {s : St} {Q : Exit → Act → World → Prop} {K : Act → World → Prop} (hQ : ∀ e' a' w', Post pr w0 σ0 β0 n e s e' a' w' → Q e' a' w') :
    ∀ e' a' w', Post pr w0 σ0 β0 n e s e' a' w' → Exit.then K Q e' a' w' := fun e' a' w' hp => by
  cases e' with
  | normal =>
    obtain ⟨β, _, hg⟩ := hp
    cases e <;> first | exact absurd rfl he | exact hg.elim
  | _ => exact hQ _ _ _ hp

theorem post_normal {s : St} {Q : Exit → Act → World → Prop} {K : Act → World → Prop} (hK : ∀ a' w' β', At pr w0 σ0 β0 n s a' w' β' → K a' w') :
    ∀ e' a' w', Post pr w0 σ0 β0 n .normal s e' a' w' → Exit.then K Q e' a' w' := fun e' a' w' hp => by
  obtain ⟨β, hA, hg⟩ := hp
  cases e' <;> first | exact hK _ _ _ hA | exact hg.elim

theorem acode_sound (hC : COk P G C) (hGG : GG w0 (stOf pr w0 σ0 β0) G) (hM : MOk P C M n ρ m pr w0 σ0 β0) : ∀ (c : Code) {p : Nat} {s s' : St} {e : AEx} {a : Act} {w : World} {β : List Nat}, gcode M.chk p c = true → acode P C M n p c s = some (e, s') → At pr w0 σ0 β0 n s a w β →
    c.wpIn (FW ρ) m P (Post pr w0 σ0 β0 n e s') a w
  | .skip, p, s, s', e, a, w, β, hg, h, hA => by
    simp only [acode, Option.some.injEq, Prod.mk.injEq] at h
    obtain ⟨rfl, rfl⟩ := h
    exact wpIn_skip ⟨β, hA, trivial⟩
  | .label l, p, s, s', e, a, w, β, hg, h, hA => by
    simp only [acode, Option.some.injEq, Prod.mk.injEq] at h
    obtain ⟨rfl, rfl⟩ := h
    exact wpIn_label ⟨β, hA, trivial⟩
  | .region id ops false, p, s, s', e, a, w, β, hg, h, hA => by
    simp only [acode] at h
    refine wpIn_region ?_
    rw [List.range_eq_range', ← Array.length_toList]
    exact aopl_sound hC hGG ops.toList 0 (by simp) hA h
  | .region id ops true, p, s, s', e, a, w, β, hg, h, hA => by
    simp only [acode] at h
    exact hM.draw _ _ _ _ _ _ _ _ hg h hA id
  | .seq x y, p, s, s', e, a, w, β, hg, h, hA => by
    simp only [acode, bindA] at h
    simp only [gcode, Bool.and_eq_true] at hg
    refine wpIn_seq ?_
    split at h
    · rename_i s1 hx
      exact wpIn_mono (acode_sound hC hGG hM x hg.1 hx hA) (post_normal fun a' w' β' hA' => acode_sound hC hGG hM y hg.2 h hA')
    · rename_i hn
      exact wpIn_mono (acode_sound hC hGG hM x hg.1 h hA) (post_not_normal (fun he => hn _ (he ▸ h)) fun _ _ _ hp => hp)
  | .cond c x y, p, s, s', e, a, w, β, hg, h, hA => by
    simp only [acode, condA] at h
    split at h
    · rename_i b hc
      have hv := alook_sound hA.env true c rfl
      rw [hc] at hv
      simp only [GV, GD] at hv
      simp only [gcode, Bool.and_eq_true] at hg
      refine wpIn_cond hv ?_
      cases b
      · exact acode_sound hC hGG hM y hg.2 h hA
      · exact acode_sound hC hGG hM x hg.1 h hA
    · cases h
  | .block id x, p, s, s', e, a, w, β, hg, h, hA => by
    simp only [acode, blockA] at h
    refine wpIn_block ?_
    split at h
    · rename_i id' s1 hx
      refine wpIn_mono (acode_sound hC hGG hM x (by simpa only [gcode] using hg) hx hA) fun e' a' w' hp => ?_
      obtain ⟨β', hA', hx⟩ := hp
      cases e' <;> simp only [GEx] at hx
      subst hx
      rename_i id''
      simp only [Exit.inBlock]
      split at h
      · rename_i hid
        simp only [Option.some.injEq, Prod.mk.injEq] at h
        obtain ⟨rfl, rfl⟩ := h
        simp only [hid, if_true]
        exact ⟨β', hA', trivial⟩
      · rename_i hid
        simp only [Option.some.injEq, Prod.mk.injEq] at h
        obtain ⟨rfl, rfl⟩ := h
        simp only [hid, if_false]
        exact ⟨β', hA', rfl⟩
    · rename_i hn
      refine wpIn_mono (acode_sound hC hGG hM x (by simpa only [gcode] using hg) h hA) fun e' a' w' hp => ?_
      have hp' := hp
      obtain ⟨β', hA', hx⟩ := hp
      cases e' with
      | exit id' =>
        cases e <;> simp only [GEx] at hx
        exact absurd h (hn _ _)
      | _ => exact hp'
  | .loop x, p, s, s', e, a, w, β, hg, h, hA => by
    simp only [acode] at h
    obtain ⟨t, sx, ht, hr, hout⟩ := hM.loop _ _ _ _ h
    have key : ∀ (s : St) (r : AEx × St), Rounds t (acode P C M n (2 * p) x) s r → ∃ k, ∀ a w β, At pr w0 σ0 β0 n s a w β → Code.roundsIn (FW ρ) m P x (Post pr w0 σ0 β0 n r.1 r.2) k a w := by
      intro s r hr
      induction hr with
      | again h1 _ ih =>
        obtain ⟨k, hk⟩ := ih
        refine ⟨k + 1, fun a w β hA => ?_⟩
        obtain ⟨β1, hA1⟩ := ht _ a w β hA
        rw [roundsIn_succ]
        exact wpIn_mono (acode_sound hC hGG hM x (by simpa only [gcode] using hg) h1 hA1) (post_normal fun a' w' β' hA' => hk a' w' β' hA')
      | stop h1 h2 =>
        refine ⟨1, fun a w β hA => ?_⟩
        obtain ⟨β1, hA1⟩ := ht _ a w β hA
        rw [roundsIn_succ]
        exact wpIn_mono (acode_sound hC hGG hM x (by simpa only [gcode] using hg) h1 hA1) (post_not_normal h2 fun _ _ _ hp => hp)
    obtain ⟨k, hk⟩ := key _ _ hr
    refine wpIn_mono (wpIn_loop_rounds k (hk a w β hA)) fun e' a' w' hp => ?_
    simp only at hout hp
    rcases hout with hout | ⟨hpan, hless⟩
    · rw [hout]
      exact hp
    · obtain ⟨β', hA', hge⟩ := hp
      obtain ⟨β'', hA''⟩ := hless _ _ _ hA'
      refine ⟨β'', hA'', ?_⟩
      cases e <;> cases e' <;> simp only [GEx] at hge ⊢ <;> first | exact hge | exact absurd rfl (hpan _)
  | .exit id, p, s, s', e, a, w, β, hg, h, hA => by
    simp only [acode, Option.some.injEq, Prod.mk.injEq] at h
    obtain ⟨rfl, rfl⟩ := h
    exact wpIn_exit ⟨β, hA, rfl⟩
  | .goto id, p, s, s', e, a, w, β, hg, h, hA => by
    simp only [acode, Option.some.injEq, Prod.mk.injEq] at h
    obtain ⟨rfl, rfl⟩ := h
    exact wpIn_goto ⟨β, hA, rfl⟩
  | .ret, p, s, s', e, a, w, β, hg, h, hA => by
    simp only [acode, Option.some.injEq, Prod.mk.injEq] at h
    obtain ⟨rfl, rfl⟩ := h
    exact wpIn_ret ⟨β, hA, trivial⟩
  | .scope x, p, s, s', e, a, w, β, hg, h, hA => by
    simp only [acode, scopeA] at h
    refine wpIn_scope_straight ?_
    split at h
    · cases h
    · rename_i hn
      refine wpIn_mono (acode_sound hC hGG hM x (by simpa only [gcode] using hg) h hA) fun e' a' w' hp => ?_
      have hp' := hp
      obtain ⟨β', hA', hx⟩ := hp
      cases e' with
      | goto l =>
        cases e <;> simp only [GEx] at hx
        exact absurd h (hn _ _)
      | _ => exact hp'
  | .rangeFunc g ps x y, p, s, s', e, a, w, β, hg, h, hA => hM.rng _ _ _ _ _ _ _ _ _ _ _ h hA
  | .refuse _, p, s, s', e, a, w, β, hg, h, hA => by simp [acode] at h

end
end Go.Proofs.YtblejchodicaoaaGreatDoor.Eng
