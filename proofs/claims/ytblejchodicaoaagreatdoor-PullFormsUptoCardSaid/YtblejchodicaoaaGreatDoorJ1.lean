/-
  THE ENGINE, part A: data, abstract values, the own store, and what they say of a world of the model. Program-independent. Own work.
-/
import Derived.CallsIn
import Derived.OrdersIn
import Derived.LoopNIn
import Derived.RangeFuncIn
import Derived.RangeFuncLeaves
import Derived.WalkKit
import Derived.WalkSpells
import Derived.Lib.SliceRun
import Derived.Lib.Builder
import Derived.Lib.Strings
import Derived.MapKept
import Derived.Lib.UnsafeStr
set_option linter.unusedVariables false
set_option linter.unusedSimpArgs false
namespace Go.Proofs.YtblejchodicaoaaGreatDoor.Eng
open Go Go.RowKit

/-- Data that nothing writes to any more: one cell's worth each. -/
inductive D where
  | any
  | int (k : IntKind) (n : Int)
  | bool (b : Bool)
  | str (s : List UInt8)
  | nilp
  | rp (cs : List D)
  | nils
  | rs (sz : Nat) (es : List (List D))
  | fn (f : Fn) (first cap : List D)
  | nilf
  | nili
  | iface (t : TypeId) (x : D)
  | nilm
  deriving Inhabited

/-- Abstract values: data, or what leads to an object of the call's own. -/
inductive AV where
  | any
  | d (x : D)
  | ptr (o j : Nat)
  | eptr (o sz i j : Nat)
  | sl (o sz i n : Nat)
  | fn (f : Fn) (first cap : List AV)
  | map (o : Nat)
  | obj (o : Nat)
  | yld (o : Nat)
  | agg (cs : List AV)
  | tup (vs : List AV)
  | cap0 (sz : Nat)
  | pany
  | opt (w : Bool) (x : AV)
  deriving Inhabited

/-- What a string's value is. -/
def sval (s : List UInt8) : Value := .string ⟨s.toArray⟩

mutual
def GD (w : World) (st : Nat → Prop) : D → Value → Prop
  | .any, v => v.oneCell' = true
  | .int k n, v => v = .int k n
  | .bool b, v => v = .bool b
  | .str s, v => v = sval s
  | .nilp, v => v = .pointer none
  | .rp cs, v => ∃ b off, v = .pointer (some ⟨b, off, none⟩) ∧ st b ∧ GDs w st cs b off
  | .nils, v => v = .slice none 0 0
  | .rs sz es, v => (es.length = 0 ∧ ∃ a c, v = .slice a 0 c) ∨ ∃ b off c, v = .slice (some ⟨b, off, none⟩) es.length c ∧ es.length ≤ c ∧ st b ∧ GDe w st sz es b off
  | .fn f first cap, v => ∃ us vs, v = .func f us.toArray vs.toArray ∧ GDl w st first us ∧ GDl w st cap vs
  | .nilf, v => v = .nilFunc
  | .nili, v => v = .nilIface
  | .iface t x, v => ∃ u, v = .iface t u ∧ GD w st x u
  | .nilm, v => v = .map none
def GDs (w : World) (st : Nat → Prop) : List D → Nat → Nat → Prop
  | [], _, _ => True
  | x :: xs, b, off => (∃ u, w.cell? ⟨b, off, none⟩ = some u ∧ GD w st x u) ∧ GDs w st xs b (off + 1)
def GDe (w : World) (st : Nat → Prop) (sz : Nat) : List (List D) → Nat → Nat → Prop
  | [], _, _ => True
  | e :: es, b, off => e.length = sz ∧ GDs w st e b off ∧ GDe w st sz es b (off + sz)
def GDl (w : World) (st : Nat → Prop) : List D → List Value → Prop
  | [], vs => vs = []
  | x :: xs, vs => ∃ v r, vs = v :: r ∧ GD w st x v ∧ GDl w st xs r
end

/-- How many cells a block of cells has. -/
def csize (w : World) (b : Nat) : Nat := match w.heap[b]? with | some (.cells c _ _) => c.size | _ => 0

mutual
def GV (w : World) (st : Nat → Prop) (β : List Nat) : AV → Value → Prop
  | .any, _ => True
  | .d x, v => GD w st x v
  | .ptr o j, v => ∃ b, β[o]? = some b ∧ v = .pointer (some ⟨b, j, none⟩)
  | .eptr o sz i j, v => ∃ b, β[o]? = some b ∧ v = .pointer (some ⟨b, i * sz + j, none⟩)
  | .sl o sz i n, v => ∃ b c, β[o]? = some b ∧ v = .slice (some ⟨b, i * sz, none⟩) n c ∧ n ≤ c ∧ c ≤ maxLen ∧ (i + c) * sz = csize w b
  | .fn f first cap, v => ∃ us vs, v = .func f us.toArray vs.toArray ∧ GVl w st β first us ∧ GVl w st β cap vs
  | .map o, v => ∃ b, β[o]? = some b ∧ v = .map (some b)
  | .obj o, v => ∃ b, β[o]? = some b ∧ v = .pointer (some ⟨b, 0, none⟩)
  | .yld o, v => ∃ b, β[o]? = some b ∧ v = .func (.yield b) #[] #[]
  | .agg cs, v => ∃ vs, v = .agg vs.toArray ∧ GVl w st β cs vs
  | .tup cs, v => ∃ vs, v = .tuple vs.toArray ∧ GVl w st β cs vs
  | .cap0 _, v => ∃ a, v = .slice a 0 0
  | .pany, v => ∃ p, v = .pointer p
  | .opt c x, v => (c = true → GV w st β x v) ∧ (c = false → v = .tuple #[])
def GVl (w : World) (st : Nat → Prop) (β : List Nat) : List AV → List Value → Prop
  | [], vs => vs = []
  | x :: xs, vs => ∃ v r, vs = v :: r ∧ GV w st β x v ∧ GVl w st β xs r
end

/-! ### What holds on, as the world goes on -/

/-- From (w, st) to (w', st'): what was stable is, and lies as it lay. -/
structure Later (w : World) (st : Nat → Prop) (w' : World) (st' : Nat → Prop) : Prop where
  sub : ∀ b, st b → st' b
  same : ∀ b, st b → w'.heap[b]? = w.heap[b]?

theorem Later.refl (w : World) (st : Nat → Prop) : Later w st w st := ⟨fun _ h => h, fun _ _ => rfl⟩
theorem Later.trans {w w1 w2 : World} {st st1 st2 : Nat → Prop} (h : Later w st w1 st1) (k : Later w1 st1 w2 st2) : Later w st w2 st2 :=
  ⟨fun b hb => k.sub b (h.sub b hb), fun b hb => (k.same b (h.sub b hb)).trans (h.same b hb)⟩

theorem cell_same {w w' : World} {b off : Nat} (h : w'.heap[b]? = w.heap[b]?) : w'.cell? ⟨b, off, none⟩ = w.cell? ⟨b, off, none⟩ := by
  simp [World.cell?, h]

mutual
theorem GD.later {w w' : World} {st st' : Nat → Prop} (L : Later w st w' st') : ∀ (x : D) (v : Value), GD w st x v → GD w' st' x v
  | .any, v, h => by simpa [GD] using h
  | .int k n, v, h => by simpa [GD] using h
  | .bool b, v, h => by simpa [GD] using h
  | .str s, v, h => by simpa [GD] using h
  | .nilp, v, h => by simpa [GD] using h
  | .rp cs, v, h => by
    simp only [GD] at h ⊢
    obtain ⟨b, off, hv, hb, hc⟩ := h
    exact ⟨b, off, hv, L.sub b hb, GDs.later L cs b off (L.same b hb) hc⟩
  | .nils, v, h => by simpa [GD] using h
  | .rs sz es, v, h => by
    simp only [GD] at h ⊢
    rcases h with h | ⟨b, off, c, hv, hl, hb, hc⟩
    · exact .inl h
    · exact .inr ⟨b, off, c, hv, hl, L.sub b hb, GDe.later L sz es b off (L.same b hb) hc⟩
  | .fn f first cap, v, h => by
    simp only [GD] at h ⊢
    obtain ⟨us, vs, hv, hf, hc⟩ := h
    exact ⟨us, vs, hv, GDl.later L first us hf, GDl.later L cap vs hc⟩
  | .nilf, v, h => by simpa [GD] using h
  | .nili, v, h => by simpa [GD] using h
  | .iface t x, v, h => by
    simp only [GD] at h ⊢
    obtain ⟨u, hv, hc⟩ := h
    exact ⟨u, hv, GD.later L x u hc⟩
  | .nilm, v, h => by simpa [GD] using h
theorem GDs.later {w w' : World} {st st' : Nat → Prop} (L : Later w st w' st') : ∀ (xs : List D) (b off : Nat), w'.heap[b]? = w.heap[b]? → GDs w st xs b off → GDs w' st' xs b off
  | [], _, _, _, _ => by simp [GDs]
  | x :: xs, b, off, hb, h => by
    simp only [GDs] at h ⊢
    obtain ⟨⟨u, hu, hx⟩, hr⟩ := h
    exact ⟨⟨u, (cell_same hb).trans hu, GD.later L x u hx⟩, GDs.later L xs b (off + 1) hb hr⟩
theorem GDe.later {w w' : World} {st st' : Nat → Prop} (L : Later w st w' st') (sz : Nat) : ∀ (es : List (List D)) (b off : Nat), w'.heap[b]? = w.heap[b]? → GDe w st sz es b off → GDe w' st' sz es b off
  | [], _, _, _, _ => by simp [GDe]
  | e :: es, b, off, hb, h => by
    simp only [GDe] at h ⊢
    obtain ⟨he, hc, hr⟩ := h
    exact ⟨he, GDs.later L e b off hb hc, GDe.later L sz es b (off + sz) hb hr⟩
theorem GDl.later {w w' : World} {st st' : Nat → Prop} (L : Later w st w' st') : ∀ (xs : List D) (vs : List Value), GDl w st xs vs → GDl w' st' xs vs
  | [], vs, h => by simpa [GDl] using h
  | x :: xs, vs, h => by
    simp only [GDl] at h ⊢
    obtain ⟨v, r, hv, hx, hr⟩ := h
    exact ⟨v, r, hv, GD.later L x v hx, GDl.later L xs r hr⟩
end

/-- The blocks' numbers go on: those that there are stay. -/
structure Onto (w : World) (β : List Nat) (w' : World) (β' : List Nat) : Prop where
  at_ : ∀ (o b : Nat), β[o]? = some b → β'[o]? = some b
  size : ∀ (o b : Nat), β[o]? = some b → csize w' b = csize w b

theorem Onto.refl (w : World) (β : List Nat) : Onto w β w β := ⟨fun _ _ h => h, fun _ _ _ => rfl⟩
theorem Onto.trans {w w1 w2 : World} {β β1 β2 : List Nat} (h : Onto w β w1 β1) (k : Onto w1 β1 w2 β2) : Onto w β w2 β2 :=
  ⟨fun o b hb => k.at_ o b (h.at_ o b hb), fun o b hb => (k.size o b (h.at_ o b hb)).trans (h.size o b hb)⟩

mutual
theorem GV.later {w w' : World} {st st' : Nat → Prop} {β β' : List Nat} (L : Later w st w' st') (B : Onto w β w' β') : ∀ (x : AV) (v : Value), GV w st β x v → GV w' st' β' x v
  | .any, _, _ => by simp [GV]
  | .d x, v, h => by
    simp only [GV] at h ⊢
    exact GD.later L x v h
  | .ptr o j, v, h => by
    simp only [GV] at h ⊢
    obtain ⟨b, hb, hv⟩ := h
    exact ⟨b, B.at_ o b hb, hv⟩
  | .eptr o sz i j, v, h => by
    simp only [GV] at h ⊢
    obtain ⟨b, hb, hv⟩ := h
    exact ⟨b, B.at_ o b hb, hv⟩
  | .sl o sz i n, v, h => by
    simp only [GV] at h ⊢
    obtain ⟨b, c, hb, hv, hn, hm, hc⟩ := h
    exact ⟨b, c, B.at_ o b hb, hv, hn, hm, hc.trans (B.size o b hb).symm⟩
  | .fn f first cap, v, h => by
    simp only [GV] at h ⊢
    obtain ⟨us, vs, hv, hf, hc⟩ := h
    exact ⟨us, vs, hv, GVl.later L B first us hf, GVl.later L B cap vs hc⟩
  | .map o, v, h => by
    simp only [GV] at h ⊢
    obtain ⟨b, hb, hv⟩ := h
    exact ⟨b, B.at_ o b hb, hv⟩
  | .obj o, v, h => by
    simp only [GV] at h ⊢
    obtain ⟨b, hb, hv⟩ := h
    exact ⟨b, B.at_ o b hb, hv⟩
  | .yld o, v, h => by
    simp only [GV] at h ⊢
    obtain ⟨b, hb, hv⟩ := h
    exact ⟨b, B.at_ o b hb, hv⟩
  | .agg cs, v, h => by
    simp only [GV] at h ⊢
    obtain ⟨vs, hv, hc⟩ := h
    exact ⟨vs, hv, GVl.later L B cs vs hc⟩
  | .tup cs, v, h => by
    simp only [GV] at h ⊢
    obtain ⟨vs, hv, hc⟩ := h
    exact ⟨vs, hv, GVl.later L B cs vs hc⟩
  | .cap0 _, v, h => by simpa [GV] using h
  | .pany, v, h => by simpa [GV] using h
  | .opt c x, v, h => by
    simp only [GV] at h ⊢
    exact ⟨fun hc => GV.later L B x v (h.1 hc), h.2⟩
theorem GVl.later {w w' : World} {st st' : Nat → Prop} {β β' : List Nat} (L : Later w st w' st') (B : Onto w β w' β') : ∀ (xs : List AV) (vs : List Value), GVl w st β xs vs → GVl w' st' β' xs vs
  | [], vs, h => by simpa [GVl] using h
  | x :: xs, vs, h => by
    simp only [GVl] at h ⊢
    obtain ⟨v, r, hv, hx, hr⟩ := h
    exact ⟨v, r, hv, GV.later L B x v hx, GVl.later L B xs r hr⟩
end

end Go.Proofs.YtblejchodicaoaaGreatDoor.Eng

/-
  THE ENGINE, part B: the own store, its invariant, and the steps that keep it. Program-independent. Own work.
-/
namespace Go.Proofs.YtblejchodicaoaaGreatDoor.Eng
open Go Go.RowKit

/-- A temporary's abstract value, by its number. -/
abbrev Env := List (Nat × AV)

/-- Objects of the call's own. -/
inductive AObj where
  | gone
  | fz (sz : Nat) (es : List (List D))
  | fzb (cs : List D)
  | box (cs : List AV) (ty : TypeId)
  | drow (es : List (List D)) (ty : TypeId) (sz : Nat)
  | amap (es : List (D × AV))
  | loop (env : Env) (n : Nat) (ps : Array Tmp) (assign body : Code) (state : LoopState) (pending : Option Code) (defers : Nat)
  | dfr
  deriving Inhabited

def AObj.live : AObj → Bool
  | .gone | .fz .. | .fzb .. => false
  | _ => true

/-- Numbers from here on stand for variables of the package's: j3 + g for the block g. -/
def j3 : Nat := 1099511627776
def tget (tmps : Array Value) (t : Nat) : Value := if t < j3 then tmps.getD t undef else .pointer (some ⟨t - j3, 0, none⟩)
theorem tget_tmp {tmps : Array Value} {t : Nat} (h : t < j3) : tget tmps t = tmps.getD t undef := if_pos h
theorem tget_glob (tmps : Array Value) (g : Nat) : tget tmps (j3 + g) = .pointer (some ⟨g, 0, none⟩) := by
  unfold tget
  rw [if_neg (by omega), Nat.add_sub_cancel_left]
/-- What an environment says of temporaries. -/
def GEnv (w : World) (st : Nat → Prop) (β : List Nat) (env : Env) (tmps : Array Value) : Prop :=
  ∀ (t : Nat) (x : AV), env.lookup t = some x → (t < j3 → t < tmps.size) ∧ GV w st β x (tget tmps t)

/-- Entries of a map, in order. -/
def GMap (w : World) (st : Nat → Prop) (β : List Nat) : List (D × AV) → List MapEntry → Prop
  | [], es => es = []
  | (k, x) :: r, es => ∃ e l, es = e :: l ∧ GD w st k e.key ∧ GV w st β x e.val ∧ GMap w st β r l

def Holds (w : World) (st : Nat → Prop) (β : List Nat) (b : Nat) : AObj → Prop
  | .gone => True
  | .fz sz es => st b ∧ GDe w st sz es b 0
  | .fzb cs => st b ∧ GDs w st cs b 0
  | .box cs ty => ∃ vs : List Value, w.heap[b]? = some (.cells vs.toArray ty (0, 0)) ∧ GVl w st β cs vs
  | .drow es ty sz => ∃ c : Array Value, w.heap[b]? = some (.cells c ty (0, 0)) ∧ es.length * sz ≤ c.size ∧ GDe w st sz es b 0
  | .amap es => ∃ (l : Array MapEntry) (clock : Nat), w.heap[b]? = some (.map l clock) ∧ GMap w st β es l.toList
  | .loop env n ps assign body state pending defers => ∃ (fn : FuncId) (tmps : Array Value) (db : Nat), w.heap[b]? = some (.loop { state, pending, fn, tmps, params := ps, assign, body, defers := db }) ∧ tmps.size = n ∧ GEnv w st β env tmps ∧ β[defers]? = some db
  | .dfr => w.heap[b]? = some (.deferred (some []))

theorem GEnv.later {w w' : World} {st st' : Nat → Prop} {β β' : List Nat} (L : Later w st w' st') (B : Onto w β w' β') {env : Env} {tmps : Array Value} (h : GEnv w st β env tmps) : GEnv w' st' β' env tmps :=
  fun t x hx => ⟨(h t x hx).1, GV.later L B x _ (h t x hx).2⟩

theorem GMap.later {w w' : World} {st st' : Nat → Prop} {β β' : List Nat} (L : Later w st w' st') (B : Onto w β w' β') : ∀ {es : List (D × AV)} {l : List MapEntry}, GMap w st β es l → GMap w' st' β' es l
  | [], l, h => by simpa [GMap] using h
  | (k, x) :: r, l, h => by
    simp only [GMap] at h ⊢
    obtain ⟨e, l', hl, hk, hx, hr⟩ := h
    exact ⟨e, l', hl, GD.later L k _ hk, GV.later L B x _ hx, GMap.later L B hr⟩

/-- An object whose block lies as it lay. -/
theorem Holds.later {w w' : World} {st st' : Nat → Prop} {β β' : List Nat} (L : Later w st w' st') (B : Onto w β w' β') {b : Nat} (hb : w'.heap[b]? = w.heap[b]?) : ∀ {o : AObj}, Holds w st β b o → Holds w' st' β' b o
  | .gone, _ => trivial
  | .fz sz es, h => ⟨L.sub b h.1, GDe.later L sz es b 0 hb h.2⟩
  | .fzb cs, h => ⟨L.sub b h.1, GDs.later L cs b 0 hb h.2⟩
  | .box cs ty, h => by
    obtain ⟨vs, hh, hg⟩ := h
    exact ⟨vs, hb.trans hh, GVl.later L B cs vs hg⟩
  | .drow es ty sz, h => by
    obtain ⟨c, hh, hc, hg⟩ := h
    exact ⟨c, hb.trans hh, hc, GDe.later L sz es b 0 hb hg⟩
  | .amap es, h => by
    obtain ⟨l, cl, hh, hg⟩ := h
    exact ⟨l, cl, hb.trans hh, GMap.later L B hg⟩
  | .loop .., h => by
    obtain ⟨fn, tmps, db, hh, hn, hg, hd⟩ := h
    exact ⟨fn, tmps, db, hb.trans hh, hn, GEnv.later L B hg, B.at_ _ _ hd⟩
  | .dfr, h => hb.trans h

def liveAt (σ : List AObj) (i : Nat) : Prop := ∃ o, σ[i]? = some o ∧ o.live = true
/-- What nothing writes to any more, as this call sees it. 'pr': what those that called us own: we neither read nor write it. -/
def stOf (pr : Nat → Prop) (w : World) (σ : List AObj) (β : List Nat) (b : Nat) : Prop := (b < w.heap.size ∧ ¬ pr b) ∧ ∀ i, liveAt σ i → β[i]? ≠ some b

structure Inv (pr : Nat → Prop) (w : World) (σ : List AObj) (β : List Nat) : Prop where
  prt : ∀ b, pr b → b < w.heap.size
  npr : ∀ (i b : Nat), liveAt σ i → β[i]? = some b → ¬ pr b
  len : β.length = σ.length
  lt : ∀ (i b : Nat), β[i]? = some b → b < w.heap.size
  inj : ∀ (i j b : Nat), liveAt σ i → liveAt σ j → β[i]? = some b → β[j]? = some b → i = j
  holds : ∀ (i : Nat) (o : AObj) (b : Nat), σ[i]? = some o → β[i]? = some b → Holds w (stOf pr w σ β) β b o

theorem Inv.nil {pr : Nat → Prop} (w : World) (hp : ∀ b, pr b → b < w.heap.size) : Inv pr w [] [] := ⟨hp, fun i b h => by obtain ⟨o, h, _⟩ := h; simp at h, rfl, fun i b h => by simp at h, fun i j b h => by obtain ⟨o, h, _⟩ := h; simp at h, fun i o b h => by simp at h⟩

theorem Inv.at_ {pr : Nat → Prop} {w : World} {σ : List AObj} {β : List Nat} (I : Inv pr w σ β) {i : Nat} {o : AObj} (h : σ[i]? = some o) : ∃ b, β[i]? = some b ∧ b < w.heap.size ∧ Holds w (stOf pr w σ β) β b o := by
  have hi : i < β.length := by rw [I.len]; exact (List.getElem?_eq_some_iff.1 h).1
  have hb : β[i]? = some β[i] := List.getElem?_eq_getElem hi
  exact ⟨_, hb, I.lt i _ hb, I.holds i o _ h hb⟩

/-- How a call leaves the world. -/
structure Evo (pr : Nat → Prop) (w : World) (σ : List AObj) (β : List Nat) (w' : World) (σ' : List AObj) (β' : List Nat) : Prop where
  os : w'.os = w.os
  tape : w'.tape = w.tape
  output : w'.output = w.output
  size : w.heap.size ≤ w'.heap.size
  prot : ∀ b, pr b → w'.heap[b]? = w.heap[b]?
  later : Later w (stOf pr w σ β) w' (stOf pr w' σ' β')
  onto : Onto w β w' β'

theorem Evo.refl {pr : Nat → Prop} (w : World) (σ : List AObj) (β : List Nat) : Evo pr w σ β w σ β := ⟨rfl, rfl, rfl, Nat.le_refl _, fun _ _ => rfl, Later.refl _ _, Onto.refl _ _⟩
theorem Evo.trans {pr : Nat → Prop} {w w1 w2 : World} {σ σ1 σ2 : List AObj} {β β1 β2 : List Nat} (h : Evo pr w σ β w1 σ1 β1) (k : Evo pr w1 σ1 β1 w2 σ2 β2) : Evo pr w σ β w2 σ2 β2 :=
  ⟨k.os.trans h.os, k.tape.trans h.tape, k.output.trans h.output, Nat.le_trans h.size k.size, fun b hb => (k.prot b hb).trans (h.prot b hb), h.later.trans k.later, h.onto.trans k.onto⟩

theorem csize_same {w w' : World} {b : Nat} (h : w'.heap[b]? = w.heap[b]?) : csize w' b = csize w b := by simp [csize, h]

theorem heap_alloc_old (w : World) (o : Obj) {b : Nat} (h : b < w.heap.size) : (w.alloc o).heap[b]? = w.heap[b]? := Below.heap_alloc w o b h
theorem heap_alloc_at (w : World) (o : Obj) : (w.alloc o).heap[w.heap.size]? = some o := by
  show (w.heap.push o)[w.heap.size]? = _
  simp

theorem liveAt_append {σ : List AObj} {o : AObj} {i : Nat} : liveAt (σ ++ [o]) i ↔ liveAt σ i ∨ (i = σ.length ∧ o.live = true) := by
  unfold liveAt
  rcases Nat.lt_trichotomy i σ.length with h | h | h
  · rw [List.getElem?_append_left h]
    constructor
    · exact .inl
    · rintro (h' | ⟨h', _⟩)
      · exact h'
      · omega
  · subst h
    simp
  · rw [List.getElem?_eq_none (by simp; omega)]
    constructor
    · rintro ⟨_, h', _⟩; cases h'
    · rintro (⟨o', h', _⟩ | ⟨h', _⟩)
      · rw [List.getElem?_eq_none (by omega)] at h'; cases h'
      · omega

/-- A NEW OBJECT, in a new block. -/
theorem Inv.alloc {pr : Nat → Prop} {w : World} {σ : List AObj} {β : List Nat} (I : Inv pr w σ β) (ob : Obj) (o : AObj) (ho : o.live = true)
    (h : Later w (stOf pr w σ β) (w.alloc ob) (stOf pr (w.alloc ob) (σ ++ [o]) (β ++ [w.heap.size])) → Onto w β (w.alloc ob) (β ++ [w.heap.size]) → Holds (w.alloc ob) (stOf pr (w.alloc ob) (σ ++ [o]) (β ++ [w.heap.size])) (β ++ [w.heap.size]) w.heap.size o) :
    Inv pr (w.alloc ob) (σ ++ [o]) (β ++ [w.heap.size]) ∧ Evo pr w σ β (w.alloc ob) (σ ++ [o]) (β ++ [w.heap.size]) := by
  have hat : ∀ (i b : Nat), β[i]? = some b → (β ++ [w.heap.size])[i]? = some b := fun i b hb => by
    rw [List.getElem?_append_left (List.getElem?_eq_some_iff.1 hb).1]; exact hb
  have hor : ∀ (i b : Nat), (β ++ [w.heap.size])[i]? = some b → β[i]? = some b ∨ (i = σ.length ∧ b = w.heap.size) := fun i b hb => by
    rcases Nat.lt_trichotomy i β.length with h' | h' | h'
    · rw [List.getElem?_append_left h'] at hb; exact .inl hb
    · subst h'; simp at hb; exact .inr ⟨I.len, hb.symm⟩
    · rw [List.getElem?_eq_none (by simp; omega)] at hb; cases hb
  have hst : ∀ b, stOf pr w σ β b → stOf pr (w.alloc ob) (σ ++ [o]) (β ++ [w.heap.size]) b := fun b hb => by
    refine ⟨⟨by have := hb.1.1; simp; omega, hb.1.2⟩, fun i hi he => ?_⟩
    rcases hor i b he with he' | ⟨_, hb'⟩
    · rcases liveAt_append.1 hi with hi' | ⟨hi', _⟩
      · exact hb.2 i hi' he'
      · have := (List.getElem?_eq_some_iff.1 he').1; rw [I.len] at this; omega
    · have := hb.1.1; omega
  have L : Later w (stOf pr w σ β) (w.alloc ob) (stOf pr (w.alloc ob) (σ ++ [o]) (β ++ [w.heap.size])) := ⟨hst, fun b hb => heap_alloc_old w ob hb.1.1⟩
  have B : Onto w β (w.alloc ob) (β ++ [w.heap.size]) := ⟨hat, fun i b hb => csize_same (heap_alloc_old w ob (I.lt i b hb))⟩
  refine ⟨⟨fun b hb => by have := I.prt b hb; simp; omega, fun i b hi hb => ?_, by simp [I.len], fun i b hb => ?_, fun i j b hi hj hib hjb => ?_, fun i o' b ho' hb => ?_⟩, ⟨rfl, rfl, rfl, by simp, fun b hb => heap_alloc_old w ob (I.prt b hb), L, B⟩⟩
  · rcases hor i b hb with hb' | ⟨_, rfl⟩
    · rcases liveAt_append.1 hi with hi2 | ⟨hi2, _⟩
      · exact I.npr i b hi2 hb'
      · have := (List.getElem?_eq_some_iff.1 hb').1; rw [I.len] at this; omega
    · exact fun hp => by have := I.prt _ hp; omega
  · rcases hor i b hb with hb' | ⟨_, rfl⟩
    · have := I.lt i b hb'; simp; omega
    · simp
  · rcases hor i b hib with hib' | ⟨hi', hbi⟩ <;> rcases hor j b hjb with hjb' | ⟨hj', hbj⟩
    · rcases liveAt_append.1 hi with hi2 | ⟨hi2, _⟩
      · rcases liveAt_append.1 hj with hj2 | ⟨hj2, _⟩
        · exact I.inj i j b hi2 hj2 hib' hjb'
        · have := (List.getElem?_eq_some_iff.1 hjb').1; rw [I.len] at this; omega
      · have := (List.getElem?_eq_some_iff.1 hib').1; rw [I.len] at this; omega
    · have := I.lt i b hib'; omega
    · have := I.lt j b hjb'; omega
    · omega
  · rcases Nat.lt_trichotomy i σ.length with h' | h' | h'
    · rw [List.getElem?_append_left h'] at ho'
      rcases hor i b hb with hb' | ⟨hi', _⟩
      · exact Holds.later L B (heap_alloc_old w ob (I.lt i b hb')) (I.holds i o' b ho' hb')
      · omega
    · subst h'
      have e1 : o' = o := by simpa using ho'.symm
      have e2 : b = w.heap.size := by
        rcases hor σ.length b hb with hb' | ⟨_, hb'⟩
        · have := (List.getElem?_eq_some_iff.1 hb').1; rw [I.len] at this; omega
        · exact hb'
      subst e1; subst e2
      exact h L B
    · rw [List.getElem?_eq_none (by simp; omega)] at ho'; cases ho'

theorem liveAt_set {σ : List AObj} {i : Nat} {o o' : AObj} (h : σ[i]? = some o) (hl : o.live = true) {j : Nat} : liveAt (σ.set i o') j → liveAt σ j := by
  rintro ⟨x, hx, hxl⟩
  by_cases e : i = j
  · subst e; exact ⟨o, h, hl⟩
  · rw [List.getElem?_set_ne e] at hx; exact ⟨x, hx, hxl⟩

/-- AN OBJECT IS WRITTEN, or is let go: its block alone has turned. -/
theorem Inv.set {pr : Nat → Prop} {w w' : World} {σ : List AObj} {β : List Nat} (I : Inv pr w σ β) {i b : Nat} {o : AObj} (o' : AObj) (hi : σ[i]? = some o) (hl : o.live = true) (hb : β[i]? = some b)
    (os : w'.os = w.os) (tape : w'.tape = w.tape) (output : w'.output = w.output) (size : w'.heap.size = w.heap.size) (same : ∀ k, k ≠ b → w'.heap[k]? = w.heap[k]?) (hc : csize w' b = csize w b)
    (h : Later w (stOf pr w σ β) w' (stOf pr w' (σ.set i o') β) → Onto w β w' β → Holds w' (stOf pr w' (σ.set i o') β) β b o') :
    Inv pr w' (σ.set i o') β ∧ Evo pr w σ β w' (σ.set i o') β := by
  have hlive : liveAt σ i := ⟨o, hi, hl⟩
  have hst : ∀ k, stOf pr w σ β k → stOf pr w' (σ.set i o') β k := fun k hk => ⟨⟨by rw [size]; exact hk.1.1, hk.1.2⟩, fun j hj => hk.2 j (liveAt_set hi hl hj)⟩
  have hne : ∀ k, stOf pr w σ β k → k ≠ b := fun k hk e => hk.2 i hlive (e ▸ hb)
  have L : Later w (stOf pr w σ β) w' (stOf pr w' (σ.set i o') β) := ⟨hst, fun k hk => same k (hne k hk)⟩
  have B : Onto w β w' β := ⟨fun _ _ h => h, fun j k hk => by
    by_cases e : k = b
    · subst e; exact hc
    · exact csize_same (same k e)⟩
  refine ⟨⟨fun k hk => by rw [size]; exact I.prt k hk, fun j k hj hk => I.npr j k (liveAt_set hi hl hj) hk, by simp [I.len], fun j k hk => by rw [size]; exact I.lt j k hk, fun j k c hj hk => I.inj j k c (liveAt_set hi hl hj) (liveAt_set hi hl hk), fun j x k hx hk => ?_⟩, ⟨os, tape, output, by omega, fun k hk => same k (fun e => I.npr i b hlive hb (e ▸ hk)), L, B⟩⟩
  by_cases e : i = j
  · subst e
    have hlt : i < σ.length := (List.getElem?_eq_some_iff.1 hi).1
    rw [List.getElem?_set_self hlt] at hx
    obtain rfl : o' = x := by simpa using hx
    obtain rfl : b = k := by rw [hb] at hk; simpa using hk
    exact h L B
  · rw [List.getElem?_set_ne e] at hx
    by_cases ek : k = b
    · subst ek
      -- the same block: x is not live
      have hx' := I.holds j x k hx hk
      have hxl : x.live = false := by
        cases hxl : x.live with
        | false => rfl
        | true => exact absurd (I.inj i j k hlive ⟨x, hx, hxl⟩ hb hk) e
      cases x with
      | gone => trivial
      | fz sz es => exact absurd rfl (hne k hx'.1)
      | fzb cs => exact absurd rfl (hne k hx'.1)
      | _ => cases hxl
    · exact Holds.later L B (same k ek) (I.holds j x k hx hk)

end Go.Proofs.YtblejchodicaoaaGreatDoor.Eng

/-
  THE ENGINE, part C: operations that read (they leave the world and the own store as they are). Program-independent. Own work.
-/
namespace Go.Proofs.YtblejchodicaoaaGreatDoor.Eng
open Go Go.RowKit

/-! ### Small facts on readings -/
theorem add_spotless (b off i : Nat) : (⟨b, off, none⟩ : Addr).add i = ⟨b, off + i, none⟩ := by unfold Addr.add; split <;> simp_all

section reads
variable {w : World} {st : Nat → Prop} {β : List Nat}

theorem GDs.get : ∀ {cs : List D} {b off i : Nat} {x : D}, GDs w st cs b off → cs[i]? = some x → ∃ u, w.cell? ⟨b, off + i, none⟩ = some u ∧ GD w st x u
  | [], _, _, _, _, _, h => by simp at h
  | c :: cs, b, off, 0, x, hg, h => by
    simp only [GDs] at hg
    obtain rfl : c = x := by simpa using h
    exact hg.1
  | c :: cs, b, off, i + 1, x, hg, h => by
    simp only [GDs] at hg
    obtain ⟨u, hu, hx⟩ := GDs.get (i := i) hg.2 (by simpa using h)
    exact ⟨u, by rw [← hu]; congr 2; omega, hx⟩
theorem GDs.drop : ∀ {cs : List D} {b off : Nat} (n : Nat), GDs w st cs b off → GDs w st (cs.drop n) b (off + n)
  | _, _, _, 0, h => by simpa using h
  | [], _, _, _ + 1, _ => by simp [GDs]
  | c :: cs, b, off, n + 1, h => by
    simp only [GDs] at h
    have := GDs.drop n h.2
    simp only [List.drop_succ_cons]
    rwa [show off + 1 + n = off + (n + 1) from by omega] at this
theorem GDe.get {sz : Nat} : ∀ {es : List (List D)} {b off i : Nat} {e : List D}, GDe w st sz es b off → es[i]? = some e → e.length = sz ∧ GDs w st e b (off + i * sz)
  | [], _, _, _, _, _, h => by simp at h
  | c :: es, b, off, 0, e, hg, h => by
    simp only [GDe] at hg
    obtain rfl : c = e := by simpa using h
    exact ⟨hg.1, by simpa using hg.2.1⟩
  | c :: es, b, off, i + 1, e, hg, h => by
    simp only [GDe] at hg
    obtain ⟨h1, h2⟩ := GDe.get (i := i) hg.2.2 (by simpa using h)
    exact ⟨h1, by rw [show off + (i + 1) * sz = off + sz + i * sz from by rw [Nat.succ_mul]; omega]; exact h2⟩
theorem GDe.drop {sz : Nat} : ∀ {es : List (List D)} {b off : Nat} (n : Nat), GDe w st sz es b off → GDe w st sz (es.drop n) b (off + n * sz)
  | _, _, _, 0, h => by simpa using h
  | [], _, _, _ + 1, _ => by simp [GDe]
  | c :: es, b, off, n + 1, h => by
    simp only [GDe] at h
    have := GDe.drop n h.2.2
    simp only [List.drop_succ_cons]
    rwa [show off + sz + n * sz = off + (n + 1) * sz from by rw [Nat.succ_mul]; omega] at this
theorem GDe.take {sz : Nat} : ∀ {es : List (List D)} {b off : Nat} (n : Nat), GDe w st sz es b off → GDe w st sz (es.take n) b off
  | _, _, _, 0, _ => by simp [GDe]
  | [], _, _, _ + 1, _ => by simp [GDe]
  | c :: es, b, off, n + 1, h => by
    simp only [GDe] at h
    simp only [List.take_succ_cons, GDe]
    exact ⟨h.1, h.2.1, GDe.take n h.2.2⟩
theorem GVl.length : ∀ {cs : List AV} {vs : List Value}, GVl w st β cs vs → vs.length = cs.length
  | [], vs, h => by
    simp only [GVl] at h
    simp [h]
  | c :: cs, vs, h => by
    simp only [GVl] at h
    obtain ⟨v, r, rfl, _, h⟩ := h
    simp [GVl.length h]
theorem GVl.get : ∀ {cs : List AV} {vs : List Value} {i : Nat} {x : AV}, GVl w st β cs vs → cs[i]? = some x → ∃ u, vs[i]? = some u ∧ GV w st β x u
  | [], _, _, _, _, h => by simp at h
  | c :: cs, vs, 0, x, hg, h => by
    simp only [GVl] at hg
    obtain ⟨v, r, rfl, hx, _⟩ := hg
    obtain rfl : c = x := by simpa using h
    exact ⟨v, by simp, hx⟩
  | c :: cs, vs, i + 1, x, hg, h => by
    simp only [GVl] at hg
    obtain ⟨v, r, rfl, _, hr⟩ := hg
    obtain ⟨u, hu, hx⟩ := GVl.get (i := i) hr (by simpa using h)
    exact ⟨u, by simpa using hu, hx⟩
theorem GVl.append : ∀ {cs ds : List AV} {vs us : List Value}, GVl w st β cs vs → GVl w st β ds us → GVl w st β (cs ++ ds) (vs ++ us)
  | [], _, vs, _, h, h' => by
    simp only [GVl] at h
    simpa [h] using h'
  | c :: cs, ds, vs, us, h, h' => by
    simp only [GVl] at h
    obtain ⟨v, r, rfl, hx, hr⟩ := h
    simp only [List.cons_append, GVl]
    exact ⟨v, r ++ us, rfl, hx, GVl.append hr h'⟩
theorem GVl.take : ∀ {cs : List AV} {vs : List Value} (n : Nat), GVl w st β cs vs → GVl w st β (cs.take n) (vs.take n)
  | _, _, 0, _ => by simp [GVl]
  | [], vs, n + 1, h => by
    simp only [GVl] at h
    simp [h, GVl]
  | c :: cs, vs, n + 1, h => by
    simp only [GVl] at h
    obtain ⟨v, r, rfl, hx, hr⟩ := h
    simp only [List.take_succ_cons, GVl]
    exact ⟨v, _, rfl, hx, GVl.take n hr⟩
theorem GVl.drop : ∀ {cs : List AV} {vs : List Value} (n : Nat), GVl w st β cs vs → GVl w st β (cs.drop n) (vs.drop n)
  | _, _, 0, h => by simpa using h
  | [], vs, n + 1, h => by
    simp only [GVl] at h
    simp [h, GVl]
  | c :: cs, vs, n + 1, h => by
    simp only [GVl] at h
    obtain ⟨v, r, rfl, _, hr⟩ := h
    simpa using GVl.drop n hr
theorem GDl.lift : ∀ {cs : List D} {vs : List Value}, GDl w st cs vs → GVl w st β (cs.map .d) vs
  | [], vs, h => by simpa [GDl, GVl] using h
  | c :: cs, vs, h => by
    simp only [GDl] at h
    obtain ⟨v, r, rfl, hx, hr⟩ := h
    simp only [List.map_cons, GVl, GV]
    exact ⟨v, r, rfl, hx, GDl.lift hr⟩
/-- Cells that are known, as a list of values. -/
theorem cells_list : ∀ (cs : List AV) (b o : Nat), (∀ (i : Nat) (x : AV), cs[i]? = some x → ∃ u, w.cell? ⟨b, o + i, none⟩ = some u ∧ GV w st β x u) →
    ∃ vs : List Value, GVl w st β cs vs ∧ ∀ (j : Nat) (v : Value), vs[j]? = some v → w.cell? ⟨b, o + j, none⟩ = some v
  | [], _, _, _ => ⟨[], by simp [GVl], fun _ _ h => by simp at h⟩
  | c :: cs, b, o, h => by
    obtain ⟨u, hu, hx⟩ := h 0 c (by simp)
    obtain ⟨vs, hg, hc⟩ := cells_list cs b (o + 1) (fun i x hi => by
      obtain ⟨v, hv, hx⟩ := h (i + 1) x (by simpa using hi)
      exact ⟨v, by rw [← hv]; congr 2; omega, hx⟩)
    refine ⟨u :: vs, by simp only [GVl]; exact ⟨u, vs, rfl, hx, hg⟩, fun j v hj => ?_⟩
    cases j with
    | zero =>
      obtain rfl : u = v := by simpa using hj
      exact hu
    | succ j =>
      have := hc j v (by simpa using hj)
      rw [← this]; congr 2; omega
end reads

/-! ### Constants, operands -/
def yt : Value → Option AV
  | .int k n => some (.d (.int k n))
  | .bool b => some (.d (.bool b))
  | .string s => some (.d (.str s.data.toList))
  | .pointer none => some (.d .nilp)
  | .slice none 0 0 => some (.d .nils)
  | .nilFunc => some (.d .nilf)
  | .nilIface => some (.d .nili)
  | .map none => some (.d .nilm)
  | _ => none
def yu : List Value → Option (List AV)
  | [] => some []
  | v :: r => match yt v, yu r with | some x, some xs => some (x :: xs) | _, _ => none
def jj : Value → Option AV
  | .agg cs => (yu cs.toList).map .agg
  | v => yt v

section
variable {w : World} {st : Nat → Prop} {β : List Nat}
theorem aconst1_sound {v : Value} {x : AV} (h : yt v = some x) : GV w st β x v := by
  unfold yt at h
  split at h <;> first | (injection h with h; subst h; simp [GV, GD, sval]; done) | cases h
theorem aconsts_sound : ∀ {vs : List Value} {xs : List AV}, yu vs = some xs → GVl w st β xs vs
  | [], xs, h => by
    simp only [yu, Option.some.injEq] at h
    subst h; simp [GVl]
  | v :: r, xs, h => by
    simp only [yu] at h
    split at h
    · rename_i x xs' h1 h2
      injection h with h; subst h
      simp only [GVl]
      exact ⟨v, r, rfl, aconst1_sound h1, aconsts_sound h2⟩
    · cases h
theorem aconst_sound {v : Value} {x : AV} (h : jj v = some x) : GV w st β x v := by
  unfold jj at h
  split at h
  · obtain ⟨xs, h1, rfl⟩ := Option.map_eq_some_iff.1 h
    simp only [GV]
    exact ⟨_, by simp, aconsts_sound h1⟩
  · exact aconst1_sound h
end

def j7 (env : Env) : Operand → AV
  | .tmp t => if t < j3 then (env.lookup t).getD .any else .any
  | .const v => (jj v).getD .any
  | .global g => (env.lookup (j3 + g)).getD .any
  | .func f => .d (.fn (.func f) [] [])

theorem GV_any {w : World} {st : Nat → Prop} {β : List Nat} (v : Value) : GV w st β .any v := by simp [GV]

theorem aeval_sound {w : World} {st : Nat → Prop} {β : List Nat} {env : Env} {a : Act} (h : GEnv w st β env a.tmps) (x : Operand) : GV w st β (j7 env x) (a.eval x) := by
  cases x with
  | tmp t =>
    simp only [j7, Act.eval]
    split
    · rename_i ht
      cases hl : env.lookup t with
      | none => exact GV_any _
      | some x => exact tget_tmp ht ▸ (h t x hl).2
    · exact GV_any _
  | const v =>
    simp only [j7, Act.eval]
    cases hc : jj v with
    | none => exact GV_any _
    | some x => exact aconst_sound hc
  | global g =>
    simp only [j7, Act.eval]
    cases hl : env.lookup (j3 + g) with
    | none => exact GV_any _
    | some x => exact tget_glob a.tmps g ▸ (h _ x hl).2
  | func f => simp [j7, Act.eval, GV, GD, GDl]

/-- What is known if w holds. -/
def unopt (w : Bool) : AV → AV
  | .opt c x => if w = true → c = true then x else .any
  | x => x
theorem unopt_sound {w : World} {st : Nat → Prop} {β : List Nat} {x : AV} {v : Value} {b : Bool} (hb : b = true) (h : GV w st β x v) : GV w st β (unopt b x) v := by
  unfold unopt
  split
  · split
    · rename_i hc
      simp only [GV] at h
      exact h.1 (hc hb)
    · exact GV_any v
  · exact h
def xm (w : Bool) (env : Env) (t : Bool) (x : Operand) : AV := unopt (w && t) (j7 env x)
theorem alook_sound {w : World} {st : Nat → Prop} {β : List Nat} {env : Env} {a : Act} (h : GEnv w st β env a.tmps) (t : Bool) (x : Operand) (ht : t = true) : GV w st β (xm true env t x) (a.eval x) := unopt_sound (by simpa using ht) (aeval_sound h x)

/-! ### Types -/
def aggT (P : Program) (t : TypeId) : Option Bool := (P.underlying t).map fun | .struct _ | .array _ _ => true | _ => false
def sizeT (P : Program) (t : TypeId) : Option Nat := (P.info? t).map (·.size)
def zeroT (P : Program) (t : TypeId) : Option (List AV) := ((P.info? t).bind (·.zero)).bind fun v => yu v.cells.toList

section
variable {P : Program} {w : World}
theorem run_isAgg {t : TypeId} {b : Bool} (h : aggT P t = some b) : (isAgg t).run P w = .ok b w := by
  unfold aggT at h
  obtain ⟨d, hd, hb⟩ := Option.map_eq_some_iff.1 h
  subst hb
  simp only [isAgg, Sem.run_bind, run_underlying hd, Result.andThen_ok]
  cases d <;> rfl
theorem run_sizeOf {t : TypeId} {n : Nat} (h : sizeT P t = some n) : (sizeOf t).run P w = .ok n w := by
  unfold sizeT at h
  obtain ⟨i, hi, rfl⟩ := Option.map_eq_some_iff.1 h
  simp [sizeOf, typeInfo, hi]
theorem run_zeroValue {t : TypeId} {cs : List AV} (h : zeroT P t = some cs) : ∃ z, (zeroValue t).run P w = .ok z w ∧ yu z.cells.toList = some cs := by
  unfold zeroT at h
  obtain ⟨z, hz, hc⟩ := Option.bind_eq_some_iff.1 h
  obtain ⟨i, hi, hz⟩ := Option.bind_eq_some_iff.1 hz
  exact ⟨z, by simp [zeroValue, typeInfo, hi, hz], hc⟩
end

/-! ### Loads -/
def j9 (P : Program) (t : TypeId) (cs : List AV) (j : Nat) : Option AV :=
  match aggT P t, sizeT P t with
  | some true, some n => if j + n ≤ cs.length then some (.agg ((cs.drop j).take n)) else none
  | some false, some _ => cs[j]?
  | _, _ => none

/-- The cells that a pointer leads to, and where in them. -/
def yr (σ : List AObj) : AV → Option (List AV × Nat)
  | .ptr o j => match σ[o]? with
    | some (.box cs _) => some (cs, j)
    | some (.fzb cs) => some (cs.map .d, j)
    | _ => none
  | .eptr o sz i j => match σ[o]? with
    | some (.drow es _ sz') => if sz = sz' then (es[i]?).map fun e => (e.map .d, j) else none
    | some (.fz sz' es) => if sz = sz' then (es[i]?).map fun e => (e.map .d, j) else none
    | _ => none
  | .d (.rp cs) => some (cs.map .d, 0)
  | _ => none

theorem cellsAt_sound {pr : Nat → Prop} {w : World} {σ : List AObj} {β : List Nat} (I : Inv pr w σ β) {x : AV} {v : Value} (hx : GV w (stOf pr w σ β) β x v) {cs : List AV} {j : Nat} (h : yr σ x = some (cs, j)) :
    ∃ b o, v = .pointer (some ⟨b, o + j, none⟩) ∧ ∀ (i : Nat) (y : AV), cs[i]? = some y → ∃ u, w.cell? ⟨b, o + i, none⟩ = some u ∧ GV w (stOf pr w σ β) β y u := by
  unfold yr at h
  split at h
  · rename_i o j'
    simp only [GV] at hx
    obtain ⟨b, hb, rfl⟩ := hx
    split at h
    · rename_i cs' ty hσ
      simp only [Option.some.injEq, Prod.mk.injEq] at h
      obtain ⟨rfl, rfl⟩ := h
      obtain ⟨vs, hh, hg⟩ := I.holds o _ b hσ hb
      refine ⟨b, 0, by simp, fun i y hi => ?_⟩
      obtain ⟨u, hu, hy⟩ := GVl.get hg hi
      exact ⟨u, by simp [World.cell?, hh, hu], hy⟩
    · rename_i cs' hσ
      simp only [Option.some.injEq, Prod.mk.injEq] at h
      obtain ⟨rfl, rfl⟩ := h
      obtain ⟨_, hg⟩ := I.holds o _ b hσ hb
      refine ⟨b, 0, by simp, fun i y hi => ?_⟩
      rw [List.getElem?_map] at hi
      obtain ⟨c, hc, rfl⟩ := Option.map_eq_some_iff.1 hi
      obtain ⟨u, hu, hy⟩ := GDs.get hg hc
      exact ⟨u, hu, by simpa [GV] using hy⟩
    · cases h
  · rename_i o sz i0 j'
    simp only [GV] at hx
    obtain ⟨b, hb, rfl⟩ := hx
    split at h
    · rename_i es ty sz' hσ
      split at h
      · rename_i hsz
        subst hsz
        obtain ⟨e, he, heq⟩ := Option.map_eq_some_iff.1 h
        simp only [Prod.mk.injEq] at heq
        obtain ⟨rfl, rfl⟩ := heq
        obtain ⟨c, hh, hc, hg⟩ := I.holds o _ b hσ hb
        obtain ⟨_, hg⟩ := GDe.get hg he
        refine ⟨b, i0 * sz, rfl, fun i y hi => ?_⟩
        rw [List.getElem?_map] at hi
        obtain ⟨c', hc', rfl⟩ := Option.map_eq_some_iff.1 hi
        obtain ⟨u, hu, hy⟩ := GDs.get hg hc'
        exact ⟨u, by simpa using hu, by simpa [GV] using hy⟩
      · cases h
    · rename_i sz' es hσ
      split at h
      · rename_i hsz
        subst hsz
        obtain ⟨e, he, heq⟩ := Option.map_eq_some_iff.1 h
        simp only [Prod.mk.injEq] at heq
        obtain ⟨rfl, rfl⟩ := heq
        obtain ⟨_, hg⟩ := I.holds o _ b hσ hb
        obtain ⟨_, hg⟩ := GDe.get hg he
        refine ⟨b, i0 * sz, rfl, fun i y hi => ?_⟩
        rw [List.getElem?_map] at hi
        obtain ⟨c', hc', rfl⟩ := Option.map_eq_some_iff.1 hi
        obtain ⟨u, hu, hy⟩ := GDs.get hg hc'
        exact ⟨u, by simpa using hu, by simpa [GV] using hy⟩
      · cases h
    · cases h
  · rename_i cs'
    simp only [Option.some.injEq, Prod.mk.injEq] at h
    obtain ⟨rfl, rfl⟩ := h
    simp only [GV, GD] at hx
    obtain ⟨b, off, rfl, hb, hg⟩ := hx
    refine ⟨b, off, by simp, fun i y hi => ?_⟩
    rw [List.getElem?_map] at hi
    obtain ⟨c, hc, rfl⟩ := Option.map_eq_some_iff.1 hi
    obtain ⟨u, hu, hy⟩ := GDs.get hg hc
    exact ⟨u, hu, by simpa [GV] using hy⟩
  · cases h

def j8 (P : Program) (σ : List AObj) (t : TypeId) (x : AV) : Option AV := (yr σ x).bind fun p => j9 P t p.1 p.2

theorem pickV_sound {P : Program} {w : World} {st : Nat → Prop} {β : List Nat} {t : TypeId} {cs : List AV} {j : Nat} {y : AV} {b o : Nat}
    (hc : ∀ (i : Nat) (x : AV), cs[i]? = some x → ∃ u, w.cell? ⟨b, o + i, none⟩ = some u ∧ GV w st β x u) (h : j9 P t cs j = some y) :
    ∃ u, (loadVar t ⟨b, o + j, none⟩).run P w = .ok u w ∧ GV w st β y u := by
  unfold j9 at h
  split at h
  · rename_i n ha hs
    split at h
    · rename_i hle
      injection h with h; subst h
      obtain ⟨vs, hg, hv⟩ := cells_list (w := w) (st := st) (β := β) ((cs.drop j).take n) b (o + j) (fun i x hi => by
        have hi' : cs[j + i]? = some x := by
          rw [List.getElem?_take] at hi
          split at hi
          · rwa [List.getElem?_drop] at hi
          · cases hi
        obtain ⟨u, hu, hx⟩ := hc (j + i) x hi'
        exact ⟨u, by rw [← hu]; congr 2; omega, hx⟩)
      have hl : vs.length = n := by
        rw [GVl.length hg, List.length_take, List.length_drop]; omega
      have hrun := run_loadCells_list (P := P) w ⟨b, o + j, none⟩ vs (fun i v hi => by rw [add_spotless]; exact hv i v hi)
      rw [hl] at hrun
      refine ⟨.agg vs.toArray, ?_, by simp only [GV]; exact ⟨vs, rfl, hg⟩⟩
      simp only [loadVar, Sem.run_bind, run_isAgg ha, Result.andThen_ok, if_true, run_sizeOf hs, hrun, Sem.run_pure]
    · cases h
  · rename_i n ha hs
    obtain ⟨u, hu, hx⟩ := hc j y h
    refine ⟨u, ?_, hx⟩
    simp only [loadVar, Sem.run_bind, run_isAgg ha, Result.andThen_ok, Bool.false_eq_true, if_false]
    rw [run_load, hu]
  · cases h

theorem aload_sound {pr : Nat → Prop} {P : Program} {w : World} {σ : List AObj} {β : List Nat} (I : Inv pr w σ β) {t : TypeId} {x y : AV} {v : Value} (hx : GV w (stOf pr w σ β) β x v) (h : j8 P σ t x = some y) :
    ∃ u, (Instr.loadAt t v).run P w = .ok u w ∧ GV w (stOf pr w σ β) β y u := by
  obtain ⟨⟨cs, j⟩, hc, hp⟩ := Option.bind_eq_some_iff.1 h
  obtain ⟨b, o, rfl, hcells⟩ := cellsAt_sound I hx hc
  obtain ⟨u, hu, hy⟩ := pickV_sound (P := P) hcells hp
  exact ⟨u, by simpa [Instr.loadAt, Instr.sureAddr] using hu, hy⟩

end Go.Proofs.YtblejchodicaoaaGreatDoor.Eng

/-
  THE ENGINE, part D: the rest of the operations that leave world and store as they are. Program-independent. Own work.
-/
namespace Go.Proofs.YtblejchodicaoaaGreatDoor.Eng
open Go Go.RowKit

/-! ### Arithmetic, comparisons -/
def abits (op : BinOp) (k : IntKind) (x y : Int) : Option Int :=
  let a := BitVec.ofInt k.bits x
  let b := BitVec.ofInt k.bits y
  match op with
  | .and => some (k.wrap (a &&& b).toNat)
  | .or => some (k.wrap (a ||| b).toNat)
  | .xor => some (k.wrap (a ^^^ b).toNat)
  | .andNot => some (k.wrap (a &&& ~~~b).toNat)
  | _ => none

def jf (op : BinOp) (k : IntKind) (a b : Int) : Option D :=
  match op with
  | .add => some (.int k (k.wrap (a + b)))
  | .sub => some (.int k (k.wrap (a - b)))
  | .mul => some (.int k (k.wrap (a * b)))
  | .quo => if b = 0 then none else some (.int k (k.wrap (a.tdiv b)))
  | .rem => if b = 0 then none else some (.int k (a.tmod b))
  | .and | .or | .xor | .andNot => (abits op k a b).map (.int k)
  | .eql => some (.bool (a == b))
  | .neq => some (.bool (a != b))
  | .lss => some (.bool (decide (a < b)))
  | .leq => some (.bool (decide (a ≤ b)))
  | .gtr => some (.bool (decide (a > b)))
  | .geq => some (.bool (decide (a ≥ b)))
  | _ => none

def jg (op : BinOp) (a b : List UInt8) : Option D :=
  match op with
  | .add => if a.length + b.length ≤ 9223372036854775807 then some (.str (a ++ b)) else none
  | .eql => some (.bool (a == b))
  | .neq => some (.bool (!(a == b)))
  | .lss => some (.bool (Op.bytesLess a b))
  | .leq => some (.bool (Op.bytesLess a b || a == b))
  | .gtr => some (.bool (!(Op.bytesLess a b || a == b)))
  | .geq => some (.bool (!Op.bytesLess a b))
  | _ => none

def isBoolT (P : Program) (t : TypeId) : Bool := match P.underlying t with | some .bool => true | _ => false
def isPtrT (P : Program) (t : TypeId) : Bool := match P.underlying t with | some (.pointer _) => true | _ => false
def isFuncT (P : Program) (t : TypeId) : Bool := match P.underlying t with | some (.func ..) => true | _ => false

def isSliceT (P : Program) (t : TypeId) : Bool := match P.underlying t with | some (.slice _) => true | _ => false
def ashift (op : BinOp) (k : IntKind) (a b : Int) : Option D :=
  if 0 ≤ b then
    match op with
    | .shl => some (.int k (k.wrap (a * 2 ^ min b.toNat k.bits)))
    | .shr => some (.int k (a.fdiv (2 ^ min b.toNat k.bits)))
    | _ => none
  else none

/-- Pointers to what has cells. -/
def isPtrNZ (P : Program) (t : TypeId) : Bool := match P.underlying t with | some (.pointer e) => (match sizeT P e with | some (_ + 1) => true | _ => false) | _ => false

def wg (P : Program) (op : BinOp) (t : TypeId) (x y : AV) : Option AV :=
  match x, y with
  | .d (.int k a), .d (.int k' b) =>
    if op = .shl ∨ op = .shr then (ashift op k a b).map .d
    else if k = k' then (jf op k a b).map .d else none
  | .d (.str a), .d (.str b) => (jg op a b).map .d
  | .d (.bool a), .d (.bool b) =>
    if isBoolT P t then (match op with | .eql => some (.d (.bool (a == b))) | .neq => some (.d (.bool (!(a == b)))) | _ => none) else none
  | .d .nilp, .d .nilp => if isPtrT P t then (match op with | .eql => some (.d (.bool true)) | .neq => some (.d (.bool false)) | _ => none) else none
  | .d .nilf, .d .nilf => if isFuncT P t then (match op with | .eql => some (.d (.bool true)) | .neq => some (.d (.bool false)) | _ => none) else none
  | .d (.rp _), .d .nilp | .ptr _ _, .d .nilp | .eptr _ _ _ _, .d .nilp => if isPtrT P t then (match op with | .eql => some (.d (.bool false)) | .neq => some (.d (.bool true)) | _ => none) else none
  | .d (.fn _ _ _), .d .nilf | .fn _ _ _, .d .nilf => if isFuncT P t then (match op with | .eql => some (.d (.bool false)) | .neq => some (.d (.bool true)) | _ => none) else none
  | .ptr o j, .ptr o' j' => if isPtrNZ P t ∧ o' = o then (match op with | .eql => some (.d (.bool (j == j'))) | .neq => some (.d (.bool (!(j == j')))) | _ => none) else none
  | .d .nils, .d .nils => if isSliceT P t then (match op with | .eql => some (.d (.bool true)) | .neq => some (.d (.bool false)) | _ => none) else none
  | .d (.rs _ es), .d .nils => if isSliceT P t ∧ es ≠ [] then (match op with | .eql => some (.d (.bool false)) | .neq => some (.d (.bool true)) | _ => none) else none
  | .sl _ _ _ _, .d .nils => if isSliceT P t then (match op with | .eql => some (.d (.bool false)) | .neq => some (.d (.bool true)) | _ => none) else none
  | _, _ => none

section
variable {pr : Nat → Prop} {P : Program} {w : World} {st : Nat → Prop} {β : List Nat}

theorem bytesLess_toList (a b : List UInt8) : (Op.bytesLess (ByteArray.mk a.toArray).toList (ByteArray.mk b.toArray).toList) = Op.bytesLess a b := by simp

theorem run_aintop {op : BinOp} {k : IntKind} {a b : Int} {t : TypeId} {r : D} (hs : ¬ (op = .shl ∨ op = .shr)) (h : jf op k a b = some r) :
    ∃ u, (binOp op t (.int k a) (.int k b)).run P w = .ok u w ∧ GD w st r u := by
  cases op <;> simp_all [jf, abits, binOp, Op.intArith, Op.intDiv, Op.intBits, Op.intCmp] <;>
    first
      | (subst h; simp [GD]; done)
      | (obtain ⟨_, h2⟩ := h; subst h2; simp [GD]; done)

theorem run_ashift {op : BinOp} {k k' : IntKind} {a b : Int} {t : TypeId} {r : D} (hs : op = .shl ∨ op = .shr) (h : ashift op k a b = some r) :
    ∃ u, (binOp op t (.int k a) (.int k' b)).run P w = .ok u w ∧ GD w st r u := by
  unfold ashift at h
  split at h
  · rename_i hb
    have hb' : ¬ b < 0 := by omega
    rcases hs with rfl | rfl
    · simp only [Option.some.injEq] at h; subst h
      simp [binOp, Op.shift, hb', GD]
    · simp only [Option.some.injEq] at h; subst h
      simp [binOp, Op.shift, hb', GD]
  · cases h

theorem run_astrop {op : BinOp} {a b : List UInt8} {t : TypeId} {r : D} (h : jg op a b = some r) :
    ∃ u, (binOp op t (sval a) (sval b)).run P w = .ok u w ∧ GD w st r u := by
  unfold jg at h
  split at h
  · split at h
    · rename_i hl
      simp only [Option.some.injEq] at h; subst h
      refine ⟨sval (a ++ b), ?_, by simp [GD]⟩
      have hrun := run_string_add_sum (P := P) w ⟨a.toArray⟩ ⟨b.toArray⟩ (by simpa [ByteArray.size] using hl)
      have e : (⟨a.toArray⟩ ++ ⟨b.toArray⟩ : ByteArray) = ⟨(a ++ b).toArray⟩ := by
        apply ByteArray.ext
        simp
      rw [e] at hrun
      simpa [binOp, sval] using hrun
    · cases h
  all_goals first
    | (simp only [Option.some.injEq] at h; subst h; simp [binOp, sval, Op.stringOp, GD]; done)
    | cases h

theorem one_guard {op : BinOp} {t : TypeId} {x y : Operand} {u v : Value} (hu : u.oneCell' = true) (hi : u ≠ .nilIface) : (eqGuard op t x y u v).run P w = .ok () w := by
  unfold eqGuard
  cases op <;> cases u <;> simp_all [Value.oneCell'] <;> cases v <;> simp_all

theorem GV.ptr_some {o j : Nat} {v : Value} (h : GV w st β (.ptr o j) v) : ∃ a, v = .pointer (some a) := by
  simp only [GV] at h; obtain ⟨b, _, rfl⟩ := h; exact ⟨_, rfl⟩
theorem GV.eptr_some {o sz i j : Nat} {v : Value} (h : GV w st β (.eptr o sz i j) v) : ∃ a, v = .pointer (some a) := by
  simp only [GV] at h; obtain ⟨b, _, rfl⟩ := h; exact ⟨_, rfl⟩
theorem GV.rp_some {cs : List D} {v : Value} (h : GV w st β (.d (.rp cs)) v) : ∃ a, v = .pointer (some a) := by
  simp only [GV, GD] at h; obtain ⟨b, _, rfl, _⟩ := h; exact ⟨_, rfl⟩

theorem eql_of {t : TypeId} {x y : Value} {b : Bool} (h : ∀ d, (Op.equalIn (d + 1) t x y).run P w = .ok b w) : (Op.equal t x y).run P w = .ok b w := h 9999
theorem eql_run {t : TypeId} {x y : Value} {b : Bool} (hb : binOp .eql t x y = (do pure (.bool (← Op.equal t x y)))) (h : (Op.equal t x y).run P w = .ok b w) : (binOp .eql t x y).run P w = .ok (.bool b) w := by
  rw [hb, Sem.run_bind, h]; rfl
theorem neq_run {t : TypeId} {x y : Value} {b : Bool} (hb : binOp .neq t x y = (do pure (.bool (!(← Op.equal t x y))))) (h : (Op.equal t x y).run P w = .ok b w) : (binOp .neq t x y).run P w = .ok (.bool (!b)) w := by
  rw [hb, Sem.run_bind, h]; rfl
/-- '==' and '!=' of what the model's '==' decides. -/
theorem cmp_run {op : BinOp} {t : TypeId} {x y : Value} {b : Bool} {r : AV} (h1 : binOp .eql t x y = (do pure (.bool (← Op.equal t x y)))) (h2 : binOp .neq t x y = (do pure (.bool (!(← Op.equal t x y)))))
    (he : ∀ d, (Op.equalIn (d + 1) t x y).run P w = .ok b w)
    (h : (match op with | .eql => some (AV.d (.bool b)) | .neq => some (AV.d (.bool (!b))) | _ => none) = some r) : ∃ u, (binOp op t x y).run P w = .ok u w ∧ GV w st β r u := by
  split at h
  · simp only [Option.some.injEq] at h; subst h
    exact ⟨.bool b, eql_run h1 (eql_of he), by simp [GV, GD]⟩
  · simp only [Option.some.injEq] at h; subst h
    exact ⟨.bool (!b), neq_run h2 (eql_of he), by simp [GV, GD]⟩
  · cases h

theorem ptr_cmp {op : BinOp} {t : TypeId} {a : Addr} {r : AV} (ht : isPtrT P t = true)
    (h : (match op with | .eql => some (AV.d (.bool false)) | .neq => some (AV.d (.bool true)) | _ => none) = some r) :
    ∃ u, (binOp op t (.pointer (some a)) (.pointer none)).run P w = .ok u w ∧ GV w st β r u := by
  unfold isPtrT at ht
  split at ht
  · rename_i e he
    exact cmp_run rfl rfl (b := false) (fun d => by simp [Op.equalIn, run_underlying he]) h
  · cases ht
theorem fn_cmp {op : BinOp} {t : TypeId} {f : Fn} {us vs : Array Value} {r : AV} (ht : isFuncT P t = true)
    (h : (match op with | .eql => some (AV.d (.bool false)) | .neq => some (AV.d (.bool true)) | _ => none) = some r) :
    ∃ u, (binOp op t (.func f us vs) .nilFunc).run P w = .ok u w ∧ GV w st β r u := by
  unfold isFuncT at ht
  split at ht
  · rename_i ps rs vr he
    exact cmp_run rfl rfl (b := false) (fun d => by simp [Op.equalIn, run_underlying he]) h
  · cases ht

theorem sl_cmp {op : BinOp} {t : TypeId} {a : Option Addr} {n c : Nat} {r : AV} (ht : isSliceT P t = true)
    (h : (match op with | .eql => some (AV.d (.bool a.isNone)) | .neq => some (AV.d (.bool (!a.isNone))) | _ => none) = some r) :
    ∃ u, (binOp op t (.slice a n c) (.slice none 0 0)).run P w = .ok u w ∧ GV w st β r u := by
  unfold isSliceT at ht
  split at ht
  · rename_i e he
    exact cmp_run rfl rfl (b := a.isNone) (fun d => Lib.run_equalIn_slice_nil w d t e a n c 0 0 he) h
  · cases ht
theorem abin_sound {op : BinOp} {t : TypeId} {x y : Operand} {X Y r : AV} {u v : Value} (hX : GV w st β X u) (hY : GV w st β Y v) (h : wg P op t X Y = some r) :
    ∃ z, (do eqGuard op t x y u v; binOp op t u v : Sem Value).run P w = .ok z w ∧ GV w st β r z := by
  unfold wg at h
  split at h
  · rename_i k a k' b
    obtain rfl : u = .int k a := by simpa [GV, GD] using hX
    obtain rfl : v = .int k' b := by simpa [GV, GD] using hY
    rw [Sem.run_bind, one_guard rfl (by simp)]
    split at h
    · rename_i hs
      obtain ⟨d, hd, rfl⟩ := Option.map_eq_some_iff.1 h
      obtain ⟨z, hz, hg⟩ := run_ashift (P := P) (w := w) (st := st) (t := t) (k' := k') hs hd
      exact ⟨z, hz, by simpa [GV] using hg⟩
    · rename_i hs
      split at h
      · rename_i hk; subst hk
        obtain ⟨d, hd, rfl⟩ := Option.map_eq_some_iff.1 h
        obtain ⟨z, hz, hg⟩ := run_aintop (P := P) (w := w) (st := st) (t := t) hs hd
        exact ⟨z, hz, by simpa [GV] using hg⟩
      · cases h
  · rename_i a b
    obtain rfl : u = sval a := by simpa [GV, GD] using hX
    obtain rfl : v = sval b := by simpa [GV, GD] using hY
    rw [Sem.run_bind, one_guard rfl (by simp [sval])]
    obtain ⟨d, hd, rfl⟩ := Option.map_eq_some_iff.1 h
    obtain ⟨z, hz, hg⟩ := run_astrop (P := P) (w := w) (st := st) (t := t) hd
    exact ⟨z, hz, by simpa [GV] using hg⟩
  · rename_i a b
    obtain rfl : u = .bool a := by simpa [GV, GD] using hX
    obtain rfl : v = .bool b := by simpa [GV, GD] using hY
    rw [Sem.run_bind, one_guard rfl (by simp)]
    split at h
    · rename_i hb
      unfold isBoolT at hb
      split at hb
      · rename_i he
        exact cmp_run rfl rfl (b := a == b) (fun d => by simp [Op.equalIn, run_underlying he]) h
      · cases hb
    · cases h
  · obtain rfl : u = .pointer none := by simpa [GV, GD] using hX
    obtain rfl : v = .pointer none := by simpa [GV, GD] using hY
    rw [Sem.run_bind, one_guard rfl (by simp)]
    split at h
    · rename_i hb
      unfold isPtrT at hb
      split at hb
      · rename_i e he
        exact cmp_run rfl rfl (b := true) (fun d => by simp [Op.equalIn, run_underlying he]) h
      · cases hb
    · cases h
  · obtain rfl : u = .nilFunc := by simpa [GV, GD] using hX
    obtain rfl : v = .nilFunc := by simpa [GV, GD] using hY
    rw [Sem.run_bind, one_guard rfl (by simp)]
    split at h
    · rename_i hb
      unfold isFuncT at hb
      split at hb
      · rename_i ps rs vr he
        exact cmp_run rfl rfl (b := true) (fun d => by simp [Op.equalIn, run_underlying he]) h
      · cases hb
    · cases h
  · obtain ⟨a, rfl⟩ := GV.rp_some hX
    obtain rfl : v = .pointer none := by simpa [GV, GD] using hY
    rw [Sem.run_bind, one_guard rfl (by simp)]
    split at h
    · rename_i hb; exact ptr_cmp hb h
    · cases h
  · obtain ⟨a, rfl⟩ := GV.ptr_some hX
    obtain rfl : v = .pointer none := by simpa [GV, GD] using hY
    rw [Sem.run_bind, one_guard rfl (by simp)]
    split at h
    · rename_i hb; exact ptr_cmp hb h
    · cases h
  · obtain ⟨a, rfl⟩ := GV.eptr_some hX
    obtain rfl : v = .pointer none := by simpa [GV, GD] using hY
    rw [Sem.run_bind, one_guard rfl (by simp)]
    split at h
    · rename_i hb; exact ptr_cmp hb h
    · cases h
  · simp only [GV, GD] at hX
    obtain ⟨us, vs, rfl, _⟩ := hX
    obtain rfl : v = .nilFunc := by simpa [GV, GD] using hY
    rw [Sem.run_bind, one_guard rfl (by simp)]
    split at h
    · rename_i hb; exact fn_cmp hb h
    · cases h
  · simp only [GV] at hX
    obtain ⟨us, vs, rfl, _⟩ := hX
    obtain rfl : v = .nilFunc := by simpa [GV, GD] using hY
    rw [Sem.run_bind, one_guard rfl (by simp)]
    split at h
    · rename_i hb; exact fn_cmp hb h
    · cases h
  · rename_i o j o' j'
    split at h
    · rename_i hc
      obtain ⟨hb, rfl⟩ := hc
      unfold isPtrNZ at hb
      split at hb
      · rename_i e he
        split at hb
        · rename_i n hn
          simp only [GV] at hX hY
          obtain ⟨b, hb1, rfl⟩ := hX
          obtain ⟨b', hb2, rfl⟩ := hY
          obtain rfl : b' = b := by rw [hb1] at hb2; simpa using hb2.symm
          rw [Sem.run_bind, one_guard rfl (by simp)]
          refine cmp_run rfl rfl (b := j == j') (fun d => ?_) h
          have hsz := run_sizeOf (w := w) hn
          have haddr : ((⟨b', j, none⟩ : Addr) == ⟨b', j', none⟩) = (j == j') := by
            rw [Bool.eq_iff_iff]
            simp
          simp [Op.equalIn, run_underlying he, hsz, sameAddr, haddr]
        · cases hb
      · cases hb
    · cases h
  · obtain rfl : u = .slice none 0 0 := by simpa [GV, GD] using hX
    obtain rfl : v = .slice none 0 0 := by simpa [GV, GD] using hY
    rw [Sem.run_bind, one_guard rfl (by simp)]
    split at h
    · rename_i hb; exact sl_cmp (a := none) hb h
    · cases h
  · rename_i sz es
    obtain rfl : v = .slice none 0 0 := by simpa [GV, GD] using hY
    split at h
    · rename_i hb
      simp only [GV, GD] at hX
      rcases hX with ⟨h0, _⟩ | ⟨b, off, c, rfl, _⟩
      · exact absurd (List.eq_nil_of_length_eq_zero h0) hb.2
      · rw [Sem.run_bind, one_guard rfl (by simp)]
        exact sl_cmp (a := some _) hb.1 h
    · cases h
  · obtain rfl : v = .slice none 0 0 := by simpa [GV, GD] using hY
    simp only [GV] at hX
    obtain ⟨b, c, _, rfl, _⟩ := hX
    rw [Sem.run_bind, one_guard rfl (by simp)]
    split at h
    · rename_i hb; exact sl_cmp (a := some _) hb h
    · cases h
  · cases h
end

def aun (op : UnOp) : AV → Option AV
  | .d (.bool b) => match op with | .not => some (.d (.bool (!b))) | _ => none
  | .d (.int k n) => match op with
    | .neg => some (.d (.int k (k.wrap (0 - n))))
    | .xor => (abits .xor k (if k.signed then -1 else k.max) n).map fun r => .d (.int k r)
    | _ => none
  | _ => none

theorem aun_sound {P : Program} {w : World} {st : Nat → Prop} {β : List Nat} {op : UnOp} {X r : AV} {u : Value} (hX : GV w st β X u) (h : aun op X = some r) :
    ∃ z, (Op.unary op u).run P w = .ok z w ∧ GV w st β r z := by
  unfold aun at h
  split at h
  · rename_i b
    obtain rfl : u = .bool b := by simpa [GV, GD] using hX
    split at h
    · simp only [Option.some.injEq] at h; subst h
      exact ⟨.bool (!b), by simp [Op.unary], by simp [GV, GD]⟩
    · cases h
  · rename_i k n
    obtain rfl : u = .int k n := by simpa [GV, GD] using hX
    split at h
    · simp only [Option.some.injEq] at h; subst h
      exact ⟨_, by simp [Op.unary, Op.intArith]; rfl, by simp [GV, GD]⟩
    · simp only [abits, Option.map_some, Option.some.injEq] at h; subst h
      exact ⟨_, by simp [Op.unary, Op.intBits]; rfl, by simp [GV, GD]⟩
    · cases h
  · cases h

end Go.Proofs.YtblejchodicaoaaGreatDoor.Eng

/-
  THE ENGINE, part E: places, parts, lengths, conversions, values put together: operations that leave world and store as they are. Program-independent. Own work.
-/
namespace Go.Proofs.YtblejchodicaoaaGreatDoor.Eng
open Go Go.RowKit

/-! ### The cells of a value -/
def je : AV → Option (List AV)
  | .agg cs => some cs
  | .tup _ => none
  | .opt _ _ => none
  | .any => none
  | x => some [x]

section
variable {pr : Nat → Prop} {P : Program} {w : World} {st : Nat → Prop} {β : List Nat}

theorem GD.one {x : D} {v : Value} (h : GD w st x v) : v.oneCell' = true := by
  cases x <;> simp only [GD] at h
  case any => exact h
  case rp => obtain ⟨_, _, rfl, _⟩ := h; rfl
  case nils => subst h; rfl
  case rs => rcases h with ⟨_, _, _, rfl⟩ | ⟨_, _, _, rfl, _⟩ <;> rfl
  case fn => obtain ⟨_, _, rfl, _⟩ := h; rfl
  case iface => obtain ⟨_, rfl, _⟩ := h; rfl
  all_goals (subst h; rfl)
theorem one_cells {v : Value} (h : v.oneCell' = true) : v.cells = #[v] := by cases v <;> first | rfl | cases h

/-- Is it a value of one cell (known to be)? -/
def AV.one : AV → Bool
  | .agg _ | .tup _ | .any | .opt _ _ => false
  | _ => true
theorem GV.one {x : AV} {v : Value} (h : GV w st β x v) (hx : x.one = true) : v.oneCell' = true := by
  cases x with
  | d y =>
    simp only [GV] at h
    exact h.one
  | any => cases hx
  | opt => cases hx
  | agg => cases hx
  | tup => cases hx
  | ptr => simp only [GV] at h; obtain ⟨_, _, rfl⟩ := h; rfl
  | eptr => simp only [GV] at h; obtain ⟨_, _, rfl⟩ := h; rfl
  | sl => simp only [GV] at h; obtain ⟨_, _, _, rfl, _⟩ := h; rfl
  | fn => simp only [GV] at h; obtain ⟨_, _, rfl, _⟩ := h; rfl
  | map => simp only [GV] at h; obtain ⟨_, _, rfl⟩ := h; rfl
  | obj => simp only [GV] at h; obtain ⟨_, _, rfl⟩ := h; rfl
  | yld => simp only [GV] at h; obtain ⟨_, _, rfl⟩ := h; rfl
  | cap0 => simp only [GV] at h; obtain ⟨_, rfl⟩ := h; rfl
  | pany => simp only [GV] at h; obtain ⟨_, rfl⟩ := h; rfl

theorem acells_one {x : AV} (hx : x.one = true) : je x = some [x] := by
  unfold je
  split <;> first | rfl | (cases hx)

theorem acells_sound {x : AV} {v : Value} (h : GV w st β x v) {cs : List AV} (hc : je x = some cs) : GVl w st β cs v.cells.toList := by
  by_cases hx : x.one = true
  · rw [acells_one hx, Option.some.injEq] at hc
    subst hc
    rw [one_cells (h.one hx)]
    simp only [GVl]
    exact ⟨v, [], rfl, h, rfl⟩
  · cases x with
    | agg cs' =>
      simp only [je, Option.some.injEq] at hc; subst hc
      simp only [GV] at h
      obtain ⟨vs, rfl, hg⟩ := h
      simpa [Value.cells] using hg
    | tup => cases hc
    | any => cases hc
    | opt => cases hc
    | _ => exact absurd rfl hx

/-! ### Filling cells -/
def xd (place : Nat → Option (Nat × Nat)) : List AV → List (Nat × AV) → Option (List AV)
  | cs, [] => some cs
  | cs, (i, x) :: r =>
    match place i, je x with
    | some (off, size), some xs => if xs.length = size ∧ off + size ≤ cs.length then xd place (cs.take off ++ xs ++ cs.drop (off + size)) r else none
    | _, _ => none

theorem fold_set (off : Nat) : ∀ (xs : List Value) (k : Nat) (cells : Array Value), off + k + xs.length ≤ cells.size →
    (xs.zipIdx k).foldl (fun cs (p : Value × Nat) => cs.setIfInBounds (off + p.2) p.1) cells = (cells.toList.take (off + k) ++ xs ++ cells.toList.drop (off + k + xs.length)).toArray
  | [], k, cells, h => by simp
  | x :: xs, k, cells, h => by
    simp only [List.length_cons] at h
    simp only [List.zipIdx_cons, List.foldl_cons]
    rw [fold_set off xs (k + 1) (cells.setIfInBounds (off + k) x) (by simp; omega)]
    congr 1
    have hlt : off + k < cells.size := by omega
    rw [Array.toList_setIfInBounds, List.length_cons]
    have e1 : (cells.toList.set (off + k) x).take (off + (k + 1)) = cells.toList.take (off + k) ++ [x] := by
      rw [show off + (k + 1) = (off + k) + 1 from by omega, List.take_succ_eq_append_getElem (by simpa using hlt), List.take_set, List.set_eq_of_length_le (by simp; omega)]
      simp
    have e2 : (cells.toList.set (off + k) x).drop (off + (k + 1) + xs.length) = cells.toList.drop (off + k + (xs.length + 1)) := by
      rw [List.drop_set_of_lt (by omega), show off + (k + 1) + xs.length = off + k + (xs.length + 1) from by omega]
    rw [e1, e2]
    simp

theorem afill_sound {place : Nat → Option (Nat × Nat)} : ∀ {parts : List (Nat × AV)} {vparts : List (Nat × Value)} {cs r : List AV} {vs : List Value},
    (parts.map (·.1) = vparts.map (·.1)) → GVl w st β (parts.map (·.2)) (vparts.map (·.2)) → GVl w st β cs vs → xd place cs parts = some r →
    ∃ us, Instr.fill place vs.toArray vparts = some us.toArray ∧ GVl w st β r us
  | [], vparts, cs, r, vs, he, _, hg, h => by
    have : vparts = [] := by simpa using he.symm
    subst this
    simp only [xd, Option.some.injEq] at h; subst h
    exact ⟨vs, rfl, hg⟩
  | (i, x) :: parts, vparts, cs, r, vs, he, hp, hg, h => by
    cases vparts with
    | nil => simp at he
    | cons q vparts =>
      obtain ⟨i', v⟩ := q
      simp only [List.map_cons, List.cons.injEq] at he
      obtain ⟨rfl, he⟩ := he
      simp only [List.map_cons, GVl] at hp
      obtain ⟨v', r', hv, hx, hr⟩ := hp
      simp only [List.cons.injEq] at hv
      obtain ⟨rfl, rfl⟩ := hv
      simp only [xd] at h
      split at h
      · rename_i off size xs hpl hxs
        split at h
        · rename_i hcond
          obtain ⟨hl, hle⟩ := hcond
          have hxg := acells_sound hx hxs
          have hsz : v.cells.size = size := by
            have := GVl.length hxg
            rw [Array.length_toList] at this
            omega
          have hvs : vs.length = cs.length := GVl.length hg
          obtain ⟨us, hus, hgu⟩ := afill_sound (cs := cs.take off ++ xs ++ cs.drop (off + size)) (vs := vs.take off ++ v.cells.toList ++ vs.drop (off + size)) he hr
            (((hg.take off).append hxg).append (hg.drop (off + size))) h
          refine ⟨us, ?_, hgu⟩
          simp only [Instr.fill, hpl]
          rw [if_neg (by simp [hsz]; omega), ← hus]
          congr 1
          have hf := fold_set off v.cells.toList 0 vs.toArray (by simp [hsz]; omega)
          simp only [Nat.add_zero] at hf
          rw [show (off + v.cells.toList.length) = off + size from by simp [hsz]] at hf
          have hz : v.cells.zipIdx.toList = v.cells.toList.zipIdx := by simp
          rw [← hf, ← hz, Array.foldl_toList]
        · cases h
      · cases h
end

/-! ### Places -/
def fieldT (P : Program) (s : TypeId) (f : Nat) : Option Field := match P.underlying s with | some (.struct fs) => fs[f]? | _ => none

def xc (x : AV) (n : Nat) : Option AV :=
  match x with
  | .ptr o j => some (.ptr o (j + n))
  | .eptr o sz i j => some (.eptr o sz i (j + n))
  | .d (.rp cs) => some (.d (.rp (cs.drop n)))
  | _ => none

/-- A field of at least a cell: its type, and where it stands. -/
def fieldOff (P : Program) (s : TypeId) (f : Nat) : Option (TypeId × Nat) := match fieldT P s f with
  | some fld => match sizeT P fld.type with
    | some (_ + 1) => some (fld.type, fld.offset)
    | _ => none
  | none => none

def z7 (P : Program) (s : TypeId) (f : Nat) (x : AV) : Option AV :=
  match fieldOff P s f with
  | some q => xc x q.2
  | none => none

section
variable {pr : Nat → Prop} {P : Program} {w : World} {st : Nat → Prop} {β : List Nat}
theorem aplus_sound {x y : AV} {n : Nat} {v : Value} (hx : GV w st β x v) (h : xc x n = some y) : ∃ b o, v = .pointer (some ⟨b, o, none⟩) ∧ GV w st β y (.pointer (some ⟨b, o + n, none⟩)) := by
  unfold xc at h
  split at h
  · simp only [Option.some.injEq] at h; subst h
    simp only [GV] at hx
    obtain ⟨b, hb, rfl⟩ := hx
    exact ⟨b, _, rfl, by simp only [GV]; exact ⟨b, hb, rfl⟩⟩
  · simp only [Option.some.injEq] at h; subst h
    simp only [GV] at hx
    obtain ⟨b, hb, rfl⟩ := hx
    exact ⟨b, _, rfl, by simp only [GV]; exact ⟨b, hb, by simp [Nat.add_assoc]⟩⟩
  · simp only [Option.some.injEq] at h; subst h
    simp only [GV, GD] at hx
    obtain ⟨b, off, rfl, hb, hg⟩ := hx
    exact ⟨b, off, rfl, by simp only [GV, GD]; exact ⟨b, off + n, rfl, hb, hg.drop n⟩⟩
  · cases h

theorem afieldAddr_sound {s : TypeId} {f : Nat} {x y : AV} {v : Value} (hx : GV w st β x v) (h : z7 P s f x = some y) :
    ∃ u, (Instr.fieldAt s v f).run P w = .ok u w ∧ GV w st β y u := by
  have h' : (match fieldT P s f with
    | some fld => match sizeT P fld.type with
      | some (_ + 1) => xc x fld.offset
      | _ => none
    | none => none) = some y := by
    unfold z7 fieldOff at h
    rw [← h]
    split
    · split <;> rfl
    · rfl
  clear h
  have h := h'
  clear h'
  split at h
  · rename_i fld hf
    split at h
    · rename_i n hs
      obtain ⟨b, o, rfl, hy⟩ := aplus_sound hx h
      refine ⟨_, ?_, hy⟩
      unfold fieldT at hf
      split at hf
      · rename_i fs hu
        simp [Instr.fieldAt, run_underlying hu, hf, Instr.sureAddr, fieldPlace, run_sizeOf hs, add_spotless]
      · cases hf
    · cases h
  · cases h

def elemT (P : Program) (t : TypeId) : Option TypeId := match P.underlying t with | some (.slice e) => some e | _ => none

def z8 (P : Program) (t : TypeId) (x : AV) (i : Int) : Option AV :=
  match P.underlying t with
  | some (.slice e) =>
    match sizeT P e with
    | some sz =>
      match x with
      | .sl o sz' i0 n => if sz = sz' ∧ 0 ≤ i ∧ i < n then some (.eptr o sz (i0 + i.toNat) 0) else none
      | .d (.rs sz' es) => if sz = sz' ∧ 0 ≤ i then (es[i.toNat]?).map fun e => .d (.rp e) else none
      | _ => none
    | none => none
  | some (.array len e) =>
    match sizeT P e with
    | some sz => if 0 ≤ i ∧ i < len then xc x (i.toNat * sz) else none
    | none => none
  | _ => none

theorem aindexAddr_sound {t : TypeId} {k : IntKind} {i : Int} {x y : AV} {v : Value} (hx : GV w st β x v) (h : z8 P t x i = some y) :
    ∃ u, (Instr.indexAt t v (.int k i)).run P w = .ok u w ∧ GV w st β y u := by
  unfold z8 at h
  split at h
  · rename_i e hu
    split at h
    · rename_i sz hs
      split at h
      · rename_i o sz' i0 n
        split at h
        · rename_i hc
          obtain ⟨rfl, h0, h1⟩ := hc
          simp only [Option.some.injEq] at h; subst h
          simp only [GV] at hx
          obtain ⟨b, c, hb, rfl, hn, hcm, hcs⟩ := hx
          refine ⟨.pointer (some ⟨b, i0 * sz + i.toNat * sz, none⟩), ?_, by simp only [GV]; exact ⟨b, hb, by simp [Nat.add_mul]⟩⟩
          simp [Instr.indexAt, asIntOf, run_underlying hu, h0, h1, run_sizeOf hs, add_spotless]
        · cases h
      · rename_i sz' es
        split at h
        · rename_i hc
          obtain ⟨rfl, h0⟩ := hc
          obtain ⟨e', he', rfl⟩ := Option.map_eq_some_iff.1 h
          simp only [GV, GD] at hx
          rcases hx with ⟨hl, _⟩ | ⟨b, off, c, rfl, hc, hb, hg⟩
          · have : es = [] := List.eq_nil_of_length_eq_zero hl
            subst this; simp at he'
          · have hlt : i.toNat < es.length := (List.getElem?_eq_some_iff.1 he').1
            obtain ⟨_, hge⟩ := GDe.get hg he'
            refine ⟨.pointer (some ⟨b, off + i.toNat * sz, none⟩), ?_, by simp only [GV, GD]; exact ⟨b, _, rfl, hb, hge⟩⟩
            have h1 : i < (es.length : Int) := by omega
            simp [Instr.indexAt, asIntOf, run_underlying hu, h0, h1, run_sizeOf hs, add_spotless]
        · cases h
      · cases h
    · cases h
  · rename_i len e hu
    split at h
    · rename_i sz hs
      split at h
      · rename_i hc
        obtain ⟨h0, h1⟩ := hc
        obtain ⟨b, o, rfl, hy⟩ := aplus_sound hx h
        refine ⟨_, ?_, hy⟩
        simp [Instr.indexAt, asIntOf, run_underlying hu, h0, h1, run_sizeOf hs, add_spotless, Instr.sureAddr]
      · cases h
    · cases h
  · cases h

/-! ### Parts -/
def jh (P : Program) (s : TypeId) (f : Nat) (x : AV) : Option AV :=
  match x, fieldOff P s f with
  | .agg cs, some q => j9 P q.1 cs q.2
  | _, _ => none

theorem part_sound {t : TypeId} {cs : List AV} {vs : List Value} {j : Nat} {y : AV} (hg : GVl w st β cs vs) (h : j9 P t cs j = some y) :
    ∃ u, (part t vs.toArray j).run P w = .ok u w ∧ GV w st β y u := by
  unfold j9 at h
  split at h
  · rename_i n ha hs
    split at h
    · rename_i hle
      simp only [Option.some.injEq] at h; subst h
      refine ⟨.agg ((vs.drop j).take n).toArray, ?_, by simp only [GV]; exact ⟨_, rfl, (hg.drop j).take n⟩⟩
      simp only [part, Sem.run_bind, run_isAgg ha, Result.andThen_ok, if_true, run_sizeOf hs, Sem.run_pure]
      congr 2
      simp [List.extract_eq_take_drop]
    · cases h
  · rename_i n ha hs
    obtain ⟨u, hu, hx⟩ := hg.get h
    refine ⟨u, ?_, hx⟩
    simp only [part, Sem.run_bind, run_isAgg ha, Result.andThen_ok, Bool.false_eq_true, if_false, List.getElem?_toArray, hu, Sem.run_pure]
  · cases h

theorem afield_sound {s : TypeId} {f : Nat} {x y : AV} {v : Value} (hx : GV w st β x v) (h : jh P s f x = some y) :
    ∃ u, (Instr.field s v f).run P w = .ok u w ∧ GV w st β y u := by
  unfold jh at h
  split at h
  · rename_i cs q hq
    obtain ⟨fld, hf, rfl⟩ : ∃ fld, fieldT P s f = some fld ∧ q = (fld.type, fld.offset) := by
      unfold fieldOff at hq
      split at hq
      · rename_i fld hf
        split at hq
        · simp only [Option.some.injEq] at hq
          exact ⟨fld, hf, hq.symm⟩
        · cases hq
      · cases hq
    simp only [GV] at hx
    obtain ⟨vs, rfl, hg⟩ := hx
    obtain ⟨u, hu, hy⟩ := part_sound (P := P) hg h
    refine ⟨u, ?_, hy⟩
    unfold fieldT at hf
    split at hf
    · rename_i fs hus
      simp [Instr.field, run_underlying hus, hf, asAgg, hu]
    · cases hf
  · cases h

def ji (P : Program) (t : TypeId) (x : AV) (i : Int) : Option AV :=
  match P.underlying t, x with
  | some .string, .d (.str s) => if 0 ≤ i then (s[i.toNat]?).map fun b => .d (.int .u8 b.toNat) else none
  | some (.array len e), .agg cs => match sizeT P e with
    | some sz => if 0 ≤ i ∧ i < len then j9 P e cs (i.toNat * sz) else none
    | none => none
  | _, _ => none

theorem aindex_sound {t : TypeId} {k : IntKind} {i : Int} {x y : AV} {v : Value} (hx : GV w st β x v) (h : ji P t x i = some y) :
    ∃ u, (Instr.index t v (.int k i)).run P w = .ok u w ∧ GV w st β y u := by
  unfold ji at h
  split at h
  · rename_i s hu
    obtain rfl : v = sval s := by simpa [GV, GD] using hx
    split at h
    · rename_i h0
      obtain ⟨c, hc, rfl⟩ := Option.map_eq_some_iff.1 h
      have hlt : i.toNat < s.length := (List.getElem?_eq_some_iff.1 hc).1
      refine ⟨.int .u8 c.toNat, ?_, by simp [GV, GD]⟩
      have hget : (⟨s.toArray⟩ : ByteArray)[i.toNat]? = some c := by
        rw [getElem?_pos _ _ (by simpa [ByteArray.size] using hlt)]
        have := (List.getElem?_eq_some_iff.1 hc).2
        simpa [ByteArray.getElem_eq_getElem_data] using this
      simp [Instr.index, asIntOf, run_underlying hu, sval, h0, hget]
    · cases h
  · rename_i len e cs hu
    simp only [GV] at hx
    obtain ⟨vs, rfl, hg⟩ := hx
    split at h
    · rename_i sz hs
      split at h
      · rename_i hc
        obtain ⟨u, hu', hy⟩ := part_sound (P := P) hg h
        exact ⟨u, by simp [Instr.index, asIntOf, run_underlying hu, hc, run_sizeOf hs, hu'], hy⟩
      · cases h
    · cases h
  · cases h

end
end Go.Proofs.YtblejchodicaoaaGreatDoor.Eng

/-
  THE ENGINE, part F: slicing, lengths, conversions, values put together; all reading operations under one name. Program-independent. Own work.
-/
namespace Go.Proofs.YtblejchodicaoaaGreatDoor.Eng
open Go Go.RowKit
set_option linter.unusedSimpArgs false

section
variable {pr : Nat → Prop} {P : Program} {w : World} {st : Nat → Prop} {β : List Nat}

theorem bsize (s : List UInt8) : (ByteArray.mk s.toArray).size = s.length := by
  show s.toArray.size = _
  simp

/-! ### Slicing -/
/-- A bound: none, or a number. -/
def jz : Option AV → Option (Option (IntKind × Int))
  | none => some none
  | some (.d (.int k i)) => some (some (k, i))
  | some _ => none
def vbound (b : Option (IntKind × Int)) : Option Value := b.map fun p => .int p.1 p.2
theorem abound_sound {x : Option AV} {v : Option Value} {b : Option (IntKind × Int)} (hn : x = none → v = none) (hx : ∀ y, x = some y → ∃ u, v = some u ∧ GV w st β y u) (h : jz x = some b) : v = vbound b := by
  unfold jz at h
  split at h
  · simp only [Option.some.injEq] at h; subst h; exact hn rfl
  · rename_i k i
    simp only [Option.some.injEq] at h; subst h
    obtain ⟨u, rfl, hu⟩ := hx _ rfl
    obtain rfl : u = .int k i := by simpa [GV, GD] using hu
    rfl
  · cases h

def xt (b : Option (IntKind × Int)) : Int := match b with | none => 0 | some p => p.2
def j0 (b : Option (IntKind × Int)) (n : Nat) : Int := match b with | none => n | some p => p.2

theorem run_bounds (isSlice : Bool) {len cap : Nat} {lo hi : Option (IntKind × Int)} (h0 : 0 ≤ xt lo) (h1 : xt lo ≤ j0 hi len) (h2 : j0 hi len ≤ len) (hc : len ≤ cap) :
    (Instr.sliceBounds isSlice len cap (vbound lo) (vbound hi) none).run P w = .ok ((xt lo).toNat, (j0 hi len).toNat, cap) w := by
  cases lo with
  | none => cases hi with
    | none => simp [Instr.sliceBounds, vbound, xt, j0]
    | some q =>
      obtain ⟨k, j⟩ := q
      simp only [xt, j0] at h0 h1 h2
      simp [Instr.sliceBounds, vbound, Instr.sliceBound, asIntOf, xt, j0, show (0 ≤ j ∧ j ≤ (cap : Int)) from ⟨by omega, by omega⟩]
  | some p =>
    obtain ⟨k, i⟩ := p
    cases hi with
    | none =>
      simp only [xt, j0] at h0 h1 h2
      simp [Instr.sliceBounds, vbound, Instr.sliceBound, asIntOf, xt, j0, show (0 ≤ i ∧ i ≤ (len : Int)) from ⟨h0, h1⟩]
    | some q =>
      obtain ⟨k', j⟩ := q
      simp only [xt, j0] at h0 h1 h2
      simp [Instr.sliceBounds, vbound, Instr.sliceBound, asIntOf, xt, j0, show (0 ≤ j ∧ j ≤ (cap : Int)) from ⟨by omega, by omega⟩, show (0 ≤ i ∧ i ≤ max j 0) from ⟨h0, by omega⟩]

def jy (P : Program) (t : TypeId) (x : AV) (lo hi : Option (IntKind × Int)) : Option AV :=
  match P.underlying t, x with
  | some .string, .d (.str s) =>
    if 0 ≤ xt lo ∧ xt lo ≤ j0 hi s.length ∧ j0 hi s.length ≤ s.length then some (.d (.str ((s.drop (xt lo).toNat).take ((j0 hi s.length).toNat - (xt lo).toNat)))) else none
  | some (.slice e), .sl o sz i n =>
    if sizeT P e = some sz ∧ 0 ≤ xt lo ∧ xt lo ≤ j0 hi n ∧ j0 hi n ≤ n then
      if xt lo = 0 then some (.sl o sz i (j0 hi n).toNat)
      else if xt lo < j0 hi n then some (.sl o sz (i + (xt lo).toNat) ((j0 hi n).toNat - (xt lo).toNat))
      else some (.d (.rs sz []))
    else none
  | some (.slice e), .d (.rs sz es) =>
    if sizeT P e = some sz ∧ 0 ≤ xt lo ∧ xt lo ≤ j0 hi es.length ∧ j0 hi es.length ≤ es.length then some (.d (.rs sz ((es.drop (xt lo).toNat).take ((j0 hi es.length).toNat - (xt lo).toNat)))) else none
  | some (.slice e), .d .nils => if (sizeT P e).isSome ∧ xt lo = 0 ∧ j0 hi 0 = 0 then some (.d .nils) else none
  | _, _ => none

theorem aslice_sound {t : TypeId} {x y : AV} {v : Value} {lo hi : Option (IntKind × Int)} (hx : GV w st β x v) (h : jy P t x lo hi = some y) :
    ∃ u, (Instr.sliceAt t v (vbound lo) (vbound hi) none).run P w = .ok u w ∧ GV w st β y u := by
  unfold jy at h
  split at h
  · rename_i s hu
    obtain rfl : v = sval s := by simpa [GV, GD] using hx
    split at h
    · rename_i hc
      obtain ⟨h0, h1, h2⟩ := hc
      simp only [Option.some.injEq] at h; subst h
      have hb := run_bounds (P := P) (w := w) false (len := s.length) (cap := s.length) h0 h1 h2 (Nat.le_refl _)
      refine ⟨sval ((s.drop (xt lo).toNat).take ((j0 hi s.length).toNat - (xt lo).toNat)), ?_, by simp [GV, GD]⟩
      simp [Instr.sliceAt, Instr.slice, run_underlying hu, sval, bsize, hb, Lib.extract_eq]
    · cases h
  · rename_i e o sz i n hu
    split at h
    · rename_i hc
      obtain ⟨hs, h0, h1, h2⟩ := hc
      simp only [GV] at hx
      obtain ⟨b, c, hb, rfl, hn, hcm, hcs⟩ := hx
      have hbd := run_bounds (P := P) (w := w) true (len := n) (cap := c) h0 h1 h2 hn
      have hrun : (Instr.sliceAt t (.slice (some ⟨b, i * sz, none⟩) n c) (vbound lo) (vbound hi) none).run P w =
          .ok (.slice (if c = (xt lo).toNat then some ⟨b, i * sz, none⟩ else some ⟨b, i * sz + (xt lo).toNat * sz, none⟩) ((j0 hi n).toNat - (xt lo).toNat) (c - (xt lo).toNat)) w := by
        simp [Instr.sliceAt, Instr.slice, run_underlying hu, hbd, run_sizeOf hs, add_spotless]
      split at h
      · rename_i hl
        simp only [Option.some.injEq] at h; subst h
        refine ⟨_, hrun, ?_⟩
        simp only [GV]
        refine ⟨b, c, hb, ?_, by omega, hcm, hcs⟩
        simp [hl]
      · rename_i hl
        split at h
        · rename_i hlt
          simp only [Option.some.injEq] at h; subst h
          refine ⟨_, hrun, ?_⟩
          simp only [GV]
          refine ⟨b, c - (xt lo).toNat, hb, ?_, by omega, by omega, ?_⟩
          · rw [if_neg (by omega), Nat.add_mul]
          · rw [show i + (xt lo).toNat + (c - (xt lo).toNat) = i + c from by omega]; exact hcs
        · simp only [Option.some.injEq] at h; subst h
          refine ⟨_, hrun, ?_⟩
          simp only [GV, GD]
          exact .inl ⟨rfl, _, _, by congr 1; omega⟩
    · cases h
  · rename_i e sz es hu
    split at h
    · rename_i hc
      obtain ⟨hs, h0, h1, h2⟩ := hc
      simp only [Option.some.injEq] at h; subst h
      simp only [GV, GD] at hx
      rcases hx with ⟨hl, a, c, rfl⟩ | ⟨b, off, c, rfl, hcap, hb, hg⟩
      · have : es = [] := List.eq_nil_of_length_eq_zero hl
        subst this
        have hbd := run_bounds (P := P) (w := w) true (len := 0) (cap := c) h0 h1 h2 (by omega)
        have hrun : (Instr.sliceAt t (.slice a 0 c) (vbound lo) (vbound hi) none).run P w =
            .ok (.slice (if c = (xt lo).toNat then a else a.map (·.add ((xt lo).toNat * sz))) ((j0 hi 0).toNat - (xt lo).toNat) (c - (xt lo).toNat)) w := by
          simp [Instr.sliceAt, Instr.slice, run_underlying hu, hbd, run_sizeOf hs]
        refine ⟨_, hrun, ?_⟩
        simp only [GV, GD]
        refine .inl ⟨by simp, (if c = (xt lo).toNat then a else a.map (·.add ((xt lo).toNat * sz))), c - (xt lo).toNat, ?_⟩
        have h2' : j0 hi 0 ≤ 0 := by simpa using h2
        have h1' : xt lo ≤ j0 hi 0 := by simpa using h1
        rw [show (j0 hi 0).toNat - (xt lo).toNat = 0 from by omega]
      · have hbd := run_bounds (P := P) (w := w) true (len := es.length) (cap := c) h0 h1 h2 hcap
        have hrun : (Instr.sliceAt t (.slice (some ⟨b, off, none⟩) es.length c) (vbound lo) (vbound hi) none).run P w =
            .ok (.slice (if c = (xt lo).toNat then some ⟨b, off, none⟩ else some ⟨b, off + (xt lo).toNat * sz, none⟩) ((j0 hi es.length).toNat - (xt lo).toNat) (c - (xt lo).toNat)) w := by
          simp [Instr.sliceAt, Instr.slice, run_underlying hu, hbd, run_sizeOf hs, add_spotless]
        refine ⟨_, hrun, ?_⟩
        simp only [GV, GD]
        have hlen : (List.take ((j0 hi es.length).toNat - (xt lo).toNat) (List.drop (xt lo).toNat es)).length = (j0 hi es.length).toNat - (xt lo).toNat := by
          rw [List.length_take, List.length_drop]; omega
        by_cases he : xt lo = j0 hi es.length
        · exact .inl ⟨by rw [hlen]; omega, _, _, by congr 1; omega⟩
        · refine .inr ⟨b, off + (xt lo).toNat * sz, c - (xt lo).toNat, ?_, ?_, hb, (hg.drop _).take _⟩
          · rw [if_neg (by omega), hlen]
          · rw [hlen]; omega
    · cases h
  · rename_i e hu
    split at h
    · rename_i hc
      obtain ⟨hs, h0, h1⟩ := hc
      simp only [Option.some.injEq] at h; subst h
      simp only [GV, GD] at hx
      subst hx
      obtain ⟨sz, hs⟩ := Option.isSome_iff_exists.1 hs
      have hbd := run_bounds (P := P) (w := w) true (len := 0) (cap := 0) (lo := lo) (hi := hi) (by omega) (by omega) (by omega) (Nat.le_refl _)
      refine ⟨.slice none 0 0, ?_, by simp [GV, GD]⟩
      rw [h0, show j0 hi 0 = 0 from h1] at hbd
      simp [Instr.sliceAt, Instr.slice, run_underlying hu, hbd, run_sizeOf hs]
    · cases h
  · cases h

/-- 's[:0:0]'. -/
def aslice00 (P : Program) (t : TypeId) (x : AV) : Option AV :=
  match P.underlying t, x with
  | some (.slice e), .sl _ sz _ _ => if (sizeT P e).isSome then some (.cap0 sz) else none
  | some (.slice e), .d (.rs sz _) => if (sizeT P e).isSome then some (.cap0 sz) else none
  | some (.slice e), .d .nils => if (sizeT P e).isSome then some (.d .nils) else none
  | _, _ => none
theorem aslice00_sound {t : TypeId} {x y : AV} {v : Value} {k k' : IntKind} (hx : GV w st β x v) (h : aslice00 P t x = some y) :
    ∃ u, (Instr.sliceAt t v none (some (.int k 0)) (some (.int k' 0))).run P w = .ok u w ∧ GV w st β y u := by
  have key : ∀ (e : TypeId), P.underlying t = some (.slice e) → ∀ a n c, v = .slice a n c → (sizeT P e).isSome → (Instr.sliceAt t v none (some (.int k 0)) (some (.int k' 0))).run P w = .ok (.slice a 0 0) w := by
    intro e hu a n c hv hs
    subst hv
    obtain ⟨sz, hs⟩ := Option.isSome_iff_exists.1 hs
    simp [Instr.sliceAt, Instr.slice, Instr.sliceBounds, Instr.sliceBound, asIntOf, run_underlying hu, run_sizeOf hs]
  unfold aslice00 at h
  split at h
  · rename_i e _ _ _ _ hu
    split at h
    · rename_i hs
      simp only [Option.some.injEq] at h; subst h
      simp only [GV] at hx
      obtain ⟨b, c, _, rfl, _⟩ := hx
      exact ⟨_, key e hu _ _ _ rfl hs, by simp [GV, GD]⟩
    · cases h
  · rename_i e _ _ hu
    split at h
    · rename_i hs
      simp only [Option.some.injEq] at h; subst h
      simp only [GV, GD] at hx
      rcases hx with ⟨_, a, c, rfl⟩ | ⟨b, off, c, rfl, _⟩
      · exact ⟨_, key e hu _ _ _ rfl hs, by simp [GV, GD]⟩
      · exact ⟨_, key e hu _ _ _ rfl hs, by simp [GV, GD]⟩
    · cases h
  · rename_i e hu
    split at h
    · rename_i hs
      simp only [Option.some.injEq] at h; subst h
      simp only [GV, GD] at hx
      subst hx
      exact ⟨_, key e hu _ _ _ rfl hs, by simp [GV, GD]⟩
    · cases h
  · cases h

/-! ### Lengths -/
def wh (P : Program) (σ : List AObj) (t : TypeId) (x : AV) : Option AV :=
  match P.underlying t, x with
  | some .string, .d (.str s) => some (.d (.int .i64 s.length))
  | some (.slice _), .sl _ _ _ n => some (.d (.int .i64 n))
  | some (.slice _), .d (.rs _ es) => some (.d (.int .i64 es.length))
  | some (.slice _), .d .nils => some (.d (.int .i64 0))
  | some (.slice _), .cap0 _ => some (.d (.int .i64 0))
  | some (.map _ _), .d .nilm => some (.d (.int .i64 0))
  | some (.map _ _), .map o => match σ[o]? with
    | some (.amap es) => some (.d (.int .i64 es.length))
    | _ => none
  | _, _ => none

theorem GMap.length : ∀ {es : List (D × AV)} {l : List MapEntry}, GMap w st β es l → l.length = es.length
  | [], l, h => by
    simp only [GMap] at h
    simp [h]
  | (k, x) :: r, l, h => by
    simp only [GMap] at h
    obtain ⟨e, l', rfl, _, _, h⟩ := h
    simp [GMap.length h]

theorem alen_sound {σ : List AObj} (I : Inv pr w σ β) {t ty : TypeId} {ts : Array TypeId} (ht : ts[0]? = some t) {x y : AV} {v : Value} (hx : GV w (stOf pr w σ β) β x v) (h : wh P σ t x = some y) :
    ∃ u, (Builtin.len_ ts ty #[v]).run P w = .ok u w ∧ GV w (stOf pr w σ β) β y u := by
  unfold wh at h
  split at h
  · rename_i s hu
    simp only [Option.some.injEq] at h; subst h
    obtain rfl : v = sval s := by simpa [GV, GD] using hx
    exact ⟨.int .i64 s.length, by simp [Builtin.len_, ht, run_underlying hu, sval, goInt, bsize], by simp [GV, GD]⟩
  · rename_i e o sz i n hu
    simp only [Option.some.injEq] at h; subst h
    simp only [GV] at hx
    obtain ⟨b, c, _, rfl, _⟩ := hx
    exact ⟨.int .i64 n, by simp [Builtin.len_, ht, run_underlying hu, goInt], by simp [GV, GD]⟩
  · rename_i e sz es hu
    simp only [Option.some.injEq] at h; subst h
    simp only [GV, GD] at hx
    rcases hx with ⟨hl, a, c, rfl⟩ | ⟨b, off, c, rfl, _⟩
    · exact ⟨.int .i64 0, by simp [Builtin.len_, ht, run_underlying hu, goInt], by simp [GV, GD, hl]⟩
    · exact ⟨.int .i64 es.length, by simp [Builtin.len_, ht, run_underlying hu, goInt], by simp [GV, GD]⟩
  · rename_i e hu
    simp only [Option.some.injEq] at h; subst h
    simp only [GV, GD] at hx
    subst hx
    exact ⟨.int .i64 0, by simp [Builtin.len_, ht, run_underlying hu, goInt], by simp [GV, GD]⟩
  · rename_i e sz hu
    simp only [Option.some.injEq] at h; subst h
    simp only [GV] at hx
    obtain ⟨a, rfl⟩ := hx
    exact ⟨.int .i64 0, by simp [Builtin.len_, ht, run_underlying hu, goInt], by simp [GV, GD]⟩
  · rename_i k e hu
    simp only [Option.some.injEq] at h; subst h
    obtain rfl : v = .map none := by simpa [GV, GD] using hx
    exact ⟨.int .i64 0, by simp [Builtin.len_, ht, run_underlying hu, goInt], by simp [GV, GD]⟩
  · rename_i k e o hu
    split at h
    · rename_i es hσ
      simp only [Option.some.injEq] at h; subst h
      simp only [GV] at hx
      obtain ⟨b, hb, rfl⟩ := hx
      obtain ⟨l, clock, hh, hg⟩ := I.holds o _ b hσ hb
      have hl : l.size = es.length := by have := GMap.length hg; simpa using this
      refine ⟨.int .i64 es.length, ?_, by simp [GV, GD]⟩
      have hget : (getObj b).run P w = .ok (.map l clock) w := by simp [getObj, Sem.run, hh]
      simp [Builtin.len_, ht, run_underlying hu, goInt, hget, hl]
    · cases h
  · cases h

/-! ### Conversions that read -/
/-- A byte element's number. -/
def byteOf1 : List D → Option Int
  | [.int .u8 n] => some n
  | _ => none
def bytesOfE : List (List D) → Option (List Int)
  | [] => some []
  | e :: es => match byteOf1 e, bytesOfE es with | some n, some r => some (n :: r) | _, _ => none
def byteStr (ns : List Int) : List UInt8 := ns.map fun n => UInt8.ofNat n.toNat

/-- The elements of a slice, as data. -/
def j1 (σ : List AObj) : AV → Option (Nat × List (List D))
  | .d (.rs sz es) => some (sz, es)
  | .d .nils => some (0, [])
  | .cap0 sz => some (sz, [])
  | .sl o sz i n => match σ[o]? with
    | some (.drow es _ sz') => if sz = sz' ∧ i + n ≤ es.length then some (sz, (es.drop i).take n) else none
    | some (.fz sz' es) => if sz = sz' ∧ i + n ≤ es.length then some (sz, (es.drop i).take n) else none
    | _ => none
  | _ => none

theorem aelems_sound {σ : List AObj} (I : Inv pr w σ β) {x : AV} {v : Value} (hx : GV w (stOf pr w σ β) β x v) {sz : Nat} {es : List (List D)} (h : j1 σ x = some (sz, es)) :
    (es = [] ∧ ∃ a c, v = .slice a 0 c) ∨ ∃ b off c, v = .slice (some ⟨b, off, none⟩) es.length c ∧ GDe w (stOf pr w σ β) sz es b off := by
  unfold j1 at h
  split at h
  · simp only [Option.some.injEq, Prod.mk.injEq] at h
    obtain ⟨rfl, rfl⟩ := h
    simp only [GV, GD] at hx
    rcases hx with ⟨hl, a, c, rfl⟩ | ⟨b, off, c, rfl, _, _, hg⟩
    · exact .inl ⟨List.eq_nil_of_length_eq_zero hl, a, c, rfl⟩
    · exact .inr ⟨b, off, c, rfl, hg⟩
  · simp only [Option.some.injEq, Prod.mk.injEq] at h
    obtain ⟨rfl, rfl⟩ := h
    simp only [GV, GD] at hx
    subst hx
    exact .inl ⟨rfl, none, 0, rfl⟩
  · simp only [Option.some.injEq, Prod.mk.injEq] at h
    obtain ⟨rfl, rfl⟩ := h
    simp only [GV] at hx
    obtain ⟨a, rfl⟩ := hx
    exact .inl ⟨rfl, a, 0, rfl⟩
  · rename_i o sz' i n
    simp only [GV] at hx
    obtain ⟨b, c, hb, rfl, hn, _, hcs⟩ := hx
    split at h
    · rename_i es' ty sz'' hσ
      split at h
      · rename_i hc
        obtain ⟨rfl, hle⟩ := hc
        simp only [Option.some.injEq, Prod.mk.injEq] at h
        obtain ⟨rfl, rfl⟩ := h
        obtain ⟨_, _, _, hg⟩ := I.holds o _ b hσ hb
        refine .inr ⟨b, i * sz', c, ?_, by simpa using (hg.drop i).take n⟩
        rw [List.length_take, List.length_drop, Nat.min_eq_left (by omega)]
      · cases h
    · rename_i sz'' es' hσ
      split at h
      · rename_i hc
        obtain ⟨rfl, hle⟩ := hc
        simp only [Option.some.injEq, Prod.mk.injEq] at h
        obtain ⟨rfl, rfl⟩ := h
        obtain ⟨_, hg⟩ := I.holds o _ b hσ hb
        refine .inr ⟨b, i * sz', c, ?_, by simpa using (hg.drop i).take n⟩
        rw [List.length_take, List.length_drop, Nat.min_eq_left (by omega)]
      · cases h
    · cases h
  · cases h

theorem bytesOfE_sound : ∀ {es : List (List D)} {ns : List Int} {sz b off : Nat}, bytesOfE es = some ns → GDe w st sz es b off → ns.length = es.length ∧ ∀ i, i < ns.length → w.cell? ⟨b, off + i, none⟩ = some (.int .u8 (ns.getD i 0))
  | [], ns, sz, b, off, h, _ => by
    simp only [bytesOfE, Option.some.injEq] at h; subst h
    simp
  | e :: es, ns, sz, b, off, h, hg => by
    simp only [bytesOfE] at h
    split at h
    · rename_i n r hn hr
      simp only [Option.some.injEq] at h; subst h
      simp only [GDe] at hg
      obtain ⟨hl, h1, h2⟩ := hg
      unfold byteOf1 at hn
      split at hn
      · rename_i n'
        simp only [Option.some.injEq] at hn; subst hn
        have hsz : sz = 1 := by simpa using hl.symm
        subst hsz
        obtain ⟨hlen, hc⟩ := bytesOfE_sound hr h2
        refine ⟨by simp [hlen], fun i hi => ?_⟩
        cases i with
        | zero =>
          obtain ⟨u, hu, hx⟩ := h1.get (i := 0) (x := .int .u8 n') (by simp)
          obtain rfl : u = .int .u8 n' := by simpa [GD] using hx
          simpa using hu
        | succ i =>
          have := hc i (by simpa using hi)
          rw [show off + (i + 1) = off + 1 + i from by omega, this]
          simp
      · cases hn
    · cases h

def intT (P : Program) (t : TypeId) : Option IntKind := match P.underlying t with | some (.int k) => some k | _ => none
def isStrT (P : Program) (t : TypeId) : Bool := match P.underlying t with | some .string => true | _ => false
def isBytesT (P : Program) (t : TypeId) : Bool := match P.underlying t with | some (.slice e) => (match P.underlying e with | some (.int .u8) => true | _ => false) | _ => false

/-- A pointer made an unsafe one, and back, where a variable of that type lies. -/
def toUnsafe (P : Program) (src dst : TypeId) : Bool := match P.underlying src, P.underlying dst with
  | some (.pointer t), some .unsafePointer => (match P.info? t with | some i => i.size != 0 | none => false)
  | _, _ => false
def fromUnsafe (P : Program) (src dst ty : TypeId) (n j : Nat) : Bool := match P.underlying src, P.underlying dst with
  | some .unsafePointer, some (.pointer u) => (P.info? u).isSome && liesAt P P.depth ty (n / P.cellsOf ty) j u 1
  | _, _ => false

def xv (P : Program) (σ : List AObj) (src dst : TypeId) (x : AV) : Option AV :=
  match x with
  | .d (.int _ n) =>
    if (P.underlying src).isSome then
      match P.underlying dst with
      | some (.int k) => some (.d (.int k (k.wrap n)))
      | some .string => some (.d (.str (Utf8.encode n).data.toList))
      | _ => none
    else none
  | .d (.str s) => if (P.underlying src).isSome ∧ isStrT P dst = true then some (.d (.str s)) else none
  | .ptr o j => match σ[o]? with
    | some (.box cs ty) => if (toUnsafe P src dst = true ∧ j < cs.length) ∨ fromUnsafe P src dst ty cs.length j = true then some (.ptr o j) else none
    | _ => none
  | x => if isBytesT P src = true ∧ isStrT P dst = true then (j1 σ x).bind fun p => (bytesOfE p.2).map fun ns => .d (.str (byteStr ns)) else none

theorem aconv_sound {σ : List AObj} (I : Inv pr w σ β) {src dst : TypeId} {x y : AV} {v : Value} (hx : GV w (stOf pr w σ β) β x v) (h : xv P σ src dst x = some y) :
    ∃ u, (convert src dst v).run P w = .ok u w ∧ GV w (stOf pr w σ β) β y u := by
  unfold xv at h
  split at h
  · rename_i k0 n
    obtain rfl : v = .int k0 n := by simpa [GV, GD] using hx
    split at h
    · rename_i hs
      obtain ⟨d, hd⟩ := Option.isSome_iff_exists.1 hs
      split at h
      · rename_i k hk
        simp only [Option.some.injEq] at h; subst h
        exact ⟨.int k (k.wrap n), by simp [convert, run_underlying hd, run_underlying hk, Conv.intToInt], by simp [GV, GD]⟩
      · rename_i hk
        simp only [Option.some.injEq] at h; subst h
        exact ⟨.string (Utf8.encode n), by simp [convert, run_underlying hd, run_underlying hk, Conv.intToString], by simp [GV, GD, sval]⟩
      · cases h
    · cases h
  · rename_i s
    obtain rfl : v = sval s := by simpa [GV, GD] using hx
    split at h
    · rename_i hc
      obtain ⟨hs, hd⟩ := hc
      obtain ⟨d, hd'⟩ := Option.isSome_iff_exists.1 hs
      unfold isStrT at hd
      split at hd
      · rename_i hu
        simp only [Option.some.injEq] at h; subst h
        refine ⟨sval s, ?_, by simp [GV, GD]⟩
        cases d <;> simp [convert, run_underlying hd', run_underlying hu, sval]
      · cases hd
    · cases h
  · rename_i o j
    split at h
    · rename_i cs ty hσ
      split at h
      · rename_i hc
        simp only [Option.some.injEq] at h; subst h
        have hx' := hx
        simp only [GV] at hx'
        obtain ⟨b, hb, rfl⟩ := hx'
        obtain ⟨b', hb', _, vs, hh, hg⟩ := I.at_ hσ
        obtain rfl : b' = b := by rw [hb] at hb'; simpa using hb'.symm
        have hl := GVl.length hg
        have hsh : w.shape? b' = some (ty, cs.length) := by simp [World.shape?, hh, hl]
        rcases hc with ⟨hc, hj⟩ | hc
        · unfold toUnsafe at hc
          split at hc
          · rename_i t hs hd
            split at hc
            · rename_i inf hi
              exact ⟨_, Lib.run_to_unsafe w ⟨b', j, none⟩ hs hd hi (by simpa using hc) hsh hj, hx⟩
            · cases hc
          · cases hc
        · unfold fromUnsafe at hc
          split at hc
          · rename_i u hs hd
            simp only [Bool.and_eq_true] at hc
            obtain ⟨inf, hi⟩ := Option.isSome_iff_exists.1 hc.1
            exact ⟨_, Lib.run_from_unsafe w ⟨b', j, none⟩ hs hd hi hsh hc.2, hx⟩
          · cases hc
      · cases h
    · cases h
  · split at h
    · rename_i hc
      obtain ⟨hs, hd⟩ := hc
      obtain ⟨⟨sz, es⟩, he, h⟩ := Option.bind_eq_some_iff.1 h
      obtain ⟨ns, hns, rfl⟩ := Option.map_eq_some_iff.1 h
      unfold isBytesT at hs
      split at hs
      · rename_i e hse
        split at hs
        · rename_i hee
          unfold isStrT at hd
          split at hd
          · rename_i hdd
            rcases aelems_sound I hx he with ⟨rfl, a, c, rfl⟩ | ⟨b, off, c, rfl, hg⟩
            · simp only [bytesOfE, Option.some.injEq] at hns; subst hns
              refine ⟨sval [], ?_, by simp [GV, GD, byteStr]⟩
              cases a with
              | none =>
                rw [run_convert_bytes_nil w src e hse hee 0 c dst hdd]; rfl
              | some ad =>
                rw [run_convert_bytes_string w src dst e _ 0 c hse hee hdd]
                simp [Conv.bytesToString, loadCells, loadCellsFrom, sval]; rfl
            · obtain ⟨hl, hc'⟩ := bytesOfE_sound hns hg
              replace hl : ns.length = es.length := hl
              refine ⟨sval (byteStr ns), ?_, by simp [GV, GD]⟩
              rw [run_convert_bytes_arg w src e hse hee b off es.length c ns hl (fun i hi => hc' i (by omega)) dst hdd]
              simp [strOfNums, sval, byteStr]
          · cases hd
        · cases hs
      · cases hs
    · cases h
end
end Go.Proofs.YtblejchodicaoaaGreatDoor.Eng

/-
  THE ENGINE, part V: maps; capacities; bytes made a string in place. Program-independent. Own work.
-/
namespace Go.Proofs.YtblejchodicaoaaGreatDoor.Eng
open Go Go.RowKit
set_option linter.unusedSimpArgs false

/-! ### Maps -/
/-- What keys there are: whole numbers (true), texts (false). -/
def keyT (P : Program) (t : TypeId) : Option Bool := match P.underlying t with | some (.int _) => some true | some .string => some false | _ => none
def keq : Bool → D → D → Option Bool
  | true, .int k a, .int k' b => if k = k' then some (a == b) else none
  | false, .str a, .str b => some (a == b)
  | _, _, _ => none
def xq (kb : Bool) (k : D) : List (D × AV) → Nat → Option (Option (Nat × AV))
  | [], _ => some none
  | e :: r, i => match keq kb k e.1 with
    | some true => some (some (i, e.2))
    | some false => xq kb k r (i + 1)
    | none => none

section
variable {pr : Nat → Prop} {P : Program} {w : World} {st : Nat → Prop} {β : List Nat}

theorem sval_beq (a b : List UInt8) : ((⟨a.toArray⟩ : ByteArray) == ⟨b.toArray⟩) = (a == b) := by
  rw [Bool.eq_iff_iff, MapKept.bytes_beq]
  constructor
  · intro e
    have : a = b := by simpa using congrArg (fun x => x.data.toList) e
    simp [this]
  · intro e
    rw [eq_of_beq e]

theorem keq_sound {kt : TypeId} {d : TypeDesc} {kb : Bool} (hd : P.underlying kt = some d) (hk : keyT P kt = some kb) {k k' : D} {v v' : Value} (h1 : GD w st k v) (h2 : GD w st k' v') {b : Bool} (h : keq kb k k' = some b) :
    Instr.sameNow d v v' = some b ∧ (b = true → Instr.sameBits 10000 v' v = true) := by
  unfold keyT at hk
  rw [hd] at hk
  unfold keq at h
  split at h
  · split at h
    · rename_i e
      subst e
      simp only [Option.some.injEq] at h
      subst h
      simp only [GD] at h1 h2
      subst h1; subst h2
      split at hk
      · rename_i he
        simp only [Option.some.injEq] at he
        subst he
        refine ⟨by simp [Instr.sameNow], fun hb => ?_⟩
        have := eq_of_beq hb
        subst this
        simp [Instr.sameBits]
      · cases hk
      · cases hk
    · cases h
  · simp only [Option.some.injEq] at h
    subst h
    simp only [GD] at h1 h2
    subst h1; subst h2
    split at hk
    · cases hk
    · rename_i he
      simp only [Option.some.injEq] at he
      subst he
      refine ⟨by simp [Instr.sameNow, sval, sval_beq], fun hb => ?_⟩
      have := eq_of_beq hb
      subst this
      simp [Instr.sameBits, sval, sval_beq]
    · cases hk
  · cases h

def FoundAt (w : World) (st : Nat → Prop) (β : List Nat) (d : TypeDesc) (v : Value) (l : List MapEntry) (i : Nat) : Option (Nat × AV) → Prop
  | none => Instr.findNow d v l i = some none
  | some (j, x) => ∃ e, i ≤ j ∧ l[j - i]? = some e ∧ Instr.sameBits 10000 e.key v = true ∧ GV w st β x e.val ∧ Instr.findNow d v l i = some (some (j, e.val))

theorem afind_sound {kt : TypeId} {d : TypeDesc} {kb : Bool} (hd : P.underlying kt = some d) (hk : keyT P kt = some kb) {k : D} {v : Value} (h1 : GD w st k v) : ∀ {es : List (D × AV)} {l : List MapEntry} {i : Nat} {r : Option (Nat × AV)},
    GMap w st β es l → xq kb k es i = some r → FoundAt w st β d v l i r
  | [], l, i, r, hg, h => by
    simp only [GMap] at hg
    subst hg
    simp only [xq, Option.some.injEq] at h
    subst h
    rfl
  | (k', x) :: es, l, i, r, hg, h => by
    simp only [GMap] at hg
    obtain ⟨e, l', rfl, hk', hx, hr⟩ := hg
    simp only [xq] at h
    split at h
    · rename_i hq
      simp only [Option.some.injEq] at h
      subst h
      obtain ⟨hs, hb⟩ := keq_sound hd hk h1 hk' hq
      refine ⟨e, Nat.le_refl _, by simp, hb rfl, hx, ?_⟩
      simp [Instr.findNow, hs]
    · rename_i hq
      obtain ⟨hs, _⟩ := keq_sound hd hk h1 hk' hq
      have := afind_sound hd hk h1 hr h
      cases r with
      | none =>
        simp only [FoundAt] at this ⊢
        simp [Instr.findNow, hs, this]
      | some p =>
        obtain ⟨j, y⟩ := p
        obtain ⟨e', hj, he, hb, hy, hf⟩ := this
        refine ⟨e', by omega, ?_, hb, hy, by simp [Instr.findNow, hs, hf]⟩
        have : j - i = (j - (i + 1)) + 1 := by omega
        rw [this]
        simpa using he
    · cases h

def zeroA (P : Program) (t : TypeId) : Option AV := ((P.info? t).bind (·.zero)).bind jj
theorem run_zeroA {t : TypeId} {x : AV} (h : zeroA P t = some x) : ∃ z, (zeroValue t).run P w = .ok z w ∧ GV w st β x z := by
  unfold zeroA at h
  obtain ⟨z, hz, hc⟩ := Option.bind_eq_some_iff.1 h
  obtain ⟨i, hi, hz⟩ := Option.bind_eq_some_iff.1 hz
  exact ⟨z, by simp [zeroValue, typeInfo, hi, hz], aconst_sound hc⟩

def jx (σ : List AObj) : AV → Option (List (D × AV))
  | .d .nilm => some []
  | .map o => match σ[o]? with
    | some (.amap es) => some es
    | _ => none
  | _ => none
def xp (c : Bool) (x : AV) (b : Bool) : AV := if c then .tup [x, .d (.bool b)] else x
theorem okTup_sound {c b : Bool} {x : AV} {v : Value} (hx : GV w st β x v) : GV w st β (xp c x b) (if c then .tuple #[v, .bool b] else v) := by
  cases c
  · simpa [xp] using hx
  · simp only [xp, if_true, GV]
    exact ⟨[v, .bool b], rfl, by simp only [GVl]; exact ⟨v, _, rfl, hx, _, _, rfl, by simp [GV, GD], rfl⟩⟩

def y7 (P : Program) (σ : List AObj) (t : TypeId) (x k : AV) (c : Bool) : Option AV :=
  match P.underlying t, k with
  | some (.map kt et), .d k => match keyT P kt, zeroA P et, jx σ x with
    | some kb, some z, some es => match xq kb k es 0 with
      | some (some p) => some (xp c p.2 true)
      | some none => some (xp c z false)
      | none => none
    | _, _, _ => none
  | _, _ => none

theorem run_checkKey' {kt : TypeId} {kb : Bool} (hk : keyT P kt = some kb) (e : Bool) (v : Value) : ∀ n, (Instr.checkKey e (n + 1) kt v).run P w = .ok () w := by
  intro n
  unfold keyT at hk
  split at hk
  · rename_i k hd
    simp [Instr.checkKey, run_underlying hd]
  · rename_i hd
    simp [Instr.checkKey, run_underlying hd]
  · cases hk
theorem run_checkKeyA {kt : TypeId} {kb : Bool} (hk : keyT P kt = some kb) (e : Bool) (v : Value) : (Instr.checkKey e 10000 kt v).run P w = .ok () w := run_checkKey' hk e v 9999
theorem keyT_und {kt : TypeId} {kb : Bool} (hk : keyT P kt = some kb) : ∃ d, P.underlying kt = some d := by
  unfold keyT at hk
  split at hk
  · rename_i hd; exact ⟨_, hd⟩
  · rename_i hd; exact ⟨_, hd⟩
  · cases hk

theorem alookup_sound {σ : List AObj} (I : Inv pr w σ β) {t : TypeId} {x k y : AV} {c : Bool} {v kv : Value} (hx : GV w (stOf pr w σ β) β x v) (hk : GV w (stOf pr w σ β) β k kv) (h : y7 P σ t x k c = some y) :
    ∃ u, (Instr.lookup t v kv c).run P w = .ok u w ∧ GV w (stOf pr w σ β) β y u := by
  unfold y7 at h
  split at h
  · rename_i kt et k' hu
    simp only [GV] at hk
    split at h
    · rename_i kb z es hkt hz hes
      obtain ⟨d, hd⟩ := keyT_und hkt
      obtain ⟨zv, hzv, hzg⟩ := run_zeroA (w := w) (st := stOf pr w σ β) (β := β) hz
      have hgo' : ∀ (l : Array MapEntry) (S : Sem (Array MapEntry)) (r : Option (Nat × AV)) (y : AV), S.run P w = .ok l w → GMap w (stOf pr w σ β) β es l.toList → xq kb k' es 0 = some r → (match r with | some p => xp c p.2 true | none => xp c z false) = y →
          ∃ u, (do
            let es ← S
            Instr.checkKey es.isEmpty 10000 kt kv
            let (v, ok) ← match ← Instr.findKey kt kv es.toList with
              | some (_, v) => pure (v, true)
              | none => pure (← zeroValue et, false)
            pure (if c then .tuple #[v, .bool ok] else v) : Sem Value).run P w = .ok u w ∧ GV w (stOf pr w σ β) β y u := by
        intro l S r y hS hg hf hy
        have hF := afind_sound hd hkt hk hg hf
        have hck := fun e => run_checkKeyA (P := P) (w := w) hkt e kv
        simp only [Sem.run_bind, hS, Result.andThen_ok, hck]
        cases r with
        | none =>
          have hff := MapKept.run_findKey (P := P) (w := w) hd (show Instr.findNow d kv l.toList 0 = some none from hF)
          simp only at hy
          subst hy
          refine ⟨_, ?_, okTup_sound (c := c) (b := false) hzg⟩
          simp only [hff, Result.andThen_ok, Sem.run_bind, hzv, Sem.run_pure]
        | some p =>
          obtain ⟨j, x'⟩ := p
          obtain ⟨e, _, _, _, hxe, hfe⟩ := hF
          have hff := MapKept.run_findKey (P := P) (w := w) hd hfe
          simp only at hy
          subst hy
          refine ⟨_, ?_, okTup_sound (c := c) (b := true) hxe⟩
          simp only [hff, Result.andThen_ok, Sem.run_bind, Sem.run_pure]
      have hgo : ∀ (r : Option (Nat × AV)) (y : AV), xq kb k' es 0 = some r → (match r with | some p => xp c p.2 true | none => xp c z false) = y → ∃ u, (Instr.lookup t v kv c).run P w = .ok u w ∧ GV w (stOf pr w σ β) β y u := by
        intro r y hf hy
        unfold jx at hes
        split at hes
        · simp only [Option.some.injEq] at hes
          subst hes
          simp only [GV, GD] at hx
          subst hx
          obtain ⟨u, hu2, hg2⟩ := hgo' #[] (pure #[]) r y (by simp) (by simp [GMap]) hf hy
          refine ⟨u, ?_, hg2⟩
          unfold Instr.lookup
          rw [Sem.run_bind, run_underlying hu]
          exact hu2
        · rename_i o
          split at hes
          · rename_i es' hσ
            simp only [Option.some.injEq] at hes
            subst hes
            simp only [GV] at hx
            obtain ⟨b, hb, rfl⟩ := hx
            obtain ⟨l, clock, hh, hg⟩ := I.holds o _ b hσ hb
            have hget : (getObj b).run P w = .ok (.map l clock) w := by simp [getObj, Sem.run, hh]
            obtain ⟨u, hu2, hg2⟩ := hgo' l (do
              let .map es _ ← getObj b | stuck "Lookup: map expected"
              pure es) r y (by simp [Sem.run_bind, hget, Result.andThen]) hg hf hy
            refine ⟨u, ?_, hg2⟩
            unfold Instr.lookup
            rw [Sem.run_bind, run_underlying hu]
            simp only [Result.andThen_ok, Sem.run_bind, hget, Sem.run_pure] at hu2 ⊢
            exact hu2
          · cases hes
        · cases hes
      split at h
      · rename_i p hf
        simp only [Option.some.injEq] at h
        exact hgo (some p) y hf h
      · rename_i hf
        simp only [Option.some.injEq] at h
        exact hgo none y hf h
      · cases h
    · cases h
  · cases h

/-- A map is written. -/
def y8 (P : Program) (σ : List AObj) (t : TypeId) (x k v : AV) : Option (List AObj) :=
  match P.underlying t, x, k with
  | some (.map kt _), .map o, .d k => match keyT P kt, σ[o]? with
    | some kb, some (.amap es) => match xq kb k es 0 with
      | some (some p) => some (σ.set o (.amap (es.set p.1 (k, v))))
      | some none => some (σ.set o (.amap (es ++ [(k, v)])))
      | none => none
    | _, _ => none
  | _, _, _ => none

theorem GMap.set' : ∀ {es : List (D × AV)} {l : List MapEntry} {j : Nat} {k : D} {x : AV} {e : MapEntry}, GMap w st β es l → GD w st k e.key → GV w st β x e.val → GMap w st β (es.set j (k, x)) (l.set j e)
  | [], l, j, k, x, e, h, _, _ => by
    simp only [GMap] at h
    subst h
    simp [GMap]
  | (k', x') :: r, l, j, k, x, e, h, hk, hx => by
    simp only [GMap] at h
    obtain ⟨e', l', rfl, h1, h2, h3⟩ := h
    cases j with
    | zero =>
      simp only [List.set_cons_zero, GMap]
      exact ⟨e, l', rfl, hk, hx, h3⟩
    | succ j =>
      simp only [List.set_cons_succ, GMap]
      exact ⟨e', _, rfl, h1, h2, GMap.set' h3 hk hx⟩
theorem GMap.snoc : ∀ {es : List (D × AV)} {l : List MapEntry} {k : D} {x : AV} {e : MapEntry}, GMap w st β es l → GD w st k e.key → GV w st β x e.val → GMap w st β (es ++ [(k, x)]) (l ++ [e])
  | [], l, k, x, e, h, hk, hx => by
    simp only [GMap] at h
    subst h
    simp only [List.nil_append, GMap]
    exact ⟨e, [], rfl, hk, hx, rfl⟩
  | (k', x') :: r, l, k, x, e, h, hk, hx => by
    simp only [GMap] at h
    obtain ⟨e', l', rfl, h1, h2, h3⟩ := h
    simp only [List.cons_append, GMap]
    exact ⟨e', _, rfl, h1, h2, GMap.snoc h3 hk hx⟩

theorem run_setObj_map {b : Nat} {l : Array MapEntry} {c : Nat} (o : Obj) (h : w.heap[b]? = some (.map l c)) : (setObj b o).run P w = .ok () { w with heap := w.heap.setIfInBounds b o } := by simp [setObj, Sem.run, h]

theorem amapSet_sound {σ σ' : List AObj} (I : Inv pr w σ β) {t : TypeId} {x k y : AV} {v kv yv : Value} (hx : GV w (stOf pr w σ β) β x v) (hk : GV w (stOf pr w σ β) β k kv) (hy : GV w (stOf pr w σ β) β y yv) (h : y8 P σ t x k y = some σ') :
    ∃ w', (Instr.mapUpdate t v kv yv).run P w = .ok () w' ∧ Inv pr w' σ' β ∧ Evo pr w σ β w' σ' β := by
  unfold y8 at h
  split at h
  · rename_i kt et o k' hu
    simp only [GV] at hk
    split at h
    · rename_i kb es hkt hσ
      obtain ⟨d, hd⟩ := keyT_und hkt
      simp only [GV] at hx
      obtain ⟨b, hb, rfl⟩ := hx
      obtain ⟨l, clock, hh, hg⟩ := I.holds o _ b hσ hb
      have hlt := (Array.getElem?_eq_some_iff.1 hh).1
      have hget : (getObj b).run P w = .ok (.map l clock) w := by simp [getObj, Sem.run, hh]
      have hput : ∀ (es' : List (D × AV)) (l' : Array MapEntry) (c' : Nat), GMap w (stOf pr w σ β) β es' l'.toList →
          Inv pr { w with heap := w.heap.setIfInBounds b (.map l' c') } (σ.set o (.amap es')) β ∧ Evo pr w σ β { w with heap := w.heap.setIfInBounds b (.map l' c') } (σ.set o (.amap es')) β := by
        intro es' l' c' hg'
        refine I.set (.amap es') hσ rfl hb rfl rfl rfl (by simp) (fun k hk => by simp [Array.getElem?_setIfInBounds_ne (Ne.symm hk)]) (by rw [show csize w b = 0 by unfold csize; rw [hh]]; unfold csize; simp [hlt]) (fun L B => ⟨l', c', by simp [hlt], GMap.later L B hg'⟩)
      have hck := run_checkKeyA (P := P) (w := w) hkt false kv
      split at h
      · rename_i p hf
        obtain ⟨j, x'⟩ := p
        simp only [Option.some.injEq] at h
        subst h
        obtain ⟨e, _, hje, hbits, _, hfe⟩ := afind_sound hd hkt hk hg hf
        have hff := MapKept.run_findKey (P := P) (w := w) hd hfe
        simp only [Nat.sub_zero] at hje
        have hje' : l[j]? = some e := by simpa using hje
        obtain ⟨I', E'⟩ := hput (es.set j (k', y)) (l.modify j fun e => { e with key := kv, val := yv }) clock (by
          have : (l.modify j fun e => { e with key := kv, val := yv }).toList = l.toList.set j { e with key := kv, val := yv } := by
            apply List.ext_getElem?
            intro i
            rw [Array.toList_modify]
            by_cases hij : j = i
            · subst hij
              rw [List.getElem?_set_self (List.getElem?_eq_some_iff.1 hje).1]
              simp [List.getElem?_modify, hje]
            · rw [List.getElem?_set_ne hij]
              simp [List.getElem?_modify, hij]
          rw [this]
          exact GMap.set' hg hk hy)
        refine ⟨_, ?_, I', E'⟩
        unfold Instr.mapUpdate
        simp only [Sem.run_bind, run_underlying hu, Result.andThen_ok, hget, hck, hff, hje', Option.map_some, Option.getD_some, Instr.keyThatStays, hbits, if_true, Sem.run_pure]
        exact run_setObj_map _ hh
      · rename_i hf
        simp only [Option.some.injEq] at h
        subst h
        have hfe := afind_sound hd hkt hk hg hf
        have hff := MapKept.run_findKey (P := P) (w := w) hd (show Instr.findNow d kv l.toList 0 = some none from hfe)
        obtain ⟨I', E'⟩ := hput (es ++ [(k', y)]) (l.push { key := kv, val := yv, born := clock }) (clock + 1) (by
          rw [Array.toList_push]
          exact GMap.snoc hg hk hy)
        refine ⟨_, ?_, I', E'⟩
        unfold Instr.mapUpdate
        simp only [Sem.run_bind, run_underlying hu, Result.andThen_ok, hget, hck, hff]
        exact run_setObj_map _ hh
      · cases h
    · cases h
  · cases h

/-- A new map. -/
theorem newMap {σ : List AObj} (I : Inv pr w σ β) : Inv pr (w.alloc (.map #[] 0)) (σ ++ [.amap []]) (β ++ [w.heap.size]) ∧ Evo pr w σ β (w.alloc (.map #[] 0)) (σ ++ [.amap []]) (β ++ [w.heap.size]) ∧
    GV (w.alloc (.map #[] 0)) (stOf pr (w.alloc (.map #[] 0)) (σ ++ [.amap []]) (β ++ [w.heap.size])) (β ++ [w.heap.size]) (.map σ.length) (.map (some w.heap.size)) := by
  obtain ⟨I', E'⟩ := I.alloc (.map #[] 0) (.amap []) rfl (fun _ _ => ⟨#[], 0, heap_alloc_at w _, by simp [GMap]⟩)
  refine ⟨I', E', ?_⟩
  simp only [GV]
  exact ⟨_, by rw [← I.len]; simp, rfl⟩

/-! ### Capacities that are known -/
def wy (P : Program) (t : TypeId) (x : AV) : Option AV :=
  match P.underlying t, x with
  | some (.slice _), .d .nils | some (.slice _), .cap0 _ => some (.d (.int .i64 0))
  | _, _ => none
theorem acap_sound {t ty : TypeId} {ts : Array TypeId} (ht : ts[0]? = some t) {x y : AV} {v : Value} (hx : GV w st β x v) (h : wy P t x = some y) :
    ∃ u, (Builtin.cap_ ts ty #[v]).run P w = .ok u w ∧ GV w st β y u := by
  unfold wy at h
  split at h
  · rename_i e hu
    simp only [Option.some.injEq] at h; subst h
    simp only [GV, GD] at hx
    subst hx
    exact ⟨.int .i64 0, by simp [Builtin.cap_, ht, run_underlying hu, goInt], by simp [GV, GD]⟩
  · rename_i e sz hu
    simp only [Option.some.injEq] at h; subst h
    simp only [GV] at hx
    obtain ⟨a, rfl⟩ := hx
    exact ⟨.int .i64 0, by simp [Builtin.cap_, ht, run_underlying hu, goInt], by simp [GV, GD]⟩
  · cases h

/-! ### Bytes made a string in place -/
def qf (x : AV) : Option AV :=
  match x with
  | .sl o sz i n => if 0 < n then some (.eptr o sz i 0) else none
  | .d .nils => some (.d .nilp)
  | _ => none
theorem asliceData_sound {ts : Array TypeId} {ty : TypeId} {x y : AV} {v : Value} (hx : GV w st β x v) (h : qf x = some y) : ∃ u, (Builtin.unsafeSliceData_ ts ty #[v]).run P w = .ok u w ∧ GV w st β y u := by
  unfold qf at h
  split at h
  · split at h
    · rename_i hn
      simp only [Option.some.injEq] at h; subst h
      simp only [GV] at hx
      obtain ⟨b, c, hb, rfl, hnc, _⟩ := hx
      refine ⟨_, Lib.run_unsafeSliceData_row w ts ty _ _ _ (by omega), ?_⟩
      simp only [GV]
      exact ⟨b, hb, rfl⟩
    · cases h
  · simp only [Option.some.injEq] at h; subst h
    simp only [GV, GD] at hx
    subst hx
    exact ⟨_, Lib.run_unsafeSliceData_nil w ts ty _ _, by simp [GV, GD]⟩
  · cases h

/-- Elements that are bytes. -/
def strOfE : List (List D) → Option (List UInt8)
  | [] => some []
  | [.int .u8 n] :: r => if 0 ≤ n ∧ n < 256 then (strOfE r).map (UInt8.ofNat n.toNat :: ·) else none
  | _ => none
theorem strOfE_sound : ∀ {es : List (List D)} {l : List UInt8} {sz b off : Nat}, strOfE es = some l → GDe w st sz es b off → l.length = es.length ∧ (es ≠ [] → sz = 1) ∧ ∀ j x, l[j]? = some x → w.cell? ⟨b, off + j, none⟩ = some (.int .u8 x.toNat)
  | [], l, sz, b, off, h, _ => by
    simp only [strOfE, Option.some.injEq] at h
    subst h
    simp
  | e :: r, l, sz, b, off, h, hg => by
    unfold strOfE at h
    split at h
    · rename_i he
      cases he
    · rename_i n r' he
      simp only [List.cons.injEq] at he
      obtain ⟨rfl, rfl⟩ := he
      split at h
      · rename_i hn
        simp only [Option.map_eq_some_iff] at h
        obtain ⟨l', hl', rfl⟩ := h
        simp only [GDe] at hg
        obtain ⟨h1, h2, h3⟩ := hg
        have hsz : sz = 1 := by simpa using h1.symm
        subst hsz
        obtain ⟨i1, _, i3⟩ := strOfE_sound hl' h3
        refine ⟨by simp [i1], fun _ => rfl, fun j x hj => ?_⟩
        cases j with
        | zero =>
          simp only [List.getElem?_cons_zero, Option.some.injEq] at hj
          subst hj
          simp only [GDs, GD] at h2
          obtain ⟨⟨u, hu, rfl⟩, _⟩ := h2
          rw [Nat.add_zero, hu]
          have : (UInt8.ofNat n.toNat).toNat = n.toNat := by
            rw [UInt8.toNat_ofNat']
            omega
          rw [this, Int.toNat_of_nonneg hn.1]
        | succ j =>
          have := i3 j x (by simpa using hj)
          rw [← this]
          congr 2
          omega
      · cases h
    · cases h

theorem strOfE_map (l : List UInt8) : strOfE (l.map fun b => [D.int .u8 b.toNat]) = some l := by
  induction l with
  | nil => rfl
  | cons b r ih =>
    have h1 : (0 : Int) ≤ b.toNat ∧ (b.toNat : Int) < 256 := ⟨by omega, by have := b.toNat_lt; omega⟩
    simp only [List.map_cons, strOfE, if_pos h1, ih, Option.map_some, Int.toNat_natCast, UInt8.ofNat_toNat]

def ptrTo (P : Program) (t : TypeId) : Option TypeId := match P.underlying t with | some (.pointer e) => some e | _ => none

def y9 (P : Program) (σ : List AObj) (pt : TypeId) (p n : AV) : Option (AV × List AObj) :=
  match n with
  | .d (.int .i64 n) =>
    if n = 0 then (match p with
      | .eptr _ _ _ _ | .d .nilp | .pany => some (.d (.str []), σ)
      | _ => none)
    else match p with
      | .eptr o 1 0 0 => match σ[o]?, ptrTo P pt with
        | some (.drow es ty 1), some e => if n = es.length ∧ e = ty ∧ P.cellsOf ty = 1 ∧ es.length ≤ 9223372036854775807 then (strOfE es).map fun l => (.d (.str l), σ.set o (.fz 1 es)) else none
        | _, _ => none
      | _ => none
  | _ => none

theorem GDs.recell {w' : World} {st' : Nat → Prop} (L : Later w st w' st') {b : Nat} (hc : ∀ k, w'.cell? ⟨b, k, none⟩ = w.cell? ⟨b, k, none⟩) : ∀ (ds : List D) (off : Nat), GDs w st ds b off → GDs w' st' ds b off
  | [], _, _ => by simp [GDs]
  | d :: q, off, h => by
    simp only [GDs] at h ⊢
    obtain ⟨⟨u, hu, hd⟩, h5⟩ := h
    exact ⟨⟨u, (hc _).trans hu, GD.later L d u hd⟩, GDs.recell L hc q _ h5⟩
theorem GDe.recell {w' : World} {st' : Nat → Prop} (L : Later w st w' st') {b sz : Nat} (hc : ∀ k, w'.cell? ⟨b, k, none⟩ = w.cell? ⟨b, k, none⟩) : ∀ (es : List (List D)) (off : Nat), GDe w st sz es b off → GDe w' st' sz es b off
  | [], _, _ => by simp [GDe]
  | e :: r, off, h => by
    simp only [GDe] at h ⊢
    obtain ⟨g1, g2, g3⟩ := h
    exact ⟨g1, GDs.recell L hc e off g2, GDe.recell L hc r _ g3⟩

theorem stOf_set_dead {σ : List AObj} (I : Inv pr w σ β) {o b : Nat} {x y : AObj} (ho : σ[o]? = some x) (hl : x.live = true) (hb : β[o]? = some b) (hy : y.live = false) : stOf pr w (σ.set o y) β b := by
  refine ⟨⟨I.lt o b hb, I.npr o b ⟨x, ho, hl⟩ hb⟩, fun i hi he => ?_⟩
  have hi' := liveAt_set ho hl hi
  have e := I.inj o i b ⟨x, ho, hl⟩ hi' hb he
  subst e
  obtain ⟨z, hz, hzl⟩ := hi
  rw [List.getElem?_set_self (List.getElem?_eq_some_iff.1 ho).1] at hz
  simp only [Option.some.injEq] at hz
  subst hz
  rw [hy] at hzl
  cases hzl

theorem freeze_heap {b n : Nat} {c : Array Value} {ty : TypeId} (hh : w.heap[b]? = some (.cells c ty (0, 0))) (hn : n ≠ 0) : w.freeze ⟨b, 0, none⟩ n = { w with heap := w.heap.setIfInBounds b (.cells c ty (0, n)) } := by
  have hlt := (Array.getElem?_eq_some_iff.1 hh).1
  simp only [World.freeze, if_neg hn]
  congr 1
  apply Array.ext_getElem?
  intro i
  rw [Array.getElem?_modify]
  by_cases hi : b = i
  · subst hi
    have hw := (Array.getElem?_eq_some_iff.1 hh).2
    simp [hlt, hw]
  · simp [hi, Array.getElem?_setIfInBounds_ne hi]

theorem astring_sound {σ σ' : List AObj} (I : Inv pr w σ β) {pt it ty : TypeId} {p n y : AV} {pv nv : Value} (hp : GV w (stOf pr w σ β) β p pv) (hn : GV w (stOf pr w σ β) β n nv) (h : y9 P σ pt p n = some (y, σ')) :
    ∃ u w', (Builtin.unsafeString_ #[pt, it] ty #[pv, nv]).run P w = .ok u w' ∧ Inv pr w' σ' β ∧ Evo pr w σ β w' σ' β ∧ GV w' (stOf pr w' σ' β) β y u := by
  unfold y9 at h
  split at h
  rotate_left
  · cases h
  rename_i n'
  simp only [GV, GD] at hn
  subst hn
  split at h
  · rename_i h0
    subst h0
    have key : ∀ q, pv = .pointer q → some (AV.d (.str []), σ) = some (y, σ') → ∃ u w', (Builtin.unsafeString_ #[pt, it] ty #[pv, .int .i64 0]).run P w = .ok u w' ∧ Inv pr w' σ' β ∧ Evo pr w σ β w' σ' β ∧ GV w' (stOf pr w' σ' β) β y u := by
      intro q hq h
      subst hq
      simp only [Option.some.injEq, Prod.mk.injEq] at h
      obtain ⟨rfl, rfl⟩ := h
      exact ⟨_, w, Lib.run_unsafeString_none w pt it ty q, I, Evo.refl _ _ _, by simp only [GV, GD]; rfl⟩
    split at h
    · simp only [GV] at hp
      obtain ⟨b, _, hp⟩ := hp
      exact key _ hp h
    · simp only [GV, GD] at hp
      exact key _ hp h
    · simp only [GV] at hp
      obtain ⟨q, hp⟩ := hp
      exact key _ hp h
    · cases h
  · rename_i h0
    split at h
    · rename_i o
      split at h
      · rename_i es ty' e hσ hpt
        split at h
        · rename_i hc
          obtain ⟨rfl, rfl, hc1, hbig⟩ := hc
          simp only [Option.map_eq_some_iff, Prod.mk.injEq] at h
          obtain ⟨l, hl, rfl, rfl⟩ := h
          simp only [GV] at hp
          obtain ⟨b, hb, rfl⟩ := hp
          obtain ⟨b', hb', hlt, c, hh, hfit, hg⟩ := I.at_ hσ
          obtain rfl : b = b' := by rw [hb] at hb'; simpa using hb'
          obtain ⟨hlen, _, hcell⟩ := strOfE_sound hl hg
          have hne : l ≠ [] := by
            intro e
            subst e
            simp only [List.length_nil] at hlen
            rw [← hlen] at h0
            exact h0 rfl
          have hl0 : l.length ≠ 0 := by simpa using hne
          unfold ptrTo at hpt
          split at hpt
          rotate_left
          · cases hpt
          rename_i e' hpe
          simp only [Option.some.injEq] at hpt
          subst hpt
          have hrun := Lib.run_unsafeString_row (P := P) (w := w) pt it ty e' hpe hc1 b c.size (by simp [World.shape?, hh]) l hne (by omega) (by omega) (fun j x hj => by
            have := hcell j x hj
            rw [add_spotless]
            exact this)
          rw [freeze_heap hh hl0] at hrun
          have hw := (Array.getElem?_eq_some_iff.1 hh).2
          have hstb := stOf_set_dead I hσ rfl hb (y := .fz 1 es) rfl
          obtain ⟨I', E'⟩ := I.set (w' := { w with heap := w.heap.setIfInBounds b (.cells c e' (0, l.length)) }) (.fz 1 es) hσ rfl hb rfl rfl rfl (by simp) (fun k hk => by simp [Array.getElem?_setIfInBounds_ne (Ne.symm hk)]) (by simp [csize, hw, hlt])
            (fun L B => ⟨⟨⟨by simpa using hlt, hstb.1.2⟩, hstb.2⟩, by
              -- the cells lie as they lay
              have hcells : ∀ k, ({ w with heap := w.heap.setIfInBounds b (.cells c e' (0, l.length)) } : World).cell? ⟨b, k, none⟩ = w.cell? ⟨b, k, none⟩ := fun k => by
                simp [World.cell?, hw, hlt]
              exact GDe.recell L hcells es 0 hg⟩)
          refine ⟨.string ⟨l.toArray⟩, _, ?_, I', E', ?_⟩
          · rw [hlen] at hrun
            simpa [hlen] using hrun
          · simp only [GV, GD, sval]
        · cases h
      · cases h
    · cases h

end
end Go.Proofs.YtblejchodicaoaaGreatDoor.Eng

/-
  THE ENGINE, part G: all reading operations under one name. Program-independent. Own work.
-/
namespace Go.Proofs.YtblejchodicaoaaGreatDoor.Eng
open Go Go.RowKit

def jk (P : Program) (t : TypeId) (parts : List (Nat × AV)) : Option AV :=
  match P.underlying t, zeroT P t with
  | some (.struct fs), some z =>
    if fs.toList.all (fun f => (sizeT P f.type).isSome) then
      (xd (fun i => (fs[i]?).map fun f => (f.offset, (sizeT P f.type).getD 0)) z parts).map .agg
    else none
  | some (.array _ e), some z => match sizeT P e with
    | some sz => (xd (fun i => some (i * sz, sz)) z parts).map .agg
    | none => none
  | _, _ => none

def xa (op : Int → Int → Int) : AV → List AV → Option AV
  | x, [] => some x
  | .d (.int k a), .d (.int _ b) :: r => xa op (.d (.int k (op a b))) r
  | _, _ => none

def xb (t : Bool) (x y : AV) : AV :=
  match x, y with
  | .d (.bool a), .d (.bool b) => .d (.bool (if t then a else b))
  | x, y => if t then x else y

def xr : AV → Bool
  | .fn (.func _) _ _ | .d (.fn (.func _) _ _) => true
  | _ => false

def wi (x : AV) : Option AV :=
  match x with
  | .ptr _ _ | .eptr _ _ _ _ | .d (.rp _) => some x
  | x => if xr x then some x else none

def j6 (P : Program) (σ : List AObj) (ev : Bool → Operand → AV) (o : Oper) : Option AV :=
  match o.op with
  | .move x | .assign x => some (ev true x)
  | .pick c a b => match ev true c with
    | .d (.bool t) => some (xb t (ev t a) (ev (!t) b))
    | _ => none
  | .load t x => j8 P σ t (ev true x)
  | .nilCheck x => wi (ev true x)
  | .binOp op t x y _ => wg P op t (ev true x) (ev true y)
  | .unOp op _ x => aun op (ev true x)
  | .convert s d x => xv P σ s d (ev true x)
  | .makeInterface t x => match ev true x with
    | .d y => if P.concrete t then some (.d (.iface t y)) else none
    | _ => none
  | .makeFunc fn first cap => some (.fn fn (first.toList.map (ev true)) (cap.toList.map (ev true)))
  | .fieldAddr s x f => z7 P s f (ev true x)
  | .field s x f => jh P s f (ev true x)
  | .indexAddr t x i => match ev true i with
    | .d (.int _ n) => z8 P t (ev true x) n
    | _ => none
  | .index t x i => match ev true i with
    | .d (.int _ n) => ji P t (ev true x) n
    | _ => none
  | .slice t x lo hi none => match jz (lo.map (ev true)), jz (hi.map (ev true)) with
    | some l, some h => jy P t (ev true x) l h
    | _, _ => none
  | .slice t x none (some hi) (some mx) => match ev true hi, ev true mx with
    | .d (.int _ a), .d (.int _ b) => if a = 0 ∧ b = 0 then aslice00 P t (ev true x) else none
    | _, _ => none
  | .extract x i => match ev true x with
    | .tup vs => vs[i]?
    | _ => none
  | .lookup t x i c => y7 P σ t (ev true x) (ev true i) c
  | .build t parts => jk P t (parts.toList.map fun p => (p.1, ev true p.2))
  | .call { callee := .builtin b, args, argTypes } => match b, args.toList, argTypes.toList with
    | .len, [x], t :: _ => wh P σ t (ev true x)
    | .cap, [x], t :: _ => wy P t (ev true x)
    | .unsafeSliceData, [x], _ => qf (ev true x)
    | .max, x :: r, _ => xa (fun a b => if b > a then b else a) (ev true x) (r.map (ev true))
    | .min, x :: r, _ => xa (fun a b => if b < a then b else a) (ev true x) (r.map (ev true))
    | _, _, _ => none
  | _ => none

section
variable {pr : Nat → Prop} {P : Program} {w : World} {st : Nat → Prop} {β : List Nat}

theorem GVl.map {ev : Bool → Operand → AV} {a : Act} (h : ∀ t x, t = true → GV w st β (ev t x) (a.eval x)) : ∀ (l : List Operand), GVl w st β (l.map (ev true)) (l.map a.eval)
  | [] => by simp [GVl]
  | x :: r => by
    simp only [List.map_cons, GVl]
    exact ⟨_, _, rfl, h true x rfl, GVl.map h r⟩
theorem amaxs_max : ∀ {r : List AV} {x y : AV} {v : Value} {us : List Value}, GV w st β x v → GVl w st β r us → (us ≠ [] ∨ True) → xa (fun a b => if b > a then b else a) x r = some y →
    ∃ u, (us.foldlM Builtin.max2 v).run P w = .ok u w ∧ GV w st β y u
  | [], x, y, v, us, hx, hr, _, h => by
    simp only [GVl] at hr; subst hr
    simp only [xa, Option.some.injEq] at h; subst h
    exact ⟨v, by simp, hx⟩
  | z :: r, x, y, v, us, hx, hr, _, h => by
    simp only [GVl] at hr
    obtain ⟨v', us', rfl, hz, hr⟩ := hr
    unfold xa at h
    split at h
    · rename_i heq; cases heq
    · rename_i k a k' b r' heq
      simp only [List.cons.injEq] at heq
      obtain ⟨rfl, rfl⟩ := heq
      obtain rfl : v = .int k a := by simpa [GV, GD] using hx
      obtain rfl : v' = .int k' b := by simpa [GV, GD] using hz
      obtain ⟨u, hu, hg⟩ := amaxs_max (v := .int k (if b > a then b else a)) (by simp [GV, GD]) hr (.inr trivial) h
      exact ⟨u, by simp only [List.foldlM_cons, Sem.run_bind, Builtin.max2, Sem.run_pure, Result.andThen_ok]; exact hu, hg⟩
    · cases h
theorem amaxs_min : ∀ {r : List AV} {x y : AV} {v : Value} {us : List Value}, GV w st β x v → GVl w st β r us → (us ≠ [] ∨ True) → xa (fun a b => if b < a then b else a) x r = some y →
    ∃ u, (us.foldlM Builtin.min2 v).run P w = .ok u w ∧ GV w st β y u
  | [], x, y, v, us, hx, hr, _, h => by
    simp only [GVl] at hr; subst hr
    simp only [xa, Option.some.injEq] at h; subst h
    exact ⟨v, by simp, hx⟩
  | z :: r, x, y, v, us, hx, hr, _, h => by
    simp only [GVl] at hr
    obtain ⟨v', us', rfl, hz, hr⟩ := hr
    unfold xa at h
    split at h
    · rename_i heq; cases heq
    · rename_i k a k' b r' heq
      simp only [List.cons.injEq] at heq
      obtain ⟨rfl, rfl⟩ := heq
      obtain rfl : v = .int k a := by simpa [GV, GD] using hx
      obtain rfl : v' = .int k' b := by simpa [GV, GD] using hz
      obtain ⟨u, hu, hg⟩ := amaxs_min (v := .int k (if b < a then b else a)) (by simp [GV, GD]) hr (.inr trivial) h
      exact ⟨u, by simp only [List.foldlM_cons, Sem.run_bind, Builtin.min2, Sem.run_pure, Result.andThen_ok]; exact hu, hg⟩
    · cases h

theorem apick_sound {t : Bool} {x y : AV} {u v : Value} (hx : t = true → GV w st β x u) (hy : t = false → GV w st β y v) : GV w st β (xb t x y) (if t then u else v) := by
  unfold xb
  split
  · cases t
    · simpa [GV, GD] using hy rfl
    · simpa [GV, GD] using hx rfl
  · cases t
    · simpa using hy rfl
    · simpa using hx rfl
theorem anil_sound {x y : AV} {v : Value} (hx : GV w st β x v) (h : wi x = some y) (o : Oper) (z : Operand) (ho : o.op = .nilCheck z) (ρ : Operand → Value) (hz : ρ z = v) :
    (execOp ρ o).run P w = .ok (.value v) w ∧ GV w st β y v := by
  have hf : xr x = true → ∃ f us vs, v = .func (.func f) us vs := by
    intro hfx
    unfold xr at hfx
    split at hfx
    · simp only [GV] at hx; obtain ⟨us, vs, rfl, _⟩ := hx; exact ⟨_, _, _, rfl⟩
    · simp only [GV, GD] at hx; obtain ⟨us, vs, rfl, _⟩ := hx; exact ⟨_, _, _, rfl⟩
    · cases hfx
  unfold wi at h
  split at h
  · simp only [Option.some.injEq] at h; subst h
    refine ⟨?_, hx⟩
    obtain ⟨a, rfl⟩ := hx.ptr_some
    simp [execOp, ho, hz]
  · simp only [Option.some.injEq] at h; subst h
    refine ⟨?_, hx⟩
    obtain ⟨a, rfl⟩ := hx.eptr_some
    simp [execOp, ho, hz]
  · simp only [Option.some.injEq] at h; subst h
    refine ⟨?_, hx⟩
    obtain ⟨a, rfl⟩ := hx.rp_some
    simp [execOp, ho, hz]
  · split at h
    · rename_i hfx
      simp only [Option.some.injEq] at h; subst h
      obtain ⟨f, us, vs, rfl⟩ := hf hfx
      refine ⟨?_, hx⟩
      simp [execOp, ho, hz]
    · cases h

theorem run_sizes {fs : Array Field} (h : fs.toList.all (fun f => (sizeT P f.type).isSome) = true) :
    (fs.mapM fun f => do pure (f.offset, ← sizeOf f.type) : Sem (Array (Nat × Nat))).run P w = .ok (fs.map fun f => (f.offset, (sizeT P f.type).getD 0)) w := by
  have key : ∀ (l : List Field), l.all (fun f => (sizeT P f.type).isSome) = true → (l.mapM fun f => do pure (f.offset, ← sizeOf f.type) : Sem (List (Nat × Nat))).run P w = .ok (l.map fun f => (f.offset, (sizeT P f.type).getD 0)) w := by
    intro l
    induction l with
    | nil => intro _; simp
    | cons f l ih =>
      intro hl
      simp only [List.all_cons, Bool.and_eq_true] at hl
      obtain ⟨sz, hs⟩ := Option.isSome_iff_exists.1 hl.1
      rw [List.mapM_cons]
      have hone : (do pure (f.offset, ← sizeOf f.type) : Sem (Nat × Nat)).run P w = .ok (f.offset, sz) w := by simp [run_sizeOf hs]
      simp only [Sem.run_bind, hone, Result.andThen_ok, ih hl.2, Sem.run_pure, List.map_cons, hs, Option.getD_some]
  have := key fs.toList h
  rw [← Array.toArray_toList (xs := fs)]
  simp only [List.mapM_toArray, Sem.run_map, this, Result.andThen_ok]
  congr 1
  apply Array.ext'
  simp

theorem abuild_sound {t : TypeId} {parts : List (Nat × AV)} {vparts : Array (Nat × Value)} {y : AV} (he : parts.map (·.1) = vparts.toList.map (·.1)) (hp : GVl w st β (parts.map (·.2)) (vparts.toList.map (·.2)))
    (h : jk P t parts = some y) : ∃ u, (Instr.build t vparts).run P w = .ok u w ∧ GV w st β y u := by
  unfold jk at h
  split at h
  · rename_i fs z hu hz
    obtain ⟨zv, hzv, hzc⟩ := run_zeroValue (P := P) (w := w) hz
    split at h
    · rename_i hall
      obtain ⟨r, hr, rfl⟩ := Option.map_eq_some_iff.1 h
      obtain ⟨us, hus, hg⟩ := afill_sound (w := w) (st := st) (β := β) he hp (aconsts_sound hzc) hr
      refine ⟨.agg us.toArray, ?_, by simp only [GV]; exact ⟨us, rfl, hg⟩⟩
      have hfill : Instr.fill (fun i => (fs.map fun f => (f.offset, (sizeT P f.type).getD 0))[i]?) zv.cells vparts.toList = some us.toArray := by
        rw [← hus]
        congr 1
        funext i
        simp
      simp only [Instr.build, Sem.run_bind, hzv, Result.andThen_ok, run_underlying hu, run_sizes hall]
      rw [hfill]
      rfl
    · cases h
  · rename_i len e z hu hz
    obtain ⟨zv, hzv, hzc⟩ := run_zeroValue (P := P) (w := w) hz
    split at h
    · rename_i sz hs
      obtain ⟨r, hr, rfl⟩ := Option.map_eq_some_iff.1 h
      obtain ⟨us, hus, hg⟩ := afill_sound (w := w) (st := st) (β := β) he hp (aconsts_sound hzc) hr
      refine ⟨.agg us.toArray, ?_, by simp only [GV]; exact ⟨us, rfl, hg⟩⟩
      simp only [Array.toArray_toList] at hus
      simp only [Instr.build, Sem.run_bind, hzv, Result.andThen_ok, run_underlying hu, run_sizeOf hs, hus]
      rfl
    · cases h
  · cases h

theorem aread_sound {σ : List AObj} (I : Inv pr w σ β) {ev : Bool → Operand → AV} {a : Act} (hE : ∀ t x, t = true → GV w (stOf pr w σ β) β (ev t x) (a.eval x)) {o : Oper} {y : AV} (h : j6 P σ ev o = some y) :
    ∃ u, (execOp a.eval o).run P w = .ok (.value u) w ∧ GV w (stOf pr w σ β) β y u := by
  unfold j6 at h
  split at h
  · rename_i x ho
    simp only [Option.some.injEq] at h; subst h
    exact ⟨_, by simp [execOp, ho], hE true x rfl⟩
  · rename_i x ho
    simp only [Option.some.injEq] at h; subst h
    exact ⟨_, by simp [execOp, ho], hE true x rfl⟩
  · rename_i c x y' ho
    split at h
    · rename_i t hc
      simp only [Option.some.injEq] at h; subst h
      have hcv := hE true c rfl
      rw [hc] at hcv
      have hb : a.eval c = .bool t := by simpa [GV, GD] using hcv
      exact ⟨_, by simp [execOp, ho, hb, asBool], apick_sound (fun h => hE t x h) (fun h => hE (!t) y' (by rw [h]; rfl))⟩
    · cases h
  · rename_i t x ho
    obtain ⟨u, hu, hg⟩ := aload_sound (P := P) I (hE true x rfl) h
    exact ⟨u, by simp [execOp, ho, hu], hg⟩
  · rename_i x ho
    obtain ⟨h1, h2⟩ := anil_sound (P := P) (hE true x rfl) h o x ho a.eval rfl
    exact ⟨_, h1, h2⟩
  · rename_i op t x y' ty ho
    obtain ⟨u, hu, hg⟩ := abin_sound (P := P) (x := x) (y := y') (hE true x rfl) (hE true y' rfl) h
    refine ⟨u, ?_, hg⟩
    simp only [execOp, ho]
    rw [Sem.run_bind, hu]; rfl
  · rename_i op t x ho
    obtain ⟨u, hu, hg⟩ := aun_sound (P := P) (hE true x rfl) h
    exact ⟨u, by simp [execOp, ho, hu], hg⟩
  · rename_i s d x ho
    obtain ⟨u, hu, hg⟩ := aconv_sound (P := P) I (hE true x rfl) h
    exact ⟨u, by simp [execOp, ho, hu], hg⟩
  · rename_i t x ho
    split at h
    · rename_i y' hx
      split at h
      · rename_i hc
        simp only [Option.some.injEq] at h; subst h
        have hxv := hE true x rfl
        rw [hx] at hxv
        simp only [GV] at hxv
        refine ⟨.iface t (a.eval x), ?_, by simp only [GV, GD]; exact ⟨_, rfl, hxv⟩⟩
        simp [execOp, ho, run_makeInterface w t (a.eval x) hc]
      · cases h
    · cases h
  · rename_i fn first cap ho
    simp only [Option.some.injEq] at h; subst h
    refine ⟨.func fn (first.map a.eval) (cap.map a.eval), by simp [execOp, ho, Instr.makeFunc], ?_⟩
    simp only [GV]
    refine ⟨first.toList.map a.eval, cap.toList.map a.eval, ?_, GVl.map hE _, GVl.map hE _⟩
    have e1 : first.map a.eval = (first.toList.map a.eval).toArray := by apply Array.ext'; simp
    have e2 : cap.map a.eval = (cap.toList.map a.eval).toArray := by apply Array.ext'; simp
    rw [e1, e2]
  · rename_i s x f ho
    obtain ⟨u, hu, hg⟩ := afieldAddr_sound (P := P) (hE true x rfl) h
    exact ⟨u, by simp [execOp, ho, hu], hg⟩
  · rename_i s x f ho
    obtain ⟨u, hu, hg⟩ := afield_sound (P := P) (hE true x rfl) h
    exact ⟨u, by simp [execOp, ho, hu], hg⟩
  · rename_i t x i ho
    split at h
    · rename_i k n hi
      have hiv := hE true i rfl
      rw [hi] at hiv
      have hb : a.eval i = .int k n := by simpa [GV, GD] using hiv
      obtain ⟨u, hu, hg⟩ := aindexAddr_sound (P := P) (k := k) (hE true x rfl) h
      exact ⟨u, by simp [execOp, ho, hb, hu], hg⟩
    · cases h
  · rename_i t x i ho
    split at h
    · rename_i k n hi
      have hiv := hE true i rfl
      rw [hi] at hiv
      have hb : a.eval i = .int k n := by simpa [GV, GD] using hiv
      obtain ⟨u, hu, hg⟩ := aindex_sound (P := P) (k := k) (hE true x rfl) h
      exact ⟨u, by simp [execOp, ho, hb, hu], hg⟩
    · cases h
  · rename_i t x lo hi ho
    split at h
    · rename_i l hh hl hhi
      have e1 : lo.map a.eval = vbound l := abound_sound (w := w) (st := stOf pr w σ β) (β := β) (x := lo.map (ev true)) (fun hn => by cases lo <;> simp_all) (fun y' hy => by
        cases lo with
        | none => simp at hy
        | some z => simp only [Option.map_some, Option.some.injEq] at hy; subst hy; exact ⟨_, rfl, hE true z rfl⟩) hl
      have e2 : hi.map a.eval = vbound hh := abound_sound (w := w) (st := stOf pr w σ β) (β := β) (x := hi.map (ev true)) (fun hn => by cases hi <;> simp_all) (fun y' hy => by
        cases hi with
        | none => simp at hy
        | some z => simp only [Option.map_some, Option.some.injEq] at hy; subst hy; exact ⟨_, rfl, hE true z rfl⟩) hhi
      obtain ⟨u, hu, hg⟩ := aslice_sound (P := P) (hE true x rfl) h
      exact ⟨u, by simp [execOp, ho, e1, e2, hu], hg⟩
    · cases h
  · rename_i t x hi mx ho
    split at h
    · rename_i k x0 k' y0 h1 h2
      split at h
      · rename_i hc
        obtain ⟨rfl, rfl⟩ := hc
        have hv1 := hE true hi rfl
        rw [h1] at hv1
        have hb1 : a.eval hi = .int k 0 := by simpa [GV, GD] using hv1
        have hv2 := hE true mx rfl
        rw [h2] at hv2
        have hb2 : a.eval mx = .int k' 0 := by simpa [GV, GD] using hv2
        obtain ⟨u, hu, hg⟩ := aslice00_sound (P := P) (k := k) (k' := k') (hE true x rfl) h
        exact ⟨u, by simp [execOp, ho, hb1, hb2, hu], hg⟩
      · cases h
    · cases h
  · rename_i x i ho
    split at h
    · rename_i vs hx
      have hxv := hE true x rfl
      rw [hx] at hxv
      simp only [GV] at hxv
      obtain ⟨us, hus, hg⟩ := hxv
      obtain ⟨u, hu, hgu⟩ := hg.get h
      exact ⟨u, by simp [execOp, ho, hus, Instr.extract, hu], hgu⟩
    · cases h
  · rename_i t x i c ho
    obtain ⟨u, hu, hg⟩ := alookup_sound (P := P) I (hE true x rfl) (hE true i rfl) h
    exact ⟨u, by simp [execOp, ho, hu], hg⟩
  · rename_i t parts ho
    obtain ⟨u, hu, hg⟩ := abuild_sound (P := P) (w := w) (st := stOf pr w σ β) (β := β) (vparts := parts.map fun (i, x) => (i, a.eval x)) (by simp [Function.comp_def]) (by
      have := GVl.map hE (parts.toList.map (·.2))
      simpa [Function.comp_def, List.map_map] using this) h
    exact ⟨u, by simp [execOp, ho, hu], hg⟩
  · rename_i b args argTypes ho
    split at h
    · rename_i x t r ha ht
      have hargs : args = #[x] := by apply Array.ext'; simpa using ha
      have ht0 : argTypes[0]? = some t := by rw [← Array.getElem?_toList, ht]; rfl
      subst hargs
      obtain ⟨u, hu, hg⟩ := alen_sound (P := P) I (ty := o.type) ht0 (hE true x rfl) h
      refine ⟨u, ?_, hg⟩
      simp [execOp, ho, resolve, invoke, builtin, hu]
    · rename_i x t r ha ht
      have hargs : args = #[x] := by apply Array.ext'; simpa using ha
      have ht0 : argTypes[0]? = some t := by rw [← Array.getElem?_toList, ht]; rfl
      subst hargs
      obtain ⟨u, hu, hg⟩ := acap_sound (P := P) (w := w) (ty := o.type) ht0 (hE true x rfl) h
      refine ⟨u, ?_, hg⟩
      simp [execOp, ho, resolve, invoke, builtin, hu]
    · rename_i x ha
      have hargs : args = #[x] := by apply Array.ext'; simpa using ha
      subst hargs
      obtain ⟨u, hu, hg⟩ := asliceData_sound (P := P) (w := w) (ts := argTypes) (ty := o.type) (hE true x rfl) h
      refine ⟨u, ?_, hg⟩
      simp [execOp, ho, resolve, invoke, builtin, hu]
    · rename_i x r ha
      have hargs : args = (x :: r).toArray := by apply Array.ext'; simpa using ha
      subst hargs
      obtain ⟨u, hu, hg⟩ := amaxs_max (P := P) (hE true x rfl) (GVl.map hE r) (.inr trivial) h
      refine ⟨u, ?_, hg⟩
      simp [execOp, ho, resolve, invoke, builtin, Builtin.max_, hu]
    · rename_i x r ha
      have hargs : args = (x :: r).toArray := by apply Array.ext'; simpa using ha
      subst hargs
      obtain ⟨u, hu, hg⟩ := amaxs_min (P := P) (hE true x rfl) (GVl.map hE r) (.inr trivial) h
      refine ⟨u, ?_, hg⟩
      simp [execOp, ho, resolve, invoke, builtin, Builtin.min_, hu]
    · cases h
  · cases h
end
end Go.Proofs.YtblejchodicaoaaGreatDoor.Eng
