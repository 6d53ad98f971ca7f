/-
  PLAIN LAW: how long a value's text is. Own work.
-/
import Derived.Test.YtblejchodicaoaaGreatDoorJ7
import Derived.Test.YtblejchodicaoaaGreatDoorJ6
import Derived.Test.YtblejchodicaoaaGreatDoorJ5
import Derived.WalkKit
import Derived.Lib.SliceRun
import Derived.Test.YtblejchodicaoaaGreatDoorJ4
import Derived.Test.YtblejchodicaoaaGreatDoorJ3
set_option linter.unusedVariables false
set_option linter.unusedSimpArgs false
namespace Go.Proofs.YtblejchodicaoaaGreatDoor.Eng
open Go Go.RowKit
set_option maxRecDepth 100000
set_option linter.unusedSimpArgs false

def in64 (n : Int) : Prop := -9223372036854775808 ≤ n ∧ n ≤ 9223372036854775807
mutual
/-- The numbers of a value are of 64 bits. -/
def V.ok : V → Prop
  | .mk k _ n _ l o => in64 k ∧ in64 n ∧ V.oks l ∧ M.oks o
def M.ok : M → Prop
  | .mk _ v => V.ok v
def V.oks : List V → Prop
  | [] => True
  | v :: r => V.ok v ∧ V.oks r
def M.oks : List M → Prop
  | [] => True
  | v :: r => M.ok v ∧ M.oks r
end
theorem quoteU_len (s : List UInt8) : (quoteU s).length ≤ 6 * s.length + 2 := by
  unfold quoteU
  split
  · have h := qAcc_len (runesU s.length 0 s)
    have h2 := runesU_len s.length 0 s
    simp only [qAcc, List.length_cons] at h
    simp only [List.length_cons, List.length_append, List.length_nil]
    omega
  · simp
theorem joinTail_len (r : List (List UInt8)) : (Lib.joinTail [44] r).length = (r.map fun t => t.length + 1).sum := by
  induction r with
  | nil => rfl
  | cons x r ih =>
    have : Lib.joinTail [44] (x :: r) = 44 :: (x ++ Lib.joinTail [44] r) := by simp [Lib.joinTail]
    rw [this]
    simp only [List.length_cons, List.length_append, ih, List.map_cons, List.sum_cons]
    omega
theorem join_len (l : List (List UInt8)) : (Lib.join l [44]).length ≤ (l.map fun t => t.length + 1).sum := by
  cases l with
  | nil => simp [Lib.join_nil]
  | cons x r =>
    rw [Lib.join_cons, List.length_append, joinTail_len, List.map_cons, List.sum_cons]
    omega
mutual
theorem textV_len : ∀ v : V, v.ok → (textV v).length + 1 ≤ 32 * v.size
  | .mk k b n t l o, h => by
    simp only [V.ok] at h
    obtain ⟨hk, hn, hl, ho⟩ := h
    have h1 := textL_len l hl
    have h2 := textO_len o ho
    have h3 := join_len (textL l ++ textO o)
    rw [List.map_append, List.sum_append] at h3
    have h4 := quoteU_len t
    have h5 := Lib.itoa_length_le n hn.1 hn.2
    simp only [textV, V.size]
    repeat' split
    all_goals try simp only [List.length_cons, List.length_append, List.length_nil]
    all_goals omega
theorem textM_len : ∀ m : M, m.ok → (textM m).length + 1 ≤ 32 * m.size
  | .mk k v, h => by
    simp only [M.ok] at h
    have h1 := textV_len v h
    have h2 := quoteU_len k
    simp only [textM, M.size, List.length_append, List.length_cons, List.length_nil]
    omega
theorem textL_len : ∀ l : List V, V.oks l → ((textL l).map fun t => t.length + 1).sum ≤ 32 * V.sizes l
  | [], _ => by simp [textL]
  | v :: r, h => by
    simp only [V.oks] at h
    have h1 := textV_len v h.1
    have h2 := textL_len r h.2
    simp only [textL, V.sizes, List.map_cons, List.sum_cons]
    omega
theorem textO_len : ∀ l : List M, M.oks l → ((textO l).map fun t => t.length + 1).sum ≤ 32 * M.sizes l
  | [], _ => by simp [textO]
  | v :: r, h => by
    simp only [M.oks] at h
    have h1 := textM_len v h.1
    have h2 := textO_len r h.2
    simp only [textO, M.sizes, List.map_cons, List.sum_cons]
    omega
end
end Go.Proofs.YtblejchodicaoaaGreatDoor.Eng

/-
  PLAIN LAW: what it says of a value's parts that it may be. Own work.
-/
namespace Go.Proofs.YtblejchodicaoaaGreatDoor.Eng
open Go Go.RowKit

theorem mayL_mem {valid : List UInt8 → Bool} {d : Int} {x : V} : ∀ {l : List V}, mayL valid l d = 0 → x ∈ l → mayV valid x d = 0
  | [], _, h => by cases h
  | y :: r, h, hx => by
    simp only [mayL] at h
    split at h
    · rename_i h1
      rcases List.mem_cons.1 hx with rfl | hx
      · exact h1
      · exact mayL_mem h hx
    · rename_i h1
      exact absurd h h1
theorem mayO_mem {valid : List UInt8 → Bool} {d : Int} {m : M} : ∀ {p : Option (List UInt8)} {l : List M}, mayO valid p l d = 0 → m ∈ l → mayV valid m.v d = 0 ∧ valid m.key = true
  | _, [], _, h => by cases h
  | p, y :: r, h, hx => by
    simp only [mayO] at h
    by_cases c1 : valid y.key = false
    · rw [if_pos c1] at h; omega
    rw [if_neg c1] at h
    by_cases c2 : mayM valid y d = 0
    · have h2 : mayO valid (some y.key) r d = 0 := by
        rw [if_pos c2] at h
        revert h
        repeat' split
        all_goals first | exact fun h => h | (intro h; omega)
      rcases List.mem_cons.1 hx with rfl | hx
      · obtain ⟨k, v⟩ := m
        exact ⟨by simpa only [mayM, M.v] using c2, by simpa using c1⟩
      · exact mayO_mem h2 hx
    · exfalso
      rw [if_neg c2] at h
      revert h
      repeat' split
      all_goals (intro h; omega)
theorem mayV_parts {valid : List UInt8 → Bool} {d : Int} {v : V} (h : mayV valid v d = 0) : bareV v = true ∧ d ≤ 64 ∧ valid v.t = true ∧ (∀ x ∈ v.l, mayV valid x (d + 1) = 0) ∧ (∀ m ∈ v.o, mayV valid m.v (d + 1) = 0 ∧ valid m.key = true) := by
  obtain ⟨k, b, n, t, l, o⟩ := v
  simp only [mayV] at h
  split at h
  · omega
  split at h
  · omega
  split at h
  · omega
  rename_i h1 h2 h3
  split at h
  · rename_i h4
    exact ⟨by simpa using h1, by omega, by simpa [V.t] using h3, fun x hx => mayL_mem h4 hx, fun m hm => mayO_mem h hm⟩
  · rename_i h4
    exact absurd h h4
theorem bare_parts {v : V} (h : bareV v = true) : (1 ≤ v.k ∧ v.k ≤ 6) ∧ (v.k = 5 → v.o = []) ∧ (v.k = 6 → v.l = []) := by
  simp only [bareV, decide_eq_true_eq] at h
  obtain ⟨a, b, _, _, _, c, d⟩ := h
  refine ⟨⟨a, b⟩, fun e => ?_, fun e => ?_⟩
  · rcases d with d | d
    · omega
    · exact d
  · rcases c with c | c
    · omega
    · exact c
end Go.Proofs.YtblejchodicaoaaGreatDoor.Eng

/-
  TIES: values: may they be, how deep they are, their texts. Own work.
-/
namespace Go.Proofs.YtblejchodicaoaaGreatDoor.Eng
open Go Go.RowKit
set_option maxRecDepth 100000
set_option linter.unusedSimpArgs false

theorem V.ok_n {v : V} (h : v.ok) : in64 v.n := by obtain ⟨k, b, n, t, l, o⟩ := v; exact h.2.1
theorem V.oks_mem : ∀ {l : List V}, V.oks l → ∀ x ∈ l, x.ok
  | [], _, x, h => by cases h
  | y :: r, ⟨h1, h2⟩, x, h => by
    rcases List.mem_cons.1 h with rfl | h
    · exact h1
    · exact V.oks_mem h2 x h
theorem M.oks_mem : ∀ {l : List M}, M.oks l → ∀ m ∈ l, m.v.ok
  | [], _, x, h => by cases h
  | y :: r, ⟨h1, h2⟩, x, h => by
    rcases List.mem_cons.1 h with rfl | h
    · obtain ⟨k, v⟩ := x; exact h1
    · exact M.oks_mem h2 x h
theorem V.ok_l {v x : V} (h : v.ok) (hx : x ∈ v.l) : x.ok := by obtain ⟨k, b, n, t, l, o⟩ := v; exact V.oks_mem h.2.2.1 x hx
theorem V.ok_o {v : V} {m : M} (h : v.ok) (hx : m ∈ v.o) : m.v.ok := by obtain ⟨k, b, n, t, l, o⟩ := v; exact M.oks_mem h.2.2.2 m hx

def cBare : CtU := ctI 127 (by decide) (fun _ : V => True) (fun v => [avV v]) (fun _ => []) (fun v => .ret (.d (.bool (bareV v)))) (fun _ => []) full_v inj_v
  fun v _ => mk {} true (none_ok _ _) (by kernel_rfl) (b_bare none_ v)
def cRBare : CtU := ctI 145 (by decide) (fun _ : V => True) (fun v => [avV v]) (fun _ => []) (fun v => .ret (.d (.bool (bareV v)))) (fun _ => []) full_v inj_v
  fun v _ => mk {} true (none_ok _ _) (by kernel_rfl) (b_rbare none_ v)
def cBlank : CtU := ctI 78 (by decide) (fun _ : V => True) (fun v => [avV v]) (fun _ => []) (fun v => .ret (.d (.bool (blankV v)))) (fun _ => []) full_v inj_v
  fun v _ => mk {} true (none_ok _ _) (by kernel_rfl) (b_blank none_ v)
theorem vd_inj (a b : V × Int) (h : nAs [avV a.1, .d (.int .i64 a.2)] = nAs [avV b.1, .d (.int .i64 b.2)]) (_ : ([] : List AObj) = []) : a = b := by
  obtain ⟨a1, a2⟩ := a
  obtain ⟨b1, b2⟩ := b
  simp only [nAs, List.cons.injEq, and_true] at h
  have e1 : a1 = b1 := nav_inj h.1
  have e2 := h.2
  simp only [nA, nD, AV.d.injEq, D.int.injEq, true_and] at e2
  rw [e1, e2]
theorem vd_full (a : V × Int) : fAs [avV a.1, .d (.int .i64 a.2)] = true := by simp [fAs, fav, fA, fD]

def bV : Nat := 1099511627776
abbrev MayM (f : FuncId) (v : V) (d : Int) : Prop := Meets Tryz.prog GU f [avV v, .d (.int .i64 d)] [] (.ret (.d (.int .i64 (mayV validU v d)))) []
def ctMay (f : FuncId) (lt : f < yId) (n : Nat) (ih : ∀ (v : V) (d : Int), v.size < n → v.size ≤ 1099511627776 → 0 ≤ d → MayM f v d) : CtU :=
  ctI f lt (fun a : V × Int => a.1.size < n ∧ a.1.size ≤ 1099511627776 ∧ 0 ≤ a.2) (fun a => [avV a.1, .d (.int .i64 a.2)]) (fun _ => []) (fun a => .ret (.d (.int .i64 (mayV validU a.1 a.2)))) (fun _ => []) vd_full vd_inj fun a ha => ih a.1 a.2 ha.1 ha.2.1 ha.2.2
theorem mMay : ∀ (n : Nat) (v : V) (d : Int), v.size < n → v.size ≤ 1099511627776 → 0 ≤ d → MayM 98 v d
  | 0, v, d, h, _, _ => absurd h (Nat.not_lt_zero _)
  | n + 1, v, d, h, hB, hd => mk { keep := [(58, [1, 2, 24, 25, 26]), (122, [1, 2, 39, 40, 41])], outs := [(58, [1, 2, 4]), (122, [4])] } true (octs_ok [cBare, cValid, ctMay 98 (by decide) n (mMay n)]) (by kernel_rfl)
      (b_may (octs [cBare, cValid, ctMay 98 (by decide) n (mMay n)]) validU v d (by omega) hd (fun v => octs_here (c := cBare) ⟨v, trivial⟩ rfl rfl rfl) (fun s hs => (octs_nx rfl).trans (octs_here (c := cValid) ⟨s, hs⟩ rfl rfl rfl))
        (fun x d' hx hd' => (octs_nx rfl).trans ((octs_nx rfl).trans (octs_here (c := ctMay 98 (by decide) n (mMay n)) ⟨(x, d'), by simp only; omega, by simp only; omega, hd'⟩ rfl rfl rfl))))
theorem mRMay : ∀ (n : Nat) (v : V) (d : Int), v.size < n → v.size ≤ 1099511627776 → 0 ≤ d → MayM 115 v d
  | 0, v, d, h, _, _ => absurd h (Nat.not_lt_zero _)
  | n + 1, v, d, h, hB, hd => mk { keep := [(250, [1, 2, 5]), (1018, [1, 2, 7, 8])], outs := [(250, [1, 2, 4]), (1018, [4])] } true (octs_ok [cRBare, cRValid, ctMay 115 (by decide) n (mRMay n)]) (by kernel_rfl)
      (b_rmay (octs [cRBare, cRValid, ctMay 115 (by decide) n (mRMay n)]) validU v d (by omega) hd (fun v => octs_here (c := cRBare) ⟨v, trivial⟩ rfl rfl rfl) (fun s hs => (octs_nx rfl).trans (octs_here (c := cRValid) ⟨s, hs⟩ rfl rfl rfl))
        (fun x d' hx hd' => (octs_nx rfl).trans ((octs_nx rfl).trans (octs_here (c := ctMay 115 (by decide) n (mRMay n)) ⟨(x, d'), by simp only; omega, by simp only; omega, hd'⟩ rfl rfl rfl))))
def cMay : CtU := ctI 98 (by decide) (fun a : V × Int => a.1.size ≤ 1099511627776 ∧ 0 ≤ a.2) (fun a => [avV a.1, .d (.int .i64 a.2)]) (fun _ => []) (fun a => .ret (.d (.int .i64 (mayV validU a.1 a.2)))) (fun _ => []) vd_full vd_inj fun a ha => mMay (a.1.size + 1) a.1 a.2 (by omega) ha.1 ha.2
def cRmay : CtU := ctI 115 (by decide) (fun a : V × Int => a.1.size ≤ 1099511627776 ∧ 0 ≤ a.2) (fun a => [avV a.1, .d (.int .i64 a.2)]) (fun _ => []) (fun a => .ret (.d (.int .i64 (mayV validU a.1 a.2)))) (fun _ => []) vd_full vd_inj fun a ha => mRMay (a.1.size + 1) a.1 a.2 (by omega) ha.1 ha.2
def cVMay : CtU := ctI 70 (by decide) (fun v : V => v.size ≤ 1099511627776) (fun v => [avV v]) (fun _ => []) (fun v => .ret (.d (.int .i64 (mayTop v)))) (fun _ => []) full_v inj_v
  fun v hv => mk {} true (octs_ok [cMay]) (by kernel_rfl) (b_May (octs [cMay]) v (octs_here (c := cMay) ⟨(v, 1), hv, by simp only; omega⟩ rfl rfl rfl))
def cRMay : CtU := ctI 82 (by decide) (fun v : V => v.size ≤ 1099511627776) (fun v => [avV v]) (fun _ => []) (fun v => .ret (.d (.int .i64 (mayTop v)))) (fun _ => []) full_v inj_v
  fun v hv => mk {} true (octs_ok [cRmay]) (by kernel_rfl) (b_rMay (octs [cRmay]) v (octs_here (c := cRmay) ⟨(v, 1), hv, by simp only; omega⟩ rfl rfl rfl))

/-! ### How deep -/
def cWithin : CtU := ctI 144 (by decide) (fun v : V => v.size ≤ 1099511627776) (fun v => [avV v]) (fun _ => []) (fun v => .ret (.d (slD 6 ((withinV v).map encV)))) (fun _ => []) full_v inj_v
  fun v hv => mk { keep := [(1674, [1, 2, 12, 13, 14])], outs := [(1674, [1, 2])] } true (none_ok _ _) (by kernel_rfl) (b_within none_ v hv)
def cRWithin : CtU := ctI 116 (by decide) (fun v : V => v.size ≤ 1099511627776) (fun v => [avV v]) (fun _ => []) (fun v => .ret (.d (slD 6 ((withinV v).map encV)))) (fun _ => []) full_v inj_v
  fun v hv => mk { keep := [(490, [1, 3, 4])], outs := [(490, [2, 3])] } true (none_ok _ _) (by kernel_rfl) (b_rWithin none_ v hv)
abbrev DeepM (f : FuncId) (v : V) : Prop := Meets Tryz.prog GU f [avV v] [] (.ret (.d (.int .i64 (deepV v)))) []
def ctDeep (f : FuncId) (lt : f < yId) (n : Nat) (ih : ∀ (v : V), v.size < n → v.size ≤ 1099511627776 → DeepM f v) : CtU :=
  ctI f lt (fun v : V => v.size < n ∧ v.size ≤ 1099511627776) (fun v => [avV v]) (fun _ => []) (fun v => .ret (.d (.int .i64 (deepV v)))) (fun _ => []) full_v inj_v fun a ha => ih a ha.1 ha.2
theorem mDeep : ∀ (n : Nat) (v : V), v.size < n → v.size ≤ 1099511627776 → DeepM 113 v
  | 0, v, h, _ => absurd h (Nat.not_lt_zero _)
  | n + 1, v, h, hB => mk { keep := [(26, [2, 6, 7, 8])], outs := [(26, [2])] } true (octs_ok [cWithin, ctDeep 113 (by decide) n (mDeep n)]) (by kernel_rfl)
      (b_Deep (octs [cWithin, ctDeep 113 (by decide) n (mDeep n)]) v hB (octs_here (c := cWithin) ⟨v, hB⟩ rfl rfl rfl)
        (fun x hx => (octs_nx rfl).trans (octs_here (c := ctDeep 113 (by decide) n (mDeep n)) ⟨x, by omega, by omega⟩ rfl rfl rfl)))
theorem mRDeep : ∀ (n : Nat) (v : V), v.size < n → v.size ≤ 1099511627776 → DeepM 83 v
  | 0, v, h, _ => absurd h (Nat.not_lt_zero _)
  | n + 1, v, h, hB => mk { keep := [(122, [3, 4, 5])], outs := [(122, [2, 3])] } true (octs_ok [cRWithin, ctDeep 83 (by decide) n (mRDeep n)]) (by kernel_rfl)
      (b_rDeep (octs [cRWithin, ctDeep 83 (by decide) n (mRDeep n)]) v hB (octs_here (c := cRWithin) ⟨v, hB⟩ rfl rfl rfl)
        (fun x hx => (octs_nx rfl).trans (octs_here (c := ctDeep 83 (by decide) n (mRDeep n)) ⟨x, by omega, by omega⟩ rfl rfl rfl)))
def cDeep : CtU := ctI 113 (by decide) (fun v : V => v.size ≤ 1099511627776) (fun v => [avV v]) (fun _ => []) (fun v => .ret (.d (.int .i64 (deepV v)))) (fun _ => []) full_v inj_v fun v hv => mDeep (v.size + 1) v (by omega) hv
def cRDeep : CtU := ctI 83 (by decide) (fun v : V => v.size ≤ 1099511627776) (fun v => [avV v]) (fun _ => []) (fun v => .ret (.d (.int .i64 (deepV v)))) (fun _ => []) full_v inj_v fun v hv => mRDeep (v.size + 1) v (by omega) hv
end Go.Proofs.YtblejchodicaoaaGreatDoor.Eng

/-
  TIES: the texts of values. Own work.
-/
namespace Go.Proofs.YtblejchodicaoaaGreatDoor.Eng
open Go Go.RowKit
set_option maxRecDepth 100000
set_option linter.unusedSimpArgs false

theorem strs_inj : ∀ (a b : List (List UInt8)), nDe (a.map fun s => [.str s]) = nDe (b.map fun s => [.str s]) → a = b := nDe_map_inj fun a b h => by simpa [nDs, nD] using h
theorem strs_full (l : List (List UInt8)) : fDe (l.map fun s => [.str s]) = true := fDe_map (fun s => by simp [fDs, fD]) l
theorem strs_at {w : World} {st : Nat → Prop} {l : List (List UInt8)} {b off : Nat} (h : GDe w st 1 (l.map fun s => [.str s]) b off) (j : Nat) (x : ByteArray) (hj : (l.map fun s => (⟨s.toArray⟩ : ByteArray))[j]? = some x) : w.cell? ⟨b, off + j, none⟩ = some (.string x) := by
  rw [List.getElem?_map] at hj
  obtain ⟨s, hs, rfl⟩ := Option.map_eq_some_iff.1 hj
  obtain ⟨_, hg⟩ := GDe.get (i := j) (e := [.str s]) h (by rw [List.getElem?_map, hs]; rfl)
  simp only [GDs] at hg
  obtain ⟨⟨u, hu, hd⟩, _⟩ := hg
  simp only [GD] at hd
  subst hd
  rw [Nat.mul_one] at hu
  exact hu

def cJoin : CtU := ctI 101 (by decide) (fun l : List (List UInt8) => l.length ≤ 140737488355328 ∧ (jn l).length ≤ 140737488355328) (fun l => [.d (.rs 1 (l.map fun s => [.str s])), .d (.str [44])]) (fun _ => []) (fun l => .ret (.d (.str (jn l)))) (fun _ => [])
  (fun l => by simp [fAs, fA, fD, strs_full])
  (fun a b h _ => by
    simp only [nAs, nA, List.cons.injEq, AV.d.injEq] at h
    exact strs_inj a b (nD_rs h.1))
  fun l hl => meets_of_calls fun pr w β vs I hGG hg => by
    simp only [GVl, GV, GD] at hg
    obtain ⟨v, r, rfl, hv, v2, r2, rfl, rfl, rfl⟩ := hg
    by_cases hne : l = []
    · subst hne
      have : ∃ a c, v = .slice a 0 c := by
        rcases hv with ⟨_, a, c, rfl⟩ | ⟨b, off, c, rfl, _⟩
        · exact ⟨a, c, rfl⟩
        · exact ⟨_, c, rfl⟩
      obtain ⟨a, c, rfl⟩ := this
      refine Calls.mono (Tryz.strings_Join_none a c ⟨[44].toArray⟩ w) fun e w' he => ?_
      obtain ⟨rfl, rfl⟩ := he
      exact ⟨Nat.le_refl _, fun _ _ => rfl, rfl, rfl, rfl, by simp [GOut, GV, GD, sval, jn_nil]⟩
    · rcases hv with ⟨h0, _⟩ | ⟨b, off, c, rfl, hc, hb, hd⟩
      · simp at h0; exact absurd h0 hne
      · have hx := Tryz.strings_Join b off c (l.map fun s => (⟨s.toArray⟩ : ByteArray)) ⟨[44].toArray⟩ w (fun j x hj => strs_at hd j x hj) hb.1.1 (by simpa using hl.1) (by simpa using hc)
          (by have := hl.2; simpa [jn, Function.comp_def] using this)
        have hlen : (l.map fun s => ([.str s] : List D)).length = (l.map fun s => (⟨s.toArray⟩ : ByteArray)).length := by simp
        rw [hlen]
        refine Calls.mono hx fun e w' he => ?_
        obtain ⟨rfl, hbl⟩ := he
        exact ⟨hbl.size, hbl.block, hbl.os, hbl.tape, hbl.output, by simp [GOut, GV, GD, sval, jn, Function.comp_def]⟩

noncomputable def cAppY (d : D) : Ctr Tryz.prog GU where
  f := yId
  α := { a : List (List UInt8) × List UInt8 // a.1.length ≤ 1099511627776 }
  args := fun a => [.yld 0, .d (.str a.1.2)]
  σ := fun a => appSt d a.1.1
  out := fun _ => .ret (.d (.bool true))
  σ' := fun a => appNx d a.1.1 a.1.2
  det := fun a b h1 h2 => by
    have e1 : a.1.2 = b.1.2 := by simpa using h1
    have e2 : a.1.1 = b.1.1 := by
      simp only [appSt, List.cons.injEq, true_and] at h2
      by_cases p : a.1.1 = [] <;> by_cases q : b.1.1 = []
      · rw [p, q]
      · simp [appB, p, q] at h2
      · simp [appB, p, q] at h2
      · simp only [appB, if_neg p, if_neg q, List.cons.injEq, and_true] at h2
        exact prow_inj h2.2
    rw [e1, e2]
    exact ⟨rfl, rfl⟩
  meets := fun a => by
    simp only [MeetsAt, if_true]
    exact rounds_ok mixed (none_ok _ _) {} 26 (r_app none_ d a.1.1 a.1.2 a.2)

abbrev TextM (f : FuncId) (v : V) : Prop := Meets Tryz.prog GU f [avV v] [] (.ret (.d (.str (textV v)))) []
abbrev TextIH (f : FuncId) (n : Nat) : Prop := ∀ v : V, v.size < n → v.ok → v.size ≤ 1099511627776 → TextM f v
def ctText (f : FuncId) (lt : f < yId) (n : Nat) (ih : TextIH f n) : CtU :=
  ctI f lt (fun v : V => v.size < n ∧ v.ok ∧ v.size ≤ 1099511627776) (fun v => [avV v]) (fun _ => []) (fun v => .ret (.d (.str (textV v)))) (fun _ => []) full_v inj_v fun a ha => ih a ha.1 ha.2.1 ha.2.2
theorem text_len {v : V} (h : v.ok) (hs : v.size ≤ 1099511627776) : (textV v).length ≤ 35184372088832 := by have := textV_len v h; omega
theorem textM_le {v : V} {m : M} (h : v.ok) (hs : v.size ≤ 1099511627776) (hm : m ∈ v.o) : (textM m).length ≤ 140737488355328 := by
  have h1 : M.ok m := by
    have := V.ok_o h hm
    obtain ⟨k, x⟩ := m
    exact this
  have h2 := textM_len m h1
  have h3 := M.size_mem hm
  have h4 := V.size_eq v
  omega
theorem rpv_det (a b : V) (h : nAs [.yld 0, .d (.rp (encV a))] = nAs [.yld 0, .d (.rp (encV b))]) : a = b := by
  simp only [nAs, nA, nD, List.cons.injEq, AV.d.injEq, D.rp.injEq, and_true, true_and] at h
  exact nV_inj _ _ h
theorem parts_det (a b : V) (h : nA (.d (partsD a)) = nA (.d (partsD b))) : a = b := by
  simp only [partsD, nA, nD, nDs, AV.d.injEq, D.fn.injEq, List.cons.injEq, D.rp.injEq, and_true, true_and] at h
  exact nV_inj _ _ h
theorem parts_eq (a b : V) (h : partsD a = partsD b) : a = b := parts_det a b (by rw [h])
theorem jn_parts {v : V} (h : v.k = 5 ∨ v.k = 6) : (jn (partsV v)).length + 2 = (textV v).length := by
  rcases h with h | h
  · rw [textV_5 v h]; simp
  · rw [textV_6 v h]; simp

section
variable (n : Nat) (ih : TextIH 71 n)
abbrev cTextN : CtU := ctText 71 (by decide) n ih
noncomputable def cParts1 : CtU := ctI 131 (by decide) (fun v : V => v.size ≤ n ∧ v.ok ∧ v.size ≤ 1099511627776) (fun v => [.yld 0, .d (.rp (encV v))]) (fun v => appSt (partsD v) []) (fun _ => .ret (.tup [])) (fun v => appEd (partsD v) (partsV v))
  (fun v => by simp [fAs, fA, fD, fV]) (fun a b h _ => rpv_det a b h)
  fun v hv => mk { keep := [(10, [0, 1, 10, 11, 12]), (14, [0, 23, 24, 25])], outs := [(10, [0, 1]), (14, [])] } false (orElse_ok (octs_ok [cTextN n ih, cQuote]) (orcs_ok [cAppY (partsD v)])) (by kernel_rfl)
    (b_parts1 (orElse_ (octs [cTextN n ih, cQuote]) (orcs [cAppY (partsD v)])) (partsD v) v hv.2.2 (fun m hm => textM_le hv.2.1 hv.2.2 hm)
      (fun l x hl => orElse_r ((octs_nx rfl).trans ((octs_nx rfl).trans rfl)) (orcs_here (cAppY (partsD v)) [] ⟨(l, x), hl⟩ rfl rfl rfl))
      (fun x hx => orElse_l (octs_here (c := cTextN n ih) ⟨x, by have := V.size_l hx; omega, V.ok_l hv.2.1 hx, by have := V.size_l hx; omega⟩ rfl rfl rfl))
      (fun m hm => orElse_l (octs_here (c := cTextN n ih) ⟨m.v, by have := V.size_o hm; omega, V.ok_o hv.2.1 hm, by have := V.size_o hm; omega⟩ rfl rfl rfl))
      (fun s hs => orElse_l ((octs_nx rfl).trans (octs_here (c := cQuote) ⟨s, hs⟩ rfl rfl rfl))))
noncomputable def cAppendSeq : Ctr Tryz.prog GU where
  f := 130
  α := { v : V // v.size ≤ n ∧ v.ok ∧ v.size ≤ 1099511627776 }
  args := fun v => [.d .nils, .d (partsD v.1)]
  σ := fun _ => []
  out := fun v => .ret (.d (slD 1 ((partsV v.1).map fun s => [.str s])))
  σ' := fun _ => []
  det := fun a b h _ => by
    have e : a.1 = b.1 := parts_eq _ _ (by simpa using h)
    rw [e]
    exact ⟨rfl, rfl⟩
  meets := fun v => mk { keep := [(26, [2, 4, 6, 7])] } true (octs_ok [cParts1 n ih]) (by kernel_rfl) (b_AppendSeq (octs [cParts1 n ih]) v.1 (octs_here (c := cParts1 n ih) ⟨v.1, v.2⟩ rfl rfl rfl))
theorem slD_nf (sz : Nat) (es : List (List D)) : nD (slD sz es) = nD (.rs sz es) := by
  unfold slD
  split
  · rename_i h; subst h; rfl
  · rfl
noncomputable def cCollect : CtU := ctI 102 (by decide) (fun v : V => v.size ≤ n ∧ v.ok ∧ v.size ≤ 1099511627776) (fun v => [.d (partsD v)]) (fun _ => []) (fun v => .ret (.d (.rs 1 ((partsV v).map fun s => [.str s])))) (fun _ => [])
  (fun v => by simp [fAs, fA, fD, partsD, fDs, fV]) (fun a b h _ => parts_det a b (List.cons.inj h).1)
  fun v hv => (mk {} true (orcs_ok [cAppendSeq n ih]) (by kernel_rfl) (b_Collect (orcs [cAppendSeq n ih]) v (orcs_here (cAppendSeq n ih) [] ⟨v, hv⟩ rfl rfl rfl))).weak (by simp only [nO, nA, slD_nf]) (by simp [fO, fA, fD, strs_full])
def cParts : CtU := ctI 103 (by decide) (fun _ : V => True) (fun v => [avV v]) (fun _ => []) (fun v => .ret (.d (partsD v))) (fun _ => []) full_v inj_v
  fun v _ => mk {} true (none_ok _ _) (by kernel_rfl) (b_parts none_ v)
theorem cellsV_inj {a b : V} (h : cellsV a = cellsV b) : a = b := by
  apply encV_inj
  simp only [cellsV, List.cons.injEq, AV.d.injEq, and_true] at h
  rw [encV_eq, encV_eq]
  simp only [h]
noncomputable def cText1 : CtU := ctD 99 (by decide) (fun a : V × UInt8 × UInt8 => a.1.size ≤ n ∧ a.1.ok ∧ a.1.size ≤ 1099511627776 ∧ (a.1.k = 5 ∨ a.1.k = 6)) (fun a => [.d (.str [a.2.1]), .d (.str [a.2.2]), .ptr 0 0, .ptr 1 0]) (fun a => tx0 a.1) (fun _ => .ret (.tup [])) (fun a => tx1 a.1 (a.2.1 :: (jn (partsV a.1) ++ [a.2.2]))) (fun _ => rfl)
  (fun a b h1 h2 => by
    simp only [nAs, nA, nD, List.cons.injEq, AV.d.injEq, D.str.injEq, and_true] at h1
    simp only [tx0, List.cons.injEq, AObj.box.injEq, and_true, true_and] at h2
    rw [cellsV_inj h2, h1.1, h1.2]
    exact ⟨rfl, rfl⟩)
  fun a ha => mk {} false (octs_ok [cParts, cCollect n ih, cJoin, cPut]) (by kernel_rfl) (b_text1 (octs [cParts, cCollect n ih, cJoin, cPut]) a.1 a.2.1 a.2.2 (by have := jn_parts ha.2.2.2; have := text_len ha.2.1 ha.2.2.1; omega)
    (octs_here (c := cParts) ⟨a.1, trivial⟩ rfl rfl rfl) ((octs_nx rfl).trans (octs_here (c := cCollect n ih) ⟨a.1, ha.1, ha.2.1, ha.2.2.1⟩ rfl rfl rfl))
    ((octs_nx rfl).trans ((octs_nx rfl).trans (octs_here (c := cJoin) ⟨partsV a.1, by
      have h1 := V.len_le a.1.l
      have h2 := M.len_le a.1.o
      have h3 := V.size_eq a.1
      have h4 := ha.2.2.1
      simp only [partsV, List.length_append, List.length_map]
      omega, by have := jn_parts ha.2.2.2; have := text_len ha.2.1 ha.2.2.1; omega⟩ rfl rfl rfl)))
    (fun ps h1 h2 => (octs_nx rfl).trans ((octs_nx rfl).trans ((octs_nx rfl).trans (octs_here (c := cPut) ⟨ps, h1, h2⟩ rfl rfl rfl)))))
end
theorem mText : ∀ (n : Nat), TextIH 71 n
  | 0, v, h, _, _ => absurd h (Nat.not_lt_zero _)
  | n + 1, v, h, hok, hB => mk {} true (octs_ok [cText1 n (mText n), cFormatBool, cFormatInt, cPut, cQuote, cString]) (by kernel_rfl)
      (b_text (octs [cText1 n (mText n), cFormatBool, cFormatInt, cPut, cQuote, cString]) v (by have := text_len hok hB; omega)
        (fun a b hk => octs_here (c := cText1 n (mText n)) ⟨(v, a, b), by simp only; omega, hok, hB, hk⟩ rfl rfl rfl)
        (fun b => (octs_nx rfl).trans (octs_here (c := cFormatBool) ⟨b, trivial⟩ rfl rfl rfl))
        (fun _ => (octs_nx rfl).trans ((octs_nx rfl).trans (octs_here (c := cFormatInt) ⟨v.n, V.ok_n hok⟩ rfl rfl rfl)))
        (fun ps h1 h2 => (octs_nx rfl).trans ((octs_nx rfl).trans ((octs_nx rfl).trans (octs_here (c := cPut) ⟨ps, h1, h2⟩ rfl rfl rfl))))
        (fun _ => (octs_nx rfl).trans ((octs_nx rfl).trans ((octs_nx rfl).trans ((octs_nx rfl).trans (octs_here (c := cQuote) ⟨v.t, by have := V.t_len v; omega⟩ rfl rfl rfl)))))
        (fun u l hl => (octs_nx rfl).trans ((octs_nx rfl).trans ((octs_nx rfl).trans ((octs_nx rfl).trans ((octs_nx rfl).trans (octs_here (c := cString) ⟨(u, l), hl⟩ rfl rfl rfl)))))))
noncomputable def cText : CtU := ctI 71 (by decide) (fun v : V => v.ok ∧ v.size ≤ 1099511627776) (fun v => [avV v]) (fun _ => []) (fun v => .ret (.d (.str (textV v)))) (fun _ => []) full_v inj_v fun v hv => mText (v.size + 1) v (by omega) hv.1 hv.2
end Go.Proofs.YtblejchodicaoaaGreatDoor.Eng

/-
  CONTRACTS: the reference's May of patches and answers. Own work.
-/
namespace Go.Proofs.YtblejchodicaoaaGreatDoor.Eng
open Go Go.RowKit
set_option maxRecDepth 100000
set_option linter.unusedSimpArgs false
set_option maxHeartbeats 2000000

theorem b_r14May (C : Oracle) (l : List PO) (hl : l.length ≤ 1099511627776) (h1 : ∀ v, C 52 [avV v, zeroAV] [] = R (.bool (blankV v))) (h2 : ∀ o ∈ l, C 53 [.d (.str o.key)] [] = R (.int .i64 (keyMay o.key)))
    (h3 : ∀ o ∈ l, C 54 [avV o.v] [] = R (.int .i64 (fitsV o.v))) :
    abody Tryz.prog [] C (mach Tryz.prog C { keep := [(26, [0, 3])], outs := [(26, [2])] }) true 26 [.d (.rs 8 (l.map encPO))] [] = R (.int .i64 (poMayL [] l)) := by
  simp only [R, avV, zeroAV] at h1 h2 h3
  unfold abody
  rw [Tryz.func26]
  simp only [Tryz.f26]
  simp -implicitDefEqProofs [R, mach_loop, IntWalk.i64_in,IntWalk.u64_in,IntWalk.u8_in,IntWalk.i32_in,IntWalk.u32_in,ye,zk,zm,qj,qk,qm,qn,zb,zc,zn,zp,zq,qo,zd,ze,zr,zt,zu,j3,x7,zw,zf,za,zx,qp,zy,zg,zz,z6,qq,zh,yf,qr,aop,yq,j4,j5,x8,x9,jd,j6,j7,wb,je,j8,yr,j9,wg,jf,jg,xa,xb,z7,jh,z8,ji,jj,yt,yu,xc,AV.one,wh,wi,aun,jk,xd,yw,afn,xe,Out.ren,xf,xg,jl,wj,xh,wl,jm,Eng.distinct,pos,wn,Eng.ren,wo,xi,wp,jo,wq,yg,xj,ws,wu,jp,frz,yx,yz,wv,List.lookup_cons,jq,zi,jr,js,List.range_succ,jt,xk,ju,xm,↓yh,↓yi,↓qt,↓y6,↓qu,↓qa,↓yj,↓yk,↓qv,↓qw,↓qx,↓qy,↓qb,↓qz,qc,ww,xn,jv,jw,yl,qd,qe,zj,wx,y7,jx,xp,xq,keq,y8,wy,qf,y9,ym,xr,jy,jz,xt,j0,wz,ja,j1,xu,xv,xw,jb,q5,q6,yn,q7,j2,Option.map_some,yo,qg,q8,q9,qh,ya,xx,yb,yp,yc,xy,w5,xz,x5,w6,jc,x6,Op.operands,Call.operands,yd,qi,w7,AObj.live]
  rw [aloop_list (l := l)
    (S := fun pre suf => { env := [(0, .d (.rs 8 ((pre ++ suf).map encPO))), (3, .d (.int .i64 (pre.length : Nat)))], σ := [], dfs := [] })
    (R := fun pre suf => if poMayL pre suf = 0 then some (.exit 0, { env := [], σ := [], dfs := [] }) else some (.ret, { env := [(2, .d (.int .i64 (poMayL pre suf)))], σ := [], dfs := [] }))
    (hs := ?_) (h0 := ?_) (h1 := ?_)]
  rotate_left
  · simp -implicitDefEqProofs [IntWalk.i64_in,IntWalk.u64_in,IntWalk.u8_in,IntWalk.i32_in,IntWalk.u32_in,ye,zk,zm,qj,qk,qm,qn,zb,zc,zn,zp,zq,qo,zd,ze,zr,zt,zu,j3,x7,zw,zf,za,zx,qp,zy,zg,zz,z6,qq,zh,yf,qr,aop,yq,j4,j5,x8,x9,jd,j6,j7,wb,je,j8,yr,j9,wg,jf,jg,xa,xb,z7,jh,z8,ji,jj,yt,yu,xc,AV.one,wh,wi,aun,jk,xd,yw,afn,xe,Out.ren,xf,xg,jl,wj,xh,wl,jm,Eng.distinct,pos,wn,Eng.ren,wo,xi,wp,jo,wq,yg,xj,ws,wu,jp,frz,yx,yz,wv,List.lookup_cons,jq,zi,jr,js,List.range_succ,jt,xk,ju,xm,↓yh,↓yi,↓qt,↓y6,↓qu,↓qa,↓yj,↓yk,↓qv,↓qw,↓qx,↓qy,↓qb,↓qz,qc,ww,xn,jv,jw,yl,qd,qe,zj,wx,y7,jx,xp,xq,keq,y8,wy,qf,y9,ym,xr,jy,jz,xt,j0,wz,ja,j1,xu,xv,xw,jb,q5,q6,yn,q7,j2,Option.map_some,yo,qg,q8,q9,qh,ya,xx,yb,yp,yc,xy,w5,xz,x5,w6,jc,x6,Op.operands,Call.operands,yd,qi,w7,AObj.live]
  · intro pre hp
    simp -implicitDefEqProofs [poMayL, mach_loop, IntWalk.i64_in,IntWalk.u64_in,IntWalk.u8_in,IntWalk.i32_in,IntWalk.u32_in,ye,zk,zm,qj,qk,qm,qn,zb,zc,zn,zp,zq,qo,zd,ze,zr,zt,zu,j3,x7,zw,zf,za,zx,qp,zy,zg,zz,z6,qq,zh,yf,qr,aop,yq,j4,j5,x8,x9,jd,j6,j7,wb,je,j8,yr,j9,wg,jf,jg,xa,xb,z7,jh,z8,ji,jj,yt,yu,xc,AV.one,wh,wi,aun,jk,xd,yw,afn,xe,Out.ren,xf,xg,jl,wj,xh,wl,jm,Eng.distinct,pos,wn,Eng.ren,wo,xi,wp,jo,wq,yg,xj,ws,wu,jp,frz,yx,yz,wv,List.lookup_cons,jq,zi,jr,js,List.range_succ,jt,xk,ju,xm,↓yh,↓yi,↓qt,↓y6,↓qu,↓qa,↓yj,↓yk,↓qv,↓qw,↓qx,↓qy,↓qb,↓qz,qc,ww,xn,jv,jw,yl,qd,qe,zj,wx,y7,jx,xp,xq,keq,y8,wy,qf,y9,ym,xr,jy,jz,xt,j0,wz,ja,j1,xu,xv,xw,jb,q5,q6,yn,q7,j2,Option.map_some,yo,qg,q8,q9,qh,ya,xx,yb,yp,yc,xy,w5,xz,x5,w6,jc,x6,Op.operands,Call.operands,yd,qi,w7,AObj.live]
  · intro pre o suf hp ih
    have h4 := h3 o (by rw [← hp]; simp)
    have h2 := h2 o (by rw [← hp]; simp)
    have hll : pre.length < l.length := by rw [← hp]; simp
    have hw2 : IntKind.i64.wrap ((pre.length : Nat) + 1) = (pre.length : Nat) + 1 := wrap64 (by omega) (by omega)
    by_cases e1 : o.k < 1
    · have e1' : ¬ o.k = 1 := by omega
      have hm : poMay o pre = 2 := by simp [poMay, e1]
      simp -implicitDefEqProofs [poMayL, mach_loop, mach_draw, hm, encPO_eq o, mid_lt, e1, e1', h1, IntWalk.i64_in,IntWalk.u64_in,IntWalk.u8_in,IntWalk.i32_in,IntWalk.u32_in,ye,zk,zm,qj,qk,qm,qn,zb,zc,zn,zp,zq,qo,zd,ze,zr,zt,zu,j3,x7,zw,zf,za,zx,qp,zy,zg,zz,z6,qq,zh,yf,qr,aop,yq,j4,j5,x8,x9,jd,j6,j7,wb,je,j8,yr,j9,wg,jf,jg,xa,xb,z7,jh,z8,ji,jj,yt,yu,xc,AV.one,wh,wi,aun,jk,xd,yw,afn,xe,Out.ren,xf,xg,jl,wj,xh,wl,jm,Eng.distinct,pos,wn,Eng.ren,wo,xi,wp,jo,wq,yg,xj,ws,wu,jp,frz,yx,yz,wv,List.lookup_cons,jq,zi,jr,js,List.range_succ,jt,xk,ju,xm,↓yh,↓yi,↓qt,↓y6,↓qu,↓qa,↓yj,↓yk,↓qv,↓qw,↓qx,↓qy,↓qb,↓qz,qc,ww,xn,jv,jw,yl,qd,qe,zj,wx,y7,jx,xp,xq,keq,y8,wy,qf,y9,ym,xr,jy,jz,xt,j0,wz,ja,j1,xu,xv,xw,jb,q5,q6,yn,q7,j2,Option.map_some,yo,qg,q8,q9,qh,ya,xx,yb,yp,yc,xy,w5,xz,x5,w6,jc,x6,Op.operands,Call.operands,yd,qi,w7,AObj.live]
    by_cases e2 : 3 < o.k
    · have e1' : ¬ o.k = 1 := by omega
      have hm : poMay o pre = 2 := by simp [poMay, e2]
      simp -implicitDefEqProofs [poMayL, mach_loop, mach_draw, hm, encPO_eq o, mid_lt, e1, e1', e2, h1, IntWalk.i64_in,IntWalk.u64_in,IntWalk.u8_in,IntWalk.i32_in,IntWalk.u32_in,ye,zk,zm,qj,qk,qm,qn,zb,zc,zn,zp,zq,qo,zd,ze,zr,zt,zu,j3,x7,zw,zf,za,zx,qp,zy,zg,zz,z6,qq,zh,yf,qr,aop,yq,j4,j5,x8,x9,jd,j6,j7,wb,je,j8,yr,j9,wg,jf,jg,xa,xb,z7,jh,z8,ji,jj,yt,yu,xc,AV.one,wh,wi,aun,jk,xd,yw,afn,xe,Out.ren,xf,xg,jl,wj,xh,wl,jm,Eng.distinct,pos,wn,Eng.ren,wo,xi,wp,jo,wq,yg,xj,ws,wu,jp,frz,yx,yz,wv,List.lookup_cons,jq,zi,jr,js,List.range_succ,jt,xk,ju,xm,↓yh,↓yi,↓qt,↓y6,↓qu,↓qa,↓yj,↓yk,↓qv,↓qw,↓qx,↓qy,↓qb,↓qz,qc,ww,xn,jv,jw,yl,qd,qe,zj,wx,y7,jx,xp,xq,keq,y8,wy,qf,y9,ym,xr,jy,jz,xt,j0,wz,ja,j1,xu,xv,xw,jb,q5,q6,yn,q7,j2,Option.map_some,yo,qg,q8,q9,qh,ya,xx,yb,yp,yc,xy,w5,xz,x5,w6,jc,x6,Op.operands,Call.operands,yd,qi,w7,AObj.live]
    by_cases e3 : ¬ o.k = 1 ∧ blankV o.v = false
    · have hm : poMay o pre = 2 := by simp [poMay, e1, e2, e3]
      obtain ⟨e3, e3b⟩ := e3
      simp -implicitDefEqProofs [poMayL, mach_loop, mach_draw, hm, encPO_eq o, mid_lt, e1, e2, e3, e3b, h1, intbne, IntWalk.i64_in,IntWalk.u64_in,IntWalk.u8_in,IntWalk.i32_in,IntWalk.u32_in,ye,zk,zm,qj,qk,qm,qn,zb,zc,zn,zp,zq,qo,zd,ze,zr,zt,zu,j3,x7,zw,zf,za,zx,qp,zy,zg,zz,z6,qq,zh,yf,qr,aop,yq,j4,j5,x8,x9,jd,j6,j7,wb,je,j8,yr,j9,wg,jf,jg,xa,xb,z7,jh,z8,ji,jj,yt,yu,xc,AV.one,wh,wi,aun,jk,xd,yw,afn,xe,Out.ren,xf,xg,jl,wj,xh,wl,jm,Eng.distinct,pos,wn,Eng.ren,wo,xi,wp,jo,wq,yg,xj,ws,wu,jp,frz,yx,yz,wv,List.lookup_cons,jq,zi,jr,js,List.range_succ,jt,xk,ju,xm,↓yh,↓yi,↓qt,↓y6,↓qu,↓qa,↓yj,↓yk,↓qv,↓qw,↓qx,↓qy,↓qb,↓qz,qc,ww,xn,jv,jw,yl,qd,qe,zj,wx,y7,jx,xp,xq,keq,y8,wy,qf,y9,ym,xr,jy,jz,xt,j0,wz,ja,j1,xu,xv,xw,jb,q5,q6,yn,q7,j2,Option.map_some,yo,qg,q8,q9,qh,ya,xx,yb,yp,yc,xy,w5,xz,x5,w6,jc,x6,Op.operands,Call.operands,yd,qi,w7,AObj.live]
    have e3c : o.k = 1 ∨ blankV o.v = true := by
      by_cases h : o.k = 1
      · exact Or.inl h
      · exact Or.inr (by cases hb : blankV o.v with | true => rfl | false => exact absurd ⟨h, hb⟩ e3)
    by_cases e4 : o.k = 3
    · have e3b : blankV o.v = true := by rcases e3c with h | h; omega; exact h
      by_cases e5 : pre = [] ∧ o.key = []
      · obtain ⟨rfl, e5⟩ := e5
        have hm : poMay o [] = 0 := by simp [poMay, e4, e3b, e5]
        simp -implicitDefEqProofs [poMayL, mach_loop, mach_draw, hm, encPO_eq o, mid_lt, e3b, e4, e5, h1, intbne, strbeq, hw2, IntWalk.i64_in,IntWalk.u64_in,IntWalk.u8_in,IntWalk.i32_in,IntWalk.u32_in,ye,zk,zm,qj,qk,qm,qn,zb,zc,zn,zp,zq,qo,zd,ze,zr,zt,zu,j3,x7,zw,zf,za,zx,qp,zy,zg,zz,z6,qq,zh,yf,qr,aop,yq,j4,j5,x8,x9,jd,j6,j7,wb,je,j8,yr,j9,wg,jf,jg,xa,xb,z7,jh,z8,ji,jj,yt,yu,xc,AV.one,wh,wi,aun,jk,xd,yw,afn,xe,Out.ren,xf,xg,jl,wj,xh,wl,jm,Eng.distinct,pos,wn,Eng.ren,wo,xi,wp,jo,wq,yg,xj,ws,wu,jp,frz,yx,yz,wv,List.lookup_cons,jq,zi,jr,js,List.range_succ,jt,xk,ju,xm,↓yh,↓yi,↓qt,↓y6,↓qu,↓qa,↓yj,↓yk,↓qv,↓qw,↓qx,↓qy,↓qb,↓qz,qc,ww,xn,jv,jw,yl,qd,qe,zj,wx,y7,jx,xp,xq,keq,y8,wy,qf,y9,ym,xr,jy,jz,xt,j0,wz,ja,j1,xu,xv,xw,jb,q5,q6,yn,q7,j2,Option.map_some,yo,qg,q8,q9,qh,ya,xx,yb,yp,yc,xy,w5,xz,x5,w6,jc,x6,Op.operands,Call.operands,yd,qi,w7,AObj.live]
        rw [ih _ (by simp -implicitDefEqProofs [encPO_eq o, e4, e5, IntWalk.i64_in,IntWalk.u64_in,IntWalk.u8_in,IntWalk.i32_in,IntWalk.u32_in,ye,zk,zm,qj,qk,qm,qn,zb,zc,zn,zp,zq,qo,zd,ze,zr,zt,zu,j3,x7,zw,zf,za,zx,qp,zy,zg,zz,z6,qq,zh,yf,qr,aop,yq,j4,j5,x8,x9,jd,j6,j7,wb,je,j8,yr,j9,wg,jf,jg,xa,xb,z7,jh,z8,ji,jj,yt,yu,xc,AV.one,wh,wi,aun,jk,xd,yw,afn,xe,Out.ren,xf,xg,jl,wj,xh,wl,jm,Eng.distinct,pos,wn,Eng.ren,wo,xi,wp,jo,wq,yg,xj,ws,wu,jp,frz,yx,yz,wv,List.lookup_cons,jq,zi,jr,js,List.range_succ,jt,xk,ju,xm,↓yh,↓yi,↓qt,↓y6,↓qu,↓qa,↓yj,↓yk,↓qv,↓qw,↓qx,↓qy,↓qb,↓qz,qc,ww,xn,jv,jw,yl,qd,qe,zj,wx,y7,jx,xp,xq,keq,y8,wy,qf,y9,ym,xr,jy,jz,xt,j0,wz,ja,j1,xu,xv,xw,jb,q5,q6,yn,q7,j2,Option.map_some,yo,qg,q8,q9,qh,ya,xx,yb,yp,yc,xy,w5,xz,x5,w6,jc,x6,Op.operands,Call.operands,yd,qi,w7,AObj.live] <;> omega)]
        simp
      · have hm : poMay o pre = 2 := by simp [poMay, e4, e3b, e5]
        rcases List.eq_nil_or_concat pre with rfl | ⟨pre', q, rfl⟩
        · have e6 : ¬ o.key = [] := by simpa using e5
          simp -implicitDefEqProofs [poMayL, mach_loop, mach_draw, hm, encPO_eq o, mid_lt, e3b, e4, e6, h1, intbne, strbeq, IntWalk.i64_in,IntWalk.u64_in,IntWalk.u8_in,IntWalk.i32_in,IntWalk.u32_in,ye,zk,zm,qj,qk,qm,qn,zb,zc,zn,zp,zq,qo,zd,ze,zr,zt,zu,j3,x7,zw,zf,za,zx,qp,zy,zg,zz,z6,qq,zh,yf,qr,aop,yq,j4,j5,x8,x9,jd,j6,j7,wb,je,j8,yr,j9,wg,jf,jg,xa,xb,z7,jh,z8,ji,jj,yt,yu,xc,AV.one,wh,wi,aun,jk,xd,yw,afn,xe,Out.ren,xf,xg,jl,wj,xh,wl,jm,Eng.distinct,pos,wn,Eng.ren,wo,xi,wp,jo,wq,yg,xj,ws,wu,jp,frz,yx,yz,wv,List.lookup_cons,jq,zi,jr,js,List.range_succ,jt,xk,ju,xm,↓yh,↓yi,↓qt,↓y6,↓qu,↓qa,↓yj,↓yk,↓qv,↓qw,↓qx,↓qy,↓qb,↓qz,qc,ww,xn,jv,jw,yl,qd,qe,zj,wx,y7,jx,xp,xq,keq,y8,wy,qf,y9,ym,xr,jy,jz,xt,j0,wz,ja,j1,xu,xv,xw,jb,q5,q6,yn,q7,j2,Option.map_some,yo,qg,q8,q9,qh,ya,xx,yb,yp,yc,xy,w5,xz,x5,w6,jc,x6,Op.operands,Call.operands,yd,qi,w7,AObj.live]
        · simp only [List.concat_eq_append] at hm
          simp -implicitDefEqProofs [poMayL, mach_loop, mach_draw, hm, encPO_eq o, mid_lt, pos1, ar1, ar2, ar3, ar4, e3b, e4, h1, intbne, strbeq, IntWalk.i64_in,IntWalk.u64_in,IntWalk.u8_in,IntWalk.i32_in,IntWalk.u32_in,ye,zk,zm,qj,qk,qm,qn,zb,zc,zn,zp,zq,qo,zd,ze,zr,zt,zu,j3,x7,zw,zf,za,zx,qp,zy,zg,zz,z6,qq,zh,yf,qr,aop,yq,j4,j5,x8,x9,jd,j6,j7,wb,je,j8,yr,j9,wg,jf,jg,xa,xb,z7,jh,z8,ji,jj,yt,yu,xc,AV.one,wh,wi,aun,jk,xd,yw,afn,xe,Out.ren,xf,xg,jl,wj,xh,wl,jm,Eng.distinct,pos,wn,Eng.ren,wo,xi,wp,jo,wq,yg,xj,ws,wu,jp,frz,yx,yz,wv,List.lookup_cons,jq,zi,jr,js,List.range_succ,jt,xk,ju,xm,↓yh,↓yi,↓qt,↓y6,↓qu,↓qa,↓yj,↓yk,↓qv,↓qw,↓qx,↓qy,↓qb,↓qz,qc,ww,xn,jv,jw,yl,qd,qe,zj,wx,y7,jx,xp,xq,keq,y8,wy,qf,y9,ym,xr,jy,jz,xt,j0,wz,ja,j1,xu,xv,xw,jb,q5,q6,yn,q7,j2,Option.map_some,yo,qg,q8,q9,qh,ya,xx,yb,yp,yc,xy,w5,xz,x5,w6,jc,x6,Op.operands,Call.operands,yd,qi,w7,AObj.live]
    have e12 : ¬ (o.k < 1 ∨ 3 < o.k) := by omega
    rcases List.eq_nil_or_concat pre with rfl | ⟨pre', q, rfl⟩
    · have hm : poMay o [] = if ¬ keyMay o.key = 0 then 8 else if o.k = 1 then fitsV o.v else 0 := by
        unfold poMay
        rw [if_neg e12, if_neg e3, if_neg e4, if_neg (by simp)]
      by_cases e5 : keyMay o.key = 0
      · by_cases e6 : o.k = 1
        · by_cases e7 : fitsV o.v = 0
          · simp [e5, e6, e7] at hm
            simp -implicitDefEqProofs [poMayL, mach_loop, mach_draw, hm, encPO_eq o, mid_lt, e1, e2, e4, e5, e6, e7, h1, h2, h4, hw2, intbne, intbeq, IntWalk.i64_in,IntWalk.u64_in,IntWalk.u8_in,IntWalk.i32_in,IntWalk.u32_in,ye,zk,zm,qj,qk,qm,qn,zb,zc,zn,zp,zq,qo,zd,ze,zr,zt,zu,j3,x7,zw,zf,za,zx,qp,zy,zg,zz,z6,qq,zh,yf,qr,aop,yq,j4,j5,x8,x9,jd,j6,j7,wb,je,j8,yr,j9,wg,jf,jg,xa,xb,z7,jh,z8,ji,jj,yt,yu,xc,AV.one,wh,wi,aun,jk,xd,yw,afn,xe,Out.ren,xf,xg,jl,wj,xh,wl,jm,Eng.distinct,pos,wn,Eng.ren,wo,xi,wp,jo,wq,yg,xj,ws,wu,jp,frz,yx,yz,wv,List.lookup_cons,jq,zi,jr,js,List.range_succ,jt,xk,ju,xm,↓yh,↓yi,↓qt,↓y6,↓qu,↓qa,↓yj,↓yk,↓qv,↓qw,↓qx,↓qy,↓qb,↓qz,qc,ww,xn,jv,jw,yl,qd,qe,zj,wx,y7,jx,xp,xq,keq,y8,wy,qf,y9,ym,xr,jy,jz,xt,j0,wz,ja,j1,xu,xv,xw,jb,q5,q6,yn,q7,j2,Option.map_some,yo,qg,q8,q9,qh,ya,xx,yb,yp,yc,xy,w5,xz,x5,w6,jc,x6,Op.operands,Call.operands,yd,qi,w7,AObj.live]
            rw [ih _ (by simp -implicitDefEqProofs [encPO_eq o, e6, IntWalk.i64_in,IntWalk.u64_in,IntWalk.u8_in,IntWalk.i32_in,IntWalk.u32_in,ye,zk,zm,qj,qk,qm,qn,zb,zc,zn,zp,zq,qo,zd,ze,zr,zt,zu,j3,x7,zw,zf,za,zx,qp,zy,zg,zz,z6,qq,zh,yf,qr,aop,yq,j4,j5,x8,x9,jd,j6,j7,wb,je,j8,yr,j9,wg,jf,jg,xa,xb,z7,jh,z8,ji,jj,yt,yu,xc,AV.one,wh,wi,aun,jk,xd,yw,afn,xe,Out.ren,xf,xg,jl,wj,xh,wl,jm,Eng.distinct,pos,wn,Eng.ren,wo,xi,wp,jo,wq,yg,xj,ws,wu,jp,frz,yx,yz,wv,List.lookup_cons,jq,zi,jr,js,List.range_succ,jt,xk,ju,xm,↓yh,↓yi,↓qt,↓y6,↓qu,↓qa,↓yj,↓yk,↓qv,↓qw,↓qx,↓qy,↓qb,↓qz,qc,ww,xn,jv,jw,yl,qd,qe,zj,wx,y7,jx,xp,xq,keq,y8,wy,qf,y9,ym,xr,jy,jz,xt,j0,wz,ja,j1,xu,xv,xw,jb,q5,q6,yn,q7,j2,Option.map_some,yo,qg,q8,q9,qh,ya,xx,yb,yp,yc,xy,w5,xz,x5,w6,jc,x6,Op.operands,Call.operands,yd,qi,w7,AObj.live] <;> omega)]
            simp
          · simp [e5, e6, e7] at hm
            simp -implicitDefEqProofs [poMayL, mach_loop, mach_draw, hm, encPO_eq o, mid_lt, e1, e2, e4, e5, e6, e7, h1, h2, h4, hw2, intbne, intbeq, IntWalk.i64_in,IntWalk.u64_in,IntWalk.u8_in,IntWalk.i32_in,IntWalk.u32_in,ye,zk,zm,qj,qk,qm,qn,zb,zc,zn,zp,zq,qo,zd,ze,zr,zt,zu,j3,x7,zw,zf,za,zx,qp,zy,zg,zz,z6,qq,zh,yf,qr,aop,yq,j4,j5,x8,x9,jd,j6,j7,wb,je,j8,yr,j9,wg,jf,jg,xa,xb,z7,jh,z8,ji,jj,yt,yu,xc,AV.one,wh,wi,aun,jk,xd,yw,afn,xe,Out.ren,xf,xg,jl,wj,xh,wl,jm,Eng.distinct,pos,wn,Eng.ren,wo,xi,wp,jo,wq,yg,xj,ws,wu,jp,frz,yx,yz,wv,List.lookup_cons,jq,zi,jr,js,List.range_succ,jt,xk,ju,xm,↓yh,↓yi,↓qt,↓y6,↓qu,↓qa,↓yj,↓yk,↓qv,↓qw,↓qx,↓qy,↓qb,↓qz,qc,ww,xn,jv,jw,yl,qd,qe,zj,wx,y7,jx,xp,xq,keq,y8,wy,qf,y9,ym,xr,jy,jz,xt,j0,wz,ja,j1,xu,xv,xw,jb,q5,q6,yn,q7,j2,Option.map_some,yo,qg,q8,q9,qh,ya,xx,yb,yp,yc,xy,w5,xz,x5,w6,jc,x6,Op.operands,Call.operands,yd,qi,w7,AObj.live]
        · have e3b : blankV o.v = true := by rcases e3c with h | h; exact absurd h e6; exact h
          simp [e5, e6] at hm
          simp -implicitDefEqProofs [poMayL, mach_loop, mach_draw, hm, encPO_eq o, mid_lt, e1, e2, e3b, e4, e5, e6, h1, h2, h4, hw2, intbne, intbeq, IntWalk.i64_in,IntWalk.u64_in,IntWalk.u8_in,IntWalk.i32_in,IntWalk.u32_in,ye,zk,zm,qj,qk,qm,qn,zb,zc,zn,zp,zq,qo,zd,ze,zr,zt,zu,j3,x7,zw,zf,za,zx,qp,zy,zg,zz,z6,qq,zh,yf,qr,aop,yq,j4,j5,x8,x9,jd,j6,j7,wb,je,j8,yr,j9,wg,jf,jg,xa,xb,z7,jh,z8,ji,jj,yt,yu,xc,AV.one,wh,wi,aun,jk,xd,yw,afn,xe,Out.ren,xf,xg,jl,wj,xh,wl,jm,Eng.distinct,pos,wn,Eng.ren,wo,xi,wp,jo,wq,yg,xj,ws,wu,jp,frz,yx,yz,wv,List.lookup_cons,jq,zi,jr,js,List.range_succ,jt,xk,ju,xm,↓yh,↓yi,↓qt,↓y6,↓qu,↓qa,↓yj,↓yk,↓qv,↓qw,↓qx,↓qy,↓qb,↓qz,qc,ww,xn,jv,jw,yl,qd,qe,zj,wx,y7,jx,xp,xq,keq,y8,wy,qf,y9,ym,xr,jy,jz,xt,j0,wz,ja,j1,xu,xv,xw,jb,q5,q6,yn,q7,j2,Option.map_some,yo,qg,q8,q9,qh,ya,xx,yb,yp,yc,xy,w5,xz,x5,w6,jc,x6,Op.operands,Call.operands,yd,qi,w7,AObj.live]
          rw [ih _ (by simp -implicitDefEqProofs [encPO_eq o, IntWalk.i64_in,IntWalk.u64_in,IntWalk.u8_in,IntWalk.i32_in,IntWalk.u32_in,ye,zk,zm,qj,qk,qm,qn,zb,zc,zn,zp,zq,qo,zd,ze,zr,zt,zu,j3,x7,zw,zf,za,zx,qp,zy,zg,zz,z6,qq,zh,yf,qr,aop,yq,j4,j5,x8,x9,jd,j6,j7,wb,je,j8,yr,j9,wg,jf,jg,xa,xb,z7,jh,z8,ji,jj,yt,yu,xc,AV.one,wh,wi,aun,jk,xd,yw,afn,xe,Out.ren,xf,xg,jl,wj,xh,wl,jm,Eng.distinct,pos,wn,Eng.ren,wo,xi,wp,jo,wq,yg,xj,ws,wu,jp,frz,yx,yz,wv,List.lookup_cons,jq,zi,jr,js,List.range_succ,jt,xk,ju,xm,↓yh,↓yi,↓qt,↓y6,↓qu,↓qa,↓yj,↓yk,↓qv,↓qw,↓qx,↓qy,↓qb,↓qz,qc,ww,xn,jv,jw,yl,qd,qe,zj,wx,y7,jx,xp,xq,keq,y8,wy,qf,y9,ym,xr,jy,jz,xt,j0,wz,ja,j1,xu,xv,xw,jb,q5,q6,yn,q7,j2,Option.map_some,yo,qg,q8,q9,qh,ya,xx,yb,yp,yc,xy,w5,xz,x5,w6,jc,x6,Op.operands,Call.operands,yd,qi,w7,AObj.live] <;> omega)]
          simp
      · simp [e5] at hm
        by_cases e6 : o.k = 1
        · simp -implicitDefEqProofs [poMayL, mach_loop, mach_draw, hm, encPO_eq o, mid_lt, e1, e2, e4, e5, e6, h1, h2, h4, hw2, intbne, intbeq, IntWalk.i64_in,IntWalk.u64_in,IntWalk.u8_in,IntWalk.i32_in,IntWalk.u32_in,ye,zk,zm,qj,qk,qm,qn,zb,zc,zn,zp,zq,qo,zd,ze,zr,zt,zu,j3,x7,zw,zf,za,zx,qp,zy,zg,zz,z6,qq,zh,yf,qr,aop,yq,j4,j5,x8,x9,jd,j6,j7,wb,je,j8,yr,j9,wg,jf,jg,xa,xb,z7,jh,z8,ji,jj,yt,yu,xc,AV.one,wh,wi,aun,jk,xd,yw,afn,xe,Out.ren,xf,xg,jl,wj,xh,wl,jm,Eng.distinct,pos,wn,Eng.ren,wo,xi,wp,jo,wq,yg,xj,ws,wu,jp,frz,yx,yz,wv,List.lookup_cons,jq,zi,jr,js,List.range_succ,jt,xk,ju,xm,↓yh,↓yi,↓qt,↓y6,↓qu,↓qa,↓yj,↓yk,↓qv,↓qw,↓qx,↓qy,↓qb,↓qz,qc,ww,xn,jv,jw,yl,qd,qe,zj,wx,y7,jx,xp,xq,keq,y8,wy,qf,y9,ym,xr,jy,jz,xt,j0,wz,ja,j1,xu,xv,xw,jb,q5,q6,yn,q7,j2,Option.map_some,yo,qg,q8,q9,qh,ya,xx,yb,yp,yc,xy,w5,xz,x5,w6,jc,x6,Op.operands,Call.operands,yd,qi,w7,AObj.live]
        · have e3b : blankV o.v = true := by rcases e3c with h | h; exact absurd h e6; exact h
          simp -implicitDefEqProofs [poMayL, mach_loop, mach_draw, hm, encPO_eq o, mid_lt, e1, e2, e3b, e4, e5, e6, h1, h2, h4, hw2, intbne, intbeq, IntWalk.i64_in,IntWalk.u64_in,IntWalk.u8_in,IntWalk.i32_in,IntWalk.u32_in,ye,zk,zm,qj,qk,qm,qn,zb,zc,zn,zp,zq,qo,zd,ze,zr,zt,zu,j3,x7,zw,zf,za,zx,qp,zy,zg,zz,z6,qq,zh,yf,qr,aop,yq,j4,j5,x8,x9,jd,j6,j7,wb,je,j8,yr,j9,wg,jf,jg,xa,xb,z7,jh,z8,ji,jj,yt,yu,xc,AV.one,wh,wi,aun,jk,xd,yw,afn,xe,Out.ren,xf,xg,jl,wj,xh,wl,jm,Eng.distinct,pos,wn,Eng.ren,wo,xi,wp,jo,wq,yg,xj,ws,wu,jp,frz,yx,yz,wv,List.lookup_cons,jq,zi,jr,js,List.range_succ,jt,xk,ju,xm,↓yh,↓yi,↓qt,↓y6,↓qu,↓qa,↓yj,↓yk,↓qv,↓qw,↓qx,↓qy,↓qb,↓qz,qc,ww,xn,jv,jw,yl,qd,qe,zj,wx,y7,jx,xp,xq,keq,y8,wy,qf,y9,ym,xr,jy,jz,xt,j0,wz,ja,j1,xu,xv,xw,jb,q5,q6,yn,q7,j2,Option.map_some,yo,qg,q8,q9,qh,ya,xx,yb,yp,yc,xy,w5,xz,x5,w6,jc,x6,Op.operands,Call.operands,yd,qi,w7,AObj.live]
    · simp only [List.concat_eq_append] at *
      have hw4 : IntKind.i64.wrap (((pre'.length : Nat) : Int) + 1 + 1) = (pre'.length : Nat) + 1 + 1 := wrap64 (by omega) (by simp at hll; omega)
      have hw3 : IntKind.i64.wrap ((pre'.length : Nat) : Int) = (pre'.length : Nat) := wrap64 (by omega) (by simp at hll; omega)
      by_cases hg : ¬ q.k = 3 ∧ keyLe o.key q.key = true
      · have hm : poMay o (pre' ++ [q]) = 2 := by simp [poMay, e1, e2, e3, e4, hg]
        obtain ⟨hg1, hg2⟩ := hg
        simp only [keyLe] at hg2
        by_cases e6 : o.k = 1
        · simp -implicitDefEqProofs [poMayL, mach_loop, mach_draw, hm, encPO_eq o, encPO_eq q, mid_lt, pos1, ar1, ar2, ar3, ar4, e1, e2, e4, e6, hg1, hg2, h1, h2, h4, hw2, hw3, hw4, intbne, intbeq, IntWalk.i64_in,IntWalk.u64_in,IntWalk.u8_in,IntWalk.i32_in,IntWalk.u32_in,ye,zk,zm,qj,qk,qm,qn,zb,zc,zn,zp,zq,qo,zd,ze,zr,zt,zu,j3,x7,zw,zf,za,zx,qp,zy,zg,zz,z6,qq,zh,yf,qr,aop,yq,j4,j5,x8,x9,jd,j6,j7,wb,je,j8,yr,j9,wg,jf,jg,xa,xb,z7,jh,z8,ji,jj,yt,yu,xc,AV.one,wh,wi,aun,jk,xd,yw,afn,xe,Out.ren,xf,xg,jl,wj,xh,wl,jm,Eng.distinct,pos,wn,Eng.ren,wo,xi,wp,jo,wq,yg,xj,ws,wu,jp,frz,yx,yz,wv,List.lookup_cons,jq,zi,jr,js,List.range_succ,jt,xk,ju,xm,↓yh,↓yi,↓qt,↓y6,↓qu,↓qa,↓yj,↓yk,↓qv,↓qw,↓qx,↓qy,↓qb,↓qz,qc,ww,xn,jv,jw,yl,qd,qe,zj,wx,y7,jx,xp,xq,keq,y8,wy,qf,y9,ym,xr,jy,jz,xt,j0,wz,ja,j1,xu,xv,xw,jb,q5,q6,yn,q7,j2,Option.map_some,yo,qg,q8,q9,qh,ya,xx,yb,yp,yc,xy,w5,xz,x5,w6,jc,x6,Op.operands,Call.operands,yd,qi,w7,AObj.live]
        · have e3b : blankV o.v = true := by rcases e3c with h | h; exact absurd h e6; exact h
          simp -implicitDefEqProofs [poMayL, mach_loop, mach_draw, hm, encPO_eq o, encPO_eq q, mid_lt, pos1, ar1, ar2, ar3, ar4, e1, e2, e3b, e4, e6, hg1, hg2, h1, h2, h4, hw2, hw3, hw4, intbne, intbeq, IntWalk.i64_in,IntWalk.u64_in,IntWalk.u8_in,IntWalk.i32_in,IntWalk.u32_in,ye,zk,zm,qj,qk,qm,qn,zb,zc,zn,zp,zq,qo,zd,ze,zr,zt,zu,j3,x7,zw,zf,za,zx,qp,zy,zg,zz,z6,qq,zh,yf,qr,aop,yq,j4,j5,x8,x9,jd,j6,j7,wb,je,j8,yr,j9,wg,jf,jg,xa,xb,z7,jh,z8,ji,jj,yt,yu,xc,AV.one,wh,wi,aun,jk,xd,yw,afn,xe,Out.ren,xf,xg,jl,wj,xh,wl,jm,Eng.distinct,pos,wn,Eng.ren,wo,xi,wp,jo,wq,yg,xj,ws,wu,jp,frz,yx,yz,wv,List.lookup_cons,jq,zi,jr,js,List.range_succ,jt,xk,ju,xm,↓yh,↓yi,↓qt,↓y6,↓qu,↓qa,↓yj,↓yk,↓qv,↓qw,↓qx,↓qy,↓qb,↓qz,qc,ww,xn,jv,jw,yl,qd,qe,zj,wx,y7,jx,xp,xq,keq,y8,wy,qf,y9,ym,xr,jy,jz,xt,j0,wz,ja,j1,xu,xv,xw,jb,q5,q6,yn,q7,j2,Option.map_some,yo,qg,q8,q9,qh,ya,xx,yb,yp,yc,xy,w5,xz,x5,w6,jc,x6,Op.operands,Call.operands,yd,qi,w7,AObj.live]
      have hgg : (decide (¬ q.k = 3) && (Op.bytesLess o.key q.key || o.key == q.key)) = false := by
        have : (decide (¬ q.k = 3) && keyLe o.key q.key) = false := by
          cases hk : keyLe o.key q.key with
          | false => simp
          | true => simp [hk] at hg; simp [hg]
        simpa only [keyLe] using this
      have hm : poMay o (pre' ++ [q]) = if ¬ keyMay o.key = 0 then 8 else if o.k = 1 then fitsV o.v else 0 := by
        unfold poMay
        rw [if_neg e12, if_neg e3, if_neg e4, if_neg (by simp only [List.getLast?_concat, keyLe, hgg]; decide)]
      by_cases g1 : q.k = 3
      · by_cases e5 : keyMay o.key = 0
        · by_cases e6 : o.k = 1
          · by_cases e7 : fitsV o.v = 0
            · simp [e5, e6, e7] at hm
              simp -implicitDefEqProofs [poMayL, mach_loop, mach_draw, hm, encPO_eq o, encPO_eq q, mid_lt, pos1, ar1, ar2, ar3, ar4, e1, e2, g1, e4, e5, e6, e7, h1, h2, h4, hw2, hw3, hw4, intbne, intbeq, IntWalk.i64_in,IntWalk.u64_in,IntWalk.u8_in,IntWalk.i32_in,IntWalk.u32_in,ye,zk,zm,qj,qk,qm,qn,zb,zc,zn,zp,zq,qo,zd,ze,zr,zt,zu,j3,x7,zw,zf,za,zx,qp,zy,zg,zz,z6,qq,zh,yf,qr,aop,yq,j4,j5,x8,x9,jd,j6,j7,wb,je,j8,yr,j9,wg,jf,jg,xa,xb,z7,jh,z8,ji,jj,yt,yu,xc,AV.one,wh,wi,aun,jk,xd,yw,afn,xe,Out.ren,xf,xg,jl,wj,xh,wl,jm,Eng.distinct,pos,wn,Eng.ren,wo,xi,wp,jo,wq,yg,xj,ws,wu,jp,frz,yx,yz,wv,List.lookup_cons,jq,zi,jr,js,List.range_succ,jt,xk,ju,xm,↓yh,↓yi,↓qt,↓y6,↓qu,↓qa,↓yj,↓yk,↓qv,↓qw,↓qx,↓qy,↓qb,↓qz,qc,ww,xn,jv,jw,yl,qd,qe,zj,wx,y7,jx,xp,xq,keq,y8,wy,qf,y9,ym,xr,jy,jz,xt,j0,wz,ja,j1,xu,xv,xw,jb,q5,q6,yn,q7,j2,Option.map_some,yo,qg,q8,q9,qh,ya,xx,yb,yp,yc,xy,w5,xz,x5,w6,jc,x6,Op.operands,Call.operands,yd,qi,w7,AObj.live]
              rw [ih _ (by simp -implicitDefEqProofs [encPO_eq o, encPO_eq q, hw4, e6, IntWalk.i64_in,IntWalk.u64_in,IntWalk.u8_in,IntWalk.i32_in,IntWalk.u32_in,ye,zk,zm,qj,qk,qm,qn,zb,zc,zn,zp,zq,qo,zd,ze,zr,zt,zu,j3,x7,zw,zf,za,zx,qp,zy,zg,zz,z6,qq,zh,yf,qr,aop,yq,j4,j5,x8,x9,jd,j6,j7,wb,je,j8,yr,j9,wg,jf,jg,xa,xb,z7,jh,z8,ji,jj,yt,yu,xc,AV.one,wh,wi,aun,jk,xd,yw,afn,xe,Out.ren,xf,xg,jl,wj,xh,wl,jm,Eng.distinct,pos,wn,Eng.ren,wo,xi,wp,jo,wq,yg,xj,ws,wu,jp,frz,yx,yz,wv,List.lookup_cons,jq,zi,jr,js,List.range_succ,jt,xk,ju,xm,↓yh,↓yi,↓qt,↓y6,↓qu,↓qa,↓yj,↓yk,↓qv,↓qw,↓qx,↓qy,↓qb,↓qz,qc,ww,xn,jv,jw,yl,qd,qe,zj,wx,y7,jx,xp,xq,keq,y8,wy,qf,y9,ym,xr,jy,jz,xt,j0,wz,ja,j1,xu,xv,xw,jb,q5,q6,yn,q7,j2,Option.map_some,yo,qg,q8,q9,qh,ya,xx,yb,yp,yc,xy,w5,xz,x5,w6,jc,x6,Op.operands,Call.operands,yd,qi,w7,AObj.live] <;> omega)]
              simp
            · simp [e5, e6, e7] at hm
              simp -implicitDefEqProofs [poMayL, mach_loop, mach_draw, hm, encPO_eq o, encPO_eq q, mid_lt, pos1, ar1, ar2, ar3, ar4, e1, e2, g1, e4, e5, e6, e7, h1, h2, h4, hw2, hw3, hw4, intbne, intbeq, IntWalk.i64_in,IntWalk.u64_in,IntWalk.u8_in,IntWalk.i32_in,IntWalk.u32_in,ye,zk,zm,qj,qk,qm,qn,zb,zc,zn,zp,zq,qo,zd,ze,zr,zt,zu,j3,x7,zw,zf,za,zx,qp,zy,zg,zz,z6,qq,zh,yf,qr,aop,yq,j4,j5,x8,x9,jd,j6,j7,wb,je,j8,yr,j9,wg,jf,jg,xa,xb,z7,jh,z8,ji,jj,yt,yu,xc,AV.one,wh,wi,aun,jk,xd,yw,afn,xe,Out.ren,xf,xg,jl,wj,xh,wl,jm,Eng.distinct,pos,wn,Eng.ren,wo,xi,wp,jo,wq,yg,xj,ws,wu,jp,frz,yx,yz,wv,List.lookup_cons,jq,zi,jr,js,List.range_succ,jt,xk,ju,xm,↓yh,↓yi,↓qt,↓y6,↓qu,↓qa,↓yj,↓yk,↓qv,↓qw,↓qx,↓qy,↓qb,↓qz,qc,ww,xn,jv,jw,yl,qd,qe,zj,wx,y7,jx,xp,xq,keq,y8,wy,qf,y9,ym,xr,jy,jz,xt,j0,wz,ja,j1,xu,xv,xw,jb,q5,q6,yn,q7,j2,Option.map_some,yo,qg,q8,q9,qh,ya,xx,yb,yp,yc,xy,w5,xz,x5,w6,jc,x6,Op.operands,Call.operands,yd,qi,w7,AObj.live]
          · have e3b : blankV o.v = true := by rcases e3c with h | h; exact absurd h e6; exact h
            simp [e5, e6] at hm
            simp -implicitDefEqProofs [poMayL, mach_loop, mach_draw, hm, encPO_eq o, encPO_eq q, mid_lt, pos1, ar1, ar2, ar3, ar4, e1, e2, g1, e4, e3b, e5, e6, h1, h2, h4, hw2, hw3, hw4, intbne, intbeq, IntWalk.i64_in,IntWalk.u64_in,IntWalk.u8_in,IntWalk.i32_in,IntWalk.u32_in,ye,zk,zm,qj,qk,qm,qn,zb,zc,zn,zp,zq,qo,zd,ze,zr,zt,zu,j3,x7,zw,zf,za,zx,qp,zy,zg,zz,z6,qq,zh,yf,qr,aop,yq,j4,j5,x8,x9,jd,j6,j7,wb,je,j8,yr,j9,wg,jf,jg,xa,xb,z7,jh,z8,ji,jj,yt,yu,xc,AV.one,wh,wi,aun,jk,xd,yw,afn,xe,Out.ren,xf,xg,jl,wj,xh,wl,jm,Eng.distinct,pos,wn,Eng.ren,wo,xi,wp,jo,wq,yg,xj,ws,wu,jp,frz,yx,yz,wv,List.lookup_cons,jq,zi,jr,js,List.range_succ,jt,xk,ju,xm,↓yh,↓yi,↓qt,↓y6,↓qu,↓qa,↓yj,↓yk,↓qv,↓qw,↓qx,↓qy,↓qb,↓qz,qc,ww,xn,jv,jw,yl,qd,qe,zj,wx,y7,jx,xp,xq,keq,y8,wy,qf,y9,ym,xr,jy,jz,xt,j0,wz,ja,j1,xu,xv,xw,jb,q5,q6,yn,q7,j2,Option.map_some,yo,qg,q8,q9,qh,ya,xx,yb,yp,yc,xy,w5,xz,x5,w6,jc,x6,Op.operands,Call.operands,yd,qi,w7,AObj.live]
            rw [ih _ (by simp -implicitDefEqProofs [encPO_eq o, encPO_eq q, hw4, IntWalk.i64_in,IntWalk.u64_in,IntWalk.u8_in,IntWalk.i32_in,IntWalk.u32_in,ye,zk,zm,qj,qk,qm,qn,zb,zc,zn,zp,zq,qo,zd,ze,zr,zt,zu,j3,x7,zw,zf,za,zx,qp,zy,zg,zz,z6,qq,zh,yf,qr,aop,yq,j4,j5,x8,x9,jd,j6,j7,wb,je,j8,yr,j9,wg,jf,jg,xa,xb,z7,jh,z8,ji,jj,yt,yu,xc,AV.one,wh,wi,aun,jk,xd,yw,afn,xe,Out.ren,xf,xg,jl,wj,xh,wl,jm,Eng.distinct,pos,wn,Eng.ren,wo,xi,wp,jo,wq,yg,xj,ws,wu,jp,frz,yx,yz,wv,List.lookup_cons,jq,zi,jr,js,List.range_succ,jt,xk,ju,xm,↓yh,↓yi,↓qt,↓y6,↓qu,↓qa,↓yj,↓yk,↓qv,↓qw,↓qx,↓qy,↓qb,↓qz,qc,ww,xn,jv,jw,yl,qd,qe,zj,wx,y7,jx,xp,xq,keq,y8,wy,qf,y9,ym,xr,jy,jz,xt,j0,wz,ja,j1,xu,xv,xw,jb,q5,q6,yn,q7,j2,Option.map_some,yo,qg,q8,q9,qh,ya,xx,yb,yp,yc,xy,w5,xz,x5,w6,jc,x6,Op.operands,Call.operands,yd,qi,w7,AObj.live] <;> omega)]
            simp
        · simp [e5] at hm
          by_cases e6 : o.k = 1
          · simp -implicitDefEqProofs [poMayL, mach_loop, mach_draw, hm, encPO_eq o, encPO_eq q, mid_lt, pos1, ar1, ar2, ar3, ar4, e1, e2, g1, e4, e5, e6, h1, h2, h4, hw2, hw3, hw4, intbne, intbeq, IntWalk.i64_in,IntWalk.u64_in,IntWalk.u8_in,IntWalk.i32_in,IntWalk.u32_in,ye,zk,zm,qj,qk,qm,qn,zb,zc,zn,zp,zq,qo,zd,ze,zr,zt,zu,j3,x7,zw,zf,za,zx,qp,zy,zg,zz,z6,qq,zh,yf,qr,aop,yq,j4,j5,x8,x9,jd,j6,j7,wb,je,j8,yr,j9,wg,jf,jg,xa,xb,z7,jh,z8,ji,jj,yt,yu,xc,AV.one,wh,wi,aun,jk,xd,yw,afn,xe,Out.ren,xf,xg,jl,wj,xh,wl,jm,Eng.distinct,pos,wn,Eng.ren,wo,xi,wp,jo,wq,yg,xj,ws,wu,jp,frz,yx,yz,wv,List.lookup_cons,jq,zi,jr,js,List.range_succ,jt,xk,ju,xm,↓yh,↓yi,↓qt,↓y6,↓qu,↓qa,↓yj,↓yk,↓qv,↓qw,↓qx,↓qy,↓qb,↓qz,qc,ww,xn,jv,jw,yl,qd,qe,zj,wx,y7,jx,xp,xq,keq,y8,wy,qf,y9,ym,xr,jy,jz,xt,j0,wz,ja,j1,xu,xv,xw,jb,q5,q6,yn,q7,j2,Option.map_some,yo,qg,q8,q9,qh,ya,xx,yb,yp,yc,xy,w5,xz,x5,w6,jc,x6,Op.operands,Call.operands,yd,qi,w7,AObj.live]
          · have e3b : blankV o.v = true := by rcases e3c with h | h; exact absurd h e6; exact h
            simp -implicitDefEqProofs [poMayL, mach_loop, mach_draw, hm, encPO_eq o, encPO_eq q, mid_lt, pos1, ar1, ar2, ar3, ar4, e1, e2, g1, e4, e3b, e5, e6, h1, h2, h4, hw2, hw3, hw4, intbne, intbeq, IntWalk.i64_in,IntWalk.u64_in,IntWalk.u8_in,IntWalk.i32_in,IntWalk.u32_in,ye,zk,zm,qj,qk,qm,qn,zb,zc,zn,zp,zq,qo,zd,ze,zr,zt,zu,j3,x7,zw,zf,za,zx,qp,zy,zg,zz,z6,qq,zh,yf,qr,aop,yq,j4,j5,x8,x9,jd,j6,j7,wb,je,j8,yr,j9,wg,jf,jg,xa,xb,z7,jh,z8,ji,jj,yt,yu,xc,AV.one,wh,wi,aun,jk,xd,yw,afn,xe,Out.ren,xf,xg,jl,wj,xh,wl,jm,Eng.distinct,pos,wn,Eng.ren,wo,xi,wp,jo,wq,yg,xj,ws,wu,jp,frz,yx,yz,wv,List.lookup_cons,jq,zi,jr,js,List.range_succ,jt,xk,ju,xm,↓yh,↓yi,↓qt,↓y6,↓qu,↓qa,↓yj,↓yk,↓qv,↓qw,↓qx,↓qy,↓qb,↓qz,qc,ww,xn,jv,jw,yl,qd,qe,zj,wx,y7,jx,xp,xq,keq,y8,wy,qf,y9,ym,xr,jy,jz,xt,j0,wz,ja,j1,xu,xv,xw,jb,q5,q6,yn,q7,j2,Option.map_some,yo,qg,q8,q9,qh,ya,xx,yb,yp,yc,xy,w5,xz,x5,w6,jc,x6,Op.operands,Call.operands,yd,qi,w7,AObj.live]
      · have g2 : (Op.bytesLess o.key q.key || o.key == q.key) = false := by simpa [g1] using hgg
        by_cases e5 : keyMay o.key = 0
        · by_cases e6 : o.k = 1
          · by_cases e7 : fitsV o.v = 0
            · simp [e5, e6, e7] at hm
              simp -implicitDefEqProofs [poMayL, mach_loop, mach_draw, hm, encPO_eq o, encPO_eq q, mid_lt, pos1, ar1, ar2, ar3, ar4, e1, e2, g1, g2, e4, e5, e6, e7, h1, h2, h4, hw2, hw3, hw4, intbne, intbeq, IntWalk.i64_in,IntWalk.u64_in,IntWalk.u8_in,IntWalk.i32_in,IntWalk.u32_in,ye,zk,zm,qj,qk,qm,qn,zb,zc,zn,zp,zq,qo,zd,ze,zr,zt,zu,j3,x7,zw,zf,za,zx,qp,zy,zg,zz,z6,qq,zh,yf,qr,aop,yq,j4,j5,x8,x9,jd,j6,j7,wb,je,j8,yr,j9,wg,jf,jg,xa,xb,z7,jh,z8,ji,jj,yt,yu,xc,AV.one,wh,wi,aun,jk,xd,yw,afn,xe,Out.ren,xf,xg,jl,wj,xh,wl,jm,Eng.distinct,pos,wn,Eng.ren,wo,xi,wp,jo,wq,yg,xj,ws,wu,jp,frz,yx,yz,wv,List.lookup_cons,jq,zi,jr,js,List.range_succ,jt,xk,ju,xm,↓yh,↓yi,↓qt,↓y6,↓qu,↓qa,↓yj,↓yk,↓qv,↓qw,↓qx,↓qy,↓qb,↓qz,qc,ww,xn,jv,jw,yl,qd,qe,zj,wx,y7,jx,xp,xq,keq,y8,wy,qf,y9,ym,xr,jy,jz,xt,j0,wz,ja,j1,xu,xv,xw,jb,q5,q6,yn,q7,j2,Option.map_some,yo,qg,q8,q9,qh,ya,xx,yb,yp,yc,xy,w5,xz,x5,w6,jc,x6,Op.operands,Call.operands,yd,qi,w7,AObj.live]
              rw [ih _ (by simp -implicitDefEqProofs [encPO_eq o, encPO_eq q, hw4, e6, IntWalk.i64_in,IntWalk.u64_in,IntWalk.u8_in,IntWalk.i32_in,IntWalk.u32_in,ye,zk,zm,qj,qk,qm,qn,zb,zc,zn,zp,zq,qo,zd,ze,zr,zt,zu,j3,x7,zw,zf,za,zx,qp,zy,zg,zz,z6,qq,zh,yf,qr,aop,yq,j4,j5,x8,x9,jd,j6,j7,wb,je,j8,yr,j9,wg,jf,jg,xa,xb,z7,jh,z8,ji,jj,yt,yu,xc,AV.one,wh,wi,aun,jk,xd,yw,afn,xe,Out.ren,xf,xg,jl,wj,xh,wl,jm,Eng.distinct,pos,wn,Eng.ren,wo,xi,wp,jo,wq,yg,xj,ws,wu,jp,frz,yx,yz,wv,List.lookup_cons,jq,zi,jr,js,List.range_succ,jt,xk,ju,xm,↓yh,↓yi,↓qt,↓y6,↓qu,↓qa,↓yj,↓yk,↓qv,↓qw,↓qx,↓qy,↓qb,↓qz,qc,ww,xn,jv,jw,yl,qd,qe,zj,wx,y7,jx,xp,xq,keq,y8,wy,qf,y9,ym,xr,jy,jz,xt,j0,wz,ja,j1,xu,xv,xw,jb,q5,q6,yn,q7,j2,Option.map_some,yo,qg,q8,q9,qh,ya,xx,yb,yp,yc,xy,w5,xz,x5,w6,jc,x6,Op.operands,Call.operands,yd,qi,w7,AObj.live] <;> omega)]
              simp
            · simp [e5, e6, e7] at hm
              simp -implicitDefEqProofs [poMayL, mach_loop, mach_draw, hm, encPO_eq o, encPO_eq q, mid_lt, pos1, ar1, ar2, ar3, ar4, e1, e2, g1, g2, e4, e5, e6, e7, h1, h2, h4, hw2, hw3, hw4, intbne, intbeq, IntWalk.i64_in,IntWalk.u64_in,IntWalk.u8_in,IntWalk.i32_in,IntWalk.u32_in,ye,zk,zm,qj,qk,qm,qn,zb,zc,zn,zp,zq,qo,zd,ze,zr,zt,zu,j3,x7,zw,zf,za,zx,qp,zy,zg,zz,z6,qq,zh,yf,qr,aop,yq,j4,j5,x8,x9,jd,j6,j7,wb,je,j8,yr,j9,wg,jf,jg,xa,xb,z7,jh,z8,ji,jj,yt,yu,xc,AV.one,wh,wi,aun,jk,xd,yw,afn,xe,Out.ren,xf,xg,jl,wj,xh,wl,jm,Eng.distinct,pos,wn,Eng.ren,wo,xi,wp,jo,wq,yg,xj,ws,wu,jp,frz,yx,yz,wv,List.lookup_cons,jq,zi,jr,js,List.range_succ,jt,xk,ju,xm,↓yh,↓yi,↓qt,↓y6,↓qu,↓qa,↓yj,↓yk,↓qv,↓qw,↓qx,↓qy,↓qb,↓qz,qc,ww,xn,jv,jw,yl,qd,qe,zj,wx,y7,jx,xp,xq,keq,y8,wy,qf,y9,ym,xr,jy,jz,xt,j0,wz,ja,j1,xu,xv,xw,jb,q5,q6,yn,q7,j2,Option.map_some,yo,qg,q8,q9,qh,ya,xx,yb,yp,yc,xy,w5,xz,x5,w6,jc,x6,Op.operands,Call.operands,yd,qi,w7,AObj.live]
          · have e3b : blankV o.v = true := by rcases e3c with h | h; exact absurd h e6; exact h
            simp [e5, e6] at hm
            simp -implicitDefEqProofs [poMayL, mach_loop, mach_draw, hm, encPO_eq o, encPO_eq q, mid_lt, pos1, ar1, ar2, ar3, ar4, e1, e2, g1, g2, e4, e3b, e5, e6, h1, h2, h4, hw2, hw3, hw4, intbne, intbeq, IntWalk.i64_in,IntWalk.u64_in,IntWalk.u8_in,IntWalk.i32_in,IntWalk.u32_in,ye,zk,zm,qj,qk,qm,qn,zb,zc,zn,zp,zq,qo,zd,ze,zr,zt,zu,j3,x7,zw,zf,za,zx,qp,zy,zg,zz,z6,qq,zh,yf,qr,aop,yq,j4,j5,x8,x9,jd,j6,j7,wb,je,j8,yr,j9,wg,jf,jg,xa,xb,z7,jh,z8,ji,jj,yt,yu,xc,AV.one,wh,wi,aun,jk,xd,yw,afn,xe,Out.ren,xf,xg,jl,wj,xh,wl,jm,Eng.distinct,pos,wn,Eng.ren,wo,xi,wp,jo,wq,yg,xj,ws,wu,jp,frz,yx,yz,wv,List.lookup_cons,jq,zi,jr,js,List.range_succ,jt,xk,ju,xm,↓yh,↓yi,↓qt,↓y6,↓qu,↓qa,↓yj,↓yk,↓qv,↓qw,↓qx,↓qy,↓qb,↓qz,qc,ww,xn,jv,jw,yl,qd,qe,zj,wx,y7,jx,xp,xq,keq,y8,wy,qf,y9,ym,xr,jy,jz,xt,j0,wz,ja,j1,xu,xv,xw,jb,q5,q6,yn,q7,j2,Option.map_some,yo,qg,q8,q9,qh,ya,xx,yb,yp,yc,xy,w5,xz,x5,w6,jc,x6,Op.operands,Call.operands,yd,qi,w7,AObj.live]
            rw [ih _ (by simp -implicitDefEqProofs [encPO_eq o, encPO_eq q, hw4, IntWalk.i64_in,IntWalk.u64_in,IntWalk.u8_in,IntWalk.i32_in,IntWalk.u32_in,ye,zk,zm,qj,qk,qm,qn,zb,zc,zn,zp,zq,qo,zd,ze,zr,zt,zu,j3,x7,zw,zf,za,zx,qp,zy,zg,zz,z6,qq,zh,yf,qr,aop,yq,j4,j5,x8,x9,jd,j6,j7,wb,je,j8,yr,j9,wg,jf,jg,xa,xb,z7,jh,z8,ji,jj,yt,yu,xc,AV.one,wh,wi,aun,jk,xd,yw,afn,xe,Out.ren,xf,xg,jl,wj,xh,wl,jm,Eng.distinct,pos,wn,Eng.ren,wo,xi,wp,jo,wq,yg,xj,ws,wu,jp,frz,yx,yz,wv,List.lookup_cons,jq,zi,jr,js,List.range_succ,jt,xk,ju,xm,↓yh,↓yi,↓qt,↓y6,↓qu,↓qa,↓yj,↓yk,↓qv,↓qw,↓qx,↓qy,↓qb,↓qz,qc,ww,xn,jv,jw,yl,qd,qe,zj,wx,y7,jx,xp,xq,keq,y8,wy,qf,y9,ym,xr,jy,jz,xt,j0,wz,ja,j1,xu,xv,xw,jb,q5,q6,yn,q7,j2,Option.map_some,yo,qg,q8,q9,qh,ya,xx,yb,yp,yc,xy,w5,xz,x5,w6,jc,x6,Op.operands,Call.operands,yd,qi,w7,AObj.live] <;> omega)]
            simp
        · simp [e5] at hm
          by_cases e6 : o.k = 1
          · simp -implicitDefEqProofs [poMayL, mach_loop, mach_draw, hm, encPO_eq o, encPO_eq q, mid_lt, pos1, ar1, ar2, ar3, ar4, e1, e2, g1, g2, e4, e5, e6, h1, h2, h4, hw2, hw3, hw4, intbne, intbeq, IntWalk.i64_in,IntWalk.u64_in,IntWalk.u8_in,IntWalk.i32_in,IntWalk.u32_in,ye,zk,zm,qj,qk,qm,qn,zb,zc,zn,zp,zq,qo,zd,ze,zr,zt,zu,j3,x7,zw,zf,za,zx,qp,zy,zg,zz,z6,qq,zh,yf,qr,aop,yq,j4,j5,x8,x9,jd,j6,j7,wb,je,j8,yr,j9,wg,jf,jg,xa,xb,z7,jh,z8,ji,jj,yt,yu,xc,AV.one,wh,wi,aun,jk,xd,yw,afn,xe,Out.ren,xf,xg,jl,wj,xh,wl,jm,Eng.distinct,pos,wn,Eng.ren,wo,xi,wp,jo,wq,yg,xj,ws,wu,jp,frz,yx,yz,wv,List.lookup_cons,jq,zi,jr,js,List.range_succ,jt,xk,ju,xm,↓yh,↓yi,↓qt,↓y6,↓qu,↓qa,↓yj,↓yk,↓qv,↓qw,↓qx,↓qy,↓qb,↓qz,qc,ww,xn,jv,jw,yl,qd,qe,zj,wx,y7,jx,xp,xq,keq,y8,wy,qf,y9,ym,xr,jy,jz,xt,j0,wz,ja,j1,xu,xv,xw,jb,q5,q6,yn,q7,j2,Option.map_some,yo,qg,q8,q9,qh,ya,xx,yb,yp,yc,xy,w5,xz,x5,w6,jc,x6,Op.operands,Call.operands,yd,qi,w7,AObj.live]
          · have e3b : blankV o.v = true := by rcases e3c with h | h; exact absurd h e6; exact h
            simp -implicitDefEqProofs [poMayL, mach_loop, mach_draw, hm, encPO_eq o, encPO_eq q, mid_lt, pos1, ar1, ar2, ar3, ar4, e1, e2, g1, g2, e4, e3b, e5, e6, h1, h2, h4, hw2, hw3, hw4, intbne, intbeq, IntWalk.i64_in,IntWalk.u64_in,IntWalk.u8_in,IntWalk.i32_in,IntWalk.u32_in,ye,zk,zm,qj,qk,qm,qn,zb,zc,zn,zp,zq,qo,zd,ze,zr,zt,zu,j3,x7,zw,zf,za,zx,qp,zy,zg,zz,z6,qq,zh,yf,qr,aop,yq,j4,j5,x8,x9,jd,j6,j7,wb,je,j8,yr,j9,wg,jf,jg,xa,xb,z7,jh,z8,ji,jj,yt,yu,xc,AV.one,wh,wi,aun,jk,xd,yw,afn,xe,Out.ren,xf,xg,jl,wj,xh,wl,jm,Eng.distinct,pos,wn,Eng.ren,wo,xi,wp,jo,wq,yg,xj,ws,wu,jp,frz,yx,yz,wv,List.lookup_cons,jq,zi,jr,js,List.range_succ,jt,xk,ju,xm,↓yh,↓yi,↓qt,↓y6,↓qu,↓qa,↓yj,↓yk,↓qv,↓qw,↓qx,↓qy,↓qb,↓qz,qc,ww,xn,jv,jw,yl,qd,qe,zj,wx,y7,jx,xp,xq,keq,y8,wy,qf,y9,ym,xr,jy,jz,xt,j0,wz,ja,j1,xu,xv,xw,jb,q5,q6,yn,q7,j2,Option.map_some,yo,qg,q8,q9,qh,ya,xx,yb,yp,yc,xy,w5,xz,x5,w6,jc,x6,Op.operands,Call.operands,yd,qi,w7,AObj.live]
  by_cases hp : poMayL [] l = 0
  · simp -implicitDefEqProofs [R, hp, mach_loop, IntWalk.i64_in,IntWalk.u64_in,IntWalk.u8_in,IntWalk.i32_in,IntWalk.u32_in,ye,zk,zm,qj,qk,qm,qn,zb,zc,zn,zp,zq,qo,zd,ze,zr,zt,zu,j3,x7,zw,zf,za,zx,qp,zy,zg,zz,z6,qq,zh,yf,qr,aop,yq,j4,j5,x8,x9,jd,j6,j7,wb,je,j8,yr,j9,wg,jf,jg,xa,xb,z7,jh,z8,ji,jj,yt,yu,xc,AV.one,wh,wi,aun,jk,xd,yw,afn,xe,Out.ren,xf,xg,jl,wj,xh,wl,jm,Eng.distinct,pos,wn,Eng.ren,wo,xi,wp,jo,wq,yg,xj,ws,wu,jp,frz,yx,yz,wv,List.lookup_cons,jq,zi,jr,js,List.range_succ,jt,xk,ju,xm,↓yh,↓yi,↓qt,↓y6,↓qu,↓qa,↓yj,↓yk,↓qv,↓qw,↓qx,↓qy,↓qb,↓qz,qc,ww,xn,jv,jw,yl,qd,qe,zj,wx,y7,jx,xp,xq,keq,y8,wy,qf,y9,ym,xr,jy,jz,xt,j0,wz,ja,j1,xu,xv,xw,jb,q5,q6,yn,q7,j2,Option.map_some,yo,qg,q8,q9,qh,ya,xx,yb,yp,yc,xy,w5,xz,x5,w6,jc,x6,Op.operands,Call.operands,yd,qi,w7,AObj.live]
  · simp -implicitDefEqProofs [R, hp, mach_loop, IntWalk.i64_in,IntWalk.u64_in,IntWalk.u8_in,IntWalk.i32_in,IntWalk.u32_in,ye,zk,zm,qj,qk,qm,qn,zb,zc,zn,zp,zq,qo,zd,ze,zr,zt,zu,j3,x7,zw,zf,za,zx,qp,zy,zg,zz,z6,qq,zh,yf,qr,aop,yq,j4,j5,x8,x9,jd,j6,j7,wb,je,j8,yr,j9,wg,jf,jg,xa,xb,z7,jh,z8,ji,jj,yt,yu,xc,AV.one,wh,wi,aun,jk,xd,yw,afn,xe,Out.ren,xf,xg,jl,wj,xh,wl,jm,Eng.distinct,pos,wn,Eng.ren,wo,xi,wp,jo,wq,yg,xj,ws,wu,jp,frz,yx,yz,wv,List.lookup_cons,jq,zi,jr,js,List.range_succ,jt,xk,ju,xm,↓yh,↓yi,↓qt,↓y6,↓qu,↓qa,↓yj,↓yk,↓qv,↓qw,↓qx,↓qy,↓qb,↓qz,qc,ww,xn,jv,jw,yl,qd,qe,zj,wx,y7,jx,xp,xq,keq,y8,wy,qf,y9,ym,xr,jy,jz,xt,j0,wz,ja,j1,xu,xv,xw,jb,q5,q6,yn,q7,j2,Option.map_some,yo,qg,q8,q9,qh,ya,xx,yb,yp,yc,xy,w5,xz,x5,w6,jc,x6,Op.operands,Call.operands,yd,qi,w7,AObj.live]
theorem b_r18MayResponse (C : Oracle) (c b k t : Int) (l : List PO) (h : C 26 [.d (.rs 8 (l.map encPO))] [] = R (.int .i64 (poMayL [] l))) :
    abody Tryz.prog [] C (mach Tryz.prog C {}) true 11 [.agg [.d (.int .u64 c), .d (.int .u64 b), .d (.int .u64 k), .d (.int .u64 t), .d (.rs 8 (l.map encPO))]] [] = R (.int .i64 (respMay c b k t l)) := by
  simp only [R] at h
  unfold abody
  rw [Tryz.func11]
  simp only [Tryz.f11]
  by_cases hc : c = 0 ∨ 4611686018427387903 < c ∨ 4611686018427387903 < b ∨ 4611686018427387903 < k ∨ 4611686018427387903 < t
  · have hd : ((((decide (c = 0) || decide (4611686018427387903 < c)) || decide (4611686018427387903 < b)) || decide (4611686018427387903 < k)) || decide (4611686018427387903 < t)) = true := by
      simp only [Bool.or_eq_true, decide_eq_true_eq]; omega
    simp -implicitDefEqProofs [R, h, respMay, mxN, hc, hd, intbeq, IntWalk.i64_in,IntWalk.u64_in,IntWalk.u8_in,IntWalk.i32_in,IntWalk.u32_in,ye,zk,zm,qj,qk,qm,qn,zb,zc,zn,zp,zq,qo,zd,ze,zr,zt,zu,j3,x7,zw,zf,za,zx,qp,zy,zg,zz,z6,qq,zh,yf,qr,aop,yq,j4,j5,x8,x9,jd,j6,j7,wb,je,j8,yr,j9,wg,jf,jg,xa,xb,z7,jh,z8,ji,jj,yt,yu,xc,AV.one,wh,wi,aun,jk,xd,yw,afn,xe,Out.ren,xf,xg,jl,wj,xh,wl,jm,Eng.distinct,pos,wn,Eng.ren,wo,xi,wp,jo,wq,yg,xj,ws,wu,jp,frz,yx,yz,wv,List.lookup_cons,jq,zi,jr,js,List.range_succ,jt,xk,ju,xm,↓yh,↓yi,↓qt,↓y6,↓qu,↓qa,↓yj,↓yk,↓qv,↓qw,↓qx,↓qy,↓qb,↓qz,qc,ww,xn,jv,jw,yl,qd,qe,zj,wx,y7,jx,xp,xq,keq,y8,wy,qf,y9,ym,xr,jy,jz,xt,j0,wz,ja,j1,xu,xv,xw,jb,q5,q6,yn,q7,j2,Option.map_some,yo,qg,q8,q9,qh,ya,xx,yb,yp,yc,xy,w5,xz,x5,w6,jc,x6,Op.operands,Call.operands,yd,qi,w7,AObj.live]
  · have h1 : ¬ c = 0 := by omega
    have h2 : ¬ 4611686018427387903 < c := by omega
    have h3 : ¬ 4611686018427387903 < b := by omega
    have h4 : ¬ 4611686018427387903 < k := by omega
    have h5 : ¬ 4611686018427387903 < t := by omega
    simp -implicitDefEqProofs [R, h, respMay, mxN, h1, h2, h3, h4, h5, intbeq, IntWalk.i64_in,IntWalk.u64_in,IntWalk.u8_in,IntWalk.i32_in,IntWalk.u32_in,ye,zk,zm,qj,qk,qm,qn,zb,zc,zn,zp,zq,qo,zd,ze,zr,zt,zu,j3,x7,zw,zf,za,zx,qp,zy,zg,zz,z6,qq,zh,yf,qr,aop,yq,j4,j5,x8,x9,jd,j6,j7,wb,je,j8,yr,j9,wg,jf,jg,xa,xb,z7,jh,z8,ji,jj,yt,yu,xc,AV.one,wh,wi,aun,jk,xd,yw,afn,xe,Out.ren,xf,xg,jl,wj,xh,wl,jm,Eng.distinct,pos,wn,Eng.ren,wo,xi,wp,jo,wq,yg,xj,ws,wu,jp,frz,yx,yz,wv,List.lookup_cons,jq,zi,jr,js,List.range_succ,jt,xk,ju,xm,↓yh,↓yi,↓qt,↓y6,↓qu,↓qa,↓yj,↓yk,↓qv,↓qw,↓qx,↓qy,↓qb,↓qz,qc,ww,xn,jv,jw,yl,qd,qe,zj,wx,y7,jx,xp,xq,keq,y8,wy,qf,y9,ym,xr,jy,jz,xt,j0,wz,ja,j1,xu,xv,xw,jb,q5,q6,yn,q7,j2,Option.map_some,yo,qg,q8,q9,qh,ya,xx,yb,yp,yc,xy,w5,xz,x5,w6,jc,x6,Op.operands,Call.operands,yd,qi,w7,AObj.live]
end Go.Proofs.YtblejchodicaoaaGreatDoor.Eng

/-
  TIES: what fits; patches and answers that may be, on both sides. Own work.
-/
namespace Go.Proofs.YtblejchodicaoaaGreatDoor.Eng
open Go Go.RowKit
set_option maxRecDepth 100000
set_option linter.unusedSimpArgs false

def V.good (v : V) : Prop := v.ok ∧ v.size ≤ 1099511627776
def PO.good (p : PO) : Prop := p.v.ok ∧ p.v.size ≤ 1099511627776 ∧ p.key.length ≤ 1099511627776
noncomputable def cEText : CtU := ctI 41 (by decide) V.good (fun v => [avV v]) (fun _ => []) (fun v => .ret (.tup [.d (.str (textOf v)), .d (.int .i64 (mayTop v))])) (fun _ => []) full_v inj_v
  fun v hv => mk {} true (octs_ok [cVMay, cText]) (by kernel_rfl) (b_Text (octs [cVMay, cText]) v (octs_here (c := cVMay) ⟨v, hv.2⟩ rfl rfl rfl) ((octs_nx rfl).trans (octs_here (c := cText) ⟨v, hv⟩ rfl rfl rfl)))
noncomputable def cBytes : CtU := ctI 143 (by decide) V.good (fun v => [avV v]) (fun _ => []) (fun v => .ret (.tup [.d (.int .i64 (textOf v).length), .d (.int .i64 (mayTop v))])) (fun _ => []) full_v inj_v
  fun v hv => mk {} true (octs_ok [cEText]) (by kernel_rfl) (b_Bytes (octs [cEText]) v (octs_here (c := cEText) ⟨v, hv⟩ rfl rfl rfl))
noncomputable def cShort : CtU := ctI 112 (by decide) (fun a : V × Int => a.1.good) (fun a => [avV a.1, .d (.int .i64 a.2)]) (fun _ => []) (fun a => .ret (.d (.int .i64 (shortV a.1 a.2)))) (fun _ => []) vd_full vd_inj
  fun a ha => mk {} true (octs_ok [cBytes]) (by kernel_rfl) (b_Short (octs [cBytes]) a.1 a.2 (octs_here (c := cBytes) ⟨a.1, ha⟩ rfl rfl rfl))
noncomputable def cFits : CtU := ctI 80 (by decide) V.good (fun v => [avV v]) (fun _ => []) (fun v => .ret (.d (.int .i64 (fitsV v)))) (fun _ => []) full_v inj_v
  fun v hv => mk {} true (octs_ok [cShort, cDeep]) (by kernel_rfl) (b_Fits (octs [cShort, cDeep]) v (octs_here (c := cShort) ⟨(v, 1024), hv⟩ rfl rfl rfl) ((octs_nx rfl).trans (octs_here (c := cDeep) ⟨v, hv.2⟩ rfl rfl rfl)))

theorem avPO_inj {a b : PO} (h : nA (avPO a) = nA (avPO b)) : a = b := by
  apply nPO_inj
  simp only [avPO, nA, nAs, AV.agg.injEq, List.cons.injEq, AV.d.injEq, and_true] at h
  rw [encPO, encPO, encV_eq, encV_eq]
  simp only [nDs, h]
theorem avPO_full (a : PO) : fA (avPO a) = true := by simp [avPO, fA, fAs, fD, fDe_map fV, fDe_map fM]
noncomputable def cPoMay : CtU := ctI 51 (by decide) (fun a : PO × List PO => a.1.good ∧ a.2.length ≤ 1099511627776) (fun a => [avPO a.1, .d (.rs 8 (a.2.map encPO))]) (fun _ => []) (fun a => .ret (.d (.int .i64 (poMay a.1 a.2)))) (fun _ => [])
  (fun a => by simp [fAs, avPO_full, fA, fLPO])
  (fun a b h _ => by
    obtain ⟨a1, a2⟩ := a
    obtain ⟨b1, b2⟩ := b
    simp only [nAs, List.cons.injEq, and_true] at h
    have e1 : a1 = b1 := avPO_inj h.1
    have e2 : a2 = b2 := nLPO_inj (by simpa only [nA, AV.d.injEq] using h.2)
    rw [e1, e2])
  fun a ha => mk {} true (octs_ok [cBlank, cKeysMay, cFits]) (by kernel_rfl) (b_poMay (octs [cBlank, cKeysMay, cFits]) a.1 a.2 ha.2 (fun v => octs_here (c := cBlank) ⟨v, trivial⟩ rfl rfl rfl)
    ((octs_nx rfl).trans (octs_here (c := cKeysMay) ⟨a.1.key, by have := ha.1.2.2; omega⟩ rfl rfl rfl)) ((octs_nx rfl).trans ((octs_nx rfl).trans (octs_here (c := cFits) ⟨a.1.v, ha.1.1, ha.1.2.1⟩ rfl rfl rfl))))
def POs (l : List PO) : Prop := l.length ≤ 1099511627776 ∧ ∀ o ∈ l, o.good
theorem inj_pos (a b : List PO) (h : nAs [.d (.rs 8 (a.map encPO))] = nAs [.d (.rs 8 (b.map encPO))]) (_ : ([] : List AObj) = []) : a = b := by
  simp only [nAs, nA, List.cons.injEq, AV.d.injEq, and_true] at h
  exact nLPO_inj h
theorem full_pos (a : List PO) : fAs [.d (.rs 8 (a.map encPO))] = true := by simp [fAs, fA, fLPO]
noncomputable def cPatchMay : CtU := ctI 25 (by decide) POs (fun l => [.d (.rs 8 (l.map encPO))]) (fun _ => []) (fun l => .ret (.d (.int .i64 (poMayL [] l)))) (fun _ => []) full_pos inj_pos
  fun l hl => mk { keep := [(26, [0, 6, 7, 8])], outs := [(26, [2])] } true (octs_ok [cPoMay]) (by kernel_rfl) (b_patchMay (octs [cPoMay]) l hl.1 (fun pre o suf hp => octs_here (c := cPoMay) ⟨(o, pre), hl.2 o (by rw [← hp]; simp), by have := hl.1; rw [← hp] at this; simp at this ⊢; omega⟩ rfl rfl rfl))

/-! ### The reference's -/
theorem avV_exact {a b : V} (h : avV a = avV b) : a = b := nav_inj (by rw [h])
noncomputable def cREqualZ : Ctr Tryz.prog GU where
  f := 52
  α := V
  args := fun v => [avV v, zeroAV]
  σ := fun _ => []
  out := fun v => .ret (.d (.bool (blankV v)))
  σ' := fun _ => []
  det := fun a b h _ => by
    have e : a = b := avV_exact (List.cons.inj h).1
    rw [e]
    exact ⟨rfl, rfl⟩
  meets := fun v => mk { keep := [(58, [2, 3, 5]), (122, [2, 3, 6])], outs := [(58, [2, 3, 4]), (122, [4])] } true (none_ok _ _) (by kernel_rfl) (b_rEqualZ none_ v)
abbrev RTextIH (n : Nat) : Prop := ∀ (v : V) (d : Int), v.size < n → v.good → mayV validU v d = 0 → TextM 33 v
def ctRText (n : Nat) (ih : RTextIH n) : CtU :=
  ctI 33 (by decide) (fun v : V => v.size < n ∧ v.good ∧ ∃ d, mayV validU v d = 0) (fun v => [avV v]) (fun _ => []) (fun v => .ret (.d (.str (textV v)))) (fun _ => []) full_v inj_v fun a ha => by
    obtain ⟨d, hd⟩ := ha.2.2
    exact ih a d ha.1 ha.2.1 hd
theorem mRText : ∀ (n : Nat), RTextIH n
  | 0, v, d, h, _, _ => absurd h (Nat.not_lt_zero _)
  | n + 1, v, d, h, hg, hm => by
    obtain ⟨p1, p2, p3, p4, p5⟩ := mayV_parts hm
    obtain ⟨q1, q2, q3⟩ := bare_parts p1
    exact mk { keep := [(122, [1, 7, 8]), (442346, [1, 5, 6])], outs := [(122, [2, 7]), (442346, [2, 5])] } true (octs_ok [cRQuote, cDigits, ctRText n (mRText n)]) (by kernel_rfl)
      (b_rText (octs [cRQuote, cDigits, ctRText n (mRText n)]) v hg.2 q1 q2 q3 (by have := text_len hg.1 hg.2; omega) (fun s hs => octs_here (c := cRQuote) ⟨s, hs⟩ rfl rfl rfl) ((octs_nx rfl).trans (octs_here (c := cDigits) ⟨v.n, V.ok_n hg.1⟩ rfl rfl rfl))
        (fun x hx => (octs_nx rfl).trans ((octs_nx rfl).trans (octs_here (c := ctRText n (mRText n)) ⟨x, by have := V.size_l hx; omega, ⟨V.ok_l hg.1 hx, by have := V.size_l hx; have := hg.2; omega⟩, _, p4 x hx⟩ rfl rfl rfl)))
        (fun m hx => (octs_nx rfl).trans ((octs_nx rfl).trans (octs_here (c := ctRText n (mRText n)) ⟨m.v, by have := V.size_o hx; omega, ⟨V.ok_o hg.1 hx, by have := V.size_o hx; have := hg.2; omega⟩, _, (p5 m hx).1⟩ rfl rfl rfl))))
noncomputable def cRText : CtU := ctI 33 (by decide) (fun v : V => v.good ∧ ∃ d, mayV validU v d = 0) (fun v => [avV v]) (fun _ => []) (fun v => .ret (.d (.str (textV v)))) (fun _ => []) full_v inj_v fun v hv => by
    obtain ⟨d, hd⟩ := hv.2
    exact mRText (v.size + 1) v d (by omega) hv.1 hd
noncomputable def cRFits : CtU := ctI 54 (by decide) V.good (fun v => [avV v]) (fun _ => []) (fun v => .ret (.d (.int .i64 (fitsV v)))) (fun _ => []) full_v inj_v
  fun v hv => mk {} true (octs_ok [cRMay, cRDeep, cRText]) (by kernel_rfl) (b_rFits (octs [cRMay, cRDeep, cRText]) v (octs_here (c := cRMay) ⟨v, hv.2⟩ rfl rfl rfl) ((octs_nx rfl).trans (octs_here (c := cRDeep) ⟨v, hv.2⟩ rfl rfl rfl))
    (fun hm => (octs_nx rfl).trans ((octs_nx rfl).trans (octs_here (c := cRText) ⟨v, hv, 1, hm⟩ rfl rfl rfl))))
noncomputable def cR14May : CtU := ctI 26 (by decide) POs (fun l => [.d (.rs 8 (l.map encPO))]) (fun _ => []) (fun l => .ret (.d (.int .i64 (poMayL [] l)))) (fun _ => []) full_pos inj_pos
  fun l hl => mk { keep := [(26, [0, 3])], outs := [(26, [2])] } true (orElse_ok (octs_ok [cR05May, cRFits]) (orcs_ok [cREqualZ])) (by kernel_rfl) (b_r14May (orElse_ (octs [cR05May, cRFits]) (orcs [cREqualZ])) l hl.1
    (fun v => orElse_r ((octs_nx rfl).trans ((octs_nx rfl).trans rfl)) (orcs_here cREqualZ [] v rfl rfl rfl))
    (fun o ho => orElse_l (octs_here (c := cR05May) ⟨o.key, by have := (hl.2 o ho).2.2; omega⟩ rfl rfl rfl)) (fun o ho => orElse_l ((octs_nx rfl).trans (octs_here (c := cRFits) ⟨o.v, (hl.2 o ho).1, (hl.2 o ho).2.1⟩ rfl rfl rfl))))

/-! ### Pulls and answers -/
def avRq (a : Int × Int) : AV := .agg [.d (.int .u64 a.1), .d (.int .u64 a.2)]
structure Rs where
  c : Int
  b : Int
  k : Int
  t : Int
  l : List PO
def avRs (r : Rs) : AV := .agg [.d (.int .u64 r.c), .d (.int .u64 r.b), .d (.int .u64 r.k), .d (.int .u64 r.t), .d (.rs 8 (r.l.map encPO))]
theorem inj_rq (a b : Int × Int) (h : nAs [avRq a] = nAs [avRq b]) (_ : ([] : List AObj) = []) : a = b := by
  obtain ⟨a1, a2⟩ := a
  obtain ⟨b1, b2⟩ := b
  simp only [avRq, nAs, nA, nD, List.cons.injEq, AV.agg.injEq, AV.d.injEq, D.int.injEq, true_and, and_true] at h
  rw [h.1, h.2]
theorem inj_rs (a b : Rs) (h : nAs [avRs a] = nAs [avRs b]) (_ : ([] : List AObj) = []) : a = b := by
  obtain ⟨a1, a2, a3, a4, a5⟩ := a
  obtain ⟨b1, b2, b3, b4, b5⟩ := b
  simp only [avRs, nAs, nA, List.cons.injEq, AV.agg.injEq, AV.d.injEq, and_true] at h
  obtain ⟨h1, h2, h3, h4, h5⟩ := h
  simp only [nD, D.int.injEq, true_and] at h1 h2 h3 h4
  have e := nLPO_inj h5
  subst h1 h2 h3 h4 e
  rfl
theorem full_rq (a : Int × Int) : fAs [avRq a] = true := rfl
theorem full_rs (a : Rs) : fAs [avRs a] = true := by simp [fAs, avRs, fA, fD, fDe_map fPO]
def Rs.may (r : Rs) : Int := respMay r.c r.b r.k r.t r.l
def cMayRequest : CtU := ctI 8 (by decide) (fun _ : Int × Int => True) (fun a => [avRq a]) (fun _ => []) (fun a => .ret (.d (.int .i64 (if a.1 = 0 ∨ 4611686018427387903 < a.1 ∨ 4611686018427387903 < a.2 then 2 else 0)))) (fun _ => []) full_rq inj_rq
  fun a _ => mk {} true (none_ok _ _) (by kernel_rfl) (b_MayRequest none_ a.1 a.2)
def cRMayRequest : CtU := ctI 9 (by decide) (fun _ : Int × Int => True) (fun a => [avRq a]) (fun _ => []) (fun a => .ret (.d (.int .i64 (if a.1 = 0 ∨ 4611686018427387903 < a.1 ∨ 4611686018427387903 < a.2 then 2 else 0)))) (fun _ => []) full_rq inj_rq
  fun a _ => mk {} true (none_ok _ _) (by kernel_rfl) (b_rMayRequest none_ a.1 a.2)
noncomputable def cMayResponse : CtU := ctI 10 (by decide) (fun r : Rs => POs r.l) (fun r => [avRs r]) (fun _ => []) (fun r => .ret (.d (.int .i64 r.may))) (fun _ => []) full_rs inj_rs
  fun r hr => mk {} true (octs_ok [cPatchMay]) (by kernel_rfl) (b_MayResponse (octs [cPatchMay]) r.c r.b r.k r.t r.l (octs_here (c := cPatchMay) ⟨r.l, hr⟩ rfl rfl rfl))
noncomputable def cRMayResponse : CtU := ctI 11 (by decide) (fun r : Rs => POs r.l) (fun r => [avRs r]) (fun _ => []) (fun r => .ret (.d (.int .i64 r.may))) (fun _ => []) full_rs inj_rs
  fun r hr => mk {} true (octs_ok [cR14May]) (by kernel_rfl) (b_r18MayResponse (octs [cR14May]) r.c r.b r.k r.t r.l (octs_here (c := cR14May) ⟨r.l, hr⟩ rfl rfl rfl))
end Go.Proofs.YtblejchodicaoaaGreatDoor.Eng

/-
  CONTRACTS: slices.Clone of values, of members, of bytes; value.Copy. Own work.
-/
namespace Go.Proofs.YtblejchodicaoaaGreatDoor.Eng
open Go Go.RowKit
set_option maxRecDepth 100000
set_option linter.unusedSimpArgs false
set_option maxHeartbeats 2000000

theorem cloneV_e (w : World) (a : Option Addr) (c : Nat) : Calls Tryz.prog 117 #[.slice a 0 c] w fun e w' => (∃ a d, e = .returned (.slice a 0 d)) ∧ (w' = w ∨ ∃ o, w' = w.alloc o) := by
  go_enter Tryz.func117, Tryz.ntmps117
  go_wp2
  rw [Lib.run_eql_slice_nil w _ _ _ _ _ _ _ Tryz.underlying42]
  cases a
  · go_wp2
    go_ret
    exact ⟨⟨_, _, rfl⟩, Or.inl rfl⟩
  · go_wp2
    go_ret
    exact ⟨⟨_, _, rfl⟩, Or.inr ⟨_, rfl⟩⟩
theorem cloneM_e (w : World) (a : Option Addr) (c : Nat) : Calls Tryz.prog 118 #[.slice a 0 c] w fun e w' => (∃ a d, e = .returned (.slice a 0 d)) ∧ (w' = w ∨ ∃ o, w' = w.alloc o) := by
  go_enter Tryz.func118, Tryz.ntmps118
  go_wp2
  rw [Lib.run_eql_slice_nil w _ _ _ _ _ _ _ Tryz.underlying43]
  cases a
  · go_wp2
    go_ret
    exact ⟨⟨_, _, rfl⟩, Or.inl rfl⟩
  · go_wp2
    go_ret
    exact ⟨⟨_, _, rfl⟩, Or.inr ⟨_, rfl⟩⟩

/-- A contract on an empty slice, nil or not. -/
theorem meets_empty {P : Program} {G : Globs} {f : FuncId} (h : ∀ (w : World) (a : Option Addr) (c : Nat), Calls P f #[.slice a 0 c] w fun e w' => (∃ a d, e = .returned (.slice a 0 d)) ∧ (w' = w ∨ ∃ o, w' = w.alloc o)) (sz sz' : Nat) : Meets P G f [.d (.rs sz [])] [] (.ret (.d (.rs sz' []))) [] := by
  refine meets_of_calls fun pr w β vs I hGG hg => ?_
  simp only [GVl, GV, GD, List.length_nil, true_and] at hg
  obtain ⟨v, r, rfl, hv, rfl⟩ := hg
  have : ∃ a c, v = .slice a 0 c := by
    rcases hv with ⟨a, c, rfl⟩ | ⟨b, off, c, rfl, _⟩
    · exact ⟨a, c, rfl⟩
    · exact ⟨_, c, rfl⟩
  obtain ⟨a, c, rfl⟩ := this
  refine Calls.mono (h w a c) fun e w' he => ?_
  obtain ⟨⟨a', d, rfl⟩, hgr⟩ := he
  have hk : w.heap.size ≤ w'.heap.size ∧ (∀ b, b < w.heap.size → w'.heap[b]? = w.heap[b]?) ∧ w'.os = w.os ∧ w'.tape = w.tape ∧ w'.output = w.output := by
    rcases hgr with rfl | ⟨o, rfl⟩
    · exact ⟨Nat.le_refl _, fun _ _ => rfl, rfl, rfl, rfl⟩
    · exact ⟨by simp, fun b hb => heap_alloc_old w o hb, rfl, rfl, rfl⟩
  refine ⟨hk.1, hk.2.1, hk.2.2.1, hk.2.2.2.1, hk.2.2.2.2, ?_⟩
  simp only [GOut, GV, GD, List.length_nil]
  exact .inl ⟨trivial, a', d, rfl⟩

/-- A slice of one's own, or empty. -/
def clA (sz o n : Nat) : AV := if n = 0 then .d (.rs sz []) else .sl o sz 0 n
def vrow (l : List V) : AObj := .drow (l.map encV) 45 6
def mrow (l : List M) : AObj := .drow (l.map encM) 70 7
theorem b_cloneV (C : Oracle) (l : List V) (h : l ≠ []) (hl : l.length ≤ 1099511627776) :
    abody Tryz.prog [] C (mach Tryz.prog C {}) false 117 [.d (.rs 6 (l.map encV))] [] = some (.ret (.sl 0 6 0 l.length), [vrow l]) := by
  unfold abody
  rw [Tryz.func117]
  simp only [Tryz.f117]
  have h2 : l.length * 88 ≤ 140737488355328 := by omega
  have h3 : l.length ≤ 140737488355328 := by omega
  simp -implicitDefEqProofs [vrow, h, h2, h3, take_map_len, IntWalk.i64_in,IntWalk.u64_in,IntWalk.u8_in,IntWalk.i32_in,IntWalk.u32_in,ye,zk,zm,qj,qk,qm,qn,zb,zc,zn,zp,zq,qo,zd,ze,zr,zt,zu,j3,x7,zw,zf,za,zx,qp,zy,zg,zz,z6,qq,zh,yf,qr,aop,yq,j4,j5,x8,x9,jd,j6,j7,wb,je,j8,yr,j9,wg,jf,jg,xa,xb,z7,jh,z8,ji,jj,yt,yu,xc,AV.one,wh,wi,aun,jk,xd,yw,afn,xe,Out.ren,xf,xg,jl,wj,xh,wl,jm,Eng.distinct,pos,wn,Eng.ren,wo,xi,wp,jo,wq,yg,xj,ws,wu,jp,frz,yx,yz,wv,List.lookup_cons,jq,zi,jr,js,List.range_succ,jt,xk,ju,xm,↓yh,↓yi,↓qt,↓y6,↓qu,↓qa,↓yj,↓yk,↓qv,↓qw,↓qx,↓qy,↓qb,↓qz,qc,ww,xn,jv,jw,yl,qd,qe,zj,wx,y7,jx,xp,xq,keq,y8,wy,qf,y9,ym,xr,jy,jz,xt,j0,wz,ja,j1,xu,xv,xw,jb,q5,q6,yn,q7,j2,Option.map_some,yo,qg,q8,q9,qh,ya,xx,yb,yp,yc,xy,w5,xz,x5,w6,jc,x6,Op.operands,Call.operands,yd,qi,w7,AObj.live]
theorem b_cloneM (C : Oracle) (l : List M) (h : l ≠ []) (hl : l.length ≤ 1099511627776) :
    abody Tryz.prog [] C (mach Tryz.prog C {}) false 118 [.d (.rs 7 (l.map encM))] [] = some (.ret (.sl 0 7 0 l.length), [mrow l]) := by
  unfold abody
  rw [Tryz.func118]
  simp only [Tryz.f118]
  have h2 : l.length * 104 ≤ 140737488355328 := by omega
  have h3 : l.length ≤ 140737488355328 := by omega
  simp -implicitDefEqProofs [mrow, h, h2, h3, take_map_len, IntWalk.i64_in,IntWalk.u64_in,IntWalk.u8_in,IntWalk.i32_in,IntWalk.u32_in,ye,zk,zm,qj,qk,qm,qn,zb,zc,zn,zp,zq,qo,zd,ze,zr,zt,zu,j3,x7,zw,zf,za,zx,qp,zy,zg,zz,z6,qq,zh,yf,qr,aop,yq,j4,j5,x8,x9,jd,j6,j7,wb,je,j8,yr,j9,wg,jf,jg,xa,xb,z7,jh,z8,ji,jj,yt,yu,xc,AV.one,wh,wi,aun,jk,xd,yw,afn,xe,Out.ren,xf,xg,jl,wj,xh,wl,jm,Eng.distinct,pos,wn,Eng.ren,wo,xi,wp,jo,wq,yg,xj,ws,wu,jp,frz,yx,yz,wv,List.lookup_cons,jq,zi,jr,js,List.range_succ,jt,xk,ju,xm,↓yh,↓yi,↓qt,↓y6,↓qu,↓qa,↓yj,↓yk,↓qv,↓qw,↓qx,↓qy,↓qb,↓qz,qc,ww,xn,jv,jw,yl,qd,qe,zj,wx,y7,jx,xp,xq,keq,y8,wy,qf,y9,ym,xr,jy,jz,xt,j0,wz,ja,j1,xu,xv,xw,jb,q5,q6,yn,q7,j2,Option.map_some,yo,qg,q8,q9,qh,ya,xx,yb,yp,yc,xy,w5,xz,x5,w6,jc,x6,Op.operands,Call.operands,yd,qi,w7,AObj.live]
end Go.Proofs.YtblejchodicaoaaGreatDoor.Eng

/-
  CONTRACTS: crc: the table, the halves, More. Own work.
-/
namespace Go.Proofs.YtblejchodicaoaaGreatDoor.Eng
open Go Go.RowKit
set_option maxRecDepth 100000
set_option linter.unusedSimpArgs false
set_option maxHeartbeats 4000000

def stepN (r : Nat) : Nat := if r % 2 = 1 then (r / 2) ^^^ 3988292384 else r / 2
def nibT (i : Nat) : Nat := stepN (stepN (stepN (stepN i)))
def nibN (r h : Nat) : Nat := (r / 16) ^^^ nibT ((r ^^^ h) % 16)
def crcB (r : Nat) (c : UInt8) : Nat := nibN (nibN r (c.toNat % 16)) (c.toNat / 16)
def crcM (sum : Nat) (b : List UInt8) : Nat := 4294967295 ^^^ (b.foldl crcB (4294967295 ^^^ sum))

theorem xor_lt {a b : Nat} (ha : a < 4294967296) (hb : b < 4294967296) : a ^^^ b < 4294967296 := Nat.xor_lt_two_pow (n := 32) ha hb
theorem stepN_lt {r : Nat} (h : r < 4294967296) : stepN r < 4294967296 := by
  unfold stepN
  split
  · exact xor_lt (by omega) (by omega)
  · omega
theorem nibT_lt {i : Nat} (h : i < 16) : nibT i < 4294967296 := by
  unfold nibT
  exact stepN_lt (stepN_lt (stepN_lt (stepN_lt (by omega))))
theorem nibN_lt {r h : Nat} (hr : r < 4294967296) : nibN r h < 4294967296 := xor_lt (by omega) (nibT_lt (by omega))
theorem crcB_lt {r : Nat} (c : UInt8) (h : r < 4294967296) : crcB r c < 4294967296 := nibN_lt (nibN_lt h)
theorem fold_lt : ∀ (b : List UInt8) {r : Nat}, r < 4294967296 → b.foldl crcB r < 4294967296
  | [], _, h => h
  | c :: b, _, h => fold_lt b (crcB_lt c h)
theorem crcM_lt {s : Nat} (b : List UInt8) (h : s < 4294967296) : crcM s b < 4294967296 := xor_lt (by omega) (fold_lt b (xor_lt (by omega) h))

theorem ab32 {op : BinOp} {x y : Nat} (hx : x < 4294967296) (hy : y < 4294967296) :
    abits .xor .u32 (x : Int) (y : Int) = some ((x ^^^ y : Nat) : Int) ∧ abits .and .u32 (x : Int) (y : Int) = some ((x &&& y : Nat) : Int) := by
  have e1 : (BitVec.ofInt 32 (x : Int)).toNat = x := by simp; omega
  have e2 : (BitVec.ofInt 32 (y : Int)).toNat = y := by simp; omega
  have h1 : x ^^^ y < 4294967296 := xor_lt hx hy
  have h2 : x &&& y < 4294967296 := Nat.lt_of_le_of_lt Nat.and_le_left hx
  have f1 : (BitVec.ofInt 32 (x : Int) ^^^ BitVec.ofInt 32 (y : Int)).toNat = x ^^^ y := by rw [BitVec.toNat_xor, e1, e2]
  have f2 : (BitVec.ofInt 32 (x : Int) &&& BitVec.ofInt 32 (y : Int)).toNat = x &&& y := by rw [BitVec.toNat_and, e1, e2]
  constructor
  · show some (IntKind.u32.wrap ((BitVec.ofInt 32 (x : Int) ^^^ BitVec.ofInt 32 (y : Int)).toNat : Nat)) = _
    rw [f1]
    generalize x ^^^ y = z at *
    rw [IntWalk.u32_in (z : Int) (by omega)]
  · show some (IntKind.u32.wrap ((BitVec.ofInt 32 (x : Int) &&& BitVec.ofInt 32 (y : Int)).toNat : Nat)) = _
    rw [f2]
    generalize x &&& y = z at *
    rw [IntWalk.u32_in (z : Int) (by omega)]
theorem ab32_xor {x y : Nat} (hx : x < 4294967296) (hy : y < 4294967296) : abits .xor .u32 (x : Int) (y : Int) = some ((x ^^^ y : Nat) : Int) := (ab32 (op := .xor) hx hy).1
theorem ab32_and15 {x : Nat} (hx : x < 4294967296) : abits .and .u32 (x : Int) 15 = some ((x % 16 : Nat) : Int) := by
  have := (ab32 (op := .xor) (y := 15) hx (by omega)).2
  rw [show x &&& 15 = x % 16 from Nat.and_two_pow_sub_one_eq_mod x 4] at this
  exact this
theorem ab32_and1 {x : Nat} (hx : x < 4294967296) : abits .and .u32 (x : Int) 1 = some ((x % 2 : Nat) : Int) := by
  have := (ab32 (op := .xor) (y := 1) hx (by omega)).2
  rw [show x &&& 1 = x % 2 from Nat.and_two_pow_sub_one_eq_mod x 1] at this
  exact this
theorem sh32 (r k : Nat) (hk : k ≤ 32) : ashift .shr .u32 (r : Int) (k : Int) = some (.int .u32 ((r / 2 ^ k : Nat) : Int)) := by
  have h1 : (0 : Int) ≤ (k : Int) := by omega
  have h2 : min (k : Int).toNat IntKind.u32.bits = k := by simp [IntKind.bits]; omega
  simp only [ashift, h1, if_true, h2]
  rw [Int.fdiv_eq_ediv_of_nonneg _ (by exact_mod_cast Nat.zero_le _)]
  simp

theorem b_table1 (C : Oracle) (r : Nat) (h : r < 4294967296) : abody Tryz.prog [] C (mach Tryz.prog C {}) true 199 [.d (.int .u32 r)] [] = R (.int .u32 (stepN r : Nat)) := by
  have h1 := ab32_and1 h
  have h2 : ashift .shr .u32 (r : Int) 1 = _ := sh32 r 1 (by omega)
  have h3 : abits .xor .u32 ((r / 2 : Nat) : Int) 3988292384 = _ := ab32_xor (x := r / 2) (y := 3988292384) (by omega) (by omega)
  have e2 : r / 2 ^ 1 = r / 2 := by simp
  rw [e2] at h2
  have hs : stepN r = if r % 2 = 1 then (r / 2) ^^^ 3988292384 else r / 2 := rfl
  rw [hs]
  have hm : r % 2 = 0 ∨ r % 2 = 1 := by omega
  generalize r / 2 = q at *
  generalize q ^^^ 3988292384 = z at *
  generalize r % 2 = b at *
  unfold abody
  rw [Tryz.func199]
  simp only [Tryz.f199]
  rcases hm with rfl | rfl
  · simp at h1
    simp -implicitDefEqProofs [R, h1, h2, IntWalk.i64_in,IntWalk.u64_in,IntWalk.u8_in,IntWalk.i32_in,IntWalk.u32_in,ye,zk,zm,qj,qk,qm,qn,zb,zc,zn,zp,zq,qo,zd,ze,zr,zt,zu,j3,x7,zw,zf,za,zx,qp,zy,zg,zz,z6,qq,zh,yf,qr,aop,yq,j4,j5,x8,x9,jd,j6,j7,wb,je,j8,yr,j9,wg,jf,jg,xa,xb,z7,jh,z8,ji,jj,yt,yu,xc,AV.one,wh,wi,aun,jk,xd,yw,afn,xe,Out.ren,xf,xg,jl,wj,xh,wl,jm,Eng.distinct,pos,wn,Eng.ren,wo,xi,wp,jo,wq,yg,xj,ws,wu,jp,frz,yx,yz,wv,List.lookup_cons,jq,zi,jr,js,List.range_succ,jt,xk,ju,xm,↓yh,↓yi,↓qt,↓y6,↓qu,↓qa,↓yj,↓yk,↓qv,↓qw,↓qx,↓qy,↓qb,↓qz,qc,ww,xn,jv,jw,yl,qd,qe,zj,wx,y7,jx,xp,xq,keq,y8,wy,qf,y9,ym,xr,jy,jz,xt,j0,wz,ja,j1,xu,xv,xw,jb,q5,q6,yn,q7,j2,Option.map_some,yo,qg,q8,q9,qh,ya,xx,yb,yp,yc,xy,w5,xz,x5,w6,jc,x6,Op.operands,Call.operands,yd,qi,w7,AObj.live]
  · simp at h1
    simp -implicitDefEqProofs [R, h1, h2, h3, IntWalk.i64_in,IntWalk.u64_in,IntWalk.u8_in,IntWalk.i32_in,IntWalk.u32_in,ye,zk,zm,qj,qk,qm,qn,zb,zc,zn,zp,zq,qo,zd,ze,zr,zt,zu,j3,x7,zw,zf,za,zx,qp,zy,zg,zz,z6,qq,zh,yf,qr,aop,yq,j4,j5,x8,x9,jd,j6,j7,wb,je,j8,yr,j9,wg,jf,jg,xa,xb,z7,jh,z8,ji,jj,yt,yu,xc,AV.one,wh,wi,aun,jk,xd,yw,afn,xe,Out.ren,xf,xg,jl,wj,xh,wl,jm,Eng.distinct,pos,wn,Eng.ren,wo,xi,wp,jo,wq,yg,xj,ws,wu,jp,frz,yx,yz,wv,List.lookup_cons,jq,zi,jr,js,List.range_succ,jt,xk,ju,xm,↓yh,↓yi,↓qt,↓y6,↓qu,↓qa,↓yj,↓yk,↓qv,↓qw,↓qx,↓qy,↓qb,↓qz,qc,ww,xn,jv,jw,yl,qd,qe,zj,wx,y7,jx,xp,xq,keq,y8,wy,qf,y9,ym,xr,jy,jz,xt,j0,wz,ja,j1,xu,xv,xw,jb,q5,q6,yn,q7,j2,Option.map_some,yo,qg,q8,q9,qh,ya,xx,yb,yp,yc,xy,w5,xz,x5,w6,jc,x6,Op.operands,Call.operands,yd,qi,w7,AObj.live]

def crcT : List AV := (List.range 16).map fun i => .d (.int .u32 (nibT i : Nat))
theorem b_table (C : Oracle) (h : ∀ r : Nat, r < 4294967296 → C 199 [.d (.int .u32 r)] [] = R (.int .u32 (stepN r : Nat))) :
    abody Tryz.prog [] C (mach Tryz.prog C { keep := [(122, [0, 1, 2, 4])], outs := [(122, [0, 1])] }) true 169 [] [] = some (.ret (.agg crcT), []) := by
  unfold abody
  rw [Tryz.func169]
  simp only [Tryz.f169]
  simp -implicitDefEqProofs [mach_loop, IntWalk.i64_in,IntWalk.u64_in,IntWalk.u8_in,IntWalk.i32_in,IntWalk.u32_in,ye,zk,zm,qj,qk,qm,qn,zb,zc,zn,zp,zq,qo,zd,ze,zr,zt,zu,j3,x7,zw,zf,za,zx,qp,zy,zg,zz,z6,qq,zh,yf,qr,aop,yq,j4,j5,x8,x9,jd,j6,j7,wb,je,j8,yr,j9,wg,jf,jg,xa,xb,z7,jh,z8,ji,jj,yt,yu,xc,AV.one,wh,wi,aun,jk,xd,yw,afn,xe,Out.ren,xf,xg,jl,wj,xh,wl,jm,Eng.distinct,pos,wn,Eng.ren,wo,xi,wp,jo,wq,yg,xj,ws,wu,jp,frz,yx,yz,wv,List.lookup_cons,jq,zi,jr,js,List.range_succ,jt,xk,ju,xm,↓yh,↓yi,↓qt,↓y6,↓qu,↓qa,↓yj,↓yk,↓qv,↓qw,↓qx,↓qy,↓qb,↓qz,qc,ww,xn,jv,jw,yl,qd,qe,zj,wx,y7,jx,xp,xq,keq,y8,wy,qf,y9,ym,xr,jy,jz,xt,j0,wz,ja,j1,xu,xv,xw,jb,q5,q6,yn,q7,j2,Option.map_some,yo,qg,q8,q9,qh,ya,xx,yb,yp,yc,xy,w5,xz,x5,w6,jc,x6,Op.operands,Call.operands,yd,qi,w7,AObj.live]
  have h' : ∀ z : Int, 0 ≤ z → z < 4294967296 → C 199 [.d (.int .u32 z)] [] = some (.ret (.d (.int .u32 ((stepN z.toNat : Nat) : Int))), []) := by
    intro z h0 h1
    have := h z.toNat (by omega)
    rw [show ((z.toNat : Nat) : Int) = z from by omega] at this
    exact this
  iterate 17 (rw [aloop_round]; simp -implicitDefEqProofs [h', stepN, mach_loop, IntWalk.i64_in,IntWalk.u64_in,IntWalk.u8_in,IntWalk.i32_in,IntWalk.u32_in,ye,zk,zm,qj,qk,qm,qn,zb,zc,zn,zp,zq,qo,zd,ze,zr,zt,zu,j3,x7,zw,zf,za,zx,qp,zy,zg,zz,z6,qq,zh,yf,qr,aop,yq,j4,j5,x8,x9,jd,j6,j7,wb,je,j8,yr,j9,wg,jf,jg,xa,xb,z7,jh,z8,ji,jj,yt,yu,xc,AV.one,wh,wi,aun,jk,xd,yw,afn,xe,Out.ren,xf,xg,jl,wj,xh,wl,jm,Eng.distinct,pos,wn,Eng.ren,wo,xi,wp,jo,wq,yg,xj,ws,wu,jp,frz,yx,yz,wv,List.lookup_cons,jq,zi,jr,js,List.range_succ,jt,xk,ju,xm,↓yh,↓yi,↓qt,↓y6,↓qu,↓qa,↓yj,↓yk,↓qv,↓qw,↓qx,↓qy,↓qb,↓qz,qc,ww,xn,jv,jw,yl,qd,qe,zj,wx,y7,jx,xp,xq,keq,y8,wy,qf,y9,ym,xr,jy,jz,xt,j0,wz,ja,j1,xu,xv,xw,jb,q5,q6,yn,q7,j2,Option.map_some,yo,qg,q8,q9,qh,ya,xx,yb,yp,yc,xy,w5,xz,x5,w6,jc,x6,Op.operands,Call.operands,yd,qi,w7,AObj.live])
  simp -implicitDefEqProofs [crcT, nibT, stepN, IntWalk.i64_in,IntWalk.u64_in,IntWalk.u8_in,IntWalk.i32_in,IntWalk.u32_in,ye,zk,zm,qj,qk,qm,qn,zb,zc,zn,zp,zq,qo,zd,ze,zr,zt,zu,j3,x7,zw,zf,za,zx,qp,zy,zg,zz,z6,qq,zh,yf,qr,aop,yq,j4,j5,x8,x9,jd,j6,j7,wb,je,j8,yr,j9,wg,jf,jg,xa,xb,z7,jh,z8,ji,jj,yt,yu,xc,AV.one,wh,wi,aun,jk,xd,yw,afn,xe,Out.ren,xf,xg,jl,wj,xh,wl,jm,Eng.distinct,pos,wn,Eng.ren,wo,xi,wp,jo,wq,yg,xj,ws,wu,jp,frz,yx,yz,wv,List.lookup_cons,jq,zi,jr,js,List.range_succ,jt,xk,ju,xm,↓yh,↓yi,↓qt,↓y6,↓qu,↓qa,↓yj,↓yk,↓qv,↓qw,↓qx,↓qy,↓qb,↓qz,qc,ww,xn,jv,jw,yl,qd,qe,zj,wx,y7,jx,xp,xq,keq,y8,wy,qf,y9,ym,xr,jy,jz,xt,j0,wz,ja,j1,xu,xv,xw,jb,q5,q6,yn,q7,j2,Option.map_some,yo,qg,q8,q9,qh,ya,xx,yb,yp,yc,xy,w5,xz,x5,w6,jc,x6,Op.operands,Call.operands,yd,qi,w7,AObj.live]
end Go.Proofs.YtblejchodicaoaaGreatDoor.Eng

/-
  CONTRACTS: value.Copy. Own work.
-/
namespace Go.Proofs.YtblejchodicaoaaGreatDoor.Eng
open Go Go.RowKit
set_option maxRecDepth 100000
set_option linter.unusedSimpArgs false
set_option maxHeartbeats 4000000

/-- A copy: its lists are one's own. -/
def cpA (v : V) : AV := .agg [.d (.int .i64 v.k), .d (.bool v.b), .d (.int .i64 v.n), .d (.str v.t), clA 6 0 v.l.length, clA 7 (if v.l = [] then 0 else 1) v.o.length]
def cpS (v : V) : List AObj := (if v.l = [] then [] else [vrow v.l]) ++ (if v.o = [] then [] else [mrow v.o])

def cpBox (v : V) (_ a : Nat) : List AObj := [.box [.d (.int .i64 v.k), .d (.bool v.b), .d (.int .i64 v.n), .d (.str v.t), clA 6 a v.l.length, clA 7 (if v.l = [] then a else a + 1) v.o.length] 45]
def cpZ : AObj := .box [.d (.int .i64 0), .d (.bool false), .d (.int .i64 0), .d (.str []), .d .nils, .d .nils] 45
/-- The same, as what a loop ends in. -/
def cpBox' (v : V) (i a : Nat) : List AObj := cpBox v i a
def cpZ' : AObj := cpZ
def vrow' (l : List V) : AObj := vrow l
def mrow' (l : List M) : AObj := mrow l
theorem b_Copy (C : Oracle) (v : V) (hsz : v.size ≤ 1099511627776)
    (h1 : ∀ l : List V, l.length ≤ 1099511627776 → C 117 [.d (.rs 6 (l.map encV))] [] = some (.ret (clA 6 0 l.length), if l = [] then [] else [vrow l]))
    (h2 : ∀ l : List M, l.length ≤ 1099511627776 → C 118 [.d (.rs 7 (l.map encM))] [] = some (.ret (clA 7 0 l.length), if l = [] then [] else [mrow l]))
    (h3 : ∀ x ∈ v.l, C 84 [avV x] [] = some (.ret (cpA x), cpS x)) (h4 : ∀ m ∈ v.o, C 84 [avV m.v] [] = some (.ret (cpA m.v), cpS m.v)) :
    abody Tryz.prog [] C (mach Tryz.prog C { keep := [(58, [1, 2, 15, 16]), (122, [1, 2, 32, 33])], wins := [(6, [[], [], [], [], [0]]), (3737, [[], [9]]), (7833, [[], [10]])], outs := [(58, [1, 2]), (122, [1, 2])] }) false 84 [avV v] [] = some (.ret (cpA v), cpS v) := by
  have hl1 := V.l_len v
  have ho1 := V.o_len v
  have g1 := h1 v.l (by omega)
  have g2 := h2 v.o (by omega)
  unfold abody
  rw [Tryz.func84]
  simp only [Tryz.f84]
  rcases Decidable.em (v.l = []) with el | el <;> rcases Decidable.em (v.o = []) with eo | eo <;> (
    simp [clA, el, eo] at g1 g2
    simp -implicitDefEqProofs [avV, vrow, mrow, clA, el, eo, g1, g2, mach_draw, mach_loop, IntWalk.i64_in,IntWalk.u64_in,IntWalk.u8_in,IntWalk.i32_in,IntWalk.u32_in,ye,zk,zm,qj,qk,qm,qn,zb,zc,zn,zp,zq,qo,zd,ze,zr,zt,zu,j3,x7,zw,zf,za,zx,qp,zy,zg,zz,z6,qq,zh,yf,qr,aop,yq,j4,j5,x8,x9,jd,j6,j7,wb,je,j8,yr,j9,wg,jf,jg,xa,xb,z7,jh,z8,ji,jj,yt,yu,xc,AV.one,wh,wi,aun,jk,xd,yw,afn,xe,Out.ren,xf,xg,jl,wj,xh,wl,jm,Eng.distinct,pos,wn,Eng.ren,wo,xi,wp,jo,wq,yg,xj,ws,wu,jp,frz,yx,yz,wv,List.lookup_cons,jq,zi,jr,js,List.range_succ,jt,xk,ju,xm,↓yh,↓yi,↓qt,↓y6,↓qu,↓qa,↓yj,↓yk,↓qv,↓qw,↓qx,↓qy,↓qb,↓qz,qc,ww,xn,jv,jw,yl,qd,qe,zj,wx,y7,jx,xp,xq,keq,y8,wy,qf,y9,ym,xr,jy,jz,xt,j0,wz,ja,j1,xu,xv,xw,jb,q5,q6,yn,q7,j2,Option.map_some,yo,qg,q8,q9,qh,ya,xx,yb,yp,yc,xy,w5,xz,x5,w6,jc,x6,Op.operands,Call.operands,yd,qi,w7,AObj.live]
    rw [aloop_list (l := v.l)
      (S := fun pre suf => { env := [(1, .ptr 0 0), (2, .ptr (1 + (if v.l = [] then 0 else 1) + (if v.o = [] then 0 else 1)) 0), (15, .d (.int .i64 ((pre ++ suf).length : Nat))), (16, .d (.int .i64 (pre.length : Nat)))], σ := cpBox v 0 1 ++ (if v.l = [] then [] else [vrow (pre ++ suf)]) ++ (if v.o = [] then [] else [mrow v.o]) ++ [cpZ], dfs := [] })
      (R := fun pre suf => some (.exit 0, { env := [(1, .ptr 0 0), (2, .ptr (1 + (if v.l = [] then 0 else 1) + (if v.o = [] then 0 else 1)) 0)], σ := cpBox' v 0 1 ++ (if v.l = [] then [] else [vrow' (pre ++ suf)]) ++ (if v.o = [] then [] else [mrow' v.o]) ++ [cpZ'], dfs := [] }))
      (hs := ?_) (h0 := ?_) (h1 := ?_)]
    rotate_left
    · simp -implicitDefEqProofs [cpBox, cpZ, vrow, mrow, clA, el, eo, IntWalk.i64_in,IntWalk.u64_in,IntWalk.u8_in,IntWalk.i32_in,IntWalk.u32_in,ye,zk,zm,qj,qk,qm,qn,zb,zc,zn,zp,zq,qo,zd,ze,zr,zt,zu,j3,x7,zw,zf,za,zx,qp,zy,zg,zz,z6,qq,zh,yf,qr,aop,yq,j4,j5,x8,x9,jd,j6,j7,wb,je,j8,yr,j9,wg,jf,jg,xa,xb,z7,jh,z8,ji,jj,yt,yu,xc,AV.one,wh,wi,aun,jk,xd,yw,afn,xe,Out.ren,xf,xg,jl,wj,xh,wl,jm,Eng.distinct,pos,wn,Eng.ren,wo,xi,wp,jo,wq,yg,xj,ws,wu,jp,frz,yx,yz,wv,List.lookup_cons,jq,zi,jr,js,List.range_succ,jt,xk,ju,xm,↓yh,↓yi,↓qt,↓y6,↓qu,↓qa,↓yj,↓yk,↓qv,↓qw,↓qx,↓qy,↓qb,↓qz,qc,ww,xn,jv,jw,yl,qd,qe,zj,wx,y7,jx,xp,xq,keq,y8,wy,qf,y9,ym,xr,jy,jz,xt,j0,wz,ja,j1,xu,xv,xw,jb,q5,q6,yn,q7,j2,Option.map_some,yo,qg,q8,q9,qh,ya,xx,yb,yp,yc,xy,w5,xz,x5,w6,jc,x6,Op.operands,Call.operands,yd,qi,w7,AObj.live]
    · intro pre hp
      simp -implicitDefEqProofs [cpBox, cpZ, cpBox', cpZ', vrow', mrow', vrow, mrow, clA, el, eo, mach_loop, IntWalk.i64_in,IntWalk.u64_in,IntWalk.u8_in,IntWalk.i32_in,IntWalk.u32_in,ye,zk,zm,qj,qk,qm,qn,zb,zc,zn,zp,zq,qo,zd,ze,zr,zt,zu,j3,x7,zw,zf,za,zx,qp,zy,zg,zz,z6,qq,zh,yf,qr,aop,yq,j4,j5,x8,x9,jd,j6,j7,wb,je,j8,yr,j9,wg,jf,jg,xa,xb,z7,jh,z8,ji,jj,yt,yu,xc,AV.one,wh,wi,aun,jk,xd,yw,afn,xe,Out.ren,xf,xg,jl,wj,xh,wl,jm,Eng.distinct,pos,wn,Eng.ren,wo,xi,wp,jo,wq,yg,xj,ws,wu,jp,frz,yx,yz,wv,List.lookup_cons,jq,zi,jr,js,List.range_succ,jt,xk,ju,xm,↓yh,↓yi,↓qt,↓y6,↓qu,↓qa,↓yj,↓yk,↓qv,↓qw,↓qx,↓qy,↓qb,↓qz,qc,ww,xn,jv,jw,yl,qd,qe,zj,wx,y7,jx,xp,xq,keq,y8,wy,qf,y9,ym,xr,jy,jz,xt,j0,wz,ja,j1,xu,xv,xw,jb,q5,q6,yn,q7,j2,Option.map_some,yo,qg,q8,q9,qh,ya,xx,yb,yp,yc,xy,w5,xz,x5,w6,jc,x6,Op.operands,Call.operands,yd,qi,w7,AObj.live]
    · intro pre x suf hp ih
      try (exfalso; rw [el] at hp; simp at hp; done)
      all_goals (
        have hx := h3 x (by rw [← hp]; simp)
        have hll : pre.length < v.l.length := by rw [← hp]; simp
        have hw2 : IntKind.i64.wrap ((pre.length : Nat) + 1) = (pre.length : Nat) + 1 := wrap64 (by omega) (by omega)
        have hlen2 : v.l.length = pre.length + (suf.length + 1) := by rw [← hp]; simp
        rcases Decidable.em (x.l = []) with xl | xl <;> rcases Decidable.em (x.o = []) with xo | xo <;> (
          simp [cpA, cpS, avV, vrow, mrow, clA, xl, xo] at hx
          simp -implicitDefEqProofs [cpBox, cpZ, vrow, mrow, clA, el, eo, hlen2, xl, xo, hx, hw2, encV_eq x, mid_lt, pos1, take_map_len, mach_draw, mach_loop, IntWalk.i64_in,IntWalk.u64_in,IntWalk.u8_in,IntWalk.i32_in,IntWalk.u32_in,ye,zk,zm,qj,qk,qm,qn,zb,zc,zn,zp,zq,qo,zd,ze,zr,zt,zu,j3,x7,zw,zf,za,zx,qp,zy,zg,zz,z6,qq,zh,yf,qr,aop,yq,j4,j5,x8,x9,jd,j6,j7,wb,je,j8,yr,j9,wg,jf,jg,xa,xb,z7,jh,z8,ji,jj,yt,yu,xc,AV.one,wh,wi,aun,jk,xd,yw,afn,xe,Out.ren,xf,xg,jl,wj,xh,wl,jm,Eng.distinct,pos,wn,Eng.ren,wo,xi,wp,jo,wq,yg,xj,ws,wu,jp,frz,yx,yz,wv,List.lookup_cons,jq,zi,jr,js,List.range_succ,jt,xk,ju,xm,↓yh,↓yi,↓qt,↓y6,↓qu,↓qa,↓yj,↓yk,↓qv,↓qw,↓qx,↓qy,↓qb,↓qz,qc,ww,xn,jv,jw,yl,qd,qe,zj,wx,y7,jx,xp,xq,keq,y8,wy,qf,y9,ym,xr,jy,jz,xt,j0,wz,ja,j1,xu,xv,xw,jb,q5,q6,yn,q7,j2,Option.map_some,yo,qg,q8,q9,qh,ya,xx,yb,yp,yc,xy,w5,xz,x5,w6,jc,x6,Op.operands,Call.operands,yd,qi,w7,AObj.live]
          rw [ih _ (by simp -implicitDefEqProofs [cpBox, cpZ, vrow, mrow, clA, el, eo, hlen2, xl, xo, encV_eq x, IntWalk.i64_in,IntWalk.u64_in,IntWalk.u8_in,IntWalk.i32_in,IntWalk.u32_in,ye,zk,zm,qj,qk,qm,qn,zb,zc,zn,zp,zq,qo,zd,ze,zr,zt,zu,j3,x7,zw,zf,za,zx,qp,zy,zg,zz,z6,qq,zh,yf,qr,aop,yq,j4,j5,x8,x9,jd,j6,j7,wb,je,j8,yr,j9,wg,jf,jg,xa,xb,z7,jh,z8,ji,jj,yt,yu,xc,AV.one,wh,wi,aun,jk,xd,yw,afn,xe,Out.ren,xf,xg,jl,wj,xh,wl,jm,Eng.distinct,pos,wn,Eng.ren,wo,xi,wp,jo,wq,yg,xj,ws,wu,jp,frz,yx,yz,wv,List.lookup_cons,jq,zi,jr,js,List.range_succ,jt,xk,ju,xm,↓yh,↓yi,↓qt,↓y6,↓qu,↓qa,↓yj,↓yk,↓qv,↓qw,↓qx,↓qy,↓qb,↓qz,qc,ww,xn,jv,jw,yl,qd,qe,zj,wx,y7,jx,xp,xq,keq,y8,wy,qf,y9,ym,xr,jy,jz,xt,j0,wz,ja,j1,xu,xv,xw,jb,q5,q6,yn,q7,j2,Option.map_some,yo,qg,q8,q9,qh,ya,xx,yb,yp,yc,xy,w5,xz,x5,w6,jc,x6,Op.operands,Call.operands,yd,qi,w7,AObj.live])]
          simp [el, eo]))
    simp -implicitDefEqProofs [cpBox', cpZ', vrow', mrow', cpBox, cpZ, vrow, mrow, clA, el, eo, mach_loop, IntWalk.i64_in,IntWalk.u64_in,IntWalk.u8_in,IntWalk.i32_in,IntWalk.u32_in,ye,zk,zm,qj,qk,qm,qn,zb,zc,zn,zp,zq,qo,zd,ze,zr,zt,zu,j3,x7,zw,zf,za,zx,qp,zy,zg,zz,z6,qq,zh,yf,qr,aop,yq,j4,j5,x8,x9,jd,j6,j7,wb,je,j8,yr,j9,wg,jf,jg,xa,xb,z7,jh,z8,ji,jj,yt,yu,xc,AV.one,wh,wi,aun,jk,xd,yw,afn,xe,Out.ren,xf,xg,jl,wj,xh,wl,jm,Eng.distinct,pos,wn,Eng.ren,wo,xi,wp,jo,wq,yg,xj,ws,wu,jp,frz,yx,yz,wv,List.lookup_cons,jq,zi,jr,js,List.range_succ,jt,xk,ju,xm,↓yh,↓yi,↓qt,↓y6,↓qu,↓qa,↓yj,↓yk,↓qv,↓qw,↓qx,↓qy,↓qb,↓qz,qc,ww,xn,jv,jw,yl,qd,qe,zj,wx,y7,jx,xp,xq,keq,y8,wy,qf,y9,ym,xr,jy,jz,xt,j0,wz,ja,j1,xu,xv,xw,jb,q5,q6,yn,q7,j2,Option.map_some,yo,qg,q8,q9,qh,ya,xx,yb,yp,yc,xy,w5,xz,x5,w6,jc,x6,Op.operands,Call.operands,yd,qi,w7,AObj.live]
    rw [aloop_list (l := v.o)
      (S := fun pre suf => { env := [(1, .ptr 0 0), (2, .ptr (1 + (if v.l = [] then 0 else 1) + (if v.o = [] then 0 else 1)) 0), (32, .d (.int .i64 ((pre ++ suf).length : Nat))), (33, .d (.int .i64 (pre.length : Nat)))], σ := cpBox v 0 1 ++ (if v.l = [] then [] else [vrow v.l]) ++ (if v.o = [] then [] else [mrow (pre ++ suf)]) ++ [cpZ], dfs := [] })
      (R := fun pre suf => some (.exit 2, { env := [(1, .ptr 0 0), (2, .ptr (1 + (if v.l = [] then 0 else 1) + (if v.o = [] then 0 else 1)) 0)], σ := cpBox' v 0 1 ++ (if v.l = [] then [] else [vrow' v.l]) ++ (if v.o = [] then [] else [mrow' (pre ++ suf)]) ++ [cpZ'], dfs := [] }))
      (hs := ?_) (h0 := ?_) (h1 := ?_)]
    rotate_left
    · simp -implicitDefEqProofs [cpBox, cpZ, vrow, mrow, clA, el, eo, IntWalk.i64_in,IntWalk.u64_in,IntWalk.u8_in,IntWalk.i32_in,IntWalk.u32_in,ye,zk,zm,qj,qk,qm,qn,zb,zc,zn,zp,zq,qo,zd,ze,zr,zt,zu,j3,x7,zw,zf,za,zx,qp,zy,zg,zz,z6,qq,zh,yf,qr,aop,yq,j4,j5,x8,x9,jd,j6,j7,wb,je,j8,yr,j9,wg,jf,jg,xa,xb,z7,jh,z8,ji,jj,yt,yu,xc,AV.one,wh,wi,aun,jk,xd,yw,afn,xe,Out.ren,xf,xg,jl,wj,xh,wl,jm,Eng.distinct,pos,wn,Eng.ren,wo,xi,wp,jo,wq,yg,xj,ws,wu,jp,frz,yx,yz,wv,List.lookup_cons,jq,zi,jr,js,List.range_succ,jt,xk,ju,xm,↓yh,↓yi,↓qt,↓y6,↓qu,↓qa,↓yj,↓yk,↓qv,↓qw,↓qx,↓qy,↓qb,↓qz,qc,ww,xn,jv,jw,yl,qd,qe,zj,wx,y7,jx,xp,xq,keq,y8,wy,qf,y9,ym,xr,jy,jz,xt,j0,wz,ja,j1,xu,xv,xw,jb,q5,q6,yn,q7,j2,Option.map_some,yo,qg,q8,q9,qh,ya,xx,yb,yp,yc,xy,w5,xz,x5,w6,jc,x6,Op.operands,Call.operands,yd,qi,w7,AObj.live]
    · intro pre hp
      simp -implicitDefEqProofs [cpBox, cpZ, cpBox', cpZ', vrow', mrow', vrow, mrow, clA, el, eo, mach_loop, IntWalk.i64_in,IntWalk.u64_in,IntWalk.u8_in,IntWalk.i32_in,IntWalk.u32_in,ye,zk,zm,qj,qk,qm,qn,zb,zc,zn,zp,zq,qo,zd,ze,zr,zt,zu,j3,x7,zw,zf,za,zx,qp,zy,zg,zz,z6,qq,zh,yf,qr,aop,yq,j4,j5,x8,x9,jd,j6,j7,wb,je,j8,yr,j9,wg,jf,jg,xa,xb,z7,jh,z8,ji,jj,yt,yu,xc,AV.one,wh,wi,aun,jk,xd,yw,afn,xe,Out.ren,xf,xg,jl,wj,xh,wl,jm,Eng.distinct,pos,wn,Eng.ren,wo,xi,wp,jo,wq,yg,xj,ws,wu,jp,frz,yx,yz,wv,List.lookup_cons,jq,zi,jr,js,List.range_succ,jt,xk,ju,xm,↓yh,↓yi,↓qt,↓y6,↓qu,↓qa,↓yj,↓yk,↓qv,↓qw,↓qx,↓qy,↓qb,↓qz,qc,ww,xn,jv,jw,yl,qd,qe,zj,wx,y7,jx,xp,xq,keq,y8,wy,qf,y9,ym,xr,jy,jz,xt,j0,wz,ja,j1,xu,xv,xw,jb,q5,q6,yn,q7,j2,Option.map_some,yo,qg,q8,q9,qh,ya,xx,yb,yp,yc,xy,w5,xz,x5,w6,jc,x6,Op.operands,Call.operands,yd,qi,w7,AObj.live]
    · intro pre m suf hp ih
      try (exfalso; rw [eo] at hp; simp at hp; done)
      all_goals (
        have hx := h4 m (by rw [← hp]; simp)
        have hll : pre.length < v.o.length := by rw [← hp]; simp
        have hw2 : IntKind.i64.wrap ((pre.length : Nat) + 1) = (pre.length : Nat) + 1 := wrap64 (by omega) (by omega)
        have hlen2 : v.o.length = pre.length + (suf.length + 1) := by rw [← hp]; simp
        rcases Decidable.em (m.v.l = []) with xl | xl <;> rcases Decidable.em (m.v.o = []) with xo | xo <;> (
          simp [cpA, cpS, avV, vrow, mrow, clA, xl, xo] at hx
          simp -implicitDefEqProofs [cpBox, cpZ, vrow, mrow, clA, el, eo, hlen2, xl, xo, hx, hw2, encM_eq m, encV_eq m.v, mid_lt, pos1, take_map_len, mach_draw, mach_loop, IntWalk.i64_in,IntWalk.u64_in,IntWalk.u8_in,IntWalk.i32_in,IntWalk.u32_in,ye,zk,zm,qj,qk,qm,qn,zb,zc,zn,zp,zq,qo,zd,ze,zr,zt,zu,j3,x7,zw,zf,za,zx,qp,zy,zg,zz,z6,qq,zh,yf,qr,aop,yq,j4,j5,x8,x9,jd,j6,j7,wb,je,j8,yr,j9,wg,jf,jg,xa,xb,z7,jh,z8,ji,jj,yt,yu,xc,AV.one,wh,wi,aun,jk,xd,yw,afn,xe,Out.ren,xf,xg,jl,wj,xh,wl,jm,Eng.distinct,pos,wn,Eng.ren,wo,xi,wp,jo,wq,yg,xj,ws,wu,jp,frz,yx,yz,wv,List.lookup_cons,jq,zi,jr,js,List.range_succ,jt,xk,ju,xm,↓yh,↓yi,↓qt,↓y6,↓qu,↓qa,↓yj,↓yk,↓qv,↓qw,↓qx,↓qy,↓qb,↓qz,qc,ww,xn,jv,jw,yl,qd,qe,zj,wx,y7,jx,xp,xq,keq,y8,wy,qf,y9,ym,xr,jy,jz,xt,j0,wz,ja,j1,xu,xv,xw,jb,q5,q6,yn,q7,j2,Option.map_some,yo,qg,q8,q9,qh,ya,xx,yb,yp,yc,xy,w5,xz,x5,w6,jc,x6,Op.operands,Call.operands,yd,qi,w7,AObj.live]
          rw [ih _ (by simp -implicitDefEqProofs [cpBox, cpZ, vrow, mrow, clA, el, eo, hlen2, xl, xo, encM_eq m, encV_eq m.v, IntWalk.i64_in,IntWalk.u64_in,IntWalk.u8_in,IntWalk.i32_in,IntWalk.u32_in,ye,zk,zm,qj,qk,qm,qn,zb,zc,zn,zp,zq,qo,zd,ze,zr,zt,zu,j3,x7,zw,zf,za,zx,qp,zy,zg,zz,z6,qq,zh,yf,qr,aop,yq,j4,j5,x8,x9,jd,j6,j7,wb,je,j8,yr,j9,wg,jf,jg,xa,xb,z7,jh,z8,ji,jj,yt,yu,xc,AV.one,wh,wi,aun,jk,xd,yw,afn,xe,Out.ren,xf,xg,jl,wj,xh,wl,jm,Eng.distinct,pos,wn,Eng.ren,wo,xi,wp,jo,wq,yg,xj,ws,wu,jp,frz,yx,yz,wv,List.lookup_cons,jq,zi,jr,js,List.range_succ,jt,xk,ju,xm,↓yh,↓yi,↓qt,↓y6,↓qu,↓qa,↓yj,↓yk,↓qv,↓qw,↓qx,↓qy,↓qb,↓qz,qc,ww,xn,jv,jw,yl,qd,qe,zj,wx,y7,jx,xp,xq,keq,y8,wy,qf,y9,ym,xr,jy,jz,xt,j0,wz,ja,j1,xu,xv,xw,jb,q5,q6,yn,q7,j2,Option.map_some,yo,qg,q8,q9,qh,ya,xx,yb,yp,yc,xy,w5,xz,x5,w6,jc,x6,Op.operands,Call.operands,yd,qi,w7,AObj.live])]
          simp [el, eo]))
    simp -implicitDefEqProofs [cpA, cpS, cpBox', cpZ', vrow', mrow', cpBox, cpZ, vrow, mrow, clA, el, eo, mach_loop, IntWalk.i64_in,IntWalk.u64_in,IntWalk.u8_in,IntWalk.i32_in,IntWalk.u32_in,ye,zk,zm,qj,qk,qm,qn,zb,zc,zn,zp,zq,qo,zd,ze,zr,zt,zu,j3,x7,zw,zf,za,zx,qp,zy,zg,zz,z6,qq,zh,yf,qr,aop,yq,j4,j5,x8,x9,jd,j6,j7,wb,je,j8,yr,j9,wg,jf,jg,xa,xb,z7,jh,z8,ji,jj,yt,yu,xc,AV.one,wh,wi,aun,jk,xd,yw,afn,xe,Out.ren,xf,xg,jl,wj,xh,wl,jm,Eng.distinct,pos,wn,Eng.ren,wo,xi,wp,jo,wq,yg,xj,ws,wu,jp,frz,yx,yz,wv,List.lookup_cons,jq,zi,jr,js,List.range_succ,jt,xk,ju,xm,↓yh,↓yi,↓qt,↓y6,↓qu,↓qa,↓yj,↓yk,↓qv,↓qw,↓qx,↓qy,↓qb,↓qz,qc,ww,xn,jv,jw,yl,qd,qe,zj,wx,y7,jx,xp,xq,keq,y8,wy,qf,y9,ym,xr,jy,jz,xt,j0,wz,ja,j1,xu,xv,xw,jb,q5,q6,yn,q7,j2,Option.map_some,yo,qg,q8,q9,qh,ya,xx,yb,yp,yc,xy,w5,xz,x5,w6,jc,x6,Op.operands,Call.operands,yd,qi,w7,AObj.live])
end Go.Proofs.YtblejchodicaoaaGreatDoor.Eng

/-
  CONTRACTS: cmp.Compare of texts; sorting members that stand sorted; value.Object of such. Own work.
-/
namespace Go.Proofs.YtblejchodicaoaaGreatDoor.Eng
open Go Go.RowKit
set_option maxRecDepth 100000
set_option linter.unusedSimpArgs false
set_option maxHeartbeats 4000000

def cmpT (a b : List UInt8) : Int := if Op.bytesLess a b = true then -1 else if (Op.bytesLess a b || a == b) = true then 0 else 1
theorem b_isNaN (C : Oracle) (s : List UInt8) : abody Tryz.prog [] C (mach Tryz.prog C {}) true 120 [.d (.str s)] [] = R (.bool false) := by
  unfold abody
  rw [Tryz.func120]
  simp only [Tryz.f120]
  simp -implicitDefEqProofs [R, IntWalk.i64_in,IntWalk.u64_in,IntWalk.u8_in,IntWalk.i32_in,IntWalk.u32_in,ye,zk,zm,qj,qk,qm,qn,zb,zc,zn,zp,zq,qo,zd,ze,zr,zt,zu,j3,x7,zw,zf,za,zx,qp,zy,zg,zz,z6,qq,zh,yf,qr,aop,yq,j4,j5,x8,x9,jd,j6,j7,wb,je,j8,yr,j9,wg,jf,jg,xa,xb,z7,jh,z8,ji,jj,yt,yu,xc,AV.one,wh,wi,aun,jk,xd,yw,afn,xe,Out.ren,xf,xg,jl,wj,xh,wl,jm,Eng.distinct,pos,wn,Eng.ren,wo,xi,wp,jo,wq,yg,xj,ws,wu,jp,frz,yx,yz,wv,List.lookup_cons,jq,zi,jr,js,List.range_succ,jt,xk,ju,xm,↓yh,↓yi,↓qt,↓y6,↓qu,↓qa,↓yj,↓yk,↓qv,↓qw,↓qx,↓qy,↓qb,↓qz,qc,ww,xn,jv,jw,yl,qd,qe,zj,wx,y7,jx,xp,xq,keq,y8,wy,qf,y9,ym,xr,jy,jz,xt,j0,wz,ja,j1,xu,xv,xw,jb,q5,q6,yn,q7,j2,Option.map_some,yo,qg,q8,q9,qh,ya,xx,yb,yp,yc,xy,w5,xz,x5,w6,jc,x6,Op.operands,Call.operands,yd,qi,w7,AObj.live]
theorem b_cmpCompare (C : Oracle) (a b : List UInt8) (h : ∀ s, C 120 [.d (.str s)] [] = R (.bool false)) : abody Tryz.prog [] C (mach Tryz.prog C {}) true 88 [.d (.str a), .d (.str b)] [] = R (.int .i64 (cmpT a b)) := by
  simp only [R] at h
  unfold abody
  rw [Tryz.func88]
  simp only [Tryz.f88]
  by_cases h1 : Op.bytesLess a b = true
  · simp -implicitDefEqProofs [R, cmpT, h, h1, IntWalk.i64_in,IntWalk.u64_in,IntWalk.u8_in,IntWalk.i32_in,IntWalk.u32_in,ye,zk,zm,qj,qk,qm,qn,zb,zc,zn,zp,zq,qo,zd,ze,zr,zt,zu,j3,x7,zw,zf,za,zx,qp,zy,zg,zz,z6,qq,zh,yf,qr,aop,yq,j4,j5,x8,x9,jd,j6,j7,wb,je,j8,yr,j9,wg,jf,jg,xa,xb,z7,jh,z8,ji,jj,yt,yu,xc,AV.one,wh,wi,aun,jk,xd,yw,afn,xe,Out.ren,xf,xg,jl,wj,xh,wl,jm,Eng.distinct,pos,wn,Eng.ren,wo,xi,wp,jo,wq,yg,xj,ws,wu,jp,frz,yx,yz,wv,List.lookup_cons,jq,zi,jr,js,List.range_succ,jt,xk,ju,xm,↓yh,↓yi,↓qt,↓y6,↓qu,↓qa,↓yj,↓yk,↓qv,↓qw,↓qx,↓qy,↓qb,↓qz,qc,ww,xn,jv,jw,yl,qd,qe,zj,wx,y7,jx,xp,xq,keq,y8,wy,qf,y9,ym,xr,jy,jz,xt,j0,wz,ja,j1,xu,xv,xw,jb,q5,q6,yn,q7,j2,Option.map_some,yo,qg,q8,q9,qh,ya,xx,yb,yp,yc,xy,w5,xz,x5,w6,jc,x6,Op.operands,Call.operands,yd,qi,w7,AObj.live]
  · by_cases h2 : (a == b) = true
    · simp -implicitDefEqProofs [R, cmpT, h, h1, h2, IntWalk.i64_in,IntWalk.u64_in,IntWalk.u8_in,IntWalk.i32_in,IntWalk.u32_in,ye,zk,zm,qj,qk,qm,qn,zb,zc,zn,zp,zq,qo,zd,ze,zr,zt,zu,j3,x7,zw,zf,za,zx,qp,zy,zg,zz,z6,qq,zh,yf,qr,aop,yq,j4,j5,x8,x9,jd,j6,j7,wb,je,j8,yr,j9,wg,jf,jg,xa,xb,z7,jh,z8,ji,jj,yt,yu,xc,AV.one,wh,wi,aun,jk,xd,yw,afn,xe,Out.ren,xf,xg,jl,wj,xh,wl,jm,Eng.distinct,pos,wn,Eng.ren,wo,xi,wp,jo,wq,yg,xj,ws,wu,jp,frz,yx,yz,wv,List.lookup_cons,jq,zi,jr,js,List.range_succ,jt,xk,ju,xm,↓yh,↓yi,↓qt,↓y6,↓qu,↓qa,↓yj,↓yk,↓qv,↓qw,↓qx,↓qy,↓qb,↓qz,qc,ww,xn,jv,jw,yl,qd,qe,zj,wx,y7,jx,xp,xq,keq,y8,wy,qf,y9,ym,xr,jy,jz,xt,j0,wz,ja,j1,xu,xv,xw,jb,q5,q6,yn,q7,j2,Option.map_some,yo,qg,q8,q9,qh,ya,xx,yb,yp,yc,xy,w5,xz,x5,w6,jc,x6,Op.operands,Call.operands,yd,qi,w7,AObj.live]
    · simp -implicitDefEqProofs [R, cmpT, h, h1, h2, IntWalk.i64_in,IntWalk.u64_in,IntWalk.u8_in,IntWalk.i32_in,IntWalk.u32_in,ye,zk,zm,qj,qk,qm,qn,zb,zc,zn,zp,zq,qo,zd,ze,zr,zt,zu,j3,x7,zw,zf,za,zx,qp,zy,zg,zz,z6,qq,zh,yf,qr,aop,yq,j4,j5,x8,x9,jd,j6,j7,wb,je,j8,yr,j9,wg,jf,jg,xa,xb,z7,jh,z8,ji,jj,yt,yu,xc,AV.one,wh,wi,aun,jk,xd,yw,afn,xe,Out.ren,xf,xg,jl,wj,xh,wl,jm,Eng.distinct,pos,wn,Eng.ren,wo,xi,wp,jo,wq,yg,xj,ws,wu,jp,frz,yx,yz,wv,List.lookup_cons,jq,zi,jr,js,List.range_succ,jt,xk,ju,xm,↓yh,↓yi,↓qt,↓y6,↓qu,↓qa,↓yj,↓yk,↓qv,↓qw,↓qx,↓qy,↓qb,↓qz,qc,ww,xn,jv,jw,yl,qd,qe,zj,wx,y7,jx,xp,xq,keq,y8,wy,qf,y9,ym,xr,jy,jz,xt,j0,wz,ja,j1,xu,xv,xw,jb,q5,q6,yn,q7,j2,Option.map_some,yo,qg,q8,q9,qh,ya,xx,yb,yp,yc,xy,w5,xz,x5,w6,jc,x6,Op.operands,Call.operands,yd,qi,w7,AObj.live]
def amM (m : M) : AV := .agg [.d (.str m.key), .d (.int .i64 m.v.k), .d (.bool m.v.b), .d (.int .i64 m.v.n), .d (.str m.v.t), .d (.rs 6 (m.v.l.map encV)), .d (.rs 7 (m.v.o.map encM))]
theorem b_Object1 (C : Oracle) (a b : M) (h : ∀ s t, C 88 [.d (.str s), .d (.str t)] [] = R (.int .i64 (cmpT s t))) : abody Tryz.prog [] C (mach Tryz.prog C {}) true 87 [amM a, amM b] [] = R (.int .i64 (cmpT a.key b.key)) := by
  simp only [R] at h
  unfold abody
  rw [Tryz.func87]
  simp only [Tryz.f87]
  simp -implicitDefEqProofs [R, amM, h, IntWalk.i64_in,IntWalk.u64_in,IntWalk.u8_in,IntWalk.i32_in,IntWalk.u32_in,ye,zk,zm,qj,qk,qm,qn,zb,zc,zn,zp,zq,qo,zd,ze,zr,zt,zu,j3,x7,zw,zf,za,zx,qp,zy,zg,zz,z6,qq,zh,yf,qr,aop,yq,j4,j5,x8,x9,jd,j6,j7,wb,je,j8,yr,j9,wg,jf,jg,xa,xb,z7,jh,z8,ji,jj,yt,yu,xc,AV.one,wh,wi,aun,jk,xd,yw,afn,xe,Out.ren,xf,xg,jl,wj,xh,wl,jm,Eng.distinct,pos,wn,Eng.ren,wo,xi,wp,jo,wq,yg,xj,ws,wu,jp,frz,yx,yz,wv,List.lookup_cons,jq,zi,jr,js,List.range_succ,jt,xk,ju,xm,↓yh,↓yi,↓qt,↓y6,↓qu,↓qa,↓yj,↓yk,↓qv,↓qw,↓qx,↓qy,↓qb,↓qz,qc,ww,xn,jv,jw,yl,qd,qe,zj,wx,y7,jx,xp,xq,keq,y8,wy,qf,y9,ym,xr,jy,jz,xt,j0,wz,ja,j1,xu,xv,xw,jb,q5,q6,yn,q7,j2,Option.map_some,yo,qg,q8,q9,qh,ya,xx,yb,yp,yc,xy,w5,xz,x5,w6,jc,x6,Op.operands,Call.operands,yd,qi,w7,AObj.live]

/-- No member stands behind a greater one. -/
def sortedM : List M → Prop
  | [] => True
  | [_] => True
  | a :: b :: r => 0 ≤ cmpT b.key a.key ∧ sortedM (b :: r)
theorem sortedM_mid : ∀ (pre : List M) (a b : M) (suf : List M), sortedM (pre ++ a :: b :: suf) → 0 ≤ cmpT b.key a.key
  | [], a, b, suf, h => h.1
  | [x], a, b, suf, h => sortedM_mid [] a b suf h.2
  | x :: y :: r, a, b, suf, h => sortedM_mid (y :: r) a b suf h.2

theorem b_insertion (C : Oracle) (l : List M) (hl : l.length ≤ 1099511627776) (hs : sortedM l) (h : ∀ a b, C 87 [amM a, amM b] [] = R (.int .i64 (cmpT a.key b.key))) :
    abody Tryz.prog [] C (mach Tryz.prog C { keep := [(6, [0, 1, 2, 3, 8]), (402, [0, 1, 2, 3, 8, 9])], outs := [(6, []), (402, [0, 1, 2, 3, 8])] }) false 146 [.sl 0 7 0 l.length, .d (.int .i64 0), .d (.int .i64 l.length), .d (.fn (.func 87) [] [])] [mrow l] = some (.ret (.tup []), [mrow' l]) := by
  simp only [R, amM] at h
  unfold abody
  rw [Tryz.func146]
  simp only [Tryz.f146]
  simp -implicitDefEqProofs [mrow, mach_loop, IntWalk.i64_in,IntWalk.u64_in,IntWalk.u8_in,IntWalk.i32_in,IntWalk.u32_in,ye,zk,zm,qj,qk,qm,qn,zb,zc,zn,zp,zq,qo,zd,ze,zr,zt,zu,j3,x7,zw,zf,za,zx,qp,zy,zg,zz,z6,qq,zh,yf,qr,aop,yq,j4,j5,x8,x9,jd,j6,j7,wb,je,j8,yr,j9,wg,jf,jg,xa,xb,z7,jh,z8,ji,jj,yt,yu,xc,AV.one,wh,wi,aun,jk,xd,yw,afn,xe,Out.ren,xf,xg,jl,wj,xh,wl,jm,Eng.distinct,pos,wn,Eng.ren,wo,xi,wp,jo,wq,yg,xj,ws,wu,jp,frz,yx,yz,wv,List.lookup_cons,jq,zi,jr,js,List.range_succ,jt,xk,ju,xm,↓yh,↓yi,↓qt,↓y6,↓qu,↓qa,↓yj,↓yk,↓qv,↓qw,↓qx,↓qy,↓qb,↓qz,qc,ww,xn,jv,jw,yl,qd,qe,zj,wx,y7,jx,xp,xq,keq,y8,wy,qf,y9,ym,xr,jy,jz,xt,j0,wz,ja,j1,xu,xv,xw,jb,q5,q6,yn,q7,j2,Option.map_some,yo,qg,q8,q9,qh,ya,xx,yb,yp,yc,xy,w5,xz,x5,w6,jc,x6,Op.operands,Call.operands,yd,qi,w7,AObj.live]
  rw [aloop_meas (α := Nat) (S := fun i => { env := [(0, .sl 0 7 0 l.length), (1, .d (.int .i64 0)), (2, .d (.int .i64 l.length)), (3, .d (.fn (.func 87) [] [])), (8, .d (.int .i64 i))], σ := [mrow l], dfs := [] })
    (R := fun i => some (.exit 0, { env := [], σ := [mrow' l], dfs := [] }))
    (P := fun i => 1 ≤ i ∧ i ≤ l.length + 1) (m := fun i => l.length + 1 - i) ?_ 1 _ ⟨by omega, by omega⟩ ?_]
  rotate_left
  · rintro i ⟨hi1, hi2⟩ ih
    by_cases he : i < l.length
    · have he' : (i : Int) < l.length := by omega
      obtain ⟨pre, a, b, suf, hp, hpl⟩ : ∃ pre a b suf, l = pre ++ a :: b :: suf ∧ pre.length + 1 = i := by
        refine ⟨l.take (i - 1), l[i - 1], l[i], l.drop (i + 1), ?_, by simp; omega⟩
        have e1 : l.drop (i - 1) = l[i - 1] :: l.drop i := by
          have := List.drop_eq_getElem_cons (l := l) (i := i - 1) (by omega)
          rwa [show i - 1 + 1 = i from by omega] at this
        rw [← List.drop_eq_getElem_cons, ← e1, List.take_append_drop]
      have hc := sortedM_mid pre a b suf (hp ▸ hs)
      have hc' : ¬ cmpT b.key a.key < 0 := by omega
      subst hpl
      have hi0 : (0 : Int) < (pre.length : Nat) + 1 := by omega
      have hw1 : IntKind.i64.wrap (((pre.length : Nat) : Int) + 1 - 1) = (pre.length : Nat) := by rw [wrap64 (by omega) (by omega)]; omega
      have hw2 : IntKind.i64.wrap (((pre.length : Nat) : Int) + 1 + 1) = (pre.length : Nat) + 1 + 1 := wrap64 (by omega) (by omega)
      have h1 := h b a
      have hw0 : IntKind.i64.wrap ((pre.length : Nat) : Int) = (pre.length : Nat) := wrap64 (by omega) (by omega)
      have hlt0 : ((pre.length : Nat) : Int) < (pre.length : Nat) + ((suf.length : Nat) + 1 + 1) := by omega
      have hlen : l.length = pre.length + (suf.length + 1 + 1) := by rw [hp]; simp
      have he2 : ((pre.length : Nat) : Int) + 1 < (pre.length : Nat) + ((suf.length : Nat) + 1 + 1) := by omega
      rw [hp] at ih ⊢
      simp -implicitDefEqProofs [mrow, he2, mach_loop, IntWalk.i64_in,IntWalk.u64_in,IntWalk.u8_in,IntWalk.i32_in,IntWalk.u32_in,ye,zk,zm,qj,qk,qm,qn,zb,zc,zn,zp,zq,qo,zd,ze,zr,zt,zu,j3,x7,zw,zf,za,zx,qp,zy,zg,zz,z6,qq,zh,yf,qr,aop,yq,j4,j5,x8,x9,jd,j6,j7,wb,je,j8,yr,j9,wg,jf,jg,xa,xb,z7,jh,z8,ji,jj,yt,yu,xc,AV.one,wh,wi,aun,jk,xd,yw,afn,xe,Out.ren,xf,xg,jl,wj,xh,wl,jm,Eng.distinct,pos,wn,Eng.ren,wo,xi,wp,jo,wq,yg,xj,ws,wu,jp,frz,yx,yz,wv,List.lookup_cons,jq,zi,jr,js,List.range_succ,jt,xk,ju,xm,↓yh,↓yi,↓qt,↓y6,↓qu,↓qa,↓yj,↓yk,↓qv,↓qw,↓qx,↓qy,↓qb,↓qz,qc,ww,xn,jv,jw,yl,qd,qe,zj,wx,y7,jx,xp,xq,keq,y8,wy,qf,y9,ym,xr,jy,jz,xt,j0,wz,ja,j1,xu,xv,xw,jb,q5,q6,yn,q7,j2,Option.map_some,yo,qg,q8,q9,qh,ya,xx,yb,yp,yc,xy,w5,xz,x5,w6,jc,x6,Op.operands,Call.operands,yd,qi,w7,AObj.live]
      rw [aloop_round]
      simp -implicitDefEqProofs [hi0, hw0, hlt0, hw1, hw2, encM_eq a, encM_eq b, encV_eq a.v, encV_eq b.v, h1, hc', hp, mach_draw, mach_loop, ar1, ar2, ar3, ar4, mid_lt, pos1, IntWalk.i64_in,IntWalk.u64_in,IntWalk.u8_in,IntWalk.i32_in,IntWalk.u32_in,ye,zk,zm,qj,qk,qm,qn,zb,zc,zn,zp,zq,qo,zd,ze,zr,zt,zu,j3,x7,zw,zf,za,zx,qp,zy,zg,zz,z6,qq,zh,yf,qr,aop,yq,j4,j5,x8,x9,jd,j6,j7,wb,je,j8,yr,j9,wg,jf,jg,xa,xb,z7,jh,z8,ji,jj,yt,yu,xc,AV.one,wh,wi,aun,jk,xd,yw,afn,xe,Out.ren,xf,xg,jl,wj,xh,wl,jm,Eng.distinct,pos,wn,Eng.ren,wo,xi,wp,jo,wq,yg,xj,ws,wu,jp,frz,yx,yz,wv,List.lookup_cons,jq,zi,jr,js,List.range_succ,jt,xk,ju,xm,↓yh,↓yi,↓qt,↓y6,↓qu,↓qa,↓yj,↓yk,↓qv,↓qw,↓qx,↓qy,↓qb,↓qz,qc,ww,xn,jv,jw,yl,qd,qe,zj,wx,y7,jx,xp,xq,keq,y8,wy,qf,y9,ym,xr,jy,jz,xt,j0,wz,ja,j1,xu,xv,xw,jb,q5,q6,yn,q7,j2,Option.map_some,yo,qg,q8,q9,qh,ya,xx,yb,yp,yc,xy,w5,xz,x5,w6,jc,x6,Op.operands,Call.operands,yd,qi,w7,AObj.live]
      rw [ih (pre.length + 1 + 1) _ ⟨by omega, by rw [hp] at he; simp at he ⊢ <;> omega⟩ (by simp; omega) (by simp -implicitDefEqProofs [mrow, encM_eq a, encM_eq b, encV_eq a.v, encV_eq b.v, IntWalk.i64_in,IntWalk.u64_in,IntWalk.u8_in,IntWalk.i32_in,IntWalk.u32_in,ye,zk,zm,qj,qk,qm,qn,zb,zc,zn,zp,zq,qo,zd,ze,zr,zt,zu,j3,x7,zw,zf,za,zx,qp,zy,zg,zz,z6,qq,zh,yf,qr,aop,yq,j4,j5,x8,x9,jd,j6,j7,wb,je,j8,yr,j9,wg,jf,jg,xa,xb,z7,jh,z8,ji,jj,yt,yu,xc,AV.one,wh,wi,aun,jk,xd,yw,afn,xe,Out.ren,xf,xg,jl,wj,xh,wl,jm,Eng.distinct,pos,wn,Eng.ren,wo,xi,wp,jo,wq,yg,xj,ws,wu,jp,frz,yx,yz,wv,List.lookup_cons,jq,zi,jr,js,List.range_succ,jt,xk,ju,xm,↓yh,↓yi,↓qt,↓y6,↓qu,↓qa,↓yj,↓yk,↓qv,↓qw,↓qx,↓qy,↓qb,↓qz,qc,ww,xn,jv,jw,yl,qd,qe,zj,wx,y7,jx,xp,xq,keq,y8,wy,qf,y9,ym,xr,jy,jz,xt,j0,wz,ja,j1,xu,xv,xw,jb,q5,q6,yn,q7,j2,Option.map_some,yo,qg,q8,q9,qh,ya,xx,yb,yp,yc,xy,w5,xz,x5,w6,jc,x6,Op.operands,Call.operands,yd,qi,w7,AObj.live])]
    · have he' : ¬ (i : Int) < l.length := by omega
      simp -implicitDefEqProofs [mrow, mrow', he', mach_loop, IntWalk.i64_in,IntWalk.u64_in,IntWalk.u8_in,IntWalk.i32_in,IntWalk.u32_in,ye,zk,zm,qj,qk,qm,qn,zb,zc,zn,zp,zq,qo,zd,ze,zr,zt,zu,j3,x7,zw,zf,za,zx,qp,zy,zg,zz,z6,qq,zh,yf,qr,aop,yq,j4,j5,x8,x9,jd,j6,j7,wb,je,j8,yr,j9,wg,jf,jg,xa,xb,z7,jh,z8,ji,jj,yt,yu,xc,AV.one,wh,wi,aun,jk,xd,yw,afn,xe,Out.ren,xf,xg,jl,wj,xh,wl,jm,Eng.distinct,pos,wn,Eng.ren,wo,xi,wp,jo,wq,yg,xj,ws,wu,jp,frz,yx,yz,wv,List.lookup_cons,jq,zi,jr,js,List.range_succ,jt,xk,ju,xm,↓yh,↓yi,↓qt,↓y6,↓qu,↓qa,↓yj,↓yk,↓qv,↓qw,↓qx,↓qy,↓qb,↓qz,qc,ww,xn,jv,jw,yl,qd,qe,zj,wx,y7,jx,xp,xq,keq,y8,wy,qf,y9,ym,xr,jy,jz,xt,j0,wz,ja,j1,xu,xv,xw,jb,q5,q6,yn,q7,j2,Option.map_some,yo,qg,q8,q9,qh,ya,xx,yb,yp,yc,xy,w5,xz,x5,w6,jc,x6,Op.operands,Call.operands,yd,qi,w7,AObj.live]
  · simp -implicitDefEqProofs [mrow, IntWalk.i64_in,IntWalk.u64_in,IntWalk.u8_in,IntWalk.i32_in,IntWalk.u32_in,ye,zk,zm,qj,qk,qm,qn,zb,zc,zn,zp,zq,qo,zd,ze,zr,zt,zu,j3,x7,zw,zf,za,zx,qp,zy,zg,zz,z6,qq,zh,yf,qr,aop,yq,j4,j5,x8,x9,jd,j6,j7,wb,je,j8,yr,j9,wg,jf,jg,xa,xb,z7,jh,z8,ji,jj,yt,yu,xc,AV.one,wh,wi,aun,jk,xd,yw,afn,xe,Out.ren,xf,xg,jl,wj,xh,wl,jm,Eng.distinct,pos,wn,Eng.ren,wo,xi,wp,jo,wq,yg,xj,ws,wu,jp,frz,yx,yz,wv,List.lookup_cons,jq,zi,jr,js,List.range_succ,jt,xk,ju,xm,↓yh,↓yi,↓qt,↓y6,↓qu,↓qa,↓yj,↓yk,↓qv,↓qw,↓qx,↓qy,↓qb,↓qz,qc,ww,xn,jv,jw,yl,qd,qe,zj,wx,y7,jx,xp,xq,keq,y8,wy,qf,y9,ym,xr,jy,jz,xt,j0,wz,ja,j1,xu,xv,xw,jb,q5,q6,yn,q7,j2,Option.map_some,yo,qg,q8,q9,qh,ya,xx,yb,yp,yc,xy,w5,xz,x5,w6,jc,x6,Op.operands,Call.operands,yd,qi,w7,AObj.live]
  simp -implicitDefEqProofs [mrow, mrow', mach_loop, IntWalk.i64_in,IntWalk.u64_in,IntWalk.u8_in,IntWalk.i32_in,IntWalk.u32_in,ye,zk,zm,qj,qk,qm,qn,zb,zc,zn,zp,zq,qo,zd,ze,zr,zt,zu,j3,x7,zw,zf,za,zx,qp,zy,zg,zz,z6,qq,zh,yf,qr,aop,yq,j4,j5,x8,x9,jd,j6,j7,wb,je,j8,yr,j9,wg,jf,jg,xa,xb,z7,jh,z8,ji,jj,yt,yu,xc,AV.one,wh,wi,aun,jk,xd,yw,afn,xe,Out.ren,xf,xg,jl,wj,xh,wl,jm,Eng.distinct,pos,wn,Eng.ren,wo,xi,wp,jo,wq,yg,xj,ws,wu,jp,frz,yx,yz,wv,List.lookup_cons,jq,zi,jr,js,List.range_succ,jt,xk,ju,xm,↓yh,↓yi,↓qt,↓y6,↓qu,↓qa,↓yj,↓yk,↓qv,↓qw,↓qx,↓qy,↓qb,↓qz,qc,ww,xn,jv,jw,yl,qd,qe,zj,wx,y7,jx,xp,xq,keq,y8,wy,qf,y9,ym,xr,jy,jz,xt,j0,wz,ja,j1,xu,xv,xw,jb,q5,q6,yn,q7,j2,Option.map_some,yo,qg,q8,q9,qh,ya,xx,yb,yp,yc,xy,w5,xz,x5,w6,jc,x6,Op.operands,Call.operands,yd,qi,w7,AObj.live]

theorem b_stable (C : Oracle) (l : List M) (hl : l.length < 20)
    (h : C 146 [.sl 0 7 0 l.length, .d (.int .i64 0), .d (.int .i64 l.length), .d (.fn (.func 87) [] [])] [mrow l] = some (.ret (.tup []), [mrow' l])) :
    abody Tryz.prog [] C (mach Tryz.prog C { keep := [(28, [0, 1, 2, 6, 7, 8]), (62, [0, 1, 2, 6]), (3988, [0, 1, 2, 6, 7, 8])], outs := [(28, [0, 1, 2, 6, 7]), (62, []), (3988, [0, 1, 2, 6, 7])] }) false 119 [.sl 0 7 0 l.length, .d (.int .i64 l.length), .d (.fn (.func 87) [] [])] [mrow l] = some (.ret (.tup []), [mrow' l]) := by
  have h1 : ¬ (20 : Int) ≤ l.length := by omega
  have h2 : ¬ (20 : Int) < l.length := by omega
  simp only [mrow, mrow'] at h
  unfold abody
  rw [Tryz.func119]
  simp only [Tryz.f119]
  simp -implicitDefEqProofs [mrow, mach_loop, IntWalk.i64_in,IntWalk.u64_in,IntWalk.u8_in,IntWalk.i32_in,IntWalk.u32_in,ye,zk,zm,qj,qk,qm,qn,zb,zc,zn,zp,zq,qo,zd,ze,zr,zt,zu,j3,x7,zw,zf,za,zx,qp,zy,zg,zz,z6,qq,zh,yf,qr,aop,yq,j4,j5,x8,x9,jd,j6,j7,wb,je,j8,yr,j9,wg,jf,jg,xa,xb,z7,jh,z8,ji,jj,yt,yu,xc,AV.one,wh,wi,aun,jk,xd,yw,afn,xe,Out.ren,xf,xg,jl,wj,xh,wl,jm,Eng.distinct,pos,wn,Eng.ren,wo,xi,wp,jo,wq,yg,xj,ws,wu,jp,frz,yx,yz,wv,List.lookup_cons,jq,zi,jr,js,List.range_succ,jt,xk,ju,xm,↓yh,↓yi,↓qt,↓y6,↓qu,↓qa,↓yj,↓yk,↓qv,↓qw,↓qx,↓qy,↓qb,↓qz,qc,ww,xn,jv,jw,yl,qd,qe,zj,wx,y7,jx,xp,xq,keq,y8,wy,qf,y9,ym,xr,jy,jz,xt,j0,wz,ja,j1,xu,xv,xw,jb,q5,q6,yn,q7,j2,Option.map_some,yo,qg,q8,q9,qh,ya,xx,yb,yp,yc,xy,w5,xz,x5,w6,jc,x6,Op.operands,Call.operands,yd,qi,w7,AObj.live]
  rw [aloop_round]
  simp -implicitDefEqProofs [h1, h2, h, mach_loop, IntWalk.i64_in,IntWalk.u64_in,IntWalk.u8_in,IntWalk.i32_in,IntWalk.u32_in,ye,zk,zm,qj,qk,qm,qn,zb,zc,zn,zp,zq,qo,zd,ze,zr,zt,zu,j3,x7,zw,zf,za,zx,qp,zy,zg,zz,z6,qq,zh,yf,qr,aop,yq,j4,j5,x8,x9,jd,j6,j7,wb,je,j8,yr,j9,wg,jf,jg,xa,xb,z7,jh,z8,ji,jj,yt,yu,xc,AV.one,wh,wi,aun,jk,xd,yw,afn,xe,Out.ren,xf,xg,jl,wj,xh,wl,jm,Eng.distinct,pos,wn,Eng.ren,wo,xi,wp,jo,wq,yg,xj,ws,wu,jp,frz,yx,yz,wv,List.lookup_cons,jq,zi,jr,js,List.range_succ,jt,xk,ju,xm,↓yh,↓yi,↓qt,↓y6,↓qu,↓qa,↓yj,↓yk,↓qv,↓qw,↓qx,↓qy,↓qb,↓qz,qc,ww,xn,jv,jw,yl,qd,qe,zj,wx,y7,jx,xp,xq,keq,y8,wy,qf,y9,ym,xr,jy,jz,xt,j0,wz,ja,j1,xu,xv,xw,jb,q5,q6,yn,q7,j2,Option.map_some,yo,qg,q8,q9,qh,ya,xx,yb,yp,yc,xy,w5,xz,x5,w6,jc,x6,Op.operands,Call.operands,yd,qi,w7,AObj.live]
  rw [aloop_round]
  simp -implicitDefEqProofs [mrow, mrow', h1, h2, h, mach_loop, IntWalk.i64_in,IntWalk.u64_in,IntWalk.u8_in,IntWalk.i32_in,IntWalk.u32_in,ye,zk,zm,qj,qk,qm,qn,zb,zc,zn,zp,zq,qo,zd,ze,zr,zt,zu,j3,x7,zw,zf,za,zx,qp,zy,zg,zz,z6,qq,zh,yf,qr,aop,yq,j4,j5,x8,x9,jd,j6,j7,wb,je,j8,yr,j9,wg,jf,jg,xa,xb,z7,jh,z8,ji,jj,yt,yu,xc,AV.one,wh,wi,aun,jk,xd,yw,afn,xe,Out.ren,xf,xg,jl,wj,xh,wl,jm,Eng.distinct,pos,wn,Eng.ren,wo,xi,wp,jo,wq,yg,xj,ws,wu,jp,frz,yx,yz,wv,List.lookup_cons,jq,zi,jr,js,List.range_succ,jt,xk,ju,xm,↓yh,↓yi,↓qt,↓y6,↓qu,↓qa,↓yj,↓yk,↓qv,↓qw,↓qx,↓qy,↓qb,↓qz,qc,ww,xn,jv,jw,yl,qd,qe,zj,wx,y7,jx,xp,xq,keq,y8,wy,qf,y9,ym,xr,jy,jz,xt,j0,wz,ja,j1,xu,xv,xw,jb,q5,q6,yn,q7,j2,Option.map_some,yo,qg,q8,q9,qh,ya,xx,yb,yp,yc,xy,w5,xz,x5,w6,jc,x6,Op.operands,Call.operands,yd,qi,w7,AObj.live]
theorem b_SortStable (C : Oracle) (l : List M)
    (h : C 119 [.sl 0 7 0 l.length, .d (.int .i64 l.length), .d (.fn (.func 87) [] [])] [mrow l] = some (.ret (.tup []), [mrow' l])) :
    abody Tryz.prog [] C (mach Tryz.prog C {}) false 86 [.sl 0 7 0 l.length, .d (.fn (.func 87) [] [])] [mrow l] = some (.ret (.tup []), [mrow' l]) := by
  simp only [mrow, mrow'] at h
  unfold abody
  rw [Tryz.func86]
  simp only [Tryz.f86]
  simp -implicitDefEqProofs [mrow, mrow', h, IntWalk.i64_in,IntWalk.u64_in,IntWalk.u8_in,IntWalk.i32_in,IntWalk.u32_in,ye,zk,zm,qj,qk,qm,qn,zb,zc,zn,zp,zq,qo,zd,ze,zr,zt,zu,j3,x7,zw,zf,za,zx,qp,zy,zg,zz,z6,qq,zh,yf,qr,aop,yq,j4,j5,x8,x9,jd,j6,j7,wb,je,j8,yr,j9,wg,jf,jg,xa,xb,z7,jh,z8,ji,jj,yt,yu,xc,AV.one,wh,wi,aun,jk,xd,yw,afn,xe,Out.ren,xf,xg,jl,wj,xh,wl,jm,Eng.distinct,pos,wn,Eng.ren,wo,xi,wp,jo,wq,yg,xj,ws,wu,jp,frz,yx,yz,wv,List.lookup_cons,jq,zi,jr,js,List.range_succ,jt,xk,ju,xm,↓yh,↓yi,↓qt,↓y6,↓qu,↓qa,↓yj,↓yk,↓qv,↓qw,↓qx,↓qy,↓qb,↓qz,qc,ww,xn,jv,jw,yl,qd,qe,zj,wx,y7,jx,xp,xq,keq,y8,wy,qf,y9,ym,xr,jy,jz,xt,j0,wz,ja,j1,xu,xv,xw,jb,q5,q6,yn,q7,j2,Option.map_some,yo,qg,q8,q9,qh,ya,xx,yb,yp,yc,xy,w5,xz,x5,w6,jc,x6,Op.operands,Call.operands,yd,qi,w7,AObj.live]
end Go.Proofs.YtblejchodicaoaaGreatDoor.Eng

/-
  CONTRACTS: value.Object of members that stand sorted; patch.text, object, List; pull.member. Own work.
-/
namespace Go.Proofs.YtblejchodicaoaaGreatDoor.Eng
open Go Go.RowKit
set_option maxRecDepth 100000
set_option linter.unusedSimpArgs false
set_option maxHeartbeats 4000000

def tV (s : List UInt8) : V := .mk 4 false 0 s [] []
def iV (n : Int) : V := .mk 3 false n [] [] []
def oV (l : List M) : V := .mk 6 false 0 [] [] l
def lV (l : List V) : V := .mk 5 false 0 [] l []
/-- Each member stands behind a lesser one. -/
def strictM : List M → Prop
  | [] => True
  | [_] => True
  | a :: b :: r => (0 ≤ cmpT b.key a.key ∧ (b.key == a.key) = false) ∧ strictM (b :: r)
theorem strictM_mid : ∀ (pre : List M) (a b : M) (suf : List M), strictM (pre ++ a :: b :: suf) → (b.key == a.key) = false
  | [], _, _, _, h => h.1.2
  | [_], a, b, suf, h => strictM_mid [] a b suf h.2
  | _ :: y :: r, a, b, suf, h => strictM_mid (y :: r) a b suf h.2
theorem strictM_sorted : ∀ l : List M, strictM l → sortedM l
  | [], _ => trivial
  | [_], _ => trivial
  | a :: b :: r, h => ⟨h.1.1, strictM_sorted (b :: r) h.2⟩

/-- An agg of cells as literals have them: what is not named is nil. -/
def oA (l : D) : AV := .agg [.d (.int .i64 6), .d (.bool false), .d (.int .i64 0), .d (.str []), .d .nils, .d l]

theorem b_Object (C : Oracle) (l : List M) (hne : l ≠ []) (hl : l.length < 20) (hs : strictM l)
    (h1 : C 84 [.agg [.d (.int .i64 0), .d (.bool false), .d (.int .i64 0), .d (.str []), .d .nils, .d (.rs 7 (l.map encM))]] [] = some (.ret (cpA (.mk 0 false 0 [] [] l)), cpS (.mk 0 false 0 [] [] l)))
    (h2 : C 86 [.sl 0 7 0 l.length, .d (.fn (.func 87) [] [])] [mrow l] = some (.ret (.tup []), [mrow' l])) :
    abody Tryz.prog [] C (mach Tryz.prog C { keep := [(122, [0, 2, 4])], outs := [(122, [0, 2, 3])] }) true 56 [.d (.rs 7 (l.map encM))] [] = some (.ret (.tup [oA (.rs 7 (l.map encM)), .d (.int .i64 0)]), []) := by
  simp only [mrow, mrow'] at h2
  simp [cpA, cpS, V.l, V.o, V.k, V.b, V.n, V.t, clA, mrow, hne] at h1
  unfold abody
  rw [Tryz.func56]
  simp only [Tryz.f56]
  simp -implicitDefEqProofs [h1, h2, mach_loop, IntWalk.i64_in,IntWalk.u64_in,IntWalk.u8_in,IntWalk.i32_in,IntWalk.u32_in,ye,zk,zm,qj,qk,qm,qn,zb,zc,zn,zp,zq,qo,zd,ze,zr,zt,zu,j3,x7,zw,zf,za,zx,qp,zy,zg,zz,z6,qq,zh,yf,qr,aop,yq,j4,j5,x8,x9,jd,j6,j7,wb,je,j8,yr,j9,wg,jf,jg,xa,xb,z7,jh,z8,ji,jj,yt,yu,xc,AV.one,wh,wi,aun,jk,xd,yw,afn,xe,Out.ren,xf,xg,jl,wj,xh,wl,jm,Eng.distinct,pos,wn,Eng.ren,wo,xi,wp,jo,wq,yg,xj,ws,wu,jp,frz,yx,yz,wv,List.lookup_cons,jq,zi,jr,js,List.range_succ,jt,xk,ju,xm,↓yh,↓yi,↓qt,↓y6,↓qu,↓qa,↓yj,↓yk,↓qv,↓qw,↓qx,↓qy,↓qb,↓qz,qc,ww,xn,jv,jw,yl,qd,qe,zj,wx,y7,jx,xp,xq,keq,y8,wy,qf,y9,ym,xr,jy,jz,xt,j0,wz,ja,j1,xu,xv,xw,jb,q5,q6,yn,q7,j2,Option.map_some,yo,qg,q8,q9,qh,ya,xx,yb,yp,yc,xy,w5,xz,x5,w6,jc,x6,Op.operands,Call.operands,yd,qi,w7,AObj.live]
  rw [aloop_meas (α := Nat) (S := fun i => { env := [(0, .sl 1 7 0 l.length), (2, .ptr 0 0), (4, .d (.int .i64 i))], σ := [cpZ, mrow l], dfs := [] })
    (R := fun i => some (.exit 0, { env := [(0, .sl 0 7 0 l.length), (2, .ptr 1 0)], σ := [mrow' l, cpZ'], dfs := [] }))
    (P := fun i => 1 ≤ i ∧ i ≤ l.length) (m := fun i => l.length - i) ?_ 1 _ ⟨by omega, by have := List.length_pos_iff.2 hne; omega⟩ ?_]
  rotate_left
  · rintro i ⟨hi1, hi2⟩ ih
    by_cases he : i < l.length
    · obtain ⟨pre, a, b, suf, hp, hpl⟩ : ∃ pre a b suf, l = pre ++ a :: b :: suf ∧ pre.length + 1 = i := by
        refine ⟨l.take (i - 1), l[i - 1], l[i], l.drop (i + 1), ?_, by simp; omega⟩
        have e1 : l.drop (i - 1) = l[i - 1] :: l.drop i := by
          have := List.drop_eq_getElem_cons (l := l) (i := i - 1) (by omega)
          rwa [show i - 1 + 1 = i from by omega] at this
        rw [← List.drop_eq_getElem_cons, ← e1, List.take_append_drop]
      have hc := strictM_mid pre a b suf (hp ▸ hs)
      subst hpl
      have hw0 : IntKind.i64.wrap ((pre.length : Nat) : Int) = (pre.length : Nat) := wrap64 (by omega) (by omega)
      have hw1 : IntKind.i64.wrap (((pre.length : Nat) : Int) + 1 - 1) = (pre.length : Nat) := by rw [wrap64 (by omega) (by omega)]; omega
      have hw2 : IntKind.i64.wrap (((pre.length : Nat) : Int) + 1 + 1) = (pre.length : Nat) + 1 + 1 := wrap64 (by omega) (by omega)
      have he2 : ((pre.length : Nat) : Int) + 1 < (pre.length : Nat) + ((suf.length : Nat) + 1 + 1) := by omega
      have hlt0 : ((pre.length : Nat) : Int) < (pre.length : Nat) + ((suf.length : Nat) + 1 + 1) := by omega
      have hlen : l.length = pre.length + (suf.length + 1 + 1) := by rw [hp]; simp
      rw [hp] at ih ⊢
      simp -implicitDefEqProofs [cpZ, mrow, he2, hw0, hw1, hw2, hlt0, hc, encM_eq a, encM_eq b, encV_eq a.v, encV_eq b.v, mach_draw, mach_loop, ar1, ar2, ar3, ar4, mid_lt, pos1, IntWalk.i64_in,IntWalk.u64_in,IntWalk.u8_in,IntWalk.i32_in,IntWalk.u32_in,ye,zk,zm,qj,qk,qm,qn,zb,zc,zn,zp,zq,qo,zd,ze,zr,zt,zu,j3,x7,zw,zf,za,zx,qp,zy,zg,zz,z6,qq,zh,yf,qr,aop,yq,j4,j5,x8,x9,jd,j6,j7,wb,je,j8,yr,j9,wg,jf,jg,xa,xb,z7,jh,z8,ji,jj,yt,yu,xc,AV.one,wh,wi,aun,jk,xd,yw,afn,xe,Out.ren,xf,xg,jl,wj,xh,wl,jm,Eng.distinct,pos,wn,Eng.ren,wo,xi,wp,jo,wq,yg,xj,ws,wu,jp,frz,yx,yz,wv,List.lookup_cons,jq,zi,jr,js,List.range_succ,jt,xk,ju,xm,↓yh,↓yi,↓qt,↓y6,↓qu,↓qa,↓yj,↓yk,↓qv,↓qw,↓qx,↓qy,↓qb,↓qz,qc,ww,xn,jv,jw,yl,qd,qe,zj,wx,y7,jx,xp,xq,keq,y8,wy,qf,y9,ym,xr,jy,jz,xt,j0,wz,ja,j1,xu,xv,xw,jb,q5,q6,yn,q7,j2,Option.map_some,yo,qg,q8,q9,qh,ya,xx,yb,yp,yc,xy,w5,xz,x5,w6,jc,x6,Op.operands,Call.operands,yd,qi,w7,AObj.live]
      rw [ih (pre.length + 1 + 1) _ ⟨by omega, by rw [hp] at he; simp at he ⊢ <;> omega⟩ (by rw [hp] at he; simp at he ⊢ <;> omega) (by simp -implicitDefEqProofs [cpZ, mrow, encM_eq a, encM_eq b, encV_eq a.v, encV_eq b.v, IntWalk.i64_in,IntWalk.u64_in,IntWalk.u8_in,IntWalk.i32_in,IntWalk.u32_in,ye,zk,zm,qj,qk,qm,qn,zb,zc,zn,zp,zq,qo,zd,ze,zr,zt,zu,j3,x7,zw,zf,za,zx,qp,zy,zg,zz,z6,qq,zh,yf,qr,aop,yq,j4,j5,x8,x9,jd,j6,j7,wb,je,j8,yr,j9,wg,jf,jg,xa,xb,z7,jh,z8,ji,jj,yt,yu,xc,AV.one,wh,wi,aun,jk,xd,yw,afn,xe,Out.ren,xf,xg,jl,wj,xh,wl,jm,Eng.distinct,pos,wn,Eng.ren,wo,xi,wp,jo,wq,yg,xj,ws,wu,jp,frz,yx,yz,wv,List.lookup_cons,jq,zi,jr,js,List.range_succ,jt,xk,ju,xm,↓yh,↓yi,↓qt,↓y6,↓qu,↓qa,↓yj,↓yk,↓qv,↓qw,↓qx,↓qy,↓qb,↓qz,qc,ww,xn,jv,jw,yl,qd,qe,zj,wx,y7,jx,xp,xq,keq,y8,wy,qf,y9,ym,xr,jy,jz,xt,j0,wz,ja,j1,xu,xv,xw,jb,q5,q6,yn,q7,j2,Option.map_some,yo,qg,q8,q9,qh,ya,xx,yb,yp,yc,xy,w5,xz,x5,w6,jc,x6,Op.operands,Call.operands,yd,qi,w7,AObj.live])]
      simp
    · have he' : ¬ (i : Int) < l.length := by omega
      simp -implicitDefEqProofs [cpZ, cpZ', mrow, mrow', he', mach_loop, IntWalk.i64_in,IntWalk.u64_in,IntWalk.u8_in,IntWalk.i32_in,IntWalk.u32_in,ye,zk,zm,qj,qk,qm,qn,zb,zc,zn,zp,zq,qo,zd,ze,zr,zt,zu,j3,x7,zw,zf,za,zx,qp,zy,zg,zz,z6,qq,zh,yf,qr,aop,yq,j4,j5,x8,x9,jd,j6,j7,wb,je,j8,yr,j9,wg,jf,jg,xa,xb,z7,jh,z8,ji,jj,yt,yu,xc,AV.one,wh,wi,aun,jk,xd,yw,afn,xe,Out.ren,xf,xg,jl,wj,xh,wl,jm,Eng.distinct,pos,wn,Eng.ren,wo,xi,wp,jo,wq,yg,xj,ws,wu,jp,frz,yx,yz,wv,List.lookup_cons,jq,zi,jr,js,List.range_succ,jt,xk,ju,xm,↓yh,↓yi,↓qt,↓y6,↓qu,↓qa,↓yj,↓yk,↓qv,↓qw,↓qx,↓qy,↓qb,↓qz,qc,ww,xn,jv,jw,yl,qd,qe,zj,wx,y7,jx,xp,xq,keq,y8,wy,qf,y9,ym,xr,jy,jz,xt,j0,wz,ja,j1,xu,xv,xw,jb,q5,q6,yn,q7,j2,Option.map_some,yo,qg,q8,q9,qh,ya,xx,yb,yp,yc,xy,w5,xz,x5,w6,jc,x6,Op.operands,Call.operands,yd,qi,w7,AObj.live]
  · simp -implicitDefEqProofs [cpZ, mrow, IntWalk.i64_in,IntWalk.u64_in,IntWalk.u8_in,IntWalk.i32_in,IntWalk.u32_in,ye,zk,zm,qj,qk,qm,qn,zb,zc,zn,zp,zq,qo,zd,ze,zr,zt,zu,j3,x7,zw,zf,za,zx,qp,zy,zg,zz,z6,qq,zh,yf,qr,aop,yq,j4,j5,x8,x9,jd,j6,j7,wb,je,j8,yr,j9,wg,jf,jg,xa,xb,z7,jh,z8,ji,jj,yt,yu,xc,AV.one,wh,wi,aun,jk,xd,yw,afn,xe,Out.ren,xf,xg,jl,wj,xh,wl,jm,Eng.distinct,pos,wn,Eng.ren,wo,xi,wp,jo,wq,yg,xj,ws,wu,jp,frz,yx,yz,wv,List.lookup_cons,jq,zi,jr,js,List.range_succ,jt,xk,ju,xm,↓yh,↓yi,↓qt,↓y6,↓qu,↓qa,↓yj,↓yk,↓qv,↓qw,↓qx,↓qy,↓qb,↓qz,qc,ww,xn,jv,jw,yl,qd,qe,zj,wx,y7,jx,xp,xq,keq,y8,wy,qf,y9,ym,xr,jy,jz,xt,j0,wz,ja,j1,xu,xv,xw,jb,q5,q6,yn,q7,j2,Option.map_some,yo,qg,q8,q9,qh,ya,xx,yb,yp,yc,xy,w5,xz,x5,w6,jc,x6,Op.operands,Call.operands,yd,qi,w7,AObj.live]
  simp -implicitDefEqProofs [oA, cpZ, cpZ', mrow, mrow', take_map_len, mach_loop, IntWalk.i64_in,IntWalk.u64_in,IntWalk.u8_in,IntWalk.i32_in,IntWalk.u32_in,ye,zk,zm,qj,qk,qm,qn,zb,zc,zn,zp,zq,qo,zd,ze,zr,zt,zu,j3,x7,zw,zf,za,zx,qp,zy,zg,zz,z6,qq,zh,yf,qr,aop,yq,j4,j5,x8,x9,jd,j6,j7,wb,je,j8,yr,j9,wg,jf,jg,xa,xb,z7,jh,z8,ji,jj,yt,yu,xc,AV.one,wh,wi,aun,jk,xd,yw,afn,xe,Out.ren,xf,xg,jl,wj,xh,wl,jm,Eng.distinct,pos,wn,Eng.ren,wo,xi,wp,jo,wq,yg,xj,ws,wu,jp,frz,yx,yz,wv,List.lookup_cons,jq,zi,jr,js,List.range_succ,jt,xk,ju,xm,↓yh,↓yi,↓qt,↓y6,↓qu,↓qa,↓yj,↓yk,↓qv,↓qw,↓qx,↓qy,↓qb,↓qz,qc,ww,xn,jv,jw,yl,qd,qe,zj,wx,y7,jx,xp,xq,keq,y8,wy,qf,y9,ym,xr,jy,jz,xt,j0,wz,ja,j1,xu,xv,xw,jb,q5,q6,yn,q7,j2,Option.map_some,yo,qg,q8,q9,qh,ya,xx,yb,yp,yc,xy,w5,xz,x5,w6,jc,x6,Op.operands,Call.operands,yd,qi,w7,AObj.live]

theorem b_ptext (C : Oracle) (s : List UInt8) : abody Tryz.prog [] C (mach Tryz.prog C {}) true 85 [.d (.str s)] [] = some (.ret (.agg [.d (.int .i64 4), .d (.bool false), .d (.int .i64 0), .d (.str s), .d .nils, .d .nils]), []) := by
  unfold abody
  rw [Tryz.func85]
  simp only [Tryz.f85]
  simp -implicitDefEqProofs [IntWalk.i64_in,IntWalk.u64_in,IntWalk.u8_in,IntWalk.i32_in,IntWalk.u32_in,ye,zk,zm,qj,qk,qm,qn,zb,zc,zn,zp,zq,qo,zd,ze,zr,zt,zu,j3,x7,zw,zf,za,zx,qp,zy,zg,zz,z6,qq,zh,yf,qr,aop,yq,j4,j5,x8,x9,jd,j6,j7,wb,je,j8,yr,j9,wg,jf,jg,xa,xb,z7,jh,z8,ji,jj,yt,yu,xc,AV.one,wh,wi,aun,jk,xd,yw,afn,xe,Out.ren,xf,xg,jl,wj,xh,wl,jm,Eng.distinct,pos,wn,Eng.ren,wo,xi,wp,jo,wq,yg,xj,ws,wu,jp,frz,yx,yz,wv,List.lookup_cons,jq,zi,jr,js,List.range_succ,jt,xk,ju,xm,↓yh,↓yi,↓qt,↓y6,↓qu,↓qa,↓yj,↓yk,↓qv,↓qw,↓qx,↓qy,↓qb,↓qz,qc,ww,xn,jv,jw,yl,qd,qe,zj,wx,y7,jx,xp,xq,keq,y8,wy,qf,y9,ym,xr,jy,jz,xt,j0,wz,ja,j1,xu,xv,xw,jb,q5,q6,yn,q7,j2,Option.map_some,yo,qg,q8,q9,qh,ya,xx,yb,yp,yc,xy,w5,xz,x5,w6,jc,x6,Op.operands,Call.operands,yd,qi,w7,AObj.live]
theorem b_member (C : Oracle) (k : List UInt8) (n : Int) (h0 : 0 ≤ n) (h1 : n ≤ 9223372036854775807) : abody Tryz.prog [] C (mach Tryz.prog C {}) true 31 [.d (.str k), .d (.int .u64 n)] [] = some (.ret (.agg [.d (.str k), .d (.int .i64 3), .d (.bool false), .d (.int .i64 n), .d (.str []), .d .nils, .d .nils]), []) := by
  have hw : IntKind.i64.wrap n = n := wrap64 (by omega) (by omega)
  unfold abody
  rw [Tryz.func31]
  simp only [Tryz.f31]
  simp -implicitDefEqProofs [hw, IntWalk.i64_in,IntWalk.u64_in,IntWalk.u8_in,IntWalk.i32_in,IntWalk.u32_in,ye,zk,zm,qj,qk,qm,qn,zb,zc,zn,zp,zq,qo,zd,ze,zr,zt,zu,j3,x7,zw,zf,za,zx,qp,zy,zg,zz,z6,qq,zh,yf,qr,aop,yq,j4,j5,x8,x9,jd,j6,j7,wb,je,j8,yr,j9,wg,jf,jg,xa,xb,z7,jh,z8,ji,jj,yt,yu,xc,AV.one,wh,wi,aun,jk,xd,yw,afn,xe,Out.ren,xf,xg,jl,wj,xh,wl,jm,Eng.distinct,pos,wn,Eng.ren,wo,xi,wp,jo,wq,yg,xj,ws,wu,jp,frz,yx,yz,wv,List.lookup_cons,jq,zi,jr,js,List.range_succ,jt,xk,ju,xm,↓yh,↓yi,↓qt,↓y6,↓qu,↓qa,↓yj,↓yk,↓qv,↓qw,↓qx,↓qy,↓qb,↓qz,qc,ww,xn,jv,jw,yl,qd,qe,zj,wx,y7,jx,xp,xq,keq,y8,wy,qf,y9,ym,xr,jy,jz,xt,j0,wz,ja,j1,xu,xv,xw,jb,q5,q6,yn,q7,j2,Option.map_some,yo,qg,q8,q9,qh,ya,xx,yb,yp,yc,xy,w5,xz,x5,w6,jc,x6,Op.operands,Call.operands,yd,qi,w7,AObj.live]

def kKey : List UInt8 := [107, 101, 121]
def kOp : List UInt8 := [111, 112]
def kValue : List UInt8 := [118, 97, 108, 117, 101]
def kPut : List UInt8 := [112, 117, 116]
def kDel : List UInt8 := [100, 101, 108]
def kClear : List UInt8 := [99, 108, 101, 97, 114]
/-- An op's object. -/
def opV (p : PO) : V := if p.k = 1 then oV [⟨kKey, tV p.key⟩, ⟨kOp, tV kPut⟩, ⟨kValue, p.v⟩] else if p.k = 2 then oV [⟨kKey, tV p.key⟩, ⟨kOp, tV kDel⟩] else oV [⟨kOp, tV kClear⟩]
/-- Its members, as they are put behind one another. -/
def opM (p : PO) : List M := if p.k = 1 then [⟨kValue, p.v⟩, ⟨kKey, tV p.key⟩, ⟨kOp, tV kPut⟩] else if p.k = 2 then [⟨kKey, tV p.key⟩, ⟨kOp, tV kDel⟩] else [⟨kOp, tV kClear⟩]
/-- A literal's cells: text. -/
def tC (s : List UInt8) : List D := [.int .i64 4, .bool false, .int .i64 0, .str s, .nils, .nils]
def avT (s : List UInt8) : AV := .agg [.d (.int .i64 4), .d (.bool false), .d (.int .i64 0), .d (.str s), .d (.rs 6 []), .d (.rs 7 [])]

theorem b_pobject (C : Oracle) (p : PO) (hk : p.k = 1 ∨ p.k = 2 ∨ p.k = 3)
    (h1 : C 84 [avV p.v] [] = some (.ret (cpA p.v), cpS p.v)) (h2 : ∀ s, C 85 [.d (.str s)] [] = some (.ret (avT s), []))
    (h3 : ∀ es, nDe es = nDe ((opM p).map encM) → C 56 [.sl 0 7 0 (opM p).length] [.drow es 70 7] = some (.ret (.tup [avV (opV p), .d (.int .i64 0)]), [.fz 7 es])) :
    abody Tryz.prog [] C (mach Tryz.prog C {}) true 55 [.agg [.d (.int .i64 p.k), .d (.str p.key), .d (.int .i64 p.v.k), .d (.bool p.v.b), .d (.int .i64 p.v.n), .d (.str p.v.t), .d (.rs 6 (p.v.l.map encV)), .d (.rs 7 (p.v.o.map encM))]] [] = some (.ret (avV (opV p)), []) := by
  unfold abody
  rw [Tryz.func55]
  simp only [Tryz.f55]
  simp only [avV, avT] at h1 h2
  rcases hk with hk | hk | hk
  · have h4 := h3 [.str kValue :: encV p.v, .str kKey :: encV (tV p.key), .str kOp :: encV (tV kPut)] (by simp [opM, hk, encM_eq, M.key, M.v])
    simp [opM, hk, kValue, kKey, kOp, kPut, tV, encV_eq p.v, encV, encVs, encMs] at h4
    rcases Decidable.em (p.v.l = []) with xl | xl <;> rcases Decidable.em (p.v.o = []) with xo | xo <;> (
      simp [cpA, cpS, vrow, mrow, clA, xl, xo] at h1
      simp [avV, xl, xo] at h4
      simp -implicitDefEqProofs [avV, hk, h1, h2, h4, xl, xo, take_map_len, IntWalk.i64_in,IntWalk.u64_in,IntWalk.u8_in,IntWalk.i32_in,IntWalk.u32_in,ye,zk,zm,qj,qk,qm,qn,zb,zc,zn,zp,zq,qo,zd,ze,zr,zt,zu,j3,x7,zw,zf,za,zx,qp,zy,zg,zz,z6,qq,zh,yf,qr,aop,yq,j4,j5,x8,x9,jd,j6,j7,wb,je,j8,yr,j9,wg,jf,jg,xa,xb,z7,jh,z8,ji,jj,yt,yu,xc,AV.one,wh,wi,aun,jk,xd,yw,afn,xe,Out.ren,xf,xg,jl,wj,xh,wl,jm,Eng.distinct,pos,wn,Eng.ren,wo,xi,wp,jo,wq,yg,xj,ws,wu,jp,frz,yx,yz,wv,List.lookup_cons,jq,zi,jr,js,List.range_succ,jt,xk,ju,xm,↓yh,↓yi,↓qt,↓y6,↓qu,↓qa,↓yj,↓yk,↓qv,↓qw,↓qx,↓qy,↓qb,↓qz,qc,ww,xn,jv,jw,yl,qd,qe,zj,wx,y7,jx,xp,xq,keq,y8,wy,qf,y9,ym,xr,jy,jz,xt,j0,wz,ja,j1,xu,xv,xw,jb,q5,q6,yn,q7,j2,Option.map_some,yo,qg,q8,q9,qh,ya,xx,yb,yp,yc,xy,w5,xz,x5,w6,jc,x6,Op.operands,Call.operands,yd,qi,w7,AObj.live])
  · have h4 := h3 [.str kKey :: encV (tV p.key), .str kOp :: encV (tV kDel)] (by simp [opM, hk, encM_eq, M.key, M.v])
    simp [opM, hk, kValue, kKey, kOp, kDel, tV, encV, encVs, encMs, avV] at h4
    simp -implicitDefEqProofs [avV, hk, h2, h4, IntWalk.i64_in,IntWalk.u64_in,IntWalk.u8_in,IntWalk.i32_in,IntWalk.u32_in,ye,zk,zm,qj,qk,qm,qn,zb,zc,zn,zp,zq,qo,zd,ze,zr,zt,zu,j3,x7,zw,zf,za,zx,qp,zy,zg,zz,z6,qq,zh,yf,qr,aop,yq,j4,j5,x8,x9,jd,j6,j7,wb,je,j8,yr,j9,wg,jf,jg,xa,xb,z7,jh,z8,ji,jj,yt,yu,xc,AV.one,wh,wi,aun,jk,xd,yw,afn,xe,Out.ren,xf,xg,jl,wj,xh,wl,jm,Eng.distinct,pos,wn,Eng.ren,wo,xi,wp,jo,wq,yg,xj,ws,wu,jp,frz,yx,yz,wv,List.lookup_cons,jq,zi,jr,js,List.range_succ,jt,xk,ju,xm,↓yh,↓yi,↓qt,↓y6,↓qu,↓qa,↓yj,↓yk,↓qv,↓qw,↓qx,↓qy,↓qb,↓qz,qc,ww,xn,jv,jw,yl,qd,qe,zj,wx,y7,jx,xp,xq,keq,y8,wy,qf,y9,ym,xr,jy,jz,xt,j0,wz,ja,j1,xu,xv,xw,jb,q5,q6,yn,q7,j2,Option.map_some,yo,qg,q8,q9,qh,ya,xx,yb,yp,yc,xy,w5,xz,x5,w6,jc,x6,Op.operands,Call.operands,yd,qi,w7,AObj.live]
  · have h4 := h3 [.str kOp :: encV (tV kClear)] (by simp [opM, hk, encM_eq, M.key, M.v])
    simp [opM, hk, kOp, kClear, tV, encV, encVs, encMs, avV] at h4
    simp -implicitDefEqProofs [avV, hk, h2, h4, IntWalk.i64_in,IntWalk.u64_in,IntWalk.u8_in,IntWalk.i32_in,IntWalk.u32_in,ye,zk,zm,qj,qk,qm,qn,zb,zc,zn,zp,zq,qo,zd,ze,zr,zt,zu,j3,x7,zw,zf,za,zx,qp,zy,zg,zz,z6,qq,zh,yf,qr,aop,yq,j4,j5,x8,x9,jd,j6,j7,wb,je,j8,yr,j9,wg,jf,jg,xa,xb,z7,jh,z8,ji,jj,yt,yu,xc,AV.one,wh,wi,aun,jk,xd,yw,afn,xe,Out.ren,xf,xg,jl,wj,xh,wl,jm,Eng.distinct,pos,wn,Eng.ren,wo,xi,wp,jo,wq,yg,xj,ws,wu,jp,frz,yx,yz,wv,List.lookup_cons,jq,zi,jr,js,List.range_succ,jt,xk,ju,xm,↓yh,↓yi,↓qt,↓y6,↓qu,↓qa,↓yj,↓yk,↓qv,↓qw,↓qx,↓qy,↓qb,↓qz,qc,ww,xn,jv,jw,yl,qd,qe,zj,wx,y7,jx,xp,xq,keq,y8,wy,qf,y9,ym,xr,jy,jz,xt,j0,wz,ja,j1,xu,xv,xw,jb,q5,q6,yn,q7,j2,Option.map_some,yo,qg,q8,q9,qh,ya,xx,yb,yp,yc,xy,w5,xz,x5,w6,jc,x6,Op.operands,Call.operands,yd,qi,w7,AObj.live]
end Go.Proofs.YtblejchodicaoaaGreatDoor.Eng

/-
  CONTRACTS: patch.List; pull.send, EncodeRequest, EncodeResponse. Own work.
-/
namespace Go.Proofs.YtblejchodicaoaaGreatDoor.Eng
open Go Go.RowKit
set_option maxRecDepth 100000
set_option linter.unusedSimpArgs false
set_option maxHeartbeats 4000000

def avO (p : PO) : AV := .agg [.d (.int .i64 p.k), .d (.str p.key), .d (.int .i64 p.v.k), .d (.bool p.v.b), .d (.int .i64 p.v.n), .d (.str p.v.t), .d (.rs 6 (p.v.l.map encV)), .d (.rs 7 (p.v.o.map encM))]
def lA (sz : Nat) (es : List (List D)) : AV := .agg [.d (.int .i64 5), .d (.bool false), .d (.int .i64 0), .d (.str []), .d (slD sz es), .d .nils]
def plBox (l : List V) : AObj := .box [.d (.int .i64 5), .d (.bool false), .d (.int .i64 0), .d (.str []), (if l = [] then .d .nils else .sl 2 6 0 l.length), .d .nils] 45
def plS (l : List V) : List AObj := [cpZ, plBox l] ++ if l = [] then [] else [vrow l]
def plE (l : List V) : List AObj := plS l

theorem b_pList (C : Oracle) (l : List PO) (hl : l.length ≤ 1099511627776) (h1 : C 25 [.d (.rs 8 (l.map encPO))] [] = R (.int .i64 (poMayL [] l)))
    (h2 : poMayL [] l = 0 → ∀ p ∈ l, C 55 [avO p] [] = some (.ret (avV (opV p)), [])) :
    abody Tryz.prog [] C (mach Tryz.prog C { keep := [(122, [2, 5, 15, 16, 17])], wins := [(7833, [[], [4, 5]])], outs := [(122, [2, 3, 5])] }) true 29 [.d (.rs 8 (l.map encPO))] [] =
      some (.ret (.tup [if poMayL [] l = 0 then lA 6 (l.map fun p => encV (opV p)) else .agg [.d (.int .i64 0), .d (.bool false), .d (.int .i64 0), .d (.str []), .d .nils, .d .nils], .d (.int .i64 (poMayL [] l))]), []) := by
  simp only [R] at h1
  simp only [avO] at h2
  unfold abody
  rw [Tryz.func29]
  simp only [Tryz.f29]
  by_cases hm : poMayL [] l = 0
  rotate_left
  · simp -implicitDefEqProofs [h1, hm, intbne, IntWalk.i64_in,IntWalk.u64_in,IntWalk.u8_in,IntWalk.i32_in,IntWalk.u32_in,ye,zk,zm,qj,qk,qm,qn,zb,zc,zn,zp,zq,qo,zd,ze,zr,zt,zu,j3,x7,zw,zf,za,zx,qp,zy,zg,zz,z6,qq,zh,yf,qr,aop,yq,j4,j5,x8,x9,jd,j6,j7,wb,je,j8,yr,j9,wg,jf,jg,xa,xb,z7,jh,z8,ji,jj,yt,yu,xc,AV.one,wh,wi,aun,jk,xd,yw,afn,xe,Out.ren,xf,xg,jl,wj,xh,wl,jm,Eng.distinct,pos,wn,Eng.ren,wo,xi,wp,jo,wq,yg,xj,ws,wu,jp,frz,yx,yz,wv,List.lookup_cons,jq,zi,jr,js,List.range_succ,jt,xk,ju,xm,↓yh,↓yi,↓qt,↓y6,↓qu,↓qa,↓yj,↓yk,↓qv,↓qw,↓qx,↓qy,↓qb,↓qz,qc,ww,xn,jv,jw,yl,qd,qe,zj,wx,y7,jx,xp,xq,keq,y8,wy,qf,y9,ym,xr,jy,jz,xt,j0,wz,ja,j1,xu,xv,xw,jb,q5,q6,yn,q7,j2,Option.map_some,yo,qg,q8,q9,qh,ya,xx,yb,yp,yc,xy,w5,xz,x5,w6,jc,x6,Op.operands,Call.operands,yd,qi,w7,AObj.live]
  have h3 := h2 hm
  rw [hm] at h1
  simp -implicitDefEqProofs [h1, hm, intbne, mach_loop, IntWalk.i64_in,IntWalk.u64_in,IntWalk.u8_in,IntWalk.i32_in,IntWalk.u32_in,ye,zk,zm,qj,qk,qm,qn,zb,zc,zn,zp,zq,qo,zd,ze,zr,zt,zu,j3,x7,zw,zf,za,zx,qp,zy,zg,zz,z6,qq,zh,yf,qr,aop,yq,j4,j5,x8,x9,jd,j6,j7,wb,je,j8,yr,j9,wg,jf,jg,xa,xb,z7,jh,z8,ji,jj,yt,yu,xc,AV.one,wh,wi,aun,jk,xd,yw,afn,xe,Out.ren,xf,xg,jl,wj,xh,wl,jm,Eng.distinct,pos,wn,Eng.ren,wo,xi,wp,jo,wq,yg,xj,ws,wu,jp,frz,yx,yz,wv,List.lookup_cons,jq,zi,jr,js,List.range_succ,jt,xk,ju,xm,↓yh,↓yi,↓qt,↓y6,↓qu,↓qa,↓yj,↓yk,↓qv,↓qw,↓qx,↓qy,↓qb,↓qz,qc,ww,xn,jv,jw,yl,qd,qe,zj,wx,y7,jx,xp,xq,keq,y8,wy,qf,y9,ym,xr,jy,jz,xt,j0,wz,ja,j1,xu,xv,xw,jb,q5,q6,yn,q7,j2,Option.map_some,yo,qg,q8,q9,qh,ya,xx,yb,yp,yc,xy,w5,xz,x5,w6,jc,x6,Op.operands,Call.operands,yd,qi,w7,AObj.live]
  rw [aloop_list (l := l)
    (S := fun pre suf => { env := [(2, .ptr 0 0), (5, .ptr 1 0), (15, .d (.rs 8 ((pre ++ suf).map encPO))), (16, .d (.int .i64 ((pre ++ suf).length : Nat))), (17, .d (.int .i64 (pre.length : Nat)))], σ := plS (pre.map opV), dfs := [] })
    (R := fun pre suf => some (.exit 0, { env := [(2, .ptr 0 0), (5, .ptr 1 0)], σ := plE ((pre ++ suf).map opV), dfs := [] }))
    (hs := ?_) (h0 := ?_) (h1 := ?_)]
  rotate_left
  · simp -implicitDefEqProofs [plS, plBox, cpZ, IntWalk.i64_in,IntWalk.u64_in,IntWalk.u8_in,IntWalk.i32_in,IntWalk.u32_in,ye,zk,zm,qj,qk,qm,qn,zb,zc,zn,zp,zq,qo,zd,ze,zr,zt,zu,j3,x7,zw,zf,za,zx,qp,zy,zg,zz,z6,qq,zh,yf,qr,aop,yq,j4,j5,x8,x9,jd,j6,j7,wb,je,j8,yr,j9,wg,jf,jg,xa,xb,z7,jh,z8,ji,jj,yt,yu,xc,AV.one,wh,wi,aun,jk,xd,yw,afn,xe,Out.ren,xf,xg,jl,wj,xh,wl,jm,Eng.distinct,pos,wn,Eng.ren,wo,xi,wp,jo,wq,yg,xj,ws,wu,jp,frz,yx,yz,wv,List.lookup_cons,jq,zi,jr,js,List.range_succ,jt,xk,ju,xm,↓yh,↓yi,↓qt,↓y6,↓qu,↓qa,↓yj,↓yk,↓qv,↓qw,↓qx,↓qy,↓qb,↓qz,qc,ww,xn,jv,jw,yl,qd,qe,zj,wx,y7,jx,xp,xq,keq,y8,wy,qf,y9,ym,xr,jy,jz,xt,j0,wz,ja,j1,xu,xv,xw,jb,q5,q6,yn,q7,j2,Option.map_some,yo,qg,q8,q9,qh,ya,xx,yb,yp,yc,xy,w5,xz,x5,w6,jc,x6,Op.operands,Call.operands,yd,qi,w7,AObj.live]
  · intro pre hp
    rcases Decidable.em (pre = []) with e | e <;> simp -implicitDefEqProofs [plE, plS, plBox, cpZ, vrow, e, mach_loop, IntWalk.i64_in,IntWalk.u64_in,IntWalk.u8_in,IntWalk.i32_in,IntWalk.u32_in,ye,zk,zm,qj,qk,qm,qn,zb,zc,zn,zp,zq,qo,zd,ze,zr,zt,zu,j3,x7,zw,zf,za,zx,qp,zy,zg,zz,z6,qq,zh,yf,qr,aop,yq,j4,j5,x8,x9,jd,j6,j7,wb,je,j8,yr,j9,wg,jf,jg,xa,xb,z7,jh,z8,ji,jj,yt,yu,xc,AV.one,wh,wi,aun,jk,xd,yw,afn,xe,Out.ren,xf,xg,jl,wj,xh,wl,jm,Eng.distinct,pos,wn,Eng.ren,wo,xi,wp,jo,wq,yg,xj,ws,wu,jp,frz,yx,yz,wv,List.lookup_cons,jq,zi,jr,js,List.range_succ,jt,xk,ju,xm,↓yh,↓yi,↓qt,↓y6,↓qu,↓qa,↓yj,↓yk,↓qv,↓qw,↓qx,↓qy,↓qb,↓qz,qc,ww,xn,jv,jw,yl,qd,qe,zj,wx,y7,jx,xp,xq,keq,y8,wy,qf,y9,ym,xr,jy,jz,xt,j0,wz,ja,j1,xu,xv,xw,jb,q5,q6,yn,q7,j2,Option.map_some,yo,qg,q8,q9,qh,ya,xx,yb,yp,yc,xy,w5,xz,x5,w6,jc,x6,Op.operands,Call.operands,yd,qi,w7,AObj.live]
  · intro pre p suf hp ih
    have h4 := h3 p (by rw [← hp]; simp)
    have hll : pre.length < l.length := by rw [← hp]; simp
    have hw2 : IntKind.i64.wrap ((pre.length : Nat) + 1) = (pre.length : Nat) + 1 := wrap64 (by omega) (by omega)
    have k2 : (pre.length + 1) * 88 ≤ 140737488355328 := by omega
    have k3 : pre.length + 1 ≤ 140737488355328 := by omega
    simp only [avV] at h4
    generalize hq : opV p = q at *
    rcases Decidable.em (pre = []) with e | e <;> (
      simp -implicitDefEqProofs [plS, plBox, cpZ, vrow, e, h4, hw2, k2, k3, encPO_eq p, mid_lt, pos1, mach_draw, mach_loop, IntWalk.i64_in,IntWalk.u64_in,IntWalk.u8_in,IntWalk.i32_in,IntWalk.u32_in,ye,zk,zm,qj,qk,qm,qn,zb,zc,zn,zp,zq,qo,zd,ze,zr,zt,zu,j3,x7,zw,zf,za,zx,qp,zy,zg,zz,z6,qq,zh,yf,qr,aop,yq,j4,j5,x8,x9,jd,j6,j7,wb,je,j8,yr,j9,wg,jf,jg,xa,xb,z7,jh,z8,ji,jj,yt,yu,xc,AV.one,wh,wi,aun,jk,xd,yw,afn,xe,Out.ren,xf,xg,jl,wj,xh,wl,jm,Eng.distinct,pos,wn,Eng.ren,wo,xi,wp,jo,wq,yg,xj,ws,wu,jp,frz,yx,yz,wv,List.lookup_cons,jq,zi,jr,js,List.range_succ,jt,xk,ju,xm,↓yh,↓yi,↓qt,↓y6,↓qu,↓qa,↓yj,↓yk,↓qv,↓qw,↓qx,↓qy,↓qb,↓qz,qc,ww,xn,jv,jw,yl,qd,qe,zj,wx,y7,jx,xp,xq,keq,y8,wy,qf,y9,ym,xr,jy,jz,xt,j0,wz,ja,j1,xu,xv,xw,jb,q5,q6,yn,q7,j2,Option.map_some,yo,qg,q8,q9,qh,ya,xx,yb,yp,yc,xy,w5,xz,x5,w6,jc,x6,Op.operands,Call.operands,yd,qi,w7,AObj.live]
      rw [ih _ (by simp -implicitDefEqProofs [plS, plBox, cpZ, vrow, e, hq, encPO_eq p, encV_eq q, IntWalk.i64_in,IntWalk.u64_in,IntWalk.u8_in,IntWalk.i32_in,IntWalk.u32_in,ye,zk,zm,qj,qk,qm,qn,zb,zc,zn,zp,zq,qo,zd,ze,zr,zt,zu,j3,x7,zw,zf,za,zx,qp,zy,zg,zz,z6,qq,zh,yf,qr,aop,yq,j4,j5,x8,x9,jd,j6,j7,wb,je,j8,yr,j9,wg,jf,jg,xa,xb,z7,jh,z8,ji,jj,yt,yu,xc,AV.one,wh,wi,aun,jk,xd,yw,afn,xe,Out.ren,xf,xg,jl,wj,xh,wl,jm,Eng.distinct,pos,wn,Eng.ren,wo,xi,wp,jo,wq,yg,xj,ws,wu,jp,frz,yx,yz,wv,List.lookup_cons,jq,zi,jr,js,List.range_succ,jt,xk,ju,xm,↓yh,↓yi,↓qt,↓y6,↓qu,↓qa,↓yj,↓yk,↓qv,↓qw,↓qx,↓qy,↓qb,↓qz,qc,ww,xn,jv,jw,yl,qd,qe,zj,wx,y7,jx,xp,xq,keq,y8,wy,qf,y9,ym,xr,jy,jz,xt,j0,wz,ja,j1,xu,xv,xw,jb,q5,q6,yn,q7,j2,Option.map_some,yo,qg,q8,q9,qh,ya,xx,yb,yp,yc,xy,w5,xz,x5,w6,jc,x6,Op.operands,Call.operands,yd,qi,w7,AObj.live])]
      simp [e, hq])
  rcases Decidable.em (l = []) with e | e <;> simp -implicitDefEqProofs [plE, plS, plBox, cpZ, vrow, lA, slD, e, take_map_len, mach_loop, IntWalk.i64_in,IntWalk.u64_in,IntWalk.u8_in,IntWalk.i32_in,IntWalk.u32_in,ye,zk,zm,qj,qk,qm,qn,zb,zc,zn,zp,zq,qo,zd,ze,zr,zt,zu,j3,x7,zw,zf,za,zx,qp,zy,zg,zz,z6,qq,zh,yf,qr,aop,yq,j4,j5,x8,x9,jd,j6,j7,wb,je,j8,yr,j9,wg,jf,jg,xa,xb,z7,jh,z8,ji,jj,yt,yu,xc,AV.one,wh,wi,aun,jk,xd,yw,afn,xe,Out.ren,xf,xg,jl,wj,xh,wl,jm,Eng.distinct,pos,wn,Eng.ren,wo,xi,wp,jo,wq,yg,xj,ws,wu,jp,frz,yx,yz,wv,List.lookup_cons,jq,zi,jr,js,List.range_succ,jt,xk,ju,xm,↓yh,↓yi,↓qt,↓y6,↓qu,↓qa,↓yj,↓yk,↓qv,↓qw,↓qx,↓qy,↓qb,↓qz,qc,ww,xn,jv,jw,yl,qd,qe,zj,wx,y7,jx,xp,xq,keq,y8,wy,qf,y9,ym,xr,jy,jz,xt,j0,wz,ja,j1,xu,xv,xw,jb,q5,q6,yn,q7,j2,Option.map_some,yo,qg,q8,q9,qh,ya,xx,yb,yp,yc,xy,w5,xz,x5,w6,jc,x6,Op.operands,Call.operands,yd,qi,w7,AObj.live]

def byL (l : List UInt8) : List (List D) := l.map fun b => [.int .u8 b.toNat]
theorem textOf_o (l : List M) (h : mayTop (oV l) = 0) : textOf (oV l) ≠ [] := by
  obtain ⟨t, ht⟩ : ∃ t, textV (oV l) = 123 :: t := ⟨Lib.join (l.map textM) [44] ++ [125], by simp [oV, textV, textL, textO_map]⟩
  simp [textOf, h, ht]
theorem b_send (C : Oracle) (k : UInt8) (l : List M) (fr : List UInt8)
    (h1 : C 56 [.d (.rs 7 (l.map encM))] [] = some (.ret (.tup [avV (oV l), .d (.int .i64 0)]), []))
    (h2 : C 41 [avV (oV l)] [] = some (.ret (.tup [.d (.str (textOf (oV l))), .d (.int .i64 (mayTop (oV l)))]), []))
    (h3 : mayTop (oV l) = 0 → C 44 [.d (.int .u8 k.toNat), .d (.rs 1 (byL (textOf (oV l))))] [] = some (.ret (.tup [.d (.rs 1 (byL fr)), .d (.int .i64 0)]), [])) :
    abody Tryz.prog [] C (mach Tryz.prog C {}) true 30 [.d (.int .u8 k.toNat), .d (.rs 7 (l.map encM))] [] = some (.ret (.tup [.d (if mayTop (oV l) = 0 then .rs 1 (byL fr) else .nils), .d (.int .i64 (mayTop (oV l)))]), []) := by
  simp only [avV] at h1 h2
  unfold abody
  rw [Tryz.func30]
  simp only [Tryz.f30]
  by_cases hm : mayTop (oV l) = 0
  · have hne := textOf_o l hm
    have h4 := h3 hm
    rw [hm] at h2
    generalize textOf (oV l) = s at *
    have hpos : 0 < s.length := List.length_pos_iff.2 hne
    simp [byL] at h4
    simp -implicitDefEqProofs [byL, h1, h2, h4, hm, hne, hpos, intbne, IntWalk.i64_in,IntWalk.u64_in,IntWalk.u8_in,IntWalk.i32_in,IntWalk.u32_in,ye,zk,zm,qj,qk,qm,qn,zb,zc,zn,zp,zq,qo,zd,ze,zr,zt,zu,j3,x7,zw,zf,za,zx,qp,zy,zg,zz,z6,qq,zh,yf,qr,aop,yq,j4,j5,x8,x9,jd,j6,j7,wb,je,j8,yr,j9,wg,jf,jg,xa,xb,z7,jh,z8,ji,jj,yt,yu,xc,AV.one,wh,wi,aun,jk,xd,yw,afn,xe,Out.ren,xf,xg,jl,wj,xh,wl,jm,Eng.distinct,pos,wn,Eng.ren,wo,xi,wp,jo,wq,yg,xj,ws,wu,jp,frz,yx,yz,wv,List.lookup_cons,jq,zi,jr,js,List.range_succ,jt,xk,ju,xm,↓yh,↓yi,↓qt,↓y6,↓qu,↓qa,↓yj,↓yk,↓qv,↓qw,↓qx,↓qy,↓qb,↓qz,qc,ww,xn,jv,jw,yl,qd,qe,zj,wx,y7,jx,xp,xq,keq,y8,wy,qf,y9,ym,xr,jy,jz,xt,j0,wz,ja,j1,xu,xv,xw,jb,q5,q6,yn,q7,j2,Option.map_some,yo,qg,q8,q9,qh,ya,xx,yb,yp,yc,xy,w5,xz,x5,w6,jc,x6,Op.operands,Call.operands,yd,qi,w7,AObj.live]
  · simp -implicitDefEqProofs [h1, h2, hm, intbne, IntWalk.i64_in,IntWalk.u64_in,IntWalk.u8_in,IntWalk.i32_in,IntWalk.u32_in,ye,zk,zm,qj,qk,qm,qn,zb,zc,zn,zp,zq,qo,zd,ze,zr,zt,zu,j3,x7,zw,zf,za,zx,qp,zy,zg,zz,z6,qq,zh,yf,qr,aop,yq,j4,j5,x8,x9,jd,j6,j7,wb,je,j8,yr,j9,wg,jf,jg,xa,xb,z7,jh,z8,ji,jj,yt,yu,xc,AV.one,wh,wi,aun,jk,xd,yw,afn,xe,Out.ren,xf,xg,jl,wj,xh,wl,jm,Eng.distinct,pos,wn,Eng.ren,wo,xi,wp,jo,wq,yg,xj,ws,wu,jp,frz,yx,yz,wv,List.lookup_cons,jq,zi,jr,js,List.range_succ,jt,xk,ju,xm,↓yh,↓yi,↓qt,↓y6,↓qu,↓qa,↓yj,↓yk,↓qv,↓qw,↓qx,↓qy,↓qb,↓qz,qc,ww,xn,jv,jw,yl,qd,qe,zj,wx,y7,jx,xp,xq,keq,y8,wy,qf,y9,ym,xr,jy,jz,xt,j0,wz,ja,j1,xu,xv,xw,jb,q5,q6,yn,q7,j2,Option.map_some,yo,qg,q8,q9,qh,ya,xx,yb,yp,yc,xy,w5,xz,x5,w6,jc,x6,Op.operands,Call.operands,yd,qi,w7,AObj.live]

def reqMay (a b : Int) : Int := if a = 0 ∨ 4611686018427387903 < a ∨ 4611686018427387903 < b then 2 else 0
def kBase : List UInt8 := [98, 97, 115, 101]
def kClient : List UInt8 := [99, 108, 105, 101, 110, 116]
def kCookie : List UInt8 := [99, 111, 111, 107, 105, 101]
def kLast : List UInt8 := [108, 97, 115, 116]
def kPatch : List UInt8 := [112, 97, 116, 99, 104]
def reqM (a b : Int) : List M := [⟨kClient, iV a⟩, ⟨kCookie, iV b⟩]
def respM (c b k t : Int) (v : V) : List M := [⟨kBase, iV b⟩, ⟨kClient, iV c⟩, ⟨kCookie, iV k⟩, ⟨kLast, iV t⟩, ⟨kPatch, v⟩]

theorem b_EncodeRequest (C : Oracle) (a b : Int) (ha : 0 ≤ a) (hb : 0 ≤ b) (x : D) (e : Int)
    (h1 : C 8 [.agg [.d (.int .u64 a), .d (.int .u64 b)]] [] = R (.int .i64 (reqMay a b)))
    (h2 : ∀ k n, 0 ≤ n → n ≤ 9223372036854775807 → C 31 [.d (.str k), .d (.int .u64 n)] [] = some (.ret (amM ⟨k, iV n⟩), []))
    (h3 : reqMay a b = 0 → C 30 [.d (.int .u8 2), .sl 0 7 0 2] [.drow ((reqM a b).map encM) 70 7] = some (.ret (.tup [.d x, .d (.int .i64 e)]), [.fz 7 ((reqM a b).map encM)])) :
    abody Tryz.prog [] C (mach Tryz.prog C { wins := [(14, [[], [], [], [], [0]])] }) true 27 [.agg [.d (.int .u64 a), .d (.int .u64 b)]] [] = some (.ret (.tup [.d (if reqMay a b = 0 then x else .nils), .d (.int .i64 (if reqMay a b = 0 then e else reqMay a b))]), []) := by
  simp only [R] at h1
  unfold abody
  rw [Tryz.func27]
  simp only [Tryz.f27]
  by_cases hm : reqMay a b = 0
  · have h4 := h3 hm
    have hx : ¬ (a = 0 ∨ 4611686018427387903 < a ∨ 4611686018427387903 < b) := by intro h; simp [reqMay, h] at hm
    have h5 := h2 kClient a (by omega) (by omega)
    have h6 := h2 kCookie b (by omega) (by omega)
    rw [hm] at h1
    simp [amM, M.key, M.v, iV, V.l, V.o, V.k, V.b, V.n, V.t, kClient, kCookie] at h5 h6
    simp [reqM, iV, encM, encV, encVs, encMs, kClient, kCookie] at h4
    simp -implicitDefEqProofs [h1, h4, h5, h6, hm, intbne, mach_draw, IntWalk.i64_in,IntWalk.u64_in,IntWalk.u8_in,IntWalk.i32_in,IntWalk.u32_in,ye,zk,zm,qj,qk,qm,qn,zb,zc,zn,zp,zq,qo,zd,ze,zr,zt,zu,j3,x7,zw,zf,za,zx,qp,zy,zg,zz,z6,qq,zh,yf,qr,aop,yq,j4,j5,x8,x9,jd,j6,j7,wb,je,j8,yr,j9,wg,jf,jg,xa,xb,z7,jh,z8,ji,jj,yt,yu,xc,AV.one,wh,wi,aun,jk,xd,yw,afn,xe,Out.ren,xf,xg,jl,wj,xh,wl,jm,Eng.distinct,pos,wn,Eng.ren,wo,xi,wp,jo,wq,yg,xj,ws,wu,jp,frz,yx,yz,wv,List.lookup_cons,jq,zi,jr,js,List.range_succ,jt,xk,ju,xm,↓yh,↓yi,↓qt,↓y6,↓qu,↓qa,↓yj,↓yk,↓qv,↓qw,↓qx,↓qy,↓qb,↓qz,qc,ww,xn,jv,jw,yl,qd,qe,zj,wx,y7,jx,xp,xq,keq,y8,wy,qf,y9,ym,xr,jy,jz,xt,j0,wz,ja,j1,xu,xv,xw,jb,q5,q6,yn,q7,j2,Option.map_some,yo,qg,q8,q9,qh,ya,xx,yb,yp,yc,xy,w5,xz,x5,w6,jc,x6,Op.operands,Call.operands,yd,qi,w7,AObj.live]
  · simp -implicitDefEqProofs [h1, hm, intbne, IntWalk.i64_in,IntWalk.u64_in,IntWalk.u8_in,IntWalk.i32_in,IntWalk.u32_in,ye,zk,zm,qj,qk,qm,qn,zb,zc,zn,zp,zq,qo,zd,ze,zr,zt,zu,j3,x7,zw,zf,za,zx,qp,zy,zg,zz,z6,qq,zh,yf,qr,aop,yq,j4,j5,x8,x9,jd,j6,j7,wb,je,j8,yr,j9,wg,jf,jg,xa,xb,z7,jh,z8,ji,jj,yt,yu,xc,AV.one,wh,wi,aun,jk,xd,yw,afn,xe,Out.ren,xf,xg,jl,wj,xh,wl,jm,Eng.distinct,pos,wn,Eng.ren,wo,xi,wp,jo,wq,yg,xj,ws,wu,jp,frz,yx,yz,wv,List.lookup_cons,jq,zi,jr,js,List.range_succ,jt,xk,ju,xm,↓yh,↓yi,↓qt,↓y6,↓qu,↓qa,↓yj,↓yk,↓qv,↓qw,↓qx,↓qy,↓qb,↓qz,qc,ww,xn,jv,jw,yl,qd,qe,zj,wx,y7,jx,xp,xq,keq,y8,wy,qf,y9,ym,xr,jy,jz,xt,j0,wz,ja,j1,xu,xv,xw,jb,q5,q6,yn,q7,j2,Option.map_some,yo,qg,q8,q9,qh,ya,xx,yb,yp,yc,xy,w5,xz,x5,w6,jc,x6,Op.operands,Call.operands,yd,qi,w7,AObj.live]
theorem b_EncodeResponse (C : Oracle) (c b k t : Int) (l : List PO) (hc : 0 ≤ c) (hb : 0 ≤ b) (hk : 0 ≤ k) (ht : 0 ≤ t) (x : D) (e : Int)
    (h1 : C 10 [.agg [.d (.int .u64 c), .d (.int .u64 b), .d (.int .u64 k), .d (.int .u64 t), .d (.rs 8 (l.map encPO))]] [] = R (.int .i64 (respMay c b k t l)))
    (h2 : ∀ k n, 0 ≤ n → n ≤ 9223372036854775807 → C 31 [.d (.str k), .d (.int .u64 n)] [] = some (.ret (amM ⟨k, iV n⟩), []))
    (h0 : respMay c b k t l = 0 → C 29 [.d (.rs 8 (l.map encPO))] [] = some (.ret (.tup [avV (lV (l.map opV)), .d (.int .i64 0)]), []))
    (h3 : respMay c b k t l = 0 → C 30 [.d (.int .u8 3), .sl 0 7 0 5] [.drow ((respM c b k t (lV (l.map opV))).map encM) 70 7] = some (.ret (.tup [.d x, .d (.int .i64 e)]), [.fz 7 ((respM c b k t (lV (l.map opV))).map encM)])) :
    abody Tryz.prog [] C (mach Tryz.prog C { wins := [(62, [[], [], [], [], [0], [], [], [0, 3], [], [], [0, 3, 6], [], [0, 3, 6, 9]])] }) true 13 [.agg [.d (.int .u64 c), .d (.int .u64 b), .d (.int .u64 k), .d (.int .u64 t), .d (.rs 8 (l.map encPO))]] [] = some (.ret (.tup [.d (if respMay c b k t l = 0 then x else .nils), .d (.int .i64 (if respMay c b k t l = 0 then e else respMay c b k t l))]), []) := by
  simp only [R] at h1
  unfold abody
  rw [Tryz.func13]
  simp only [Tryz.f13]
  by_cases hm : respMay c b k t l = 0
  · have h4 := h3 hm
    have h7 := h0 hm
    have hx : c ≤ 4611686018427387903 ∧ b ≤ 4611686018427387903 ∧ k ≤ 4611686018427387903 ∧ t ≤ 4611686018427387903 := by
      unfold respMay at hm
      split at hm
      · cases hm
      · rename_i hh; simp only [mxN] at hh; omega
    have g1 := h2 kBase b (by omega) (by omega)
    have g2 := h2 kClient c (by omega) (by omega)
    have g3 := h2 kCookie k (by omega) (by omega)
    have g4 := h2 kLast t (by omega) (by omega)
    rw [hm] at h1
    generalize hq : lV (l.map opV) = q at *
    simp [amM, M.key, M.v, iV, V.l, V.o, V.k, V.b, V.n, V.t, kClient, kCookie, kBase, kLast] at g1 g2 g3 g4
    simp [respM, iV, encM, encV, encVs, encMs, encV_eq q, kClient, kCookie, kBase, kLast, kPatch] at h4
    simp only [avV] at h7
    simp -implicitDefEqProofs [h1, h4, h7, g1, g2, g3, g4, hm, intbne, mach_draw, IntWalk.i64_in,IntWalk.u64_in,IntWalk.u8_in,IntWalk.i32_in,IntWalk.u32_in,ye,zk,zm,qj,qk,qm,qn,zb,zc,zn,zp,zq,qo,zd,ze,zr,zt,zu,j3,x7,zw,zf,za,zx,qp,zy,zg,zz,z6,qq,zh,yf,qr,aop,yq,j4,j5,x8,x9,jd,j6,j7,wb,je,j8,yr,j9,wg,jf,jg,xa,xb,z7,jh,z8,ji,jj,yt,yu,xc,AV.one,wh,wi,aun,jk,xd,yw,afn,xe,Out.ren,xf,xg,jl,wj,xh,wl,jm,Eng.distinct,pos,wn,Eng.ren,wo,xi,wp,jo,wq,yg,xj,ws,wu,jp,frz,yx,yz,wv,List.lookup_cons,jq,zi,jr,js,List.range_succ,jt,xk,ju,xm,↓yh,↓yi,↓qt,↓y6,↓qu,↓qa,↓yj,↓yk,↓qv,↓qw,↓qx,↓qy,↓qb,↓qz,qc,ww,xn,jv,jw,yl,qd,qe,zj,wx,y7,jx,xp,xq,keq,y8,wy,qf,y9,ym,xr,jy,jz,xt,j0,wz,ja,j1,xu,xv,xw,jb,q5,q6,yn,q7,j2,Option.map_some,yo,qg,q8,q9,qh,ya,xx,yb,yp,yc,xy,w5,xz,x5,w6,jc,x6,Op.operands,Call.operands,yd,qi,w7,AObj.live]
  · simp -implicitDefEqProofs [h1, hm, intbne, IntWalk.i64_in,IntWalk.u64_in,IntWalk.u8_in,IntWalk.i32_in,IntWalk.u32_in,ye,zk,zm,qj,qk,qm,qn,zb,zc,zn,zp,zq,qo,zd,ze,zr,zt,zu,j3,x7,zw,zf,za,zx,qp,zy,zg,zz,z6,qq,zh,yf,qr,aop,yq,j4,j5,x8,x9,jd,j6,j7,wb,je,j8,yr,j9,wg,jf,jg,xa,xb,z7,jh,z8,ji,jj,yt,yu,xc,AV.one,wh,wi,aun,jk,xd,yw,afn,xe,Out.ren,xf,xg,jl,wj,xh,wl,jm,Eng.distinct,pos,wn,Eng.ren,wo,xi,wp,jo,wq,yg,xj,ws,wu,jp,frz,yx,yz,wv,List.lookup_cons,jq,zi,jr,js,List.range_succ,jt,xk,ju,xm,↓yh,↓yi,↓qt,↓y6,↓qu,↓qa,↓yj,↓yk,↓qv,↓qw,↓qx,↓qy,↓qb,↓qz,qc,ww,xn,jv,jw,yl,qd,qe,zj,wx,y7,jx,xp,xq,keq,y8,wy,qf,y9,ym,xr,jy,jz,xt,j0,wz,ja,j1,xu,xv,xw,jb,q5,q6,yn,q7,j2,Option.map_some,yo,qg,q8,q9,qh,ya,xx,yb,yp,yc,xy,w5,xz,x5,w6,jc,x6,Op.operands,Call.operands,yd,qi,w7,AObj.live]
end Go.Proofs.YtblejchodicaoaaGreatDoor.Eng
