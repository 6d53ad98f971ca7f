/-
  CONTRACTS: the reference's Quote. Own work.
-/
import Derived.Test.YtblejchodicaoaaGreatDoorJ6
import Derived.Test.YtblejchodicaoaaGreatDoorJ5
import Derived.Test.YtblejchodicaoaaGreatDoorJ3
import Derived.Test.YtblejchodicaoaaGreatDoorJ4
import Derived.Lib.ItoaLen
set_option linter.unusedVariables false
set_option linter.unusedSimpArgs false
namespace Go.Proofs.YtblejchodicaoaaGreatDoor.Eng
open Go Go.RowKit
set_option maxRecDepth 100000
set_option linter.unusedSimpArgs false
set_option maxHeartbeats 2000000

def codesU : List Int := [34, 92, 47, 8, 12, 10, 13, 9]
def fcL : List Int → Nat → Int → Nat
  | [], j, _ => j
  | c :: cs, j, r => if ¬ j = 2 ∧ c = r then j else fcL cs (j + 1) r
def hexS : List UInt8 := [48, 49, 50, 51, 52, 53, 54, 55, 56, 57, 97, 98, 99, 100, 101, 102]
def qAcc (pre : List (Nat × Nat)) : List UInt8 := 34 :: (pre.map fun p => escU p.2).flatten
theorem qAcc_snoc (pre : List (Nat × Nat)) (p : Nat × Nat) : qAcc (pre ++ [p]) = qAcc pre ++ escU p.2 := by simp [qAcc]
theorem qAcc_nil : qAcc [] = [34] := rfl
theorem hexS_at : ∀ n : Nat, n < 16 → (hexS.drop n).take 1 = [hexU n] := by decide
theorem escU_len (r : Nat) : (escU r).length ≤ 6 := by
  unfold escU
  repeat' split
  all_goals first | (simp; done) | skip
  unfold Lib.encodeRune Lib.encodeRuneZ
  repeat' split
  all_goals simp
theorem qAcc_len : ∀ pre : List (Nat × Nat), (qAcc pre).length ≤ 1 + 6 * pre.length
  | [] => by simp [qAcc]
  | p :: r => by
    have h := qAcc_len r
    have h2 := escU_len p.2
    simp only [qAcc, List.map_cons, List.flatten_cons, List.length_cons, List.length_append] at h ⊢
    omega
theorem decU_valid (s : List UInt8) : (decU s).1 < 55296 ∨ (57344 ≤ (decU s).1 ∧ (decU s).1 ≤ 1114111) := by
  unfold decU
  rw [Lib.decodeL_N]
  unfold Lib.decodeN
  have h0 := UInt8.toNat_lt (s.getD 0 0)
  repeat' split
  all_goals (simp only; omega)
theorem runesU_len : ∀ (f i : Nat) (s : List UInt8), (runesU f i s).length ≤ f
  | 0, i, s => by simp [runesU]
  | f + 1, i, s => by
    have := runesU_len f (i + (decU s).2) (s.drop (decU s).2)
    unfold runesU
    split
    · simp
    split
    · simp
    · simp; omega
theorem runesU_valid : ∀ (f i : Nat) (s : List UInt8), ∀ p ∈ runesU f i s, p.2 < 55296 ∨ (57344 ≤ p.2 ∧ p.2 ≤ 1114111)
  | 0, i, s, p, h => by cases h
  | f + 1, i, s, p, h => by
    unfold runesU at h
    split at h
    · cases h
    split at h
    · cases h
    · rename_i hb
      rcases List.mem_cons.1 h with rfl | h
      · exact decU_valid s
      · exact runesU_valid f _ _ p h

theorem b_r01Quote (C : Oracle) (s : List UInt8) (hs : s.length ≤ 1099511627776) (h1 : C 81 [.d (.str s)] [] = R (.bool (validU s)))
    (h2 : C 89 [.d (.str s)] [] = some (.ret (.tup [.d (rsI ((runesAt 0 s).map Prod.snd)), .d (rsI ((runesAt 0 s).map Prod.fst))]), []))
    (h3 : ∀ i : Nat, i < 8 → C 90 [.d (.int .i64 i)] [] = R (.int .i64 (codesU.getD i 0)))
    (h4 : ∀ r : Nat, r < 55296 ∨ (57344 ≤ r ∧ r ≤ 1114111) → C 91 [.d (.int .i64 r)] [] = R (.str (Lib.encodeRune r))) :
    abody Tryz.prog [] C (mach Tryz.prog C { keep := [(506, [4, 5, 7, 8]), (129612, [4, 5, 7, 8, 9, 10])], outs := [(506, [2, 3, 4]), (129612, [2, 3, 4, 5, 7, 8, 9, 10])] }) true 58 [.d (.str s)] [] = some (.ret (.tup [.d (.str (quoteU s)), .d (.int .i64 (if validU s = true then 0 else 3))]), []) := by
  simp only [R] at h1 h3 h4
  have k0 := h3 0 (by omega)
  have k1 := h3 1 (by omega)
  have k3 := h3 3 (by omega)
  have k4 := h3 4 (by omega)
  have k5 := h3 5 (by omega)
  have k6 := h3 6 (by omega)
  have k7 := h3 7 (by omega)
  simp [codesU] at k0 k1 k3 k4 k5 k6 k7
  unfold abody
  rw [Tryz.func58]
  simp only [Tryz.f58]
  by_cases hv : validU s = true
  rotate_left
  · simp -implicitDefEqProofs [quoteU, h1, hv, IntWalk.i64_in,IntWalk.u64_in,IntWalk.u8_in,IntWalk.i32_in,IntWalk.u32_in,ye,zk,zm,qj,qk,qm,qn,zb,zc,zn,zp,zq,qo,zd,ze,zr,zt,zu,j3,x7,zw,zf,za,zx,qp,zy,zg,zz,z6,qq,zh,yf,qr,aop,yq,j4,j5,x8,x9,jd,j6,j7,wb,je,j8,yr,j9,wg,jf,jg,xa,xb,z7,jh,z8,ji,jj,yt,yu,xc,AV.one,wh,wi,aun,jk,xd,yw,afn,xe,Out.ren,xf,xg,jl,wj,xh,wl,jm,Eng.distinct,pos,wn,Eng.ren,wo,xi,wp,jo,wq,yg,xj,ws,wu,jp,frz,yx,yz,wv,List.lookup_cons,jq,zi,jr,js,List.range_succ,jt,xk,ju,xm,↓yh,↓yi,↓qt,↓y6,↓qu,↓qa,↓yj,↓yk,↓qv,↓qw,↓qx,↓qy,↓qb,↓qz,qc,ww,xn,jv,jw,yl,qd,qe,zj,wx,y7,jx,xp,xq,keq,y8,wy,qf,y9,ym,xr,jy,jz,xt,j0,wz,ja,j1,xu,xv,xw,jb,q5,q6,yn,q7,j2,Option.map_some,yo,qg,q8,q9,qh,ya,xx,yb,yp,yc,xy,w5,xz,x5,w6,jc,x6,Op.operands,Call.operands,yd,qi,w7,AObj.live]
  have hq : quoteU s = qAcc (runesAt 0 s) ++ [34] := by
    rw [quoteU, if_pos hv]
    simp [qAcc, runesAt]
  rw [hq]
  have hval := runesU_valid s.length 0 s
  have hra : runesAt 0 s = runesU s.length 0 s := by simp [runesAt]
  rw [← hra] at hval
  have hlen : (runesAt 0 s).length ≤ s.length := by rw [hra]; exact runesU_len _ _ _
  generalize hRL : runesAt 0 s = RL at *
  by_cases hRe : RL = []
  · subst hRe
    simp -implicitDefEqProofs [rsI, slD] at h2
    simp -implicitDefEqProofs [h1, h2, hv, mach_loop, IntWalk.i64_in,IntWalk.u64_in,IntWalk.u8_in,IntWalk.i32_in,IntWalk.u32_in,ye,zk,zm,qj,qk,qm,qn,zb,zc,zn,zp,zq,qo,zd,ze,zr,zt,zu,j3,x7,zw,zf,za,zx,qp,zy,zg,zz,z6,qq,zh,yf,qr,aop,yq,j4,j5,x8,x9,jd,j6,j7,wb,je,j8,yr,j9,wg,jf,jg,xa,xb,z7,jh,z8,ji,jj,yt,yu,xc,AV.one,wh,wi,aun,jk,xd,yw,afn,xe,Out.ren,xf,xg,jl,wj,xh,wl,jm,Eng.distinct,pos,wn,Eng.ren,wo,xi,wp,jo,wq,yg,xj,ws,wu,jp,frz,yx,yz,wv,List.lookup_cons,jq,zi,jr,js,List.range_succ,jt,xk,ju,xm,↓yh,↓yi,↓qt,↓y6,↓qu,↓qa,↓yj,↓yk,↓qv,↓qw,↓qx,↓qy,↓qb,↓qz,qc,ww,xn,jv,jw,yl,qd,qe,zj,wx,y7,jx,xp,xq,keq,y8,wy,qf,y9,ym,xr,jy,jz,xt,j0,wz,ja,j1,xu,xv,xw,jb,q5,q6,yn,q7,j2,Option.map_some,yo,qg,q8,q9,qh,ya,xx,yb,yp,yc,xy,w5,xz,x5,w6,jc,x6,Op.operands,Call.operands,yd,qi,w7,AObj.live]
    rw [aloop_round]
    simp -implicitDefEqProofs [qAcc, mach_loop, IntWalk.i64_in,IntWalk.u64_in,IntWalk.u8_in,IntWalk.i32_in,IntWalk.u32_in,ye,zk,zm,qj,qk,qm,qn,zb,zc,zn,zp,zq,qo,zd,ze,zr,zt,zu,j3,x7,zw,zf,za,zx,qp,zy,zg,zz,z6,qq,zh,yf,qr,aop,yq,j4,j5,x8,x9,jd,j6,j7,wb,je,j8,yr,j9,wg,jf,jg,xa,xb,z7,jh,z8,ji,jj,yt,yu,xc,AV.one,wh,wi,aun,jk,xd,yw,afn,xe,Out.ren,xf,xg,jl,wj,xh,wl,jm,Eng.distinct,pos,wn,Eng.ren,wo,xi,wp,jo,wq,yg,xj,ws,wu,jp,frz,yx,yz,wv,List.lookup_cons,jq,zi,jr,js,List.range_succ,jt,xk,ju,xm,↓yh,↓yi,↓qt,↓y6,↓qu,↓qa,↓yj,↓yk,↓qv,↓qw,↓qx,↓qy,↓qb,↓qz,qc,ww,xn,jv,jw,yl,qd,qe,zj,wx,y7,jx,xp,xq,keq,y8,wy,qf,y9,ym,xr,jy,jz,xt,j0,wz,ja,j1,xu,xv,xw,jb,q5,q6,yn,q7,j2,Option.map_some,yo,qg,q8,q9,qh,ya,xx,yb,yp,yc,xy,w5,xz,x5,w6,jc,x6,Op.operands,Call.operands,yd,qi,w7,AObj.live]
  have h2e : rsI (RL.map Prod.snd) = .rs 1 (RL.map fun p => [.int .i64 (p.2 : Nat)]) := by simp [rsI, slD, hRe, Function.comp_def]
  rw [h2e] at h2
  simp -implicitDefEqProofs [h1, h2, hv, mach_loop, IntWalk.i64_in,IntWalk.u64_in,IntWalk.u8_in,IntWalk.i32_in,IntWalk.u32_in,ye,zk,zm,qj,qk,qm,qn,zb,zc,zn,zp,zq,qo,zd,ze,zr,zt,zu,j3,x7,zw,zf,za,zx,qp,zy,zg,zz,z6,qq,zh,yf,qr,aop,yq,j4,j5,x8,x9,jd,j6,j7,wb,je,j8,yr,j9,wg,jf,jg,xa,xb,z7,jh,z8,ji,jj,yt,yu,xc,AV.one,wh,wi,aun,jk,xd,yw,afn,xe,Out.ren,xf,xg,jl,wj,xh,wl,jm,Eng.distinct,pos,wn,Eng.ren,wo,xi,wp,jo,wq,yg,xj,ws,wu,jp,frz,yx,yz,wv,List.lookup_cons,jq,zi,jr,js,List.range_succ,jt,xk,ju,xm,↓yh,↓yi,↓qt,↓y6,↓qu,↓qa,↓yj,↓yk,↓qv,↓qw,↓qx,↓qy,↓qb,↓qz,qc,ww,xn,jv,jw,yl,qd,qe,zj,wx,y7,jx,xp,xq,keq,y8,wy,qf,y9,ym,xr,jy,jz,xt,j0,wz,ja,j1,xu,xv,xw,jb,q5,q6,yn,q7,j2,Option.map_some,yo,qg,q8,q9,qh,ya,xx,yb,yp,yc,xy,w5,xz,x5,w6,jc,x6,Op.operands,Call.operands,yd,qi,w7,AObj.live]
  rw [aloop_list (l := RL)
    (S := fun pre suf => { env := [(4, .d (.str (qAcc pre))), (5, .d (.rs 1 ((pre ++ suf).map fun p => [.int .i64 (p.2 : Nat)]))), (7, .d (.str hexS)), (8, .d (.int .i64 (pre.length : Nat)))], σ := [], dfs := [] })
    (R := fun pre suf => some (.exit 0, { env := [(4, .d (.str (qAcc (pre ++ suf))))], σ := [], dfs := [] }))
    (hs := ?_) (h0 := ?_) (h1 := ?_)]
  rotate_left
  · simp -implicitDefEqProofs [qAcc, hexS, IntWalk.i64_in,IntWalk.u64_in,IntWalk.u8_in,IntWalk.i32_in,IntWalk.u32_in,ye,zk,zm,qj,qk,qm,qn,zb,zc,zn,zp,zq,qo,zd,ze,zr,zt,zu,j3,x7,zw,zf,za,zx,qp,zy,zg,zz,z6,qq,zh,yf,qr,aop,yq,j4,j5,x8,x9,jd,j6,j7,wb,je,j8,yr,j9,wg,jf,jg,xa,xb,z7,jh,z8,ji,jj,yt,yu,xc,AV.one,wh,wi,aun,jk,xd,yw,afn,xe,Out.ren,xf,xg,jl,wj,xh,wl,jm,Eng.distinct,pos,wn,Eng.ren,wo,xi,wp,jo,wq,yg,xj,ws,wu,jp,frz,yx,yz,wv,List.lookup_cons,jq,zi,jr,js,List.range_succ,jt,xk,ju,xm,↓yh,↓yi,↓qt,↓y6,↓qu,↓qa,↓yj,↓yk,↓qv,↓qw,↓qx,↓qy,↓qb,↓qz,qc,ww,xn,jv,jw,yl,qd,qe,zj,wx,y7,jx,xp,xq,keq,y8,wy,qf,y9,ym,xr,jy,jz,xt,j0,wz,ja,j1,xu,xv,xw,jb,q5,q6,yn,q7,j2,Option.map_some,yo,qg,q8,q9,qh,ya,xx,yb,yp,yc,xy,w5,xz,x5,w6,jc,x6,Op.operands,Call.operands,yd,qi,w7,AObj.live]
  · intro pre hp
    simp -implicitDefEqProofs [mach_loop, IntWalk.i64_in,IntWalk.u64_in,IntWalk.u8_in,IntWalk.i32_in,IntWalk.u32_in,ye,zk,zm,qj,qk,qm,qn,zb,zc,zn,zp,zq,qo,zd,ze,zr,zt,zu,j3,x7,zw,zf,za,zx,qp,zy,zg,zz,z6,qq,zh,yf,qr,aop,yq,j4,j5,x8,x9,jd,j6,j7,wb,je,j8,yr,j9,wg,jf,jg,xa,xb,z7,jh,z8,ji,jj,yt,yu,xc,AV.one,wh,wi,aun,jk,xd,yw,afn,xe,Out.ren,xf,xg,jl,wj,xh,wl,jm,Eng.distinct,pos,wn,Eng.ren,wo,xi,wp,jo,wq,yg,xj,ws,wu,jp,frz,yx,yz,wv,List.lookup_cons,jq,zi,jr,js,List.range_succ,jt,xk,ju,xm,↓yh,↓yi,↓qt,↓y6,↓qu,↓qa,↓yj,↓yk,↓qv,↓qw,↓qx,↓qy,↓qb,↓qz,qc,ww,xn,jv,jw,yl,qd,qe,zj,wx,y7,jx,xp,xq,keq,y8,wy,qf,y9,ym,xr,jy,jz,xt,j0,wz,ja,j1,xu,xv,xw,jb,q5,q6,yn,q7,j2,Option.map_some,yo,qg,q8,q9,qh,ya,xx,yb,yp,yc,xy,w5,xz,x5,w6,jc,x6,Op.operands,Call.operands,yd,qi,w7,AObj.live]
  · intro pre p suf hp ih
    have hpv := hval p (by rw [← hp]; simp)
    have hll : pre.length < RL.length := by rw [← hp]; simp
    have hw2 : IntKind.i64.wrap ((pre.length : Nat) + 1) = (pre.length : Nat) + 1 := wrap64 (by omega) (by omega)
    have h5 := h4 p.2 hpv
    have qs := qAcc_snoc pre p
    have ql := qAcc_len pre
    have hqK : ∀ K : Nat, 9223372036854775700 ≤ K → ((qAcc pre).length ≤ K) = True := by intro K hK; simp; omega
    simp -implicitDefEqProofs [mach_loop, mid_lt, IntWalk.i64_in,IntWalk.u64_in,IntWalk.u8_in,IntWalk.i32_in,IntWalk.u32_in,ye,zk,zm,qj,qk,qm,qn,zb,zc,zn,zp,zq,qo,zd,ze,zr,zt,zu,j3,x7,zw,zf,za,zx,qp,zy,zg,zz,z6,qq,zh,yf,qr,aop,yq,j4,j5,x8,x9,jd,j6,j7,wb,je,j8,yr,j9,wg,jf,jg,xa,xb,z7,jh,z8,ji,jj,yt,yu,xc,AV.one,wh,wi,aun,jk,xd,yw,afn,xe,Out.ren,xf,xg,jl,wj,xh,wl,jm,Eng.distinct,pos,wn,Eng.ren,wo,xi,wp,jo,wq,yg,xj,ws,wu,jp,frz,yx,yz,wv,List.lookup_cons,jq,zi,jr,js,List.range_succ,jt,xk,ju,xm,↓yh,↓yi,↓qt,↓y6,↓qu,↓qa,↓yj,↓yk,↓qv,↓qw,↓qx,↓qy,↓qb,↓qz,qc,ww,xn,jv,jw,yl,qd,qe,zj,wx,y7,jx,xp,xq,keq,y8,wy,qf,y9,ym,xr,jy,jz,xt,j0,wz,ja,j1,xu,xv,xw,jb,q5,q6,yn,q7,j2,Option.map_some,yo,qg,q8,q9,qh,ya,xx,yb,yp,yc,xy,w5,xz,x5,w6,jc,x6,Op.operands,Call.operands,yd,qi,w7,AObj.live]
    rw [aloop_meas (S := fun j : Nat => { env := [(4, .d (.str (qAcc pre))), (5, .d (.rs 1 ((pre ++ p :: suf).map fun p => [.int .i64 (p.2 : Nat)]))), (7, .d (.str hexS)), (8, .d (.int .i64 (pre.length : Nat))), (9, .d (.int .i64 (p.2 : Nat))), (10, .d (.int .i64 j))], σ := [], dfs := [] })
      (R := fun j => some (.exit 2, { env := [(4, .d (.str (qAcc pre))), (5, .d (.rs 1 ((pre ++ p :: suf).map fun p => [.int .i64 (p.2 : Nat)]))), (7, .d (.str hexS)), (8, .d (.int .i64 (pre.length : Nat))), (9, .d (.int .i64 (p.2 : Nat))), (10, .d (.int .i64 ((fcL (codesU.drop j) j p.2 : Nat) : Int)))], σ := [], dfs := [] }))
      (P := fun j => j ≤ 8) (m := fun j => 8 - j) ?_ 0 _ (by omega) ?_]
    rotate_left
    · intro j hj ih2
      obtain rfl | rfl | rfl | rfl | rfl | rfl | rfl | rfl | rfl : j = 0 ∨ j = 1 ∨ j = 2 ∨ j = 3 ∨ j = 4 ∨ j = 5 ∨ j = 6 ∨ j = 7 ∨ j = 8 := by omega
      · by_cases hc : (p.2 : Int) = 34
        · simp -implicitDefEqProofs [mach_loop, mach_draw, intbne, intbeq, fcL, codesU, k0, hc, IntWalk.i64_in,IntWalk.u64_in,IntWalk.u8_in,IntWalk.i32_in,IntWalk.u32_in,ye,zk,zm,qj,qk,qm,qn,zb,zc,zn,zp,zq,qo,zd,ze,zr,zt,zu,j3,x7,zw,zf,za,zx,qp,zy,zg,zz,z6,qq,zh,yf,qr,aop,yq,j4,j5,x8,x9,jd,j6,j7,wb,je,j8,yr,j9,wg,jf,jg,xa,xb,z7,jh,z8,ji,jj,yt,yu,xc,AV.one,wh,wi,aun,jk,xd,yw,afn,xe,Out.ren,xf,xg,jl,wj,xh,wl,jm,Eng.distinct,pos,wn,Eng.ren,wo,xi,wp,jo,wq,yg,xj,ws,wu,jp,frz,yx,yz,wv,List.lookup_cons,jq,zi,jr,js,List.range_succ,jt,xk,ju,xm,↓yh,↓yi,↓qt,↓y6,↓qu,↓qa,↓yj,↓yk,↓qv,↓qw,↓qx,↓qy,↓qb,↓qz,qc,ww,xn,jv,jw,yl,qd,qe,zj,wx,y7,jx,xp,xq,keq,y8,wy,qf,y9,ym,xr,jy,jz,xt,j0,wz,ja,j1,xu,xv,xw,jb,q5,q6,yn,q7,j2,Option.map_some,yo,qg,q8,q9,qh,ya,xx,yb,yp,yc,xy,w5,xz,x5,w6,jc,x6,Op.operands,Call.operands,yd,qi,w7,AObj.live]
        · have hc' : ¬ (34 : Int) = p.2 := fun h => hc h.symm
          simp -implicitDefEqProofs [mach_loop, mach_draw, intbne, intbeq, fcL, codesU, k0, hc', IntWalk.i64_in,IntWalk.u64_in,IntWalk.u8_in,IntWalk.i32_in,IntWalk.u32_in,ye,zk,zm,qj,qk,qm,qn,zb,zc,zn,zp,zq,qo,zd,ze,zr,zt,zu,j3,x7,zw,zf,za,zx,qp,zy,zg,zz,z6,qq,zh,yf,qr,aop,yq,j4,j5,x8,x9,jd,j6,j7,wb,je,j8,yr,j9,wg,jf,jg,xa,xb,z7,jh,z8,ji,jj,yt,yu,xc,AV.one,wh,wi,aun,jk,xd,yw,afn,xe,Out.ren,xf,xg,jl,wj,xh,wl,jm,Eng.distinct,pos,wn,Eng.ren,wo,xi,wp,jo,wq,yg,xj,ws,wu,jp,frz,yx,yz,wv,List.lookup_cons,jq,zi,jr,js,List.range_succ,jt,xk,ju,xm,↓yh,↓yi,↓qt,↓y6,↓qu,↓qa,↓yj,↓yk,↓qv,↓qw,↓qx,↓qy,↓qb,↓qz,qc,ww,xn,jv,jw,yl,qd,qe,zj,wx,y7,jx,xp,xq,keq,y8,wy,qf,y9,ym,xr,jy,jz,xt,j0,wz,ja,j1,xu,xv,xw,jb,q5,q6,yn,q7,j2,Option.map_some,yo,qg,q8,q9,qh,ya,xx,yb,yp,yc,xy,w5,xz,x5,w6,jc,x6,Op.operands,Call.operands,yd,qi,w7,AObj.live]
          rw [ih2 1 _ (by omega) (by omega) (by simp -implicitDefEqProofs [IntWalk.i64_in,IntWalk.u64_in,IntWalk.u8_in,IntWalk.i32_in,IntWalk.u32_in,ye,zk,zm,qj,qk,qm,qn,zb,zc,zn,zp,zq,qo,zd,ze,zr,zt,zu,j3,x7,zw,zf,za,zx,qp,zy,zg,zz,z6,qq,zh,yf,qr,aop,yq,j4,j5,x8,x9,jd,j6,j7,wb,je,j8,yr,j9,wg,jf,jg,xa,xb,z7,jh,z8,ji,jj,yt,yu,xc,AV.one,wh,wi,aun,jk,xd,yw,afn,xe,Out.ren,xf,xg,jl,wj,xh,wl,jm,Eng.distinct,pos,wn,Eng.ren,wo,xi,wp,jo,wq,yg,xj,ws,wu,jp,frz,yx,yz,wv,List.lookup_cons,jq,zi,jr,js,List.range_succ,jt,xk,ju,xm,↓yh,↓yi,↓qt,↓y6,↓qu,↓qa,↓yj,↓yk,↓qv,↓qw,↓qx,↓qy,↓qb,↓qz,qc,ww,xn,jv,jw,yl,qd,qe,zj,wx,y7,jx,xp,xq,keq,y8,wy,qf,y9,ym,xr,jy,jz,xt,j0,wz,ja,j1,xu,xv,xw,jb,q5,q6,yn,q7,j2,Option.map_some,yo,qg,q8,q9,qh,ya,xx,yb,yp,yc,xy,w5,xz,x5,w6,jc,x6,Op.operands,Call.operands,yd,qi,w7,AObj.live])]
          simp [fcL, codesU, hc']
      · by_cases hc : (p.2 : Int) = 92
        · simp -implicitDefEqProofs [mach_loop, mach_draw, intbne, intbeq, fcL, codesU, k1, hc, IntWalk.i64_in,IntWalk.u64_in,IntWalk.u8_in,IntWalk.i32_in,IntWalk.u32_in,ye,zk,zm,qj,qk,qm,qn,zb,zc,zn,zp,zq,qo,zd,ze,zr,zt,zu,j3,x7,zw,zf,za,zx,qp,zy,zg,zz,z6,qq,zh,yf,qr,aop,yq,j4,j5,x8,x9,jd,j6,j7,wb,je,j8,yr,j9,wg,jf,jg,xa,xb,z7,jh,z8,ji,jj,yt,yu,xc,AV.one,wh,wi,aun,jk,xd,yw,afn,xe,Out.ren,xf,xg,jl,wj,xh,wl,jm,Eng.distinct,pos,wn,Eng.ren,wo,xi,wp,jo,wq,yg,xj,ws,wu,jp,frz,yx,yz,wv,List.lookup_cons,jq,zi,jr,js,List.range_succ,jt,xk,ju,xm,↓yh,↓yi,↓qt,↓y6,↓qu,↓qa,↓yj,↓yk,↓qv,↓qw,↓qx,↓qy,↓qb,↓qz,qc,ww,xn,jv,jw,yl,qd,qe,zj,wx,y7,jx,xp,xq,keq,y8,wy,qf,y9,ym,xr,jy,jz,xt,j0,wz,ja,j1,xu,xv,xw,jb,q5,q6,yn,q7,j2,Option.map_some,yo,qg,q8,q9,qh,ya,xx,yb,yp,yc,xy,w5,xz,x5,w6,jc,x6,Op.operands,Call.operands,yd,qi,w7,AObj.live]
        · have hc' : ¬ (92 : Int) = p.2 := fun h => hc h.symm
          simp -implicitDefEqProofs [mach_loop, mach_draw, intbne, intbeq, fcL, codesU, k1, hc', IntWalk.i64_in,IntWalk.u64_in,IntWalk.u8_in,IntWalk.i32_in,IntWalk.u32_in,ye,zk,zm,qj,qk,qm,qn,zb,zc,zn,zp,zq,qo,zd,ze,zr,zt,zu,j3,x7,zw,zf,za,zx,qp,zy,zg,zz,z6,qq,zh,yf,qr,aop,yq,j4,j5,x8,x9,jd,j6,j7,wb,je,j8,yr,j9,wg,jf,jg,xa,xb,z7,jh,z8,ji,jj,yt,yu,xc,AV.one,wh,wi,aun,jk,xd,yw,afn,xe,Out.ren,xf,xg,jl,wj,xh,wl,jm,Eng.distinct,pos,wn,Eng.ren,wo,xi,wp,jo,wq,yg,xj,ws,wu,jp,frz,yx,yz,wv,List.lookup_cons,jq,zi,jr,js,List.range_succ,jt,xk,ju,xm,↓yh,↓yi,↓qt,↓y6,↓qu,↓qa,↓yj,↓yk,↓qv,↓qw,↓qx,↓qy,↓qb,↓qz,qc,ww,xn,jv,jw,yl,qd,qe,zj,wx,y7,jx,xp,xq,keq,y8,wy,qf,y9,ym,xr,jy,jz,xt,j0,wz,ja,j1,xu,xv,xw,jb,q5,q6,yn,q7,j2,Option.map_some,yo,qg,q8,q9,qh,ya,xx,yb,yp,yc,xy,w5,xz,x5,w6,jc,x6,Op.operands,Call.operands,yd,qi,w7,AObj.live]
          rw [ih2 2 _ (by omega) (by omega) (by simp -implicitDefEqProofs [IntWalk.i64_in,IntWalk.u64_in,IntWalk.u8_in,IntWalk.i32_in,IntWalk.u32_in,ye,zk,zm,qj,qk,qm,qn,zb,zc,zn,zp,zq,qo,zd,ze,zr,zt,zu,j3,x7,zw,zf,za,zx,qp,zy,zg,zz,z6,qq,zh,yf,qr,aop,yq,j4,j5,x8,x9,jd,j6,j7,wb,je,j8,yr,j9,wg,jf,jg,xa,xb,z7,jh,z8,ji,jj,yt,yu,xc,AV.one,wh,wi,aun,jk,xd,yw,afn,xe,Out.ren,xf,xg,jl,wj,xh,wl,jm,Eng.distinct,pos,wn,Eng.ren,wo,xi,wp,jo,wq,yg,xj,ws,wu,jp,frz,yx,yz,wv,List.lookup_cons,jq,zi,jr,js,List.range_succ,jt,xk,ju,xm,↓yh,↓yi,↓qt,↓y6,↓qu,↓qa,↓yj,↓yk,↓qv,↓qw,↓qx,↓qy,↓qb,↓qz,qc,ww,xn,jv,jw,yl,qd,qe,zj,wx,y7,jx,xp,xq,keq,y8,wy,qf,y9,ym,xr,jy,jz,xt,j0,wz,ja,j1,xu,xv,xw,jb,q5,q6,yn,q7,j2,Option.map_some,yo,qg,q8,q9,qh,ya,xx,yb,yp,yc,xy,w5,xz,x5,w6,jc,x6,Op.operands,Call.operands,yd,qi,w7,AObj.live])]
          simp [fcL, codesU, hc']
      · simp -implicitDefEqProofs [mach_loop, mach_draw, intbne, intbeq, fcL, codesU, IntWalk.i64_in,IntWalk.u64_in,IntWalk.u8_in,IntWalk.i32_in,IntWalk.u32_in,ye,zk,zm,qj,qk,qm,qn,zb,zc,zn,zp,zq,qo,zd,ze,zr,zt,zu,j3,x7,zw,zf,za,zx,qp,zy,zg,zz,z6,qq,zh,yf,qr,aop,yq,j4,j5,x8,x9,jd,j6,j7,wb,je,j8,yr,j9,wg,jf,jg,xa,xb,z7,jh,z8,ji,jj,yt,yu,xc,AV.one,wh,wi,aun,jk,xd,yw,afn,xe,Out.ren,xf,xg,jl,wj,xh,wl,jm,Eng.distinct,pos,wn,Eng.ren,wo,xi,wp,jo,wq,yg,xj,ws,wu,jp,frz,yx,yz,wv,List.lookup_cons,jq,zi,jr,js,List.range_succ,jt,xk,ju,xm,↓yh,↓yi,↓qt,↓y6,↓qu,↓qa,↓yj,↓yk,↓qv,↓qw,↓qx,↓qy,↓qb,↓qz,qc,ww,xn,jv,jw,yl,qd,qe,zj,wx,y7,jx,xp,xq,keq,y8,wy,qf,y9,ym,xr,jy,jz,xt,j0,wz,ja,j1,xu,xv,xw,jb,q5,q6,yn,q7,j2,Option.map_some,yo,qg,q8,q9,qh,ya,xx,yb,yp,yc,xy,w5,xz,x5,w6,jc,x6,Op.operands,Call.operands,yd,qi,w7,AObj.live]
        rw [ih2 3 _ (by omega) (by omega) (by simp -implicitDefEqProofs [IntWalk.i64_in,IntWalk.u64_in,IntWalk.u8_in,IntWalk.i32_in,IntWalk.u32_in,ye,zk,zm,qj,qk,qm,qn,zb,zc,zn,zp,zq,qo,zd,ze,zr,zt,zu,j3,x7,zw,zf,za,zx,qp,zy,zg,zz,z6,qq,zh,yf,qr,aop,yq,j4,j5,x8,x9,jd,j6,j7,wb,je,j8,yr,j9,wg,jf,jg,xa,xb,z7,jh,z8,ji,jj,yt,yu,xc,AV.one,wh,wi,aun,jk,xd,yw,afn,xe,Out.ren,xf,xg,jl,wj,xh,wl,jm,Eng.distinct,pos,wn,Eng.ren,wo,xi,wp,jo,wq,yg,xj,ws,wu,jp,frz,yx,yz,wv,List.lookup_cons,jq,zi,jr,js,List.range_succ,jt,xk,ju,xm,↓yh,↓yi,↓qt,↓y6,↓qu,↓qa,↓yj,↓yk,↓qv,↓qw,↓qx,↓qy,↓qb,↓qz,qc,ww,xn,jv,jw,yl,qd,qe,zj,wx,y7,jx,xp,xq,keq,y8,wy,qf,y9,ym,xr,jy,jz,xt,j0,wz,ja,j1,xu,xv,xw,jb,q5,q6,yn,q7,j2,Option.map_some,yo,qg,q8,q9,qh,ya,xx,yb,yp,yc,xy,w5,xz,x5,w6,jc,x6,Op.operands,Call.operands,yd,qi,w7,AObj.live])]
        simp [fcL, codesU]
      · by_cases hc : (p.2 : Int) = 8
        · simp -implicitDefEqProofs [mach_loop, mach_draw, intbne, intbeq, fcL, codesU, k3, hc, IntWalk.i64_in,IntWalk.u64_in,IntWalk.u8_in,IntWalk.i32_in,IntWalk.u32_in,ye,zk,zm,qj,qk,qm,qn,zb,zc,zn,zp,zq,qo,zd,ze,zr,zt,zu,j3,x7,zw,zf,za,zx,qp,zy,zg,zz,z6,qq,zh,yf,qr,aop,yq,j4,j5,x8,x9,jd,j6,j7,wb,je,j8,yr,j9,wg,jf,jg,xa,xb,z7,jh,z8,ji,jj,yt,yu,xc,AV.one,wh,wi,aun,jk,xd,yw,afn,xe,Out.ren,xf,xg,jl,wj,xh,wl,jm,Eng.distinct,pos,wn,Eng.ren,wo,xi,wp,jo,wq,yg,xj,ws,wu,jp,frz,yx,yz,wv,List.lookup_cons,jq,zi,jr,js,List.range_succ,jt,xk,ju,xm,↓yh,↓yi,↓qt,↓y6,↓qu,↓qa,↓yj,↓yk,↓qv,↓qw,↓qx,↓qy,↓qb,↓qz,qc,ww,xn,jv,jw,yl,qd,qe,zj,wx,y7,jx,xp,xq,keq,y8,wy,qf,y9,ym,xr,jy,jz,xt,j0,wz,ja,j1,xu,xv,xw,jb,q5,q6,yn,q7,j2,Option.map_some,yo,qg,q8,q9,qh,ya,xx,yb,yp,yc,xy,w5,xz,x5,w6,jc,x6,Op.operands,Call.operands,yd,qi,w7,AObj.live]
        · have hc' : ¬ (8 : Int) = p.2 := fun h => hc h.symm
          simp -implicitDefEqProofs [mach_loop, mach_draw, intbne, intbeq, fcL, codesU, k3, hc', IntWalk.i64_in,IntWalk.u64_in,IntWalk.u8_in,IntWalk.i32_in,IntWalk.u32_in,ye,zk,zm,qj,qk,qm,qn,zb,zc,zn,zp,zq,qo,zd,ze,zr,zt,zu,j3,x7,zw,zf,za,zx,qp,zy,zg,zz,z6,qq,zh,yf,qr,aop,yq,j4,j5,x8,x9,jd,j6,j7,wb,je,j8,yr,j9,wg,jf,jg,xa,xb,z7,jh,z8,ji,jj,yt,yu,xc,AV.one,wh,wi,aun,jk,xd,yw,afn,xe,Out.ren,xf,xg,jl,wj,xh,wl,jm,Eng.distinct,pos,wn,Eng.ren,wo,xi,wp,jo,wq,yg,xj,ws,wu,jp,frz,yx,yz,wv,List.lookup_cons,jq,zi,jr,js,List.range_succ,jt,xk,ju,xm,↓yh,↓yi,↓qt,↓y6,↓qu,↓qa,↓yj,↓yk,↓qv,↓qw,↓qx,↓qy,↓qb,↓qz,qc,ww,xn,jv,jw,yl,qd,qe,zj,wx,y7,jx,xp,xq,keq,y8,wy,qf,y9,ym,xr,jy,jz,xt,j0,wz,ja,j1,xu,xv,xw,jb,q5,q6,yn,q7,j2,Option.map_some,yo,qg,q8,q9,qh,ya,xx,yb,yp,yc,xy,w5,xz,x5,w6,jc,x6,Op.operands,Call.operands,yd,qi,w7,AObj.live]
          rw [ih2 4 _ (by omega) (by omega) (by simp -implicitDefEqProofs [IntWalk.i64_in,IntWalk.u64_in,IntWalk.u8_in,IntWalk.i32_in,IntWalk.u32_in,ye,zk,zm,qj,qk,qm,qn,zb,zc,zn,zp,zq,qo,zd,ze,zr,zt,zu,j3,x7,zw,zf,za,zx,qp,zy,zg,zz,z6,qq,zh,yf,qr,aop,yq,j4,j5,x8,x9,jd,j6,j7,wb,je,j8,yr,j9,wg,jf,jg,xa,xb,z7,jh,z8,ji,jj,yt,yu,xc,AV.one,wh,wi,aun,jk,xd,yw,afn,xe,Out.ren,xf,xg,jl,wj,xh,wl,jm,Eng.distinct,pos,wn,Eng.ren,wo,xi,wp,jo,wq,yg,xj,ws,wu,jp,frz,yx,yz,wv,List.lookup_cons,jq,zi,jr,js,List.range_succ,jt,xk,ju,xm,↓yh,↓yi,↓qt,↓y6,↓qu,↓qa,↓yj,↓yk,↓qv,↓qw,↓qx,↓qy,↓qb,↓qz,qc,ww,xn,jv,jw,yl,qd,qe,zj,wx,y7,jx,xp,xq,keq,y8,wy,qf,y9,ym,xr,jy,jz,xt,j0,wz,ja,j1,xu,xv,xw,jb,q5,q6,yn,q7,j2,Option.map_some,yo,qg,q8,q9,qh,ya,xx,yb,yp,yc,xy,w5,xz,x5,w6,jc,x6,Op.operands,Call.operands,yd,qi,w7,AObj.live])]
          simp [fcL, codesU, hc']
      · by_cases hc : (p.2 : Int) = 12
        · simp -implicitDefEqProofs [mach_loop, mach_draw, intbne, intbeq, fcL, codesU, k4, hc, IntWalk.i64_in,IntWalk.u64_in,IntWalk.u8_in,IntWalk.i32_in,IntWalk.u32_in,ye,zk,zm,qj,qk,qm,qn,zb,zc,zn,zp,zq,qo,zd,ze,zr,zt,zu,j3,x7,zw,zf,za,zx,qp,zy,zg,zz,z6,qq,zh,yf,qr,aop,yq,j4,j5,x8,x9,jd,j6,j7,wb,je,j8,yr,j9,wg,jf,jg,xa,xb,z7,jh,z8,ji,jj,yt,yu,xc,AV.one,wh,wi,aun,jk,xd,yw,afn,xe,Out.ren,xf,xg,jl,wj,xh,wl,jm,Eng.distinct,pos,wn,Eng.ren,wo,xi,wp,jo,wq,yg,xj,ws,wu,jp,frz,yx,yz,wv,List.lookup_cons,jq,zi,jr,js,List.range_succ,jt,xk,ju,xm,↓yh,↓yi,↓qt,↓y6,↓qu,↓qa,↓yj,↓yk,↓qv,↓qw,↓qx,↓qy,↓qb,↓qz,qc,ww,xn,jv,jw,yl,qd,qe,zj,wx,y7,jx,xp,xq,keq,y8,wy,qf,y9,ym,xr,jy,jz,xt,j0,wz,ja,j1,xu,xv,xw,jb,q5,q6,yn,q7,j2,Option.map_some,yo,qg,q8,q9,qh,ya,xx,yb,yp,yc,xy,w5,xz,x5,w6,jc,x6,Op.operands,Call.operands,yd,qi,w7,AObj.live]
        · have hc' : ¬ (12 : Int) = p.2 := fun h => hc h.symm
          simp -implicitDefEqProofs [mach_loop, mach_draw, intbne, intbeq, fcL, codesU, k4, hc', IntWalk.i64_in,IntWalk.u64_in,IntWalk.u8_in,IntWalk.i32_in,IntWalk.u32_in,ye,zk,zm,qj,qk,qm,qn,zb,zc,zn,zp,zq,qo,zd,ze,zr,zt,zu,j3,x7,zw,zf,za,zx,qp,zy,zg,zz,z6,qq,zh,yf,qr,aop,yq,j4,j5,x8,x9,jd,j6,j7,wb,je,j8,yr,j9,wg,jf,jg,xa,xb,z7,jh,z8,ji,jj,yt,yu,xc,AV.one,wh,wi,aun,jk,xd,yw,afn,xe,Out.ren,xf,xg,jl,wj,xh,wl,jm,Eng.distinct,pos,wn,Eng.ren,wo,xi,wp,jo,wq,yg,xj,ws,wu,jp,frz,yx,yz,wv,List.lookup_cons,jq,zi,jr,js,List.range_succ,jt,xk,ju,xm,↓yh,↓yi,↓qt,↓y6,↓qu,↓qa,↓yj,↓yk,↓qv,↓qw,↓qx,↓qy,↓qb,↓qz,qc,ww,xn,jv,jw,yl,qd,qe,zj,wx,y7,jx,xp,xq,keq,y8,wy,qf,y9,ym,xr,jy,jz,xt,j0,wz,ja,j1,xu,xv,xw,jb,q5,q6,yn,q7,j2,Option.map_some,yo,qg,q8,q9,qh,ya,xx,yb,yp,yc,xy,w5,xz,x5,w6,jc,x6,Op.operands,Call.operands,yd,qi,w7,AObj.live]
          rw [ih2 5 _ (by omega) (by omega) (by simp -implicitDefEqProofs [IntWalk.i64_in,IntWalk.u64_in,IntWalk.u8_in,IntWalk.i32_in,IntWalk.u32_in,ye,zk,zm,qj,qk,qm,qn,zb,zc,zn,zp,zq,qo,zd,ze,zr,zt,zu,j3,x7,zw,zf,za,zx,qp,zy,zg,zz,z6,qq,zh,yf,qr,aop,yq,j4,j5,x8,x9,jd,j6,j7,wb,je,j8,yr,j9,wg,jf,jg,xa,xb,z7,jh,z8,ji,jj,yt,yu,xc,AV.one,wh,wi,aun,jk,xd,yw,afn,xe,Out.ren,xf,xg,jl,wj,xh,wl,jm,Eng.distinct,pos,wn,Eng.ren,wo,xi,wp,jo,wq,yg,xj,ws,wu,jp,frz,yx,yz,wv,List.lookup_cons,jq,zi,jr,js,List.range_succ,jt,xk,ju,xm,↓yh,↓yi,↓qt,↓y6,↓qu,↓qa,↓yj,↓yk,↓qv,↓qw,↓qx,↓qy,↓qb,↓qz,qc,ww,xn,jv,jw,yl,qd,qe,zj,wx,y7,jx,xp,xq,keq,y8,wy,qf,y9,ym,xr,jy,jz,xt,j0,wz,ja,j1,xu,xv,xw,jb,q5,q6,yn,q7,j2,Option.map_some,yo,qg,q8,q9,qh,ya,xx,yb,yp,yc,xy,w5,xz,x5,w6,jc,x6,Op.operands,Call.operands,yd,qi,w7,AObj.live])]
          simp [fcL, codesU, hc']
      · by_cases hc : (p.2 : Int) = 10
        · simp -implicitDefEqProofs [mach_loop, mach_draw, intbne, intbeq, fcL, codesU, k5, hc, IntWalk.i64_in,IntWalk.u64_in,IntWalk.u8_in,IntWalk.i32_in,IntWalk.u32_in,ye,zk,zm,qj,qk,qm,qn,zb,zc,zn,zp,zq,qo,zd,ze,zr,zt,zu,j3,x7,zw,zf,za,zx,qp,zy,zg,zz,z6,qq,zh,yf,qr,aop,yq,j4,j5,x8,x9,jd,j6,j7,wb,je,j8,yr,j9,wg,jf,jg,xa,xb,z7,jh,z8,ji,jj,yt,yu,xc,AV.one,wh,wi,aun,jk,xd,yw,afn,xe,Out.ren,xf,xg,jl,wj,xh,wl,jm,Eng.distinct,pos,wn,Eng.ren,wo,xi,wp,jo,wq,yg,xj,ws,wu,jp,frz,yx,yz,wv,List.lookup_cons,jq,zi,jr,js,List.range_succ,jt,xk,ju,xm,↓yh,↓yi,↓qt,↓y6,↓qu,↓qa,↓yj,↓yk,↓qv,↓qw,↓qx,↓qy,↓qb,↓qz,qc,ww,xn,jv,jw,yl,qd,qe,zj,wx,y7,jx,xp,xq,keq,y8,wy,qf,y9,ym,xr,jy,jz,xt,j0,wz,ja,j1,xu,xv,xw,jb,q5,q6,yn,q7,j2,Option.map_some,yo,qg,q8,q9,qh,ya,xx,yb,yp,yc,xy,w5,xz,x5,w6,jc,x6,Op.operands,Call.operands,yd,qi,w7,AObj.live]
        · have hc' : ¬ (10 : Int) = p.2 := fun h => hc h.symm
          simp -implicitDefEqProofs [mach_loop, mach_draw, intbne, intbeq, fcL, codesU, k5, hc', IntWalk.i64_in,IntWalk.u64_in,IntWalk.u8_in,IntWalk.i32_in,IntWalk.u32_in,ye,zk,zm,qj,qk,qm,qn,zb,zc,zn,zp,zq,qo,zd,ze,zr,zt,zu,j3,x7,zw,zf,za,zx,qp,zy,zg,zz,z6,qq,zh,yf,qr,aop,yq,j4,j5,x8,x9,jd,j6,j7,wb,je,j8,yr,j9,wg,jf,jg,xa,xb,z7,jh,z8,ji,jj,yt,yu,xc,AV.one,wh,wi,aun,jk,xd,yw,afn,xe,Out.ren,xf,xg,jl,wj,xh,wl,jm,Eng.distinct,pos,wn,Eng.ren,wo,xi,wp,jo,wq,yg,xj,ws,wu,jp,frz,yx,yz,wv,List.lookup_cons,jq,zi,jr,js,List.range_succ,jt,xk,ju,xm,↓yh,↓yi,↓qt,↓y6,↓qu,↓qa,↓yj,↓yk,↓qv,↓qw,↓qx,↓qy,↓qb,↓qz,qc,ww,xn,jv,jw,yl,qd,qe,zj,wx,y7,jx,xp,xq,keq,y8,wy,qf,y9,ym,xr,jy,jz,xt,j0,wz,ja,j1,xu,xv,xw,jb,q5,q6,yn,q7,j2,Option.map_some,yo,qg,q8,q9,qh,ya,xx,yb,yp,yc,xy,w5,xz,x5,w6,jc,x6,Op.operands,Call.operands,yd,qi,w7,AObj.live]
          rw [ih2 6 _ (by omega) (by omega) (by simp -implicitDefEqProofs [IntWalk.i64_in,IntWalk.u64_in,IntWalk.u8_in,IntWalk.i32_in,IntWalk.u32_in,ye,zk,zm,qj,qk,qm,qn,zb,zc,zn,zp,zq,qo,zd,ze,zr,zt,zu,j3,x7,zw,zf,za,zx,qp,zy,zg,zz,z6,qq,zh,yf,qr,aop,yq,j4,j5,x8,x9,jd,j6,j7,wb,je,j8,yr,j9,wg,jf,jg,xa,xb,z7,jh,z8,ji,jj,yt,yu,xc,AV.one,wh,wi,aun,jk,xd,yw,afn,xe,Out.ren,xf,xg,jl,wj,xh,wl,jm,Eng.distinct,pos,wn,Eng.ren,wo,xi,wp,jo,wq,yg,xj,ws,wu,jp,frz,yx,yz,wv,List.lookup_cons,jq,zi,jr,js,List.range_succ,jt,xk,ju,xm,↓yh,↓yi,↓qt,↓y6,↓qu,↓qa,↓yj,↓yk,↓qv,↓qw,↓qx,↓qy,↓qb,↓qz,qc,ww,xn,jv,jw,yl,qd,qe,zj,wx,y7,jx,xp,xq,keq,y8,wy,qf,y9,ym,xr,jy,jz,xt,j0,wz,ja,j1,xu,xv,xw,jb,q5,q6,yn,q7,j2,Option.map_some,yo,qg,q8,q9,qh,ya,xx,yb,yp,yc,xy,w5,xz,x5,w6,jc,x6,Op.operands,Call.operands,yd,qi,w7,AObj.live])]
          simp [fcL, codesU, hc']
      · by_cases hc : (p.2 : Int) = 13
        · simp -implicitDefEqProofs [mach_loop, mach_draw, intbne, intbeq, fcL, codesU, k6, hc, IntWalk.i64_in,IntWalk.u64_in,IntWalk.u8_in,IntWalk.i32_in,IntWalk.u32_in,ye,zk,zm,qj,qk,qm,qn,zb,zc,zn,zp,zq,qo,zd,ze,zr,zt,zu,j3,x7,zw,zf,za,zx,qp,zy,zg,zz,z6,qq,zh,yf,qr,aop,yq,j4,j5,x8,x9,jd,j6,j7,wb,je,j8,yr,j9,wg,jf,jg,xa,xb,z7,jh,z8,ji,jj,yt,yu,xc,AV.one,wh,wi,aun,jk,xd,yw,afn,xe,Out.ren,xf,xg,jl,wj,xh,wl,jm,Eng.distinct,pos,wn,Eng.ren,wo,xi,wp,jo,wq,yg,xj,ws,wu,jp,frz,yx,yz,wv,List.lookup_cons,jq,zi,jr,js,List.range_succ,jt,xk,ju,xm,↓yh,↓yi,↓qt,↓y6,↓qu,↓qa,↓yj,↓yk,↓qv,↓qw,↓qx,↓qy,↓qb,↓qz,qc,ww,xn,jv,jw,yl,qd,qe,zj,wx,y7,jx,xp,xq,keq,y8,wy,qf,y9,ym,xr,jy,jz,xt,j0,wz,ja,j1,xu,xv,xw,jb,q5,q6,yn,q7,j2,Option.map_some,yo,qg,q8,q9,qh,ya,xx,yb,yp,yc,xy,w5,xz,x5,w6,jc,x6,Op.operands,Call.operands,yd,qi,w7,AObj.live]
        · have hc' : ¬ (13 : Int) = p.2 := fun h => hc h.symm
          simp -implicitDefEqProofs [mach_loop, mach_draw, intbne, intbeq, fcL, codesU, k6, hc', IntWalk.i64_in,IntWalk.u64_in,IntWalk.u8_in,IntWalk.i32_in,IntWalk.u32_in,ye,zk,zm,qj,qk,qm,qn,zb,zc,zn,zp,zq,qo,zd,ze,zr,zt,zu,j3,x7,zw,zf,za,zx,qp,zy,zg,zz,z6,qq,zh,yf,qr,aop,yq,j4,j5,x8,x9,jd,j6,j7,wb,je,j8,yr,j9,wg,jf,jg,xa,xb,z7,jh,z8,ji,jj,yt,yu,xc,AV.one,wh,wi,aun,jk,xd,yw,afn,xe,Out.ren,xf,xg,jl,wj,xh,wl,jm,Eng.distinct,pos,wn,Eng.ren,wo,xi,wp,jo,wq,yg,xj,ws,wu,jp,frz,yx,yz,wv,List.lookup_cons,jq,zi,jr,js,List.range_succ,jt,xk,ju,xm,↓yh,↓yi,↓qt,↓y6,↓qu,↓qa,↓yj,↓yk,↓qv,↓qw,↓qx,↓qy,↓qb,↓qz,qc,ww,xn,jv,jw,yl,qd,qe,zj,wx,y7,jx,xp,xq,keq,y8,wy,qf,y9,ym,xr,jy,jz,xt,j0,wz,ja,j1,xu,xv,xw,jb,q5,q6,yn,q7,j2,Option.map_some,yo,qg,q8,q9,qh,ya,xx,yb,yp,yc,xy,w5,xz,x5,w6,jc,x6,Op.operands,Call.operands,yd,qi,w7,AObj.live]
          rw [ih2 7 _ (by omega) (by omega) (by simp -implicitDefEqProofs [IntWalk.i64_in,IntWalk.u64_in,IntWalk.u8_in,IntWalk.i32_in,IntWalk.u32_in,ye,zk,zm,qj,qk,qm,qn,zb,zc,zn,zp,zq,qo,zd,ze,zr,zt,zu,j3,x7,zw,zf,za,zx,qp,zy,zg,zz,z6,qq,zh,yf,qr,aop,yq,j4,j5,x8,x9,jd,j6,j7,wb,je,j8,yr,j9,wg,jf,jg,xa,xb,z7,jh,z8,ji,jj,yt,yu,xc,AV.one,wh,wi,aun,jk,xd,yw,afn,xe,Out.ren,xf,xg,jl,wj,xh,wl,jm,Eng.distinct,pos,wn,Eng.ren,wo,xi,wp,jo,wq,yg,xj,ws,wu,jp,frz,yx,yz,wv,List.lookup_cons,jq,zi,jr,js,List.range_succ,jt,xk,ju,xm,↓yh,↓yi,↓qt,↓y6,↓qu,↓qa,↓yj,↓yk,↓qv,↓qw,↓qx,↓qy,↓qb,↓qz,qc,ww,xn,jv,jw,yl,qd,qe,zj,wx,y7,jx,xp,xq,keq,y8,wy,qf,y9,ym,xr,jy,jz,xt,j0,wz,ja,j1,xu,xv,xw,jb,q5,q6,yn,q7,j2,Option.map_some,yo,qg,q8,q9,qh,ya,xx,yb,yp,yc,xy,w5,xz,x5,w6,jc,x6,Op.operands,Call.operands,yd,qi,w7,AObj.live])]
          simp [fcL, codesU, hc']
      · by_cases hc : (p.2 : Int) = 9
        · simp -implicitDefEqProofs [mach_loop, mach_draw, intbne, intbeq, fcL, codesU, k7, hc, IntWalk.i64_in,IntWalk.u64_in,IntWalk.u8_in,IntWalk.i32_in,IntWalk.u32_in,ye,zk,zm,qj,qk,qm,qn,zb,zc,zn,zp,zq,qo,zd,ze,zr,zt,zu,j3,x7,zw,zf,za,zx,qp,zy,zg,zz,z6,qq,zh,yf,qr,aop,yq,j4,j5,x8,x9,jd,j6,j7,wb,je,j8,yr,j9,wg,jf,jg,xa,xb,z7,jh,z8,ji,jj,yt,yu,xc,AV.one,wh,wi,aun,jk,xd,yw,afn,xe,Out.ren,xf,xg,jl,wj,xh,wl,jm,Eng.distinct,pos,wn,Eng.ren,wo,xi,wp,jo,wq,yg,xj,ws,wu,jp,frz,yx,yz,wv,List.lookup_cons,jq,zi,jr,js,List.range_succ,jt,xk,ju,xm,↓yh,↓yi,↓qt,↓y6,↓qu,↓qa,↓yj,↓yk,↓qv,↓qw,↓qx,↓qy,↓qb,↓qz,qc,ww,xn,jv,jw,yl,qd,qe,zj,wx,y7,jx,xp,xq,keq,y8,wy,qf,y9,ym,xr,jy,jz,xt,j0,wz,ja,j1,xu,xv,xw,jb,q5,q6,yn,q7,j2,Option.map_some,yo,qg,q8,q9,qh,ya,xx,yb,yp,yc,xy,w5,xz,x5,w6,jc,x6,Op.operands,Call.operands,yd,qi,w7,AObj.live]
        · have hc' : ¬ (9 : Int) = p.2 := fun h => hc h.symm
          simp -implicitDefEqProofs [mach_loop, mach_draw, intbne, intbeq, fcL, codesU, k7, hc', IntWalk.i64_in,IntWalk.u64_in,IntWalk.u8_in,IntWalk.i32_in,IntWalk.u32_in,ye,zk,zm,qj,qk,qm,qn,zb,zc,zn,zp,zq,qo,zd,ze,zr,zt,zu,j3,x7,zw,zf,za,zx,qp,zy,zg,zz,z6,qq,zh,yf,qr,aop,yq,j4,j5,x8,x9,jd,j6,j7,wb,je,j8,yr,j9,wg,jf,jg,xa,xb,z7,jh,z8,ji,jj,yt,yu,xc,AV.one,wh,wi,aun,jk,xd,yw,afn,xe,Out.ren,xf,xg,jl,wj,xh,wl,jm,Eng.distinct,pos,wn,Eng.ren,wo,xi,wp,jo,wq,yg,xj,ws,wu,jp,frz,yx,yz,wv,List.lookup_cons,jq,zi,jr,js,List.range_succ,jt,xk,ju,xm,↓yh,↓yi,↓qt,↓y6,↓qu,↓qa,↓yj,↓yk,↓qv,↓qw,↓qx,↓qy,↓qb,↓qz,qc,ww,xn,jv,jw,yl,qd,qe,zj,wx,y7,jx,xp,xq,keq,y8,wy,qf,y9,ym,xr,jy,jz,xt,j0,wz,ja,j1,xu,xv,xw,jb,q5,q6,yn,q7,j2,Option.map_some,yo,qg,q8,q9,qh,ya,xx,yb,yp,yc,xy,w5,xz,x5,w6,jc,x6,Op.operands,Call.operands,yd,qi,w7,AObj.live]
          rw [ih2 8 _ (by omega) (by omega) (by simp -implicitDefEqProofs [IntWalk.i64_in,IntWalk.u64_in,IntWalk.u8_in,IntWalk.i32_in,IntWalk.u32_in,ye,zk,zm,qj,qk,qm,qn,zb,zc,zn,zp,zq,qo,zd,ze,zr,zt,zu,j3,x7,zw,zf,za,zx,qp,zy,zg,zz,z6,qq,zh,yf,qr,aop,yq,j4,j5,x8,x9,jd,j6,j7,wb,je,j8,yr,j9,wg,jf,jg,xa,xb,z7,jh,z8,ji,jj,yt,yu,xc,AV.one,wh,wi,aun,jk,xd,yw,afn,xe,Out.ren,xf,xg,jl,wj,xh,wl,jm,Eng.distinct,pos,wn,Eng.ren,wo,xi,wp,jo,wq,yg,xj,ws,wu,jp,frz,yx,yz,wv,List.lookup_cons,jq,zi,jr,js,List.range_succ,jt,xk,ju,xm,↓yh,↓yi,↓qt,↓y6,↓qu,↓qa,↓yj,↓yk,↓qv,↓qw,↓qx,↓qy,↓qb,↓qz,qc,ww,xn,jv,jw,yl,qd,qe,zj,wx,y7,jx,xp,xq,keq,y8,wy,qf,y9,ym,xr,jy,jz,xt,j0,wz,ja,j1,xu,xv,xw,jb,q5,q6,yn,q7,j2,Option.map_some,yo,qg,q8,q9,qh,ya,xx,yb,yp,yc,xy,w5,xz,x5,w6,jc,x6,Op.operands,Call.operands,yd,qi,w7,AObj.live])]
          simp [fcL, codesU, hc']
      · simp -implicitDefEqProofs [mach_loop, mach_draw, intbne, intbeq, fcL, codesU, IntWalk.i64_in,IntWalk.u64_in,IntWalk.u8_in,IntWalk.i32_in,IntWalk.u32_in,ye,zk,zm,qj,qk,qm,qn,zb,zc,zn,zp,zq,qo,zd,ze,zr,zt,zu,j3,x7,zw,zf,za,zx,qp,zy,zg,zz,z6,qq,zh,yf,qr,aop,yq,j4,j5,x8,x9,jd,j6,j7,wb,je,j8,yr,j9,wg,jf,jg,xa,xb,z7,jh,z8,ji,jj,yt,yu,xc,AV.one,wh,wi,aun,jk,xd,yw,afn,xe,Out.ren,xf,xg,jl,wj,xh,wl,jm,Eng.distinct,pos,wn,Eng.ren,wo,xi,wp,jo,wq,yg,xj,ws,wu,jp,frz,yx,yz,wv,List.lookup_cons,jq,zi,jr,js,List.range_succ,jt,xk,ju,xm,↓yh,↓yi,↓qt,↓y6,↓qu,↓qa,↓yj,↓yk,↓qv,↓qw,↓qx,↓qy,↓qb,↓qz,qc,ww,xn,jv,jw,yl,qd,qe,zj,wx,y7,jx,xp,xq,keq,y8,wy,qf,y9,ym,xr,jy,jz,xt,j0,wz,ja,j1,xu,xv,xw,jb,q5,q6,yn,q7,j2,Option.map_some,yo,qg,q8,q9,qh,ya,xx,yb,yp,yc,xy,w5,xz,x5,w6,jc,x6,Op.operands,Call.operands,yd,qi,w7,AObj.live]
    · simp -implicitDefEqProofs [IntWalk.i64_in,IntWalk.u64_in,IntWalk.u8_in,IntWalk.i32_in,IntWalk.u32_in,ye,zk,zm,qj,qk,qm,qn,zb,zc,zn,zp,zq,qo,zd,ze,zr,zt,zu,j3,x7,zw,zf,za,zx,qp,zy,zg,zz,z6,qq,zh,yf,qr,aop,yq,j4,j5,x8,x9,jd,j6,j7,wb,je,j8,yr,j9,wg,jf,jg,xa,xb,z7,jh,z8,ji,jj,yt,yu,xc,AV.one,wh,wi,aun,jk,xd,yw,afn,xe,Out.ren,xf,xg,jl,wj,xh,wl,jm,Eng.distinct,pos,wn,Eng.ren,wo,xi,wp,jo,wq,yg,xj,ws,wu,jp,frz,yx,yz,wv,List.lookup_cons,jq,zi,jr,js,List.range_succ,jt,xk,ju,xm,↓yh,↓yi,↓qt,↓y6,↓qu,↓qa,↓yj,↓yk,↓qv,↓qw,↓qx,↓qy,↓qb,↓qz,qc,ww,xn,jv,jw,yl,qd,qe,zj,wx,y7,jx,xp,xq,keq,y8,wy,qf,y9,ym,xr,jy,jz,xt,j0,wz,ja,j1,xu,xv,xw,jb,q5,q6,yn,q7,j2,Option.map_some,yo,qg,q8,q9,qh,ya,xx,yb,yp,yc,xy,w5,xz,x5,w6,jc,x6,Op.operands,Call.operands,yd,qi,w7,AObj.live]
    have hup : (0 : Int) ≤ (p.2 : Nat) := by omega
    by_cases e34 : p.2 = 34
    · have hf : fcL codesU 0 (p.2 : Int) = 0 := by rw [e34]; rfl
      simp -implicitDefEqProofs [hf, hqK, hw2, mach_loop, IntWalk.i64_in,IntWalk.u64_in,IntWalk.u8_in,IntWalk.i32_in,IntWalk.u32_in,ye,zk,zm,qj,qk,qm,qn,zb,zc,zn,zp,zq,qo,zd,ze,zr,zt,zu,j3,x7,zw,zf,za,zx,qp,zy,zg,zz,z6,qq,zh,yf,qr,aop,yq,j4,j5,x8,x9,jd,j6,j7,wb,je,j8,yr,j9,wg,jf,jg,xa,xb,z7,jh,z8,ji,jj,yt,yu,xc,AV.one,wh,wi,aun,jk,xd,yw,afn,xe,Out.ren,xf,xg,jl,wj,xh,wl,jm,Eng.distinct,pos,wn,Eng.ren,wo,xi,wp,jo,wq,yg,xj,ws,wu,jp,frz,yx,yz,wv,List.lookup_cons,jq,zi,jr,js,List.range_succ,jt,xk,ju,xm,↓yh,↓yi,↓qt,↓y6,↓qu,↓qa,↓yj,↓yk,↓qv,↓qw,↓qx,↓qy,↓qb,↓qz,qc,ww,xn,jv,jw,yl,qd,qe,zj,wx,y7,jx,xp,xq,keq,y8,wy,qf,y9,ym,xr,jy,jz,xt,j0,wz,ja,j1,xu,xv,xw,jb,q5,q6,yn,q7,j2,Option.map_some,yo,qg,q8,q9,qh,ya,xx,yb,yp,yc,xy,w5,xz,x5,w6,jc,x6,Op.operands,Call.operands,yd,qi,w7,AObj.live]
      rw [ih _ (by simp -implicitDefEqProofs [qs, escU, e34, IntWalk.i64_in,IntWalk.u64_in,IntWalk.u8_in,IntWalk.i32_in,IntWalk.u32_in,ye,zk,zm,qj,qk,qm,qn,zb,zc,zn,zp,zq,qo,zd,ze,zr,zt,zu,j3,x7,zw,zf,za,zx,qp,zy,zg,zz,z6,qq,zh,yf,qr,aop,yq,j4,j5,x8,x9,jd,j6,j7,wb,je,j8,yr,j9,wg,jf,jg,xa,xb,z7,jh,z8,ji,jj,yt,yu,xc,AV.one,wh,wi,aun,jk,xd,yw,afn,xe,Out.ren,xf,xg,jl,wj,xh,wl,jm,Eng.distinct,pos,wn,Eng.ren,wo,xi,wp,jo,wq,yg,xj,ws,wu,jp,frz,yx,yz,wv,List.lookup_cons,jq,zi,jr,js,List.range_succ,jt,xk,ju,xm,↓yh,↓yi,↓qt,↓y6,↓qu,↓qa,↓yj,↓yk,↓qv,↓qw,↓qx,↓qy,↓qb,↓qz,qc,ww,xn,jv,jw,yl,qd,qe,zj,wx,y7,jx,xp,xq,keq,y8,wy,qf,y9,ym,xr,jy,jz,xt,j0,wz,ja,j1,xu,xv,xw,jb,q5,q6,yn,q7,j2,Option.map_some,yo,qg,q8,q9,qh,ya,xx,yb,yp,yc,xy,w5,xz,x5,w6,jc,x6,Op.operands,Call.operands,yd,qi,w7,AObj.live] <;> omega)]
      simp
    by_cases e92 : p.2 = 92
    · have hf : fcL codesU 0 (p.2 : Int) = 1 := by rw [e92]; rfl
      simp -implicitDefEqProofs [hf, hqK, hw2, mach_loop, IntWalk.i64_in,IntWalk.u64_in,IntWalk.u8_in,IntWalk.i32_in,IntWalk.u32_in,ye,zk,zm,qj,qk,qm,qn,zb,zc,zn,zp,zq,qo,zd,ze,zr,zt,zu,j3,x7,zw,zf,za,zx,qp,zy,zg,zz,z6,qq,zh,yf,qr,aop,yq,j4,j5,x8,x9,jd,j6,j7,wb,je,j8,yr,j9,wg,jf,jg,xa,xb,z7,jh,z8,ji,jj,yt,yu,xc,AV.one,wh,wi,aun,jk,xd,yw,afn,xe,Out.ren,xf,xg,jl,wj,xh,wl,jm,Eng.distinct,pos,wn,Eng.ren,wo,xi,wp,jo,wq,yg,xj,ws,wu,jp,frz,yx,yz,wv,List.lookup_cons,jq,zi,jr,js,List.range_succ,jt,xk,ju,xm,↓yh,↓yi,↓qt,↓y6,↓qu,↓qa,↓yj,↓yk,↓qv,↓qw,↓qx,↓qy,↓qb,↓qz,qc,ww,xn,jv,jw,yl,qd,qe,zj,wx,y7,jx,xp,xq,keq,y8,wy,qf,y9,ym,xr,jy,jz,xt,j0,wz,ja,j1,xu,xv,xw,jb,q5,q6,yn,q7,j2,Option.map_some,yo,qg,q8,q9,qh,ya,xx,yb,yp,yc,xy,w5,xz,x5,w6,jc,x6,Op.operands,Call.operands,yd,qi,w7,AObj.live]
      rw [ih _ (by simp -implicitDefEqProofs [qs, escU, e92, IntWalk.i64_in,IntWalk.u64_in,IntWalk.u8_in,IntWalk.i32_in,IntWalk.u32_in,ye,zk,zm,qj,qk,qm,qn,zb,zc,zn,zp,zq,qo,zd,ze,zr,zt,zu,j3,x7,zw,zf,za,zx,qp,zy,zg,zz,z6,qq,zh,yf,qr,aop,yq,j4,j5,x8,x9,jd,j6,j7,wb,je,j8,yr,j9,wg,jf,jg,xa,xb,z7,jh,z8,ji,jj,yt,yu,xc,AV.one,wh,wi,aun,jk,xd,yw,afn,xe,Out.ren,xf,xg,jl,wj,xh,wl,jm,Eng.distinct,pos,wn,Eng.ren,wo,xi,wp,jo,wq,yg,xj,ws,wu,jp,frz,yx,yz,wv,List.lookup_cons,jq,zi,jr,js,List.range_succ,jt,xk,ju,xm,↓yh,↓yi,↓qt,↓y6,↓qu,↓qa,↓yj,↓yk,↓qv,↓qw,↓qx,↓qy,↓qb,↓qz,qc,ww,xn,jv,jw,yl,qd,qe,zj,wx,y7,jx,xp,xq,keq,y8,wy,qf,y9,ym,xr,jy,jz,xt,j0,wz,ja,j1,xu,xv,xw,jb,q5,q6,yn,q7,j2,Option.map_some,yo,qg,q8,q9,qh,ya,xx,yb,yp,yc,xy,w5,xz,x5,w6,jc,x6,Op.operands,Call.operands,yd,qi,w7,AObj.live] <;> omega)]
      simp
    by_cases e8 : p.2 = 8
    · have hf : fcL codesU 0 (p.2 : Int) = 3 := by rw [e8]; rfl
      simp -implicitDefEqProofs [hf, hqK, hw2, mach_loop, IntWalk.i64_in,IntWalk.u64_in,IntWalk.u8_in,IntWalk.i32_in,IntWalk.u32_in,ye,zk,zm,qj,qk,qm,qn,zb,zc,zn,zp,zq,qo,zd,ze,zr,zt,zu,j3,x7,zw,zf,za,zx,qp,zy,zg,zz,z6,qq,zh,yf,qr,aop,yq,j4,j5,x8,x9,jd,j6,j7,wb,je,j8,yr,j9,wg,jf,jg,xa,xb,z7,jh,z8,ji,jj,yt,yu,xc,AV.one,wh,wi,aun,jk,xd,yw,afn,xe,Out.ren,xf,xg,jl,wj,xh,wl,jm,Eng.distinct,pos,wn,Eng.ren,wo,xi,wp,jo,wq,yg,xj,ws,wu,jp,frz,yx,yz,wv,List.lookup_cons,jq,zi,jr,js,List.range_succ,jt,xk,ju,xm,↓yh,↓yi,↓qt,↓y6,↓qu,↓qa,↓yj,↓yk,↓qv,↓qw,↓qx,↓qy,↓qb,↓qz,qc,ww,xn,jv,jw,yl,qd,qe,zj,wx,y7,jx,xp,xq,keq,y8,wy,qf,y9,ym,xr,jy,jz,xt,j0,wz,ja,j1,xu,xv,xw,jb,q5,q6,yn,q7,j2,Option.map_some,yo,qg,q8,q9,qh,ya,xx,yb,yp,yc,xy,w5,xz,x5,w6,jc,x6,Op.operands,Call.operands,yd,qi,w7,AObj.live]
      rw [ih _ (by simp -implicitDefEqProofs [qs, escU, e8, IntWalk.i64_in,IntWalk.u64_in,IntWalk.u8_in,IntWalk.i32_in,IntWalk.u32_in,ye,zk,zm,qj,qk,qm,qn,zb,zc,zn,zp,zq,qo,zd,ze,zr,zt,zu,j3,x7,zw,zf,za,zx,qp,zy,zg,zz,z6,qq,zh,yf,qr,aop,yq,j4,j5,x8,x9,jd,j6,j7,wb,je,j8,yr,j9,wg,jf,jg,xa,xb,z7,jh,z8,ji,jj,yt,yu,xc,AV.one,wh,wi,aun,jk,xd,yw,afn,xe,Out.ren,xf,xg,jl,wj,xh,wl,jm,Eng.distinct,pos,wn,Eng.ren,wo,xi,wp,jo,wq,yg,xj,ws,wu,jp,frz,yx,yz,wv,List.lookup_cons,jq,zi,jr,js,List.range_succ,jt,xk,ju,xm,↓yh,↓yi,↓qt,↓y6,↓qu,↓qa,↓yj,↓yk,↓qv,↓qw,↓qx,↓qy,↓qb,↓qz,qc,ww,xn,jv,jw,yl,qd,qe,zj,wx,y7,jx,xp,xq,keq,y8,wy,qf,y9,ym,xr,jy,jz,xt,j0,wz,ja,j1,xu,xv,xw,jb,q5,q6,yn,q7,j2,Option.map_some,yo,qg,q8,q9,qh,ya,xx,yb,yp,yc,xy,w5,xz,x5,w6,jc,x6,Op.operands,Call.operands,yd,qi,w7,AObj.live] <;> omega)]
      simp
    by_cases e12 : p.2 = 12
    · have hf : fcL codesU 0 (p.2 : Int) = 4 := by rw [e12]; rfl
      simp -implicitDefEqProofs [hf, hqK, hw2, mach_loop, IntWalk.i64_in,IntWalk.u64_in,IntWalk.u8_in,IntWalk.i32_in,IntWalk.u32_in,ye,zk,zm,qj,qk,qm,qn,zb,zc,zn,zp,zq,qo,zd,ze,zr,zt,zu,j3,x7,zw,zf,za,zx,qp,zy,zg,zz,z6,qq,zh,yf,qr,aop,yq,j4,j5,x8,x9,jd,j6,j7,wb,je,j8,yr,j9,wg,jf,jg,xa,xb,z7,jh,z8,ji,jj,yt,yu,xc,AV.one,wh,wi,aun,jk,xd,yw,afn,xe,Out.ren,xf,xg,jl,wj,xh,wl,jm,Eng.distinct,pos,wn,Eng.ren,wo,xi,wp,jo,wq,yg,xj,ws,wu,jp,frz,yx,yz,wv,List.lookup_cons,jq,zi,jr,js,List.range_succ,jt,xk,ju,xm,↓yh,↓yi,↓qt,↓y6,↓qu,↓qa,↓yj,↓yk,↓qv,↓qw,↓qx,↓qy,↓qb,↓qz,qc,ww,xn,jv,jw,yl,qd,qe,zj,wx,y7,jx,xp,xq,keq,y8,wy,qf,y9,ym,xr,jy,jz,xt,j0,wz,ja,j1,xu,xv,xw,jb,q5,q6,yn,q7,j2,Option.map_some,yo,qg,q8,q9,qh,ya,xx,yb,yp,yc,xy,w5,xz,x5,w6,jc,x6,Op.operands,Call.operands,yd,qi,w7,AObj.live]
      rw [ih _ (by simp -implicitDefEqProofs [qs, escU, e12, IntWalk.i64_in,IntWalk.u64_in,IntWalk.u8_in,IntWalk.i32_in,IntWalk.u32_in,ye,zk,zm,qj,qk,qm,qn,zb,zc,zn,zp,zq,qo,zd,ze,zr,zt,zu,j3,x7,zw,zf,za,zx,qp,zy,zg,zz,z6,qq,zh,yf,qr,aop,yq,j4,j5,x8,x9,jd,j6,j7,wb,je,j8,yr,j9,wg,jf,jg,xa,xb,z7,jh,z8,ji,jj,yt,yu,xc,AV.one,wh,wi,aun,jk,xd,yw,afn,xe,Out.ren,xf,xg,jl,wj,xh,wl,jm,Eng.distinct,pos,wn,Eng.ren,wo,xi,wp,jo,wq,yg,xj,ws,wu,jp,frz,yx,yz,wv,List.lookup_cons,jq,zi,jr,js,List.range_succ,jt,xk,ju,xm,↓yh,↓yi,↓qt,↓y6,↓qu,↓qa,↓yj,↓yk,↓qv,↓qw,↓qx,↓qy,↓qb,↓qz,qc,ww,xn,jv,jw,yl,qd,qe,zj,wx,y7,jx,xp,xq,keq,y8,wy,qf,y9,ym,xr,jy,jz,xt,j0,wz,ja,j1,xu,xv,xw,jb,q5,q6,yn,q7,j2,Option.map_some,yo,qg,q8,q9,qh,ya,xx,yb,yp,yc,xy,w5,xz,x5,w6,jc,x6,Op.operands,Call.operands,yd,qi,w7,AObj.live] <;> omega)]
      simp
    by_cases e10 : p.2 = 10
    · have hf : fcL codesU 0 (p.2 : Int) = 5 := by rw [e10]; rfl
      simp -implicitDefEqProofs [hf, hqK, hw2, mach_loop, IntWalk.i64_in,IntWalk.u64_in,IntWalk.u8_in,IntWalk.i32_in,IntWalk.u32_in,ye,zk,zm,qj,qk,qm,qn,zb,zc,zn,zp,zq,qo,zd,ze,zr,zt,zu,j3,x7,zw,zf,za,zx,qp,zy,zg,zz,z6,qq,zh,yf,qr,aop,yq,j4,j5,x8,x9,jd,j6,j7,wb,je,j8,yr,j9,wg,jf,jg,xa,xb,z7,jh,z8,ji,jj,yt,yu,xc,AV.one,wh,wi,aun,jk,xd,yw,afn,xe,Out.ren,xf,xg,jl,wj,xh,wl,jm,Eng.distinct,pos,wn,Eng.ren,wo,xi,wp,jo,wq,yg,xj,ws,wu,jp,frz,yx,yz,wv,List.lookup_cons,jq,zi,jr,js,List.range_succ,jt,xk,ju,xm,↓yh,↓yi,↓qt,↓y6,↓qu,↓qa,↓yj,↓yk,↓qv,↓qw,↓qx,↓qy,↓qb,↓qz,qc,ww,xn,jv,jw,yl,qd,qe,zj,wx,y7,jx,xp,xq,keq,y8,wy,qf,y9,ym,xr,jy,jz,xt,j0,wz,ja,j1,xu,xv,xw,jb,q5,q6,yn,q7,j2,Option.map_some,yo,qg,q8,q9,qh,ya,xx,yb,yp,yc,xy,w5,xz,x5,w6,jc,x6,Op.operands,Call.operands,yd,qi,w7,AObj.live]
      rw [ih _ (by simp -implicitDefEqProofs [qs, escU, e10, IntWalk.i64_in,IntWalk.u64_in,IntWalk.u8_in,IntWalk.i32_in,IntWalk.u32_in,ye,zk,zm,qj,qk,qm,qn,zb,zc,zn,zp,zq,qo,zd,ze,zr,zt,zu,j3,x7,zw,zf,za,zx,qp,zy,zg,zz,z6,qq,zh,yf,qr,aop,yq,j4,j5,x8,x9,jd,j6,j7,wb,je,j8,yr,j9,wg,jf,jg,xa,xb,z7,jh,z8,ji,jj,yt,yu,xc,AV.one,wh,wi,aun,jk,xd,yw,afn,xe,Out.ren,xf,xg,jl,wj,xh,wl,jm,Eng.distinct,pos,wn,Eng.ren,wo,xi,wp,jo,wq,yg,xj,ws,wu,jp,frz,yx,yz,wv,List.lookup_cons,jq,zi,jr,js,List.range_succ,jt,xk,ju,xm,↓yh,↓yi,↓qt,↓y6,↓qu,↓qa,↓yj,↓yk,↓qv,↓qw,↓qx,↓qy,↓qb,↓qz,qc,ww,xn,jv,jw,yl,qd,qe,zj,wx,y7,jx,xp,xq,keq,y8,wy,qf,y9,ym,xr,jy,jz,xt,j0,wz,ja,j1,xu,xv,xw,jb,q5,q6,yn,q7,j2,Option.map_some,yo,qg,q8,q9,qh,ya,xx,yb,yp,yc,xy,w5,xz,x5,w6,jc,x6,Op.operands,Call.operands,yd,qi,w7,AObj.live] <;> omega)]
      simp
    by_cases e13 : p.2 = 13
    · have hf : fcL codesU 0 (p.2 : Int) = 6 := by rw [e13]; rfl
      simp -implicitDefEqProofs [hf, hqK, hw2, mach_loop, IntWalk.i64_in,IntWalk.u64_in,IntWalk.u8_in,IntWalk.i32_in,IntWalk.u32_in,ye,zk,zm,qj,qk,qm,qn,zb,zc,zn,zp,zq,qo,zd,ze,zr,zt,zu,j3,x7,zw,zf,za,zx,qp,zy,zg,zz,z6,qq,zh,yf,qr,aop,yq,j4,j5,x8,x9,jd,j6,j7,wb,je,j8,yr,j9,wg,jf,jg,xa,xb,z7,jh,z8,ji,jj,yt,yu,xc,AV.one,wh,wi,aun,jk,xd,yw,afn,xe,Out.ren,xf,xg,jl,wj,xh,wl,jm,Eng.distinct,pos,wn,Eng.ren,wo,xi,wp,jo,wq,yg,xj,ws,wu,jp,frz,yx,yz,wv,List.lookup_cons,jq,zi,jr,js,List.range_succ,jt,xk,ju,xm,↓yh,↓yi,↓qt,↓y6,↓qu,↓qa,↓yj,↓yk,↓qv,↓qw,↓qx,↓qy,↓qb,↓qz,qc,ww,xn,jv,jw,yl,qd,qe,zj,wx,y7,jx,xp,xq,keq,y8,wy,qf,y9,ym,xr,jy,jz,xt,j0,wz,ja,j1,xu,xv,xw,jb,q5,q6,yn,q7,j2,Option.map_some,yo,qg,q8,q9,qh,ya,xx,yb,yp,yc,xy,w5,xz,x5,w6,jc,x6,Op.operands,Call.operands,yd,qi,w7,AObj.live]
      rw [ih _ (by simp -implicitDefEqProofs [qs, escU, e13, IntWalk.i64_in,IntWalk.u64_in,IntWalk.u8_in,IntWalk.i32_in,IntWalk.u32_in,ye,zk,zm,qj,qk,qm,qn,zb,zc,zn,zp,zq,qo,zd,ze,zr,zt,zu,j3,x7,zw,zf,za,zx,qp,zy,zg,zz,z6,qq,zh,yf,qr,aop,yq,j4,j5,x8,x9,jd,j6,j7,wb,je,j8,yr,j9,wg,jf,jg,xa,xb,z7,jh,z8,ji,jj,yt,yu,xc,AV.one,wh,wi,aun,jk,xd,yw,afn,xe,Out.ren,xf,xg,jl,wj,xh,wl,jm,Eng.distinct,pos,wn,Eng.ren,wo,xi,wp,jo,wq,yg,xj,ws,wu,jp,frz,yx,yz,wv,List.lookup_cons,jq,zi,jr,js,List.range_succ,jt,xk,ju,xm,↓yh,↓yi,↓qt,↓y6,↓qu,↓qa,↓yj,↓yk,↓qv,↓qw,↓qx,↓qy,↓qb,↓qz,qc,ww,xn,jv,jw,yl,qd,qe,zj,wx,y7,jx,xp,xq,keq,y8,wy,qf,y9,ym,xr,jy,jz,xt,j0,wz,ja,j1,xu,xv,xw,jb,q5,q6,yn,q7,j2,Option.map_some,yo,qg,q8,q9,qh,ya,xx,yb,yp,yc,xy,w5,xz,x5,w6,jc,x6,Op.operands,Call.operands,yd,qi,w7,AObj.live] <;> omega)]
      simp
    by_cases e9 : p.2 = 9
    · have hf : fcL codesU 0 (p.2 : Int) = 7 := by rw [e9]; rfl
      simp -implicitDefEqProofs [hf, hqK, hw2, mach_loop, IntWalk.i64_in,IntWalk.u64_in,IntWalk.u8_in,IntWalk.i32_in,IntWalk.u32_in,ye,zk,zm,qj,qk,qm,qn,zb,zc,zn,zp,zq,qo,zd,ze,zr,zt,zu,j3,x7,zw,zf,za,zx,qp,zy,zg,zz,z6,qq,zh,yf,qr,aop,yq,j4,j5,x8,x9,jd,j6,j7,wb,je,j8,yr,j9,wg,jf,jg,xa,xb,z7,jh,z8,ji,jj,yt,yu,xc,AV.one,wh,wi,aun,jk,xd,yw,afn,xe,Out.ren,xf,xg,jl,wj,xh,wl,jm,Eng.distinct,pos,wn,Eng.ren,wo,xi,wp,jo,wq,yg,xj,ws,wu,jp,frz,yx,yz,wv,List.lookup_cons,jq,zi,jr,js,List.range_succ,jt,xk,ju,xm,↓yh,↓yi,↓qt,↓y6,↓qu,↓qa,↓yj,↓yk,↓qv,↓qw,↓qx,↓qy,↓qb,↓qz,qc,ww,xn,jv,jw,yl,qd,qe,zj,wx,y7,jx,xp,xq,keq,y8,wy,qf,y9,ym,xr,jy,jz,xt,j0,wz,ja,j1,xu,xv,xw,jb,q5,q6,yn,q7,j2,Option.map_some,yo,qg,q8,q9,qh,ya,xx,yb,yp,yc,xy,w5,xz,x5,w6,jc,x6,Op.operands,Call.operands,yd,qi,w7,AObj.live]
      rw [ih _ (by simp -implicitDefEqProofs [qs, escU, e9, IntWalk.i64_in,IntWalk.u64_in,IntWalk.u8_in,IntWalk.i32_in,IntWalk.u32_in,ye,zk,zm,qj,qk,qm,qn,zb,zc,zn,zp,zq,qo,zd,ze,zr,zt,zu,j3,x7,zw,zf,za,zx,qp,zy,zg,zz,z6,qq,zh,yf,qr,aop,yq,j4,j5,x8,x9,jd,j6,j7,wb,je,j8,yr,j9,wg,jf,jg,xa,xb,z7,jh,z8,ji,jj,yt,yu,xc,AV.one,wh,wi,aun,jk,xd,yw,afn,xe,Out.ren,xf,xg,jl,wj,xh,wl,jm,Eng.distinct,pos,wn,Eng.ren,wo,xi,wp,jo,wq,yg,xj,ws,wu,jp,frz,yx,yz,wv,List.lookup_cons,jq,zi,jr,js,List.range_succ,jt,xk,ju,xm,↓yh,↓yi,↓qt,↓y6,↓qu,↓qa,↓yj,↓yk,↓qv,↓qw,↓qx,↓qy,↓qb,↓qz,qc,ww,xn,jv,jw,yl,qd,qe,zj,wx,y7,jx,xp,xq,keq,y8,wy,qf,y9,ym,xr,jy,jz,xt,j0,wz,ja,j1,xu,xv,xw,jb,q5,q6,yn,q7,j2,Option.map_some,yo,qg,q8,q9,qh,ya,xx,yb,yp,yc,xy,w5,xz,x5,w6,jc,x6,Op.operands,Call.operands,yd,qi,w7,AObj.live] <;> omega)]
      simp
    have hf : fcL codesU 0 (p.2 : Int) = 8 := by
      have f34 : ¬ (34 : Int) = p.2 := by omega
      have f92 : ¬ (92 : Int) = p.2 := by omega
      have f8 : ¬ (8 : Int) = p.2 := by omega
      have f12 : ¬ (12 : Int) = p.2 := by omega
      have f10 : ¬ (10 : Int) = p.2 := by omega
      have f13 : ¬ (13 : Int) = p.2 := by omega
      have f9 : ¬ (9 : Int) = p.2 := by omega
      simp [fcL, codesU, f34, f92, f8, f12, f10, f13, f9]
    by_cases e32 : p.2 < 32
    · have e32' : (p.2 : Int) < 32 := by omega
      have d16 : (p.2 : Int).tdiv 16 = ((p.2 / 16 : Nat) : Int) := by rw [Int.tdiv_eq_ediv_of_nonneg hup]; simp
      have m16 : (p.2 : Int).tmod 16 = ((p.2 % 16 : Nat) : Int) := by rw [Int.tmod_eq_emod_of_nonneg hup]; simp
      have wd : IntKind.i64.wrap ((p.2 / 16 : Nat) : Int) = ((p.2 / 16 : Nat) : Int) := wrap64 (by omega) (by omega)
      have wm : IntKind.i64.wrap ((p.2 % 16 : Nat) : Int) = ((p.2 % 16 : Nat) : Int) := wrap64 (by omega) (by omega)
      have wd1 : IntKind.i64.wrap (((p.2 / 16 : Nat) : Int) + 1) = ((p.2 / 16 : Nat) : Int) + 1 := wrap64 (by omega) (by omega)
      have wm1 : IntKind.i64.wrap (((p.2 % 16 : Nat) : Int) + 1) = ((p.2 % 16 : Nat) : Int) + 1 := wrap64 (by omega) (by omega)
      have hx1 := hexS_at (p.2 / 16) (by omega)
      have hx2 := hexS_at (p.2 % 16) (by omega)
      have c1 : p.2 / 16 < 16 := by omega
      have c2 : p.2 % 16 < 16 := by omega
      have hlx : hexS.length = 16 := rfl
      have hesc : escU p.2 = [92, 117, 48, 48, hexU (p.2 / 16), hexU (p.2 % 16)] := by simp [escU, e34, e92, e8, e9, e10, e12, e13, e32]
      generalize hA : p.2 / 16 = A at *
      generalize hB : p.2 % 16 = B at *
      have ha1 : ((A : Int) ≤ A + 1) = True := by simp; omega
      have ha2 : ((A : Int) + 1 ≤ 16) = True := by simp; omega
      have hb1 : ((B : Int) ≤ B + 1) = True := by simp; omega
      have hb2 : ((B : Int) + 1 ≤ 16) = True := by simp; omega
      simp -implicitDefEqProofs [hf, hqK, hw2, e32', d16, m16, wd, wm, wd1, wm1, hx1, hx2, ha1, ha2, hb1, hb2, hlx, mach_loop, mach_draw, IntWalk.i64_in,IntWalk.u64_in,IntWalk.u8_in,IntWalk.i32_in,IntWalk.u32_in,ye,zk,zm,qj,qk,qm,qn,zb,zc,zn,zp,zq,qo,zd,ze,zr,zt,zu,j3,x7,zw,zf,za,zx,qp,zy,zg,zz,z6,qq,zh,yf,qr,aop,yq,j4,j5,x8,x9,jd,j6,j7,wb,je,j8,yr,j9,wg,jf,jg,xa,xb,z7,jh,z8,ji,jj,yt,yu,xc,AV.one,wh,wi,aun,jk,xd,yw,afn,xe,Out.ren,xf,xg,jl,wj,xh,wl,jm,Eng.distinct,pos,wn,Eng.ren,wo,xi,wp,jo,wq,yg,xj,ws,wu,jp,frz,yx,yz,wv,List.lookup_cons,jq,zi,jr,js,List.range_succ,jt,xk,ju,xm,↓yh,↓yi,↓qt,↓y6,↓qu,↓qa,↓yj,↓yk,↓qv,↓qw,↓qx,↓qy,↓qb,↓qz,qc,ww,xn,jv,jw,yl,qd,qe,zj,wx,y7,jx,xp,xq,keq,y8,wy,qf,y9,ym,xr,jy,jz,xt,j0,wz,ja,j1,xu,xv,xw,jb,q5,q6,yn,q7,j2,Option.map_some,yo,qg,q8,q9,qh,ya,xx,yb,yp,yc,xy,w5,xz,x5,w6,jc,x6,Op.operands,Call.operands,yd,qi,w7,AObj.live]
      rw [ih _ (by simp -implicitDefEqProofs [qs, hesc, IntWalk.i64_in,IntWalk.u64_in,IntWalk.u8_in,IntWalk.i32_in,IntWalk.u32_in,ye,zk,zm,qj,qk,qm,qn,zb,zc,zn,zp,zq,qo,zd,ze,zr,zt,zu,j3,x7,zw,zf,za,zx,qp,zy,zg,zz,z6,qq,zh,yf,qr,aop,yq,j4,j5,x8,x9,jd,j6,j7,wb,je,j8,yr,j9,wg,jf,jg,xa,xb,z7,jh,z8,ji,jj,yt,yu,xc,AV.one,wh,wi,aun,jk,xd,yw,afn,xe,Out.ren,xf,xg,jl,wj,xh,wl,jm,Eng.distinct,pos,wn,Eng.ren,wo,xi,wp,jo,wq,yg,xj,ws,wu,jp,frz,yx,yz,wv,List.lookup_cons,jq,zi,jr,js,List.range_succ,jt,xk,ju,xm,↓yh,↓yi,↓qt,↓y6,↓qu,↓qa,↓yj,↓yk,↓qv,↓qw,↓qx,↓qy,↓qb,↓qz,qc,ww,xn,jv,jw,yl,qd,qe,zj,wx,y7,jx,xp,xq,keq,y8,wy,qf,y9,ym,xr,jy,jz,xt,j0,wz,ja,j1,xu,xv,xw,jb,q5,q6,yn,q7,j2,Option.map_some,yo,qg,q8,q9,qh,ya,xx,yb,yp,yc,xy,w5,xz,x5,w6,jc,x6,Op.operands,Call.operands,yd,qi,w7,AObj.live] <;> omega)]
      simp
    have e32' : ¬ (p.2 : Int) < 32 := by omega
    have hesc : escU p.2 = Lib.encodeRune p.2 := by simp [escU, e34, e92, e8, e12, e10, e13, e9, e32]
    have hel : (qAcc pre).length + (Lib.encodeRune (p.2 : Int)).length ≤ 9223372036854775807 := by have := escU_len p.2; rw [hesc] at this; omega
    simp -implicitDefEqProofs [hf, hqK, hel, hw2, e32', h5, mach_loop, IntWalk.i64_in,IntWalk.u64_in,IntWalk.u8_in,IntWalk.i32_in,IntWalk.u32_in,ye,zk,zm,qj,qk,qm,qn,zb,zc,zn,zp,zq,qo,zd,ze,zr,zt,zu,j3,x7,zw,zf,za,zx,qp,zy,zg,zz,z6,qq,zh,yf,qr,aop,yq,j4,j5,x8,x9,jd,j6,j7,wb,je,j8,yr,j9,wg,jf,jg,xa,xb,z7,jh,z8,ji,jj,yt,yu,xc,AV.one,wh,wi,aun,jk,xd,yw,afn,xe,Out.ren,xf,xg,jl,wj,xh,wl,jm,Eng.distinct,pos,wn,Eng.ren,wo,xi,wp,jo,wq,yg,xj,ws,wu,jp,frz,yx,yz,wv,List.lookup_cons,jq,zi,jr,js,List.range_succ,jt,xk,ju,xm,↓yh,↓yi,↓qt,↓y6,↓qu,↓qa,↓yj,↓yk,↓qv,↓qw,↓qx,↓qy,↓qb,↓qz,qc,ww,xn,jv,jw,yl,qd,qe,zj,wx,y7,jx,xp,xq,keq,y8,wy,qf,y9,ym,xr,jy,jz,xt,j0,wz,ja,j1,xu,xv,xw,jb,q5,q6,yn,q7,j2,Option.map_some,yo,qg,q8,q9,qh,ya,xx,yb,yp,yc,xy,w5,xz,x5,w6,jc,x6,Op.operands,Call.operands,yd,qi,w7,AObj.live]
    rw [ih _ (by simp -implicitDefEqProofs [qs, hesc, IntWalk.i64_in,IntWalk.u64_in,IntWalk.u8_in,IntWalk.i32_in,IntWalk.u32_in,ye,zk,zm,qj,qk,qm,qn,zb,zc,zn,zp,zq,qo,zd,ze,zr,zt,zu,j3,x7,zw,zf,za,zx,qp,zy,zg,zz,z6,qq,zh,yf,qr,aop,yq,j4,j5,x8,x9,jd,j6,j7,wb,je,j8,yr,j9,wg,jf,jg,xa,xb,z7,jh,z8,ji,jj,yt,yu,xc,AV.one,wh,wi,aun,jk,xd,yw,afn,xe,Out.ren,xf,xg,jl,wj,xh,wl,jm,Eng.distinct,pos,wn,Eng.ren,wo,xi,wp,jo,wq,yg,xj,ws,wu,jp,frz,yx,yz,wv,List.lookup_cons,jq,zi,jr,js,List.range_succ,jt,xk,ju,xm,↓yh,↓yi,↓qt,↓y6,↓qu,↓qa,↓yj,↓yk,↓qv,↓qw,↓qx,↓qy,↓qb,↓qz,qc,ww,xn,jv,jw,yl,qd,qe,zj,wx,y7,jx,xp,xq,keq,y8,wy,qf,y9,ym,xr,jy,jz,xt,j0,wz,ja,j1,xu,xv,xw,jb,q5,q6,yn,q7,j2,Option.map_some,yo,qg,q8,q9,qh,ya,xx,yb,yp,yc,xy,w5,xz,x5,w6,jc,x6,Op.operands,Call.operands,yd,qi,w7,AObj.live] <;> omega)]
    simp
  have ql := qAcc_len RL
  have hqK : ∀ K : Nat, 9223372036854775700 ≤ K → ((qAcc RL).length ≤ K) = True := by intro K hK; simp; omega
  simp -implicitDefEqProofs [mach_loop, hqK, IntWalk.i64_in,IntWalk.u64_in,IntWalk.u8_in,IntWalk.i32_in,IntWalk.u32_in,ye,zk,zm,qj,qk,qm,qn,zb,zc,zn,zp,zq,qo,zd,ze,zr,zt,zu,j3,x7,zw,zf,za,zx,qp,zy,zg,zz,z6,qq,zh,yf,qr,aop,yq,j4,j5,x8,x9,jd,j6,j7,wb,je,j8,yr,j9,wg,jf,jg,xa,xb,z7,jh,z8,ji,jj,yt,yu,xc,AV.one,wh,wi,aun,jk,xd,yw,afn,xe,Out.ren,xf,xg,jl,wj,xh,wl,jm,Eng.distinct,pos,wn,Eng.ren,wo,xi,wp,jo,wq,yg,xj,ws,wu,jp,frz,yx,yz,wv,List.lookup_cons,jq,zi,jr,js,List.range_succ,jt,xk,ju,xm,↓yh,↓yi,↓qt,↓y6,↓qu,↓qa,↓yj,↓yk,↓qv,↓qw,↓qx,↓qy,↓qb,↓qz,qc,ww,xn,jv,jw,yl,qd,qe,zj,wx,y7,jx,xp,xq,keq,y8,wy,qf,y9,ym,xr,jy,jz,xt,j0,wz,ja,j1,xu,xv,xw,jb,q5,q6,yn,q7,j2,Option.map_some,yo,qg,q8,q9,qh,ya,xx,yb,yp,yc,xy,w5,xz,x5,w6,jc,x6,Op.operands,Call.operands,yd,qi,w7,AObj.live]
end Go.Proofs.YtblejchodicaoaaGreatDoor.Eng

/-
  CONTRACTS: utf.escapes, Runes, Quote. Own work.
-/
namespace Go.Proofs.YtblejchodicaoaaGreatDoor.Eng
open Go Go.RowKit
set_option maxRecDepth 100000
set_option linter.unusedSimpArgs false
set_option maxHeartbeats 2000000

def escM : AObj := .amap [(.int .i32 34, .d (.int .u8 34)), (.int .i32 92, .d (.int .u8 92)), (.int .i32 8, .d (.int .u8 98)), (.int .i32 9, .d (.int .u8 116)), (.int .i32 10, .d (.int .u8 110)), (.int .i32 12, .d (.int .u8 102)), (.int .i32 13, .d (.int .u8 114))]
theorem b_escapes (C : Oracle) : abody Tryz.prog [] C (mach Tryz.prog C {}) false 134 [] [] = some (.ret (.map 0), [escM]) := by
  unfold abody
  rw [Tryz.func134]
  simp only [Tryz.f134]
  simp -implicitDefEqProofs [escM, IntWalk.i64_in,IntWalk.u64_in,IntWalk.u8_in,IntWalk.i32_in,IntWalk.u32_in,ye,zk,zm,qj,qk,qm,qn,zb,zc,zn,zp,zq,qo,zd,ze,zr,zt,zu,j3,x7,zw,zf,za,zx,qp,zy,zg,zz,z6,qq,zh,yf,qr,aop,yq,j4,j5,x8,x9,jd,j6,j7,wb,je,j8,yr,j9,wg,jf,jg,xa,xb,z7,jh,z8,ji,jj,yt,yu,xc,AV.one,wh,wi,aun,jk,xd,yw,afn,xe,Out.ren,xf,xg,jl,wj,xh,wl,jm,Eng.distinct,pos,wn,Eng.ren,wo,xi,wp,jo,wq,yg,xj,ws,wu,jp,frz,yx,yz,wv,List.lookup_cons,jq,zi,jr,js,List.range_succ,jt,xk,ju,xm,↓yh,↓yi,↓qt,↓y6,↓qu,↓qa,↓yj,↓yk,↓qv,↓qw,↓qx,↓qy,↓qb,↓qz,qc,ww,xn,jv,jw,yl,qd,qe,zj,wx,y7,jx,xp,xq,keq,y8,wy,qf,y9,ym,xr,jy,jz,xt,j0,wz,ja,j1,xu,xv,xw,jb,q5,q6,yn,q7,j2,Option.map_some,yo,qg,q8,q9,qh,ya,xx,yb,yp,yc,xy,w5,xz,x5,w6,jc,x6,Op.operands,Call.operands,yd,qi,w7,AObj.live]
def runesF (s : List UInt8) : D := .fn (.func 166) [] [.rp [.str s]]
theorem b_Runes (C : Oracle) (s : List UInt8) : abody Tryz.prog [] C (mach Tryz.prog C {}) true 136 [.d (.str s)] [] = R (runesF s) := by
  unfold abody
  rw [Tryz.func136]
  simp only [Tryz.f136]
  simp -implicitDefEqProofs [R, runesF, IntWalk.i64_in,IntWalk.u64_in,IntWalk.u8_in,IntWalk.i32_in,IntWalk.u32_in,ye,zk,zm,qj,qk,qm,qn,zb,zc,zn,zp,zq,qo,zd,ze,zr,zt,zu,j3,x7,zw,zf,za,zx,qp,zy,zg,zz,z6,qq,zh,yf,qr,aop,yq,j4,j5,x8,x9,jd,j6,j7,wb,je,j8,yr,j9,wg,jf,jg,xa,xb,z7,jh,z8,ji,jj,yt,yu,xc,AV.one,wh,wi,aun,jk,xd,yw,afn,xe,Out.ren,xf,xg,jl,wj,xh,wl,jm,Eng.distinct,pos,wn,Eng.ren,wo,xi,wp,jo,wq,yg,xj,ws,wu,jp,frz,yx,yz,wv,List.lookup_cons,jq,zi,jr,js,List.range_succ,jt,xk,ju,xm,↓yh,↓yi,↓qt,↓y6,↓qu,↓qa,↓yj,↓yk,↓qv,↓qw,↓qx,↓qy,↓qb,↓qz,qc,ww,xn,jv,jw,yl,qd,qe,zj,wx,y7,jx,xp,xq,keq,y8,wy,qf,y9,ym,xr,jy,jz,xt,j0,wz,ja,j1,xu,xv,xw,jb,q5,q6,yn,q7,j2,Option.map_some,yo,qg,q8,q9,qh,ya,xx,yb,yp,yc,xy,w5,xz,x5,w6,jc,x6,Op.operands,Call.operands,yd,qi,w7,AObj.live]

theorem encA {n : Nat} (h : n < 128) : (Utf8.encode (n : Int)).data.toList = [UInt8.ofNat n] := by
  have H : ∀ m : Fin 128, (Utf8.encode ((m.val : Nat) : Int)).data.toList = [UInt8.ofNat m.val] := by decide +kernel
  have := H ⟨n, h⟩
  simpa only using this
theorem encA8 : (Utf8.encode 34).data.toList = [34] ∧ (Utf8.encode 92).data.toList = [92] ∧ (Utf8.encode 98).data.toList = [98] ∧ (Utf8.encode 116).data.toList = [116] ∧ (Utf8.encode 110).data.toList = [110] ∧ (Utf8.encode 102).data.toList = [102] ∧ (Utf8.encode 114).data.toList = [114] := by
  exact ⟨@encA 34 (by decide), @encA 92 (by decide), @encA 98 (by decide), @encA 116 (by decide), @encA 110 (by decide), @encA 102 (by decide), @encA 114 (by decide)⟩
noncomputable def quoL (d : D) : AObj := .loop [(2, .d (.str [])), (3, .d (.int .i64 0)), (4, .ptr 2 0), (5, .ptr 4 0), (16, .d d)] 49 (rfPs (codeAt [true, true, true, true, true, false, true, false] (Tryz.f106.body.getD .skip))) (rfA (codeAt [true, true, true, true, true, false, true, false] (Tryz.f106.body.getD .skip))) (rfB (codeAt [true, true, true, true, true, false, true, false] (Tryz.f106.body.getD .skip))) .ready none 1
noncomputable def quoSt (d : D) (l : List UInt8) : List AObj := [quoL d, .dfr, .box [.map 3] 186, escM, .box [.ptr 4 0, .sl 5 1 0 l.length] 139, brow l]
noncomputable def quoEd (d : D) (l : List UInt8) : List AObj := quoSt d l
noncomputable def quoNx (d : D) (l x : List UInt8) : List AObj := [quoL d, .dfr, .box [.map 3] 186, escM, .box [.ptr 4 0, .sl 6 1 0 (l.length + x.length)] 139, .gone, brow (l ++ x)]

theorem r_quo (C : Oracle) (d : D) (l : List UInt8) (h0 : l ≠ []) (hl : l.length ≤ 70368744177664) (i : Int) (r : Nat) (hr : validR r)
    (hW : ∀ (l x : List UInt8), l.length + x.length ≤ 140737488355328 → C 128 [.ptr 0 0, .d (.str x)] (bld true l) = some (.ret (.tup [.d (.int .i64 x.length), .d .nili]), wr l x))
    (hR : ∀ (l : List UInt8), l ≠ [] → l.length + 4 ≤ 140737488355328 → C 137 [.ptr 0 0, .d (.int .i32 r)] (bld true l) = some (.ret (.tup [.d (.int .i64 (Lib.encodeRune r).length), .d .nili]), wr l (Lib.encodeRune r))) :
    rounds Tryz.prog C { keep := [(506, [2, 3, 4, 5, 16, 18])] } 506 [.yld 0, .d (.int .i64 i), .d (.int .i32 r)] (quoSt d l) = some (.ret (.d (.bool true)), quoNx d l (escU r)) := by
  have h2 := fun x (hx : x ≠ []) hxl => hW l x hxl
  simp [bld, wr, h0] at h2
  have h2' : ∀ x : List UInt8, x ≠ [] → l.length + x.length ≤ 140737488355328 → _ := fun x hx hxl => (by have := h2 x hx hxl; simp [hx] at this; exact this)
  have h3 := hR l h0 (by omega)
  simp [bld, wr, h0, encodeRune_ne] at h3
  by_cases e34 : r = 34
  · subst e34
    have h4 := h2' [92, 34] (by simp) (by simp; omega)
    simp at h4
    simp -implicitDefEqProofs [quoSt, quoL, quoNx, escM, brow, h4, encA8, escU, rounds, around, codeAt, rfPs, rfA, rfB, Tryz.f106, gcode, machR, tchk, IntWalk.i64_in,IntWalk.u64_in,IntWalk.u8_in,IntWalk.i32_in,IntWalk.u32_in,ye,zk,zm,qj,qk,qm,qn,zb,zc,zn,zp,zq,qo,zd,ze,zr,zt,zu,j3,x7,zw,zf,za,zx,qp,zy,zg,zz,z6,qq,zh,yf,qr,aop,yq,j4,j5,x8,x9,jd,j6,j7,wb,je,j8,yr,j9,wg,jf,jg,xa,xb,z7,jh,z8,ji,jj,yt,yu,xc,AV.one,wh,wi,aun,jk,xd,yw,afn,xe,Out.ren,xf,xg,jl,wj,xh,wl,jm,Eng.distinct,pos,wn,Eng.ren,wo,xi,wp,jo,wq,yg,xj,ws,wu,jp,frz,yx,yz,wv,List.lookup_cons,jq,zi,jr,js,List.range_succ,jt,xk,ju,xm,↓yh,↓yi,↓qt,↓y6,↓qu,↓qa,↓yj,↓yk,↓qv,↓qw,↓qx,↓qy,↓qb,↓qz,qc,ww,xn,jv,jw,yl,qd,qe,zj,wx,y7,jx,xp,xq,keq,y8,wy,qf,y9,ym,xr,jy,jz,xt,j0,wz,ja,j1,xu,xv,xw,jb,q5,q6,yn,q7,j2,Option.map_some,yo,qg,q8,q9,qh,ya,xx,yb,yp,yc,xy,w5,xz,x5,w6,jc,x6,Op.operands,Call.operands,yd,qi,w7,AObj.live]
    rfl
  by_cases e92 : r = 92
  · subst e92
    have h4 := h2' [92, 92] (by simp) (by simp; omega)
    simp at h4
    simp -implicitDefEqProofs [quoSt, quoL, quoNx, escM, brow, h4, encA8, escU, rounds, around, codeAt, rfPs, rfA, rfB, Tryz.f106, gcode, machR, tchk, IntWalk.i64_in,IntWalk.u64_in,IntWalk.u8_in,IntWalk.i32_in,IntWalk.u32_in,ye,zk,zm,qj,qk,qm,qn,zb,zc,zn,zp,zq,qo,zd,ze,zr,zt,zu,j3,x7,zw,zf,za,zx,qp,zy,zg,zz,z6,qq,zh,yf,qr,aop,yq,j4,j5,x8,x9,jd,j6,j7,wb,je,j8,yr,j9,wg,jf,jg,xa,xb,z7,jh,z8,ji,jj,yt,yu,xc,AV.one,wh,wi,aun,jk,xd,yw,afn,xe,Out.ren,xf,xg,jl,wj,xh,wl,jm,Eng.distinct,pos,wn,Eng.ren,wo,xi,wp,jo,wq,yg,xj,ws,wu,jp,frz,yx,yz,wv,List.lookup_cons,jq,zi,jr,js,List.range_succ,jt,xk,ju,xm,↓yh,↓yi,↓qt,↓y6,↓qu,↓qa,↓yj,↓yk,↓qv,↓qw,↓qx,↓qy,↓qb,↓qz,qc,ww,xn,jv,jw,yl,qd,qe,zj,wx,y7,jx,xp,xq,keq,y8,wy,qf,y9,ym,xr,jy,jz,xt,j0,wz,ja,j1,xu,xv,xw,jb,q5,q6,yn,q7,j2,Option.map_some,yo,qg,q8,q9,qh,ya,xx,yb,yp,yc,xy,w5,xz,x5,w6,jc,x6,Op.operands,Call.operands,yd,qi,w7,AObj.live]
    rfl
  by_cases e8 : r = 8
  · subst e8
    have h4 := h2' [92, 98] (by simp) (by simp; omega)
    simp at h4
    simp -implicitDefEqProofs [quoSt, quoL, quoNx, escM, brow, h4, encA8, escU, rounds, around, codeAt, rfPs, rfA, rfB, Tryz.f106, gcode, machR, tchk, IntWalk.i64_in,IntWalk.u64_in,IntWalk.u8_in,IntWalk.i32_in,IntWalk.u32_in,ye,zk,zm,qj,qk,qm,qn,zb,zc,zn,zp,zq,qo,zd,ze,zr,zt,zu,j3,x7,zw,zf,za,zx,qp,zy,zg,zz,z6,qq,zh,yf,qr,aop,yq,j4,j5,x8,x9,jd,j6,j7,wb,je,j8,yr,j9,wg,jf,jg,xa,xb,z7,jh,z8,ji,jj,yt,yu,xc,AV.one,wh,wi,aun,jk,xd,yw,afn,xe,Out.ren,xf,xg,jl,wj,xh,wl,jm,Eng.distinct,pos,wn,Eng.ren,wo,xi,wp,jo,wq,yg,xj,ws,wu,jp,frz,yx,yz,wv,List.lookup_cons,jq,zi,jr,js,List.range_succ,jt,xk,ju,xm,↓yh,↓yi,↓qt,↓y6,↓qu,↓qa,↓yj,↓yk,↓qv,↓qw,↓qx,↓qy,↓qb,↓qz,qc,ww,xn,jv,jw,yl,qd,qe,zj,wx,y7,jx,xp,xq,keq,y8,wy,qf,y9,ym,xr,jy,jz,xt,j0,wz,ja,j1,xu,xv,xw,jb,q5,q6,yn,q7,j2,Option.map_some,yo,qg,q8,q9,qh,ya,xx,yb,yp,yc,xy,w5,xz,x5,w6,jc,x6,Op.operands,Call.operands,yd,qi,w7,AObj.live]
    rfl
  by_cases e9 : r = 9
  · subst e9
    have h4 := h2' [92, 116] (by simp) (by simp; omega)
    simp at h4
    simp -implicitDefEqProofs [quoSt, quoL, quoNx, escM, brow, h4, encA8, escU, rounds, around, codeAt, rfPs, rfA, rfB, Tryz.f106, gcode, machR, tchk, IntWalk.i64_in,IntWalk.u64_in,IntWalk.u8_in,IntWalk.i32_in,IntWalk.u32_in,ye,zk,zm,qj,qk,qm,qn,zb,zc,zn,zp,zq,qo,zd,ze,zr,zt,zu,j3,x7,zw,zf,za,zx,qp,zy,zg,zz,z6,qq,zh,yf,qr,aop,yq,j4,j5,x8,x9,jd,j6,j7,wb,je,j8,yr,j9,wg,jf,jg,xa,xb,z7,jh,z8,ji,jj,yt,yu,xc,AV.one,wh,wi,aun,jk,xd,yw,afn,xe,Out.ren,xf,xg,jl,wj,xh,wl,jm,Eng.distinct,pos,wn,Eng.ren,wo,xi,wp,jo,wq,yg,xj,ws,wu,jp,frz,yx,yz,wv,List.lookup_cons,jq,zi,jr,js,List.range_succ,jt,xk,ju,xm,↓yh,↓yi,↓qt,↓y6,↓qu,↓qa,↓yj,↓yk,↓qv,↓qw,↓qx,↓qy,↓qb,↓qz,qc,ww,xn,jv,jw,yl,qd,qe,zj,wx,y7,jx,xp,xq,keq,y8,wy,qf,y9,ym,xr,jy,jz,xt,j0,wz,ja,j1,xu,xv,xw,jb,q5,q6,yn,q7,j2,Option.map_some,yo,qg,q8,q9,qh,ya,xx,yb,yp,yc,xy,w5,xz,x5,w6,jc,x6,Op.operands,Call.operands,yd,qi,w7,AObj.live]
    rfl
  by_cases e10 : r = 10
  · subst e10
    have h4 := h2' [92, 110] (by simp) (by simp; omega)
    simp at h4
    simp -implicitDefEqProofs [quoSt, quoL, quoNx, escM, brow, h4, encA8, escU, rounds, around, codeAt, rfPs, rfA, rfB, Tryz.f106, gcode, machR, tchk, IntWalk.i64_in,IntWalk.u64_in,IntWalk.u8_in,IntWalk.i32_in,IntWalk.u32_in,ye,zk,zm,qj,qk,qm,qn,zb,zc,zn,zp,zq,qo,zd,ze,zr,zt,zu,j3,x7,zw,zf,za,zx,qp,zy,zg,zz,z6,qq,zh,yf,qr,aop,yq,j4,j5,x8,x9,jd,j6,j7,wb,je,j8,yr,j9,wg,jf,jg,xa,xb,z7,jh,z8,ji,jj,yt,yu,xc,AV.one,wh,wi,aun,jk,xd,yw,afn,xe,Out.ren,xf,xg,jl,wj,xh,wl,jm,Eng.distinct,pos,wn,Eng.ren,wo,xi,wp,jo,wq,yg,xj,ws,wu,jp,frz,yx,yz,wv,List.lookup_cons,jq,zi,jr,js,List.range_succ,jt,xk,ju,xm,↓yh,↓yi,↓qt,↓y6,↓qu,↓qa,↓yj,↓yk,↓qv,↓qw,↓qx,↓qy,↓qb,↓qz,qc,ww,xn,jv,jw,yl,qd,qe,zj,wx,y7,jx,xp,xq,keq,y8,wy,qf,y9,ym,xr,jy,jz,xt,j0,wz,ja,j1,xu,xv,xw,jb,q5,q6,yn,q7,j2,Option.map_some,yo,qg,q8,q9,qh,ya,xx,yb,yp,yc,xy,w5,xz,x5,w6,jc,x6,Op.operands,Call.operands,yd,qi,w7,AObj.live]
    rfl
  by_cases e12 : r = 12
  · subst e12
    have h4 := h2' [92, 102] (by simp) (by simp; omega)
    simp at h4
    simp -implicitDefEqProofs [quoSt, quoL, quoNx, escM, brow, h4, encA8, escU, rounds, around, codeAt, rfPs, rfA, rfB, Tryz.f106, gcode, machR, tchk, IntWalk.i64_in,IntWalk.u64_in,IntWalk.u8_in,IntWalk.i32_in,IntWalk.u32_in,ye,zk,zm,qj,qk,qm,qn,zb,zc,zn,zp,zq,qo,zd,ze,zr,zt,zu,j3,x7,zw,zf,za,zx,qp,zy,zg,zz,z6,qq,zh,yf,qr,aop,yq,j4,j5,x8,x9,jd,j6,j7,wb,je,j8,yr,j9,wg,jf,jg,xa,xb,z7,jh,z8,ji,jj,yt,yu,xc,AV.one,wh,wi,aun,jk,xd,yw,afn,xe,Out.ren,xf,xg,jl,wj,xh,wl,jm,Eng.distinct,pos,wn,Eng.ren,wo,xi,wp,jo,wq,yg,xj,ws,wu,jp,frz,yx,yz,wv,List.lookup_cons,jq,zi,jr,js,List.range_succ,jt,xk,ju,xm,↓yh,↓yi,↓qt,↓y6,↓qu,↓qa,↓yj,↓yk,↓qv,↓qw,↓qx,↓qy,↓qb,↓qz,qc,ww,xn,jv,jw,yl,qd,qe,zj,wx,y7,jx,xp,xq,keq,y8,wy,qf,y9,ym,xr,jy,jz,xt,j0,wz,ja,j1,xu,xv,xw,jb,q5,q6,yn,q7,j2,Option.map_some,yo,qg,q8,q9,qh,ya,xx,yb,yp,yc,xy,w5,xz,x5,w6,jc,x6,Op.operands,Call.operands,yd,qi,w7,AObj.live]
    rfl
  by_cases e13 : r = 13
  · subst e13
    have h4 := h2' [92, 114] (by simp) (by simp; omega)
    simp at h4
    simp -implicitDefEqProofs [quoSt, quoL, quoNx, escM, brow, h4, encA8, escU, rounds, around, codeAt, rfPs, rfA, rfB, Tryz.f106, gcode, machR, tchk, IntWalk.i64_in,IntWalk.u64_in,IntWalk.u8_in,IntWalk.i32_in,IntWalk.u32_in,ye,zk,zm,qj,qk,qm,qn,zb,zc,zn,zp,zq,qo,zd,ze,zr,zt,zu,j3,x7,zw,zf,za,zx,qp,zy,zg,zz,z6,qq,zh,yf,qr,aop,yq,j4,j5,x8,x9,jd,j6,j7,wb,je,j8,yr,j9,wg,jf,jg,xa,xb,z7,jh,z8,ji,jj,yt,yu,xc,AV.one,wh,wi,aun,jk,xd,yw,afn,xe,Out.ren,xf,xg,jl,wj,xh,wl,jm,Eng.distinct,pos,wn,Eng.ren,wo,xi,wp,jo,wq,yg,xj,ws,wu,jp,frz,yx,yz,wv,List.lookup_cons,jq,zi,jr,js,List.range_succ,jt,xk,ju,xm,↓yh,↓yi,↓qt,↓y6,↓qu,↓qa,↓yj,↓yk,↓qv,↓qw,↓qx,↓qy,↓qb,↓qz,qc,ww,xn,jv,jw,yl,qd,qe,zj,wx,y7,jx,xp,xq,keq,y8,wy,qf,y9,ym,xr,jy,jz,xt,j0,wz,ja,j1,xu,xv,xw,jb,q5,q6,yn,q7,j2,Option.map_some,yo,qg,q8,q9,qh,ya,xx,yb,yp,yc,xy,w5,xz,x5,w6,jc,x6,Op.operands,Call.operands,yd,qi,w7,AObj.live]
    rfl
  by_cases e32 : r < 32
  · have e32' : (r : Int) < 32 := by omega
    have f34 : ((r : Int) == 34) = false := by simp; omega
    have f92 : ((r : Int) == 92) = false := by simp; omega
    have f8 : ((r : Int) == 8) = false := by simp; omega
    have f12 : ((r : Int) == 12) = false := by simp; omega
    have f10 : ((r : Int) == 10) = false := by simp; omega
    have f13 : ((r : Int) == 13) = false := by simp; omega
    have f9 : ((r : Int) == 9) = false := by simp; omega
    have hesc : escU r = [92, 117, 48, 48, hexU (r / 16), hexU (r % 16)] := by simp [escU, e34, e92, e8, e9, e10, e12, e13, e32]
    have h4 := h2' [92, 117, 48, 48, hexU (r / 16), hexU (r % 16)] (by simp) (by simp; omega)
    have s4 : ashift .shr .i32 (r : Int) 4 = some (.int .i32 ((r / 16 : Nat) : Int)) := by simp [ashift, IntKind.bits, Int.fdiv_eq_ediv_of_nonneg]
    have a4 : abits .and .i32 (r : Int) 15 = some ((r % 16 : Nat) : Int) := (by decide +kernel : ∀ m : Fin 32, abits .and .i32 ((m.val : Nat) : Int) 15 = some ((m.val % 16 : Nat) : Int)) ⟨r, e32⟩
    have hx : ∀ (n : Nat) (hn : n < 16), ([48, 49, 50, 51, 52, 53, 54, 55, 56, 57, 97, 98, 99, 100, 101, 102] : List UInt8)[n]'hn = hexU n := by decide
    have hu : ∀ n : Nat, n < 16 → (Utf8.encode ((hexU n).toNat : Int)).data.toList = [hexU n] := by decide +kernel
    have hz : ∀ n : Nat, n < 16 → (Utf8.encode ((hexU n).toNat : Int)).size = 1 := by decide +kernel
    have z1 := hz (r / 16) (by omega)
    have z2 := hz (r % 16) (by omega)
    have u1 := hu (r / 16) (by omega)
    have u2 := hu (r % 16) (by omega)
    have c1 : r / 16 < 16 := by omega
    have c2 : r % 16 < 16 := by omega
    rw [hesc]
    simp at h4
    generalize r / 16 = A at *
    generalize r % 16 = B at *
    have x1 := hx A c1
    have x2 := hx B c2
    simp -implicitDefEqProofs [quoSt, quoL, quoNx, escM, brow, h4, e32', f34, f92, f8, f12, f10, f13, f9, s4, a4, x1, x2, u1, u2, z1, z2, c1, c2, rounds, around, codeAt, rfPs, rfA, rfB, Tryz.f106, gcode, machR, tchk, IntWalk.i64_in,IntWalk.u64_in,IntWalk.u8_in,IntWalk.i32_in,IntWalk.u32_in,ye,zk,zm,qj,qk,qm,qn,zb,zc,zn,zp,zq,qo,zd,ze,zr,zt,zu,j3,x7,zw,zf,za,zx,qp,zy,zg,zz,z6,qq,zh,yf,qr,aop,yq,j4,j5,x8,x9,jd,j6,j7,wb,je,j8,yr,j9,wg,jf,jg,xa,xb,z7,jh,z8,ji,jj,yt,yu,xc,AV.one,wh,wi,aun,jk,xd,yw,afn,xe,Out.ren,xf,xg,jl,wj,xh,wl,jm,Eng.distinct,pos,wn,Eng.ren,wo,xi,wp,jo,wq,yg,xj,ws,wu,jp,frz,yx,yz,wv,List.lookup_cons,jq,zi,jr,js,List.range_succ,jt,xk,ju,xm,↓yh,↓yi,↓qt,↓y6,↓qu,↓qa,↓yj,↓yk,↓qv,↓qw,↓qx,↓qy,↓qb,↓qz,qc,ww,xn,jv,jw,yl,qd,qe,zj,wx,y7,jx,xp,xq,keq,y8,wy,qf,y9,ym,xr,jy,jz,xt,j0,wz,ja,j1,xu,xv,xw,jb,q5,q6,yn,q7,j2,Option.map_some,yo,qg,q8,q9,qh,ya,xx,yb,yp,yc,xy,w5,xz,x5,w6,jc,x6,Op.operands,Call.operands,yd,qi,w7,AObj.live]
    rfl
  have e32' : ¬ (r : Int) < 32 := by omega
  have f34 : ((r : Int) == 34) = false := by simp; omega
  have f92 : ((r : Int) == 92) = false := by simp; omega
  have f8 : ((r : Int) == 8) = false := by simp; omega
  have f12 : ((r : Int) == 12) = false := by simp; omega
  have f10 : ((r : Int) == 10) = false := by simp; omega
  have f13 : ((r : Int) == 13) = false := by simp; omega
  have f9 : ((r : Int) == 9) = false := by simp; omega
  have hesc : escU r = Lib.encodeRune r := by simp [escU, e34, e92, e8, e12, e10, e13, e9, e32]
  rw [hesc]
  simp -implicitDefEqProofs [quoSt, quoL, quoNx, escM, brow, h3, e32', f34, f92, f8, f12, f10, f13, f9, rounds, around, codeAt, rfPs, rfA, rfB, Tryz.f106, gcode, machR, tchk, IntWalk.i64_in,IntWalk.u64_in,IntWalk.u8_in,IntWalk.i32_in,IntWalk.u32_in,ye,zk,zm,qj,qk,qm,qn,zb,zc,zn,zp,zq,qo,zd,ze,zr,zt,zu,j3,x7,zw,zf,za,zx,qp,zy,zg,zz,z6,qq,zh,yf,qr,aop,yq,j4,j5,x8,x9,jd,j6,j7,wb,je,j8,yr,j9,wg,jf,jg,xa,xb,z7,jh,z8,ji,jj,yt,yu,xc,AV.one,wh,wi,aun,jk,xd,yw,afn,xe,Out.ren,xf,xg,jl,wj,xh,wl,jm,Eng.distinct,pos,wn,Eng.ren,wo,xi,wp,jo,wq,yg,xj,ws,wu,jp,frz,yx,yz,wv,List.lookup_cons,jq,zi,jr,js,List.range_succ,jt,xk,ju,xm,↓yh,↓yi,↓qt,↓y6,↓qu,↓qa,↓yj,↓yk,↓qv,↓qw,↓qx,↓qy,↓qb,↓qz,qc,ww,xn,jv,jw,yl,qd,qe,zj,wx,y7,jx,xp,xq,keq,y8,wy,qf,y9,ym,xr,jy,jz,xt,j0,wz,ja,j1,xu,xv,xw,jb,q5,q6,yn,q7,j2,Option.map_some,yo,qg,q8,q9,qh,ya,xx,yb,yp,yc,xy,w5,xz,x5,w6,jc,x6,Op.operands,Call.operands,yd,qi,w7,AObj.live]
  rfl

end Go.Proofs.YtblejchodicaoaaGreatDoor.Eng

/-
  CONTRACTS: utf.Runes' closure within Quote; Quote. Own work.
-/
namespace Go.Proofs.YtblejchodicaoaaGreatDoor.Eng
open Go Go.RowKit
set_option maxRecDepth 100000
set_option linter.unusedSimpArgs false
set_option maxHeartbeats 2000000

theorem runesAt_len (i : Nat) (s : List UInt8) : (runesAt i s).length ≤ s.length - i := by
  have := runesU_len (s.drop i).length i (s.drop i)
  simpa [runesAt] using this

noncomputable def quoG (d : D) (l : List UInt8) : List AObj := [quoL d, .dfr, .box [.map 3] 186, escM, .box [.ptr 4 0, .sl 6 1 0 l.length] 139, .gone, brow l]
noncomputable def quoS (d : D) (p : List (Nat × Nat)) : List AObj := if p = [] then quoSt d (qAcc p) else quoG d (qAcc p)
noncomputable def quoE (d : D) (p : List (Nat × Nat)) : List AObj := quoS d p
theorem b_Runes1 (C : Oracle) (d : D) (s : List UInt8) (hs : s.length ≤ 1099511627776) (hv : validU s = true)
    (hD : ∀ x : List UInt8, x ≠ [] → C 167 [.d (.str x)] [] = some (.ret (.tup [.d (.int .i32 ((decU x).1 : Nat)), .d (.int .i64 ((decU x).2 : Nat))]), []))
    (hY : ∀ (l : List UInt8) (i : Int) (r : Nat), l ≠ [] → l.length ≤ 70368744177664 → validR r → C yId [.yld 0, .d (.int .i64 i), .d (.int .i32 r)] (quoSt d l) = some (.ret (.d (.bool true)), quoNx d l (escU r))) :
    abody Tryz.prog [] C (mach Tryz.prog C { keep := [(6, [0, 1, 3])], outs := [(6, [])] }) false 166 [.yld 0, .d (.rp [.str s])] (quoSt d [34]) = some (.ret (.tup []), quoE d (runesAt 0 s)) := by
  unfold abody
  rw [Tryz.func166]
  simp only [Tryz.f166]
  simp -implicitDefEqProofs [quoSt, quoL, escM, brow, mach_loop, IntWalk.i64_in,IntWalk.u64_in,IntWalk.u8_in,IntWalk.i32_in,IntWalk.u32_in,ye,zk,zm,qj,qk,qm,qn,zb,zc,zn,zp,zq,qo,zd,ze,zr,zt,zu,j3,x7,zw,zf,za,zx,qp,zy,zg,zz,z6,qq,zh,yf,qr,aop,yq,j4,j5,x8,x9,jd,j6,j7,wb,je,j8,yr,j9,wg,jf,jg,xa,xb,z7,jh,z8,ji,jj,yt,yu,xc,AV.one,wh,wi,aun,jk,xd,yw,afn,xe,Out.ren,xf,xg,jl,wj,xh,wl,jm,Eng.distinct,pos,wn,Eng.ren,wo,xi,wp,jo,wq,yg,xj,ws,wu,jp,frz,yx,yz,wv,List.lookup_cons,jq,zi,jr,js,List.range_succ,jt,xk,ju,xm,↓yh,↓yi,↓qt,↓y6,↓qu,↓qa,↓yj,↓yk,↓qv,↓qw,↓qx,↓qy,↓qb,↓qz,qc,ww,xn,jv,jw,yl,qd,qe,zj,wx,y7,jx,xp,xq,keq,y8,wy,qf,y9,ym,xr,jy,jz,xt,j0,wz,ja,j1,xu,xv,xw,jb,q5,q6,yn,q7,j2,Option.map_some,yo,qg,q8,q9,qh,ya,xx,yb,yp,yc,xy,w5,xz,x5,w6,jc,x6,Op.operands,Call.operands,yd,qi,w7,AObj.live]
  rw [aloop_meas (α := Nat × List (Nat × Nat)) (S := fun a => { env := [(0, .yld 0), (1, .d (.rp [.str s])), (3, .d (.int .i64 a.1))], σ := quoS d a.2, dfs := [] })
    (R := fun a => some (.exit 0, { env := [], σ := quoE d (a.2 ++ runesAt a.1 s), dfs := [] }))
    (P := fun a => a.1 ≤ s.length ∧ a.2.length ≤ a.1 ∧ validU (s.drop a.1) = true) (m := fun a => s.length - a.1) ?_ (0, []) _ ⟨by omega, by simp, by simpa using hv⟩ ?_]
  rotate_left
  · rintro ⟨i, acc⟩ ⟨hi, ha, hva⟩ ih
    simp only at hi ha hva ih ⊢
    by_cases he : i = s.length
    · subst he
      rcases Decidable.em (acc = []) with ea | ea <;> simp -implicitDefEqProofs [quoE, quoS, quoG, quoSt, quoL, escM, brow, ea, qAcc_nil, mach_loop, runesAt_end, IntWalk.i64_in,IntWalk.u64_in,IntWalk.u8_in,IntWalk.i32_in,IntWalk.u32_in,ye,zk,zm,qj,qk,qm,qn,zb,zc,zn,zp,zq,qo,zd,ze,zr,zt,zu,j3,x7,zw,zf,za,zx,qp,zy,zg,zz,z6,qq,zh,yf,qr,aop,yq,j4,j5,x8,x9,jd,j6,j7,wb,je,j8,yr,j9,wg,jf,jg,xa,xb,z7,jh,z8,ji,jj,yt,yu,xc,AV.one,wh,wi,aun,jk,xd,yw,afn,xe,Out.ren,xf,xg,jl,wj,xh,wl,jm,Eng.distinct,pos,wn,Eng.ren,wo,xi,wp,jo,wq,yg,xj,ws,wu,jp,frz,yx,yz,wv,List.lookup_cons,jq,zi,jr,js,List.range_succ,jt,xk,ju,xm,↓yh,↓yi,↓qt,↓y6,↓qu,↓qa,↓yj,↓yk,↓qv,↓qw,↓qx,↓qy,↓qb,↓qz,qc,ww,xn,jv,jw,yl,qd,qe,zj,wx,y7,jx,xp,xq,keq,y8,wy,qf,y9,ym,xr,jy,jz,xt,j0,wz,ja,j1,xu,xv,xw,jb,q5,q6,yn,q7,j2,Option.map_some,yo,qg,q8,q9,qh,ya,xx,yb,yp,yc,xy,w5,xz,x5,w6,jc,x6,Op.operands,Call.operands,yd,qi,w7,AObj.live]
    have hlt : i < s.length := by omega
    have hlt' : (i : Int) < s.length := by omega
    have hle0 : (i : Int) ≤ s.length := by omega
    have hne : s.drop i ≠ [] := by
      intro h0
      have := congrArg List.length h0
      simp at this
      omega
    have h1 := hD (s.drop i) hne
    have hdt : (s.drop i).take (s.length - i) = s.drop i := List.take_of_length_le (by simp)
    have hstep : validU (s.drop i) = _ := Lib.validD_step _ hne
    have hb : ¬ ((decU (s.drop i)).1 = 65533 ∧ (decU (s.drop i)).2 = 1) := by
      intro hb
      have hv2 : validU (s.drop i) = false := by rw [hstep]; exact if_pos hb
      rw [hv2] at hva
      cases hva
    have hw := Lib.decodeL_width (s.drop i)
    have hle := Lib.decodeL_le _ hne
    rw [List.length_drop] at hle
    have hr := runesAt_ok i s hlt hb
    have hvr := decU_valid (s.drop i)
    have hv2 : validU (s.drop (i + (decU (s.drop i)).2)) = true := by rw [← hva, hstep, ← List.drop_drop]; exact (if_neg hb).symm
    have hn1 : 1 ≤ (decU (s.drop i)).2 := by unfold decU; omega
    have hle' : i + (decU (s.drop i)).2 ≤ s.length := by unfold decU; omega
    have hw2 : IntKind.i64.wrap ((i : Int) + ((decU (s.drop i)).2 : Int)) = ((i + (decU (s.drop i)).2 : Nat) : Int) := by rw [wrap64 (by omega) (by omega)]; simp
    rw [hr]
    have hql := qAcc_len acc
    have hy := hY (qAcc acc) i (decU (s.drop i)).1 (by simp [qAcc]) (by omega) hvr
    have hsn := qAcc_snoc acc (i, (decU (s.drop i)).1)
    simp only at hsn
    generalize (decU (s.drop i)).2 = n at *
    generalize (decU (s.drop i)).1 = r at *
    simp [quoSt, quoNx, quoL, escM, brow] at hy
    have hqn : ¬ acc ++ [(i, r)] = [] := by simp
    by_cases e : (r : Int) = 65533
    · have hn2 : ¬ (n : Int) < 2 := by omega
      obtain rfl : r = 65533 := by omega
      simp at hy
      rcases Decidable.em (acc = []) with ea | ea <;> (
        try simp only [ea, qAcc_nil, List.nil_append] at hy hsn ⊢
        try simp at hy
        simp -implicitDefEqProofs [quoS, quoG, quoSt, quoL, escM, brow, ea, mach_loop, mach_draw, hdt, h1, hlt', hle0, hn2, hy, hw2, qAcc_nil, IntWalk.i64_in,IntWalk.u64_in,IntWalk.u8_in,IntWalk.i32_in,IntWalk.u32_in,ye,zk,zm,qj,qk,qm,qn,zb,zc,zn,zp,zq,qo,zd,ze,zr,zt,zu,j3,x7,zw,zf,za,zx,qp,zy,zg,zz,z6,qq,zh,yf,qr,aop,yq,j4,j5,x8,x9,jd,j6,j7,wb,je,j8,yr,j9,wg,jf,jg,xa,xb,z7,jh,z8,ji,jj,yt,yu,xc,AV.one,wh,wi,aun,jk,xd,yw,afn,xe,Out.ren,xf,xg,jl,wj,xh,wl,jm,Eng.distinct,pos,wn,Eng.ren,wo,xi,wp,jo,wq,yg,xj,ws,wu,jp,frz,yx,yz,wv,List.lookup_cons,jq,zi,jr,js,List.range_succ,jt,xk,ju,xm,↓yh,↓yi,↓qt,↓y6,↓qu,↓qa,↓yj,↓yk,↓qv,↓qw,↓qx,↓qy,↓qb,↓qz,qc,ww,xn,jv,jw,yl,qd,qe,zj,wx,y7,jx,xp,xq,keq,y8,wy,qf,y9,ym,xr,jy,jz,xt,j0,wz,ja,j1,xu,xv,xw,jb,q5,q6,yn,q7,j2,Option.map_some,yo,qg,q8,q9,qh,ya,xx,yb,yp,yc,xy,w5,xz,x5,w6,jc,x6,Op.operands,Call.operands,yd,qi,w7,AObj.live]
        rw [ih (i + n, acc ++ [(i, 65533)]) _ ⟨hle', by simp; omega, hv2⟩ (by simp only; omega) (by simp -implicitDefEqProofs [quoS, quoG, quoSt, quoL, escM, brow, ea, hsn, IntWalk.i64_in,IntWalk.u64_in,IntWalk.u8_in,IntWalk.i32_in,IntWalk.u32_in,ye,zk,zm,qj,qk,qm,qn,zb,zc,zn,zp,zq,qo,zd,ze,zr,zt,zu,j3,x7,zw,zf,za,zx,qp,zy,zg,zz,z6,qq,zh,yf,qr,aop,yq,j4,j5,x8,x9,jd,j6,j7,wb,je,j8,yr,j9,wg,jf,jg,xa,xb,z7,jh,z8,ji,jj,yt,yu,xc,AV.one,wh,wi,aun,jk,xd,yw,afn,xe,Out.ren,xf,xg,jl,wj,xh,wl,jm,Eng.distinct,pos,wn,Eng.ren,wo,xi,wp,jo,wq,yg,xj,ws,wu,jp,frz,yx,yz,wv,List.lookup_cons,jq,zi,jr,js,List.range_succ,jt,xk,ju,xm,↓yh,↓yi,↓qt,↓y6,↓qu,↓qa,↓yj,↓yk,↓qv,↓qw,↓qx,↓qy,↓qb,↓qz,qc,ww,xn,jv,jw,yl,qd,qe,zj,wx,y7,jx,xp,xq,keq,y8,wy,qf,y9,ym,xr,jy,jz,xt,j0,wz,ja,j1,xu,xv,xw,jb,q5,q6,yn,q7,j2,Option.map_some,yo,qg,q8,q9,qh,ya,xx,yb,yp,yc,xy,w5,xz,x5,w6,jc,x6,Op.operands,Call.operands,yd,qi,w7,AObj.live] <;> omega)]
        simp [ea])
    · have e' : ((r : Int) == 65533) = false := by simpa using e
      rcases Decidable.em (acc = []) with ea | ea <;> (
        try simp only [ea, qAcc_nil, List.nil_append] at hy hsn ⊢
        try simp at hy
        simp -implicitDefEqProofs [quoS, quoG, quoSt, quoL, escM, brow, ea, mach_loop, mach_draw, hdt, h1, hlt', hle0, e', hy, hw2, qAcc_nil, IntWalk.i64_in,IntWalk.u64_in,IntWalk.u8_in,IntWalk.i32_in,IntWalk.u32_in,ye,zk,zm,qj,qk,qm,qn,zb,zc,zn,zp,zq,qo,zd,ze,zr,zt,zu,j3,x7,zw,zf,za,zx,qp,zy,zg,zz,z6,qq,zh,yf,qr,aop,yq,j4,j5,x8,x9,jd,j6,j7,wb,je,j8,yr,j9,wg,jf,jg,xa,xb,z7,jh,z8,ji,jj,yt,yu,xc,AV.one,wh,wi,aun,jk,xd,yw,afn,xe,Out.ren,xf,xg,jl,wj,xh,wl,jm,Eng.distinct,pos,wn,Eng.ren,wo,xi,wp,jo,wq,yg,xj,ws,wu,jp,frz,yx,yz,wv,List.lookup_cons,jq,zi,jr,js,List.range_succ,jt,xk,ju,xm,↓yh,↓yi,↓qt,↓y6,↓qu,↓qa,↓yj,↓yk,↓qv,↓qw,↓qx,↓qy,↓qb,↓qz,qc,ww,xn,jv,jw,yl,qd,qe,zj,wx,y7,jx,xp,xq,keq,y8,wy,qf,y9,ym,xr,jy,jz,xt,j0,wz,ja,j1,xu,xv,xw,jb,q5,q6,yn,q7,j2,Option.map_some,yo,qg,q8,q9,qh,ya,xx,yb,yp,yc,xy,w5,xz,x5,w6,jc,x6,Op.operands,Call.operands,yd,qi,w7,AObj.live]
        rw [ih (i + n, acc ++ [(i, r)]) _ ⟨hle', by simp; omega, hv2⟩ (by simp only; omega) (by simp -implicitDefEqProofs [quoS, quoG, quoSt, quoL, escM, brow, ea, hsn, IntWalk.i64_in,IntWalk.u64_in,IntWalk.u8_in,IntWalk.i32_in,IntWalk.u32_in,ye,zk,zm,qj,qk,qm,qn,zb,zc,zn,zp,zq,qo,zd,ze,zr,zt,zu,j3,x7,zw,zf,za,zx,qp,zy,zg,zz,z6,qq,zh,yf,qr,aop,yq,j4,j5,x8,x9,jd,j6,j7,wb,je,j8,yr,j9,wg,jf,jg,xa,xb,z7,jh,z8,ji,jj,yt,yu,xc,AV.one,wh,wi,aun,jk,xd,yw,afn,xe,Out.ren,xf,xg,jl,wj,xh,wl,jm,Eng.distinct,pos,wn,Eng.ren,wo,xi,wp,jo,wq,yg,xj,ws,wu,jp,frz,yx,yz,wv,List.lookup_cons,jq,zi,jr,js,List.range_succ,jt,xk,ju,xm,↓yh,↓yi,↓qt,↓y6,↓qu,↓qa,↓yj,↓yk,↓qv,↓qw,↓qx,↓qy,↓qb,↓qz,qc,ww,xn,jv,jw,yl,qd,qe,zj,wx,y7,jx,xp,xq,keq,y8,wy,qf,y9,ym,xr,jy,jz,xt,j0,wz,ja,j1,xu,xv,xw,jb,q5,q6,yn,q7,j2,Option.map_some,yo,qg,q8,q9,qh,ya,xx,yb,yp,yc,xy,w5,xz,x5,w6,jc,x6,Op.operands,Call.operands,yd,qi,w7,AObj.live] <;> omega)]
        simp [ea])
  · simp -implicitDefEqProofs [quoS, quoSt, quoL, escM, brow, qAcc_nil, IntWalk.i64_in,IntWalk.u64_in,IntWalk.u8_in,IntWalk.i32_in,IntWalk.u32_in,ye,zk,zm,qj,qk,qm,qn,zb,zc,zn,zp,zq,qo,zd,ze,zr,zt,zu,j3,x7,zw,zf,za,zx,qp,zy,zg,zz,z6,qq,zh,yf,qr,aop,yq,j4,j5,x8,x9,jd,j6,j7,wb,je,j8,yr,j9,wg,jf,jg,xa,xb,z7,jh,z8,ji,jj,yt,yu,xc,AV.one,wh,wi,aun,jk,xd,yw,afn,xe,Out.ren,xf,xg,jl,wj,xh,wl,jm,Eng.distinct,pos,wn,Eng.ren,wo,xi,wp,jo,wq,yg,xj,ws,wu,jp,frz,yx,yz,wv,List.lookup_cons,jq,zi,jr,js,List.range_succ,jt,xk,ju,xm,↓yh,↓yi,↓qt,↓y6,↓qu,↓qa,↓yj,↓yk,↓qv,↓qw,↓qx,↓qy,↓qb,↓qz,qc,ww,xn,jv,jw,yl,qd,qe,zj,wx,y7,jx,xp,xq,keq,y8,wy,qf,y9,ym,xr,jy,jz,xt,j0,wz,ja,j1,xu,xv,xw,jb,q5,q6,yn,q7,j2,Option.map_some,yo,qg,q8,q9,qh,ya,xx,yb,yp,yc,xy,w5,xz,x5,w6,jc,x6,Op.operands,Call.operands,yd,qi,w7,AObj.live]
  rcases Decidable.em (runesAt 0 s = []) with ea | ea <;> simp -implicitDefEqProofs [quoE, quoS, quoG, quoSt, quoL, escM, brow, ea, qAcc_nil, mach_loop, IntWalk.i64_in,IntWalk.u64_in,IntWalk.u8_in,IntWalk.i32_in,IntWalk.u32_in,ye,zk,zm,qj,qk,qm,qn,zb,zc,zn,zp,zq,qo,zd,ze,zr,zt,zu,j3,x7,zw,zf,za,zx,qp,zy,zg,zz,z6,qq,zh,yf,qr,aop,yq,j4,j5,x8,x9,jd,j6,j7,wb,je,j8,yr,j9,wg,jf,jg,xa,xb,z7,jh,z8,ji,jj,yt,yu,xc,AV.one,wh,wi,aun,jk,xd,yw,afn,xe,Out.ren,xf,xg,jl,wj,xh,wl,jm,Eng.distinct,pos,wn,Eng.ren,wo,xi,wp,jo,wq,yg,xj,ws,wu,jp,frz,yx,yz,wv,List.lookup_cons,jq,zi,jr,js,List.range_succ,jt,xk,ju,xm,↓yh,↓yi,↓qt,↓y6,↓qu,↓qa,↓yj,↓yk,↓qv,↓qw,↓qx,↓qy,↓qb,↓qz,qc,ww,xn,jv,jw,yl,qd,qe,zj,wx,y7,jx,xp,xq,keq,y8,wy,qf,y9,ym,xr,jy,jz,xt,j0,wz,ja,j1,xu,xv,xw,jb,q5,q6,yn,q7,j2,Option.map_some,yo,qg,q8,q9,qh,ya,xx,yb,yp,yc,xy,w5,xz,x5,w6,jc,x6,Op.operands,Call.operands,yd,qi,w7,AObj.live]

theorem b_Quote (C : Oracle) (s : List UInt8) (hs : s.length ≤ 1099511627776)
    (h1 : C 124 [.d (.str s)] [] = R (.bool (validU s))) (h2 : C 134 [] [] = some (.ret (.map 0), [escM])) (h3 : C 136 [.d (.str s)] [] = R (runesF s))
    (h4 : ∀ (u : Bool) (l : List UInt8) (c : UInt8), l.length + 1 ≤ 140737488355328 → C 135 [.ptr 0 0, .d (.int .u8 c.toNat)] (bld u l) = some (.ret (.d .nili), wr l [c]))
    (h6 : ∀ (u : Bool) (l : List UInt8), l.length ≤ 140737488355328 → C 107 [.ptr 0 0] (bld u l) = some (.ret (.d (.str l)), if l = [] then bld u l else [.box [.ptr 0 0, .sl 1 1 0 l.length] 139, .fz 1 (l.map fun b => [.int .u8 b.toNat])]))
    (h7 : validU s = true → C 166 [.yld 0, .d (.rp [.str s])] (quoSt (runesF s) [34]) = some (.ret (.tup []), quoE (runesF s) (runesAt 0 s))) :
    abody Tryz.prog [] C (mach Tryz.prog C { keep := [(506, [2, 3, 4, 5, 16, 18])] }) true 106 [.d (.str s)] [] = some (.ret (.tup [.d (.str (quoteU s)), .d (.int .i64 (if validU s = true then 0 else 3))]), []) := by
  unfold abody
  rw [Tryz.func106]
  simp only [Tryz.f106]
  have h5 := h4 false [] 34 (by simp)
  simp [bld, wr] at h5
  simp only [R] at h1 h2 h3
  by_cases e : validU s = true
  rotate_left
  · simp -implicitDefEqProofs [h1, e, quoteU, IntWalk.i64_in,IntWalk.u64_in,IntWalk.u8_in,IntWalk.i32_in,IntWalk.u32_in,ye,zk,zm,qj,qk,qm,qn,zb,zc,zn,zp,zq,qo,zd,ze,zr,zt,zu,j3,x7,zw,zf,za,zx,qp,zy,zg,zz,z6,qq,zh,yf,qr,aop,yq,j4,j5,x8,x9,jd,j6,j7,wb,je,j8,yr,j9,wg,jf,jg,xa,xb,z7,jh,z8,ji,jj,yt,yu,xc,AV.one,wh,wi,aun,jk,xd,yw,afn,xe,Out.ren,xf,xg,jl,wj,xh,wl,jm,Eng.distinct,pos,wn,Eng.ren,wo,xi,wp,jo,wq,yg,xj,ws,wu,jp,frz,yx,yz,wv,List.lookup_cons,jq,zi,jr,js,List.range_succ,jt,xk,ju,xm,↓yh,↓yi,↓qt,↓y6,↓qu,↓qa,↓yj,↓yk,↓qv,↓qw,↓qx,↓qy,↓qb,↓qz,qc,ww,xn,jv,jw,yl,qd,qe,zj,wx,y7,jx,xp,xq,keq,y8,wy,qf,y9,ym,xr,jy,jz,xt,j0,wz,ja,j1,xu,xv,xw,jb,q5,q6,yn,q7,j2,Option.map_some,yo,qg,q8,q9,qh,ya,xx,yb,yp,yc,xy,w5,xz,x5,w6,jc,x6,Op.operands,Call.operands,yd,qi,w7,AObj.live]
  have hq : quoteU s = qAcc (runesAt 0 s) ++ [34] := by simp [quoteU, e, qAcc, runesAt]
  have hl1 := qAcc_len (runesAt 0 s)
  have hl2 := runesAt_len 0 s
  have h8 := h7 e
  rw [hq]
  have hne : qAcc (runesAt 0 s) ≠ [] := by simp [qAcc]
  generalize hqq : qAcc (runesAt 0 s) = q at *
  have h9 := h4 true q 34 (by omega)
  have h10 := h6 true (q ++ [34]) (by simp; omega)
  simp [bld, wr, hne] at h9 h10
  simp only [runesF, escM, e, quoSt, quoL, rfPs, rfA, rfB, codeAt, Tryz.f106, Option.getD_some] at h1 h2 h3 h8
  simp [brow] at h8
  simp -implicitDefEqProofs [h1, h2, h3, h5, h8, e, IntWalk.i64_in,IntWalk.u64_in,IntWalk.u8_in,IntWalk.i32_in,IntWalk.u32_in,ye,zk,zm,qj,qk,qm,qn,zb,zc,zn,zp,zq,qo,zd,ze,zr,zt,zu,j3,x7,zw,zf,za,zx,qp,zy,zg,zz,z6,qq,zh,yf,qr,aop,yq,j4,j5,x8,x9,jd,j6,j7,wb,je,j8,yr,j9,wg,jf,jg,xa,xb,z7,jh,z8,ji,jj,yt,yu,xc,AV.one,wh,wi,aun,jk,xd,yw,afn,xe,Out.ren,xf,xg,jl,wj,xh,wl,jm,Eng.distinct,pos,wn,Eng.ren,wo,xi,wp,jo,wq,yg,xj,ws,wu,jp,frz,yx,yz,wv,List.lookup_cons,jq,zi,jr,js,List.range_succ,jt,xk,ju,xm,↓yh,↓yi,↓qt,↓y6,↓qu,↓qa,↓yj,↓yk,↓qv,↓qw,↓qx,↓qy,↓qb,↓qz,qc,ww,xn,jv,jw,yl,qd,qe,zj,wx,y7,jx,xp,xq,keq,y8,wy,qf,y9,ym,xr,jy,jz,xt,j0,wz,ja,j1,xu,xv,xw,jb,q5,q6,yn,q7,j2,Option.map_some,yo,qg,q8,q9,qh,ya,xx,yb,yp,yc,xy,w5,xz,x5,w6,jc,x6,Op.operands,Call.operands,yd,qi,w7,AObj.live]
  rcases Decidable.em (runesAt 0 s = []) with ea | ea
  · rw [ea] at hqq
    simp -implicitDefEqProofs [quoE, quoS, quoG, quoSt, quoL, escM, brow, ea, hqq, h9, h10, IntWalk.i64_in,IntWalk.u64_in,IntWalk.u8_in,IntWalk.i32_in,IntWalk.u32_in,ye,zk,zm,qj,qk,qm,qn,zb,zc,zn,zp,zq,qo,zd,ze,zr,zt,zu,j3,x7,zw,zf,za,zx,qp,zy,zg,zz,z6,qq,zh,yf,qr,aop,yq,j4,j5,x8,x9,jd,j6,j7,wb,je,j8,yr,j9,wg,jf,jg,xa,xb,z7,jh,z8,ji,jj,yt,yu,xc,AV.one,wh,wi,aun,jk,xd,yw,afn,xe,Out.ren,xf,xg,jl,wj,xh,wl,jm,Eng.distinct,pos,wn,Eng.ren,wo,xi,wp,jo,wq,yg,xj,ws,wu,jp,frz,yx,yz,wv,List.lookup_cons,jq,zi,jr,js,List.range_succ,jt,xk,ju,xm,↓yh,↓yi,↓qt,↓y6,↓qu,↓qa,↓yj,↓yk,↓qv,↓qw,↓qx,↓qy,↓qb,↓qz,qc,ww,xn,jv,jw,yl,qd,qe,zj,wx,y7,jx,xp,xq,keq,y8,wy,qf,y9,ym,xr,jy,jz,xt,j0,wz,ja,j1,xu,xv,xw,jb,q5,q6,yn,q7,j2,Option.map_some,yo,qg,q8,q9,qh,ya,xx,yb,yp,yc,xy,w5,xz,x5,w6,jc,x6,Op.operands,Call.operands,yd,qi,w7,AObj.live]
  · simp -implicitDefEqProofs [quoE, quoS, quoG, quoSt, quoL, escM, brow, ea, hqq, h9, h10, IntWalk.i64_in,IntWalk.u64_in,IntWalk.u8_in,IntWalk.i32_in,IntWalk.u32_in,ye,zk,zm,qj,qk,qm,qn,zb,zc,zn,zp,zq,qo,zd,ze,zr,zt,zu,j3,x7,zw,zf,za,zx,qp,zy,zg,zz,z6,qq,zh,yf,qr,aop,yq,j4,j5,x8,x9,jd,j6,j7,wb,je,j8,yr,j9,wg,jf,jg,xa,xb,z7,jh,z8,ji,jj,yt,yu,xc,AV.one,wh,wi,aun,jk,xd,yw,afn,xe,Out.ren,xf,xg,jl,wj,xh,wl,jm,Eng.distinct,pos,wn,Eng.ren,wo,xi,wp,jo,wq,yg,xj,ws,wu,jp,frz,yx,yz,wv,List.lookup_cons,jq,zi,jr,js,List.range_succ,jt,xk,ju,xm,↓yh,↓yi,↓qt,↓y6,↓qu,↓qa,↓yj,↓yk,↓qv,↓qw,↓qx,↓qy,↓qb,↓qz,qc,ww,xn,jv,jw,yl,qd,qe,zj,wx,y7,jx,xp,xq,keq,y8,wy,qf,y9,ym,xr,jy,jz,xt,j0,wz,ja,j1,xu,xv,xw,jb,q5,q6,yn,q7,j2,Option.map_some,yo,qg,q8,q9,qh,ya,xx,yb,yp,yc,xy,w5,xz,x5,w6,jc,x6,Op.operands,Call.operands,yd,qi,w7,AObj.live]
end Go.Proofs.YtblejchodicaoaaGreatDoor.Eng

/-
  CONTRACTS: strconv.FormatBool; FormatInt at base 10 (given its own contract). Own work.
-/
namespace Go.Proofs.YtblejchodicaoaaGreatDoor.Eng
open Go Go.RowKit
set_option maxRecDepth 100000
set_option linter.unusedSimpArgs false
set_option maxHeartbeats 2000000

def boolS (b : Bool) : List UInt8 := if b then [116, 114, 117, 101] else [102, 97, 108, 115, 101]
theorem b_iFormatBool (C : Oracle) (b : Bool) :
    abody Tryz.prog [] C (mach Tryz.prog C {}) true 132 [.d (.bool b)] [] = R (.str (boolS b)) := by
  unfold abody
  rw [Tryz.func132]
  simp only [Tryz.f132]
  cases b <;> simp -implicitDefEqProofs [R, boolS, IntWalk.i64_in,IntWalk.u64_in,IntWalk.u8_in,IntWalk.i32_in,IntWalk.u32_in,ye,zk,zm,qj,qk,qm,qn,zb,zc,zn,zp,zq,qo,zd,ze,zr,zt,zu,j3,x7,zw,zf,za,zx,qp,zy,zg,zz,z6,qq,zh,yf,qr,aop,yq,j4,j5,x8,x9,jd,j6,j7,wb,je,j8,yr,j9,wg,jf,jg,xa,xb,z7,jh,z8,ji,jj,yt,yu,xc,AV.one,wh,wi,aun,jk,xd,yw,afn,xe,Out.ren,xf,xg,jl,wj,xh,wl,jm,Eng.distinct,pos,wn,Eng.ren,wo,xi,wp,jo,wq,yg,xj,ws,wu,jp,frz,yx,yz,wv,List.lookup_cons,jq,zi,jr,js,List.range_succ,jt,xk,ju,xm,↓yh,↓yi,↓qt,↓y6,↓qu,↓qa,↓yj,↓yk,↓qv,↓qw,↓qx,↓qy,↓qb,↓qz,qc,ww,xn,jv,jw,yl,qd,qe,zj,wx,y7,jx,xp,xq,keq,y8,wy,qf,y9,ym,xr,jy,jz,xt,j0,wz,ja,j1,xu,xv,xw,jb,q5,q6,yn,q7,j2,Option.map_some,yo,qg,q8,q9,qh,ya,xx,yb,yp,yc,xy,w5,xz,x5,w6,jc,x6,Op.operands,Call.operands,yd,qi,w7,AObj.live]
theorem b_FormatBool (C : Oracle) (b : Bool) (h : C 132 [.d (.bool b)] [] = R (.str (boolS b))) :
    abody Tryz.prog [] C (mach Tryz.prog C {}) true 104 [.d (.bool b)] [] = R (.str (boolS b)) := by
  simp only [R] at h
  unfold abody
  rw [Tryz.func104]
  simp only [Tryz.f104]
  simp -implicitDefEqProofs [R, h, IntWalk.i64_in,IntWalk.u64_in,IntWalk.u8_in,IntWalk.i32_in,IntWalk.u32_in,ye,zk,zm,qj,qk,qm,qn,zb,zc,zn,zp,zq,qo,zd,ze,zr,zt,zu,j3,x7,zw,zf,za,zx,qp,zy,zg,zz,z6,qq,zh,yf,qr,aop,yq,j4,j5,x8,x9,jd,j6,j7,wb,je,j8,yr,j9,wg,jf,jg,xa,xb,z7,jh,z8,ji,jj,yt,yu,xc,AV.one,wh,wi,aun,jk,xd,yw,afn,xe,Out.ren,xf,xg,jl,wj,xh,wl,jm,Eng.distinct,pos,wn,Eng.ren,wo,xi,wp,jo,wq,yg,xj,ws,wu,jp,frz,yx,yz,wv,List.lookup_cons,jq,zi,jr,js,List.range_succ,jt,xk,ju,xm,↓yh,↓yi,↓qt,↓y6,↓qu,↓qa,↓yj,↓yk,↓qv,↓qw,↓qx,↓qy,↓qb,↓qz,qc,ww,xn,jv,jw,yl,qd,qe,zj,wx,y7,jx,xp,xq,keq,y8,wy,qf,y9,ym,xr,jy,jz,xt,j0,wz,ja,j1,xu,xv,xw,jb,q5,q6,yn,q7,j2,Option.map_some,yo,qg,q8,q9,qh,ya,xx,yb,yp,yc,xy,w5,xz,x5,w6,jc,x6,Op.operands,Call.operands,yd,qi,w7,AObj.live]
end Go.Proofs.YtblejchodicaoaaGreatDoor.Eng

/-
  CONTRACTS: the reference's digits. Own work.
-/
namespace Go.Proofs.YtblejchodicaoaaGreatDoor.Eng
open Go Go.RowKit
set_option maxRecDepth 100000
set_option linter.unusedSimpArgs false
set_option maxHeartbeats 2000000

def decS : List UInt8 := [48, 49, 50, 51, 52, 53, 54, 55, 56, 57]
theorem decS_at : ∀ n : Nat, n < 10 → (decS.drop n).take 1 = [UInt8.ofNat (48 + n)] := by decide
def digA (m : Nat) (acc : List UInt8) : List UInt8 := if m = 0 then acc else Lib.decDigits m ++ acc

theorem b_digits (C : Oracle) (n : Int) (h0 : -9223372036854775808 ≤ n) (h1 : n ≤ 9223372036854775807) :
    abody Tryz.prog [] C (mach Tryz.prog C { keep := [(122, [0, 3, 4])], outs := [(122, [0, 2, 3])] }) true 57 [.d (.int .i64 n)] [] = R (.str (Lib.itoa n)) := by
  unfold abody
  rw [Tryz.func57]
  simp only [Tryz.f57]
  by_cases hn : n = 0
  · subst hn
    have e : Lib.itoa 0 = [48] := by unfold Lib.itoa; rw [if_neg (by omega)]; unfold Lib.decDigits; simp
    rw [e]
    simp -implicitDefEqProofs [R, IntWalk.i64_in,IntWalk.u64_in,IntWalk.u8_in,IntWalk.i32_in,IntWalk.u32_in,ye,zk,zm,qj,qk,qm,qn,zb,zc,zn,zp,zq,qo,zd,ze,zr,zt,zu,j3,x7,zw,zf,za,zx,qp,zy,zg,zz,z6,qq,zh,yf,qr,aop,yq,j4,j5,x8,x9,jd,j6,j7,wb,je,j8,yr,j9,wg,jf,jg,xa,xb,z7,jh,z8,ji,jj,yt,yu,xc,AV.one,wh,wi,aun,jk,xd,yw,afn,xe,Out.ren,xf,xg,jl,wj,xh,wl,jm,Eng.distinct,pos,wn,Eng.ren,wo,xi,wp,jo,wq,yg,xj,ws,wu,jp,frz,yx,yz,wv,List.lookup_cons,jq,zi,jr,js,List.range_succ,jt,xk,ju,xm,↓yh,↓yi,↓qt,↓y6,↓qu,↓qa,↓yj,↓yk,↓qv,↓qw,↓qx,↓qy,↓qb,↓qz,qc,ww,xn,jv,jw,yl,qd,qe,zj,wx,y7,jx,xp,xq,keq,y8,wy,qf,y9,ym,xr,jy,jz,xt,j0,wz,ja,j1,xu,xv,xw,jb,q5,q6,yn,q7,j2,Option.map_some,yo,qg,q8,q9,qh,ya,xx,yb,yp,yc,xy,w5,xz,x5,w6,jc,x6,Op.operands,Call.operands,yd,qi,w7,AObj.live]
  simp -implicitDefEqProofs [R, hn, intbeq, mach_loop, IntWalk.i64_in,IntWalk.u64_in,IntWalk.u8_in,IntWalk.i32_in,IntWalk.u32_in,ye,zk,zm,qj,qk,qm,qn,zb,zc,zn,zp,zq,qo,zd,ze,zr,zt,zu,j3,x7,zw,zf,za,zx,qp,zy,zg,zz,z6,qq,zh,yf,qr,aop,yq,j4,j5,x8,x9,jd,j6,j7,wb,je,j8,yr,j9,wg,jf,jg,xa,xb,z7,jh,z8,ji,jj,yt,yu,xc,AV.one,wh,wi,aun,jk,xd,yw,afn,xe,Out.ren,xf,xg,jl,wj,xh,wl,jm,Eng.distinct,pos,wn,Eng.ren,wo,xi,wp,jo,wq,yg,xj,ws,wu,jp,frz,yx,yz,wv,List.lookup_cons,jq,zi,jr,js,List.range_succ,jt,xk,ju,xm,↓yh,↓yi,↓qt,↓y6,↓qu,↓qa,↓yj,↓yk,↓qv,↓qw,↓qx,↓qy,↓qb,↓qz,qc,ww,xn,jv,jw,yl,qd,qe,zj,wx,y7,jx,xp,xq,keq,y8,wy,qf,y9,ym,xr,jy,jz,xt,j0,wz,ja,j1,xu,xv,xw,jb,q5,q6,yn,q7,j2,Option.map_some,yo,qg,q8,q9,qh,ya,xx,yb,yp,yc,xy,w5,xz,x5,w6,jc,x6,Op.operands,Call.operands,yd,qi,w7,AObj.live]
  rw [aloop_meas (α := Int × List UInt8) (S := fun a => { env := [(0, .d (.int .i64 n)), (3, .d (.str a.2)), (4, .d (.int .i64 a.1))], σ := [], dfs := [] })
    (R := fun a => some (.exit 0, { env := [(0, .d (.int .i64 n)), (3, .d (.str (digA a.1.natAbs a.2)))], σ := [], dfs := [] }))
    (P := fun a => -9223372036854775808 ≤ a.1 ∧ a.1 ≤ 9223372036854775807 ∧ (a.2.length = 0 ∨ a.2.length + a.1.natAbs ≤ 1000000000000000000)) (m := fun a => a.1.natAbs) ?_ (n, []) _ ⟨h0, h1, Or.inl rfl⟩ ?_]
  rotate_left
  · rintro ⟨x, acc⟩ ⟨hx0, hx1, hac⟩ ih
    simp only at hx0 hx1 hac ih ⊢
    obtain ⟨m, hm⟩ : ∃ m : Nat, m = x.natAbs := ⟨_, rfl⟩
    by_cases hz : x = 0
    · subst hz
      simp -implicitDefEqProofs [digA, intbne, mach_loop, IntWalk.i64_in,IntWalk.u64_in,IntWalk.u8_in,IntWalk.i32_in,IntWalk.u32_in,ye,zk,zm,qj,qk,qm,qn,zb,zc,zn,zp,zq,qo,zd,ze,zr,zt,zu,j3,x7,zw,zf,za,zx,qp,zy,zg,zz,z6,qq,zh,yf,qr,aop,yq,j4,j5,x8,x9,jd,j6,j7,wb,je,j8,yr,j9,wg,jf,jg,xa,xb,z7,jh,z8,ji,jj,yt,yu,xc,AV.one,wh,wi,aun,jk,xd,yw,afn,xe,Out.ren,xf,xg,jl,wj,xh,wl,jm,Eng.distinct,pos,wn,Eng.ren,wo,xi,wp,jo,wq,yg,xj,ws,wu,jp,frz,yx,yz,wv,List.lookup_cons,jq,zi,jr,js,List.range_succ,jt,xk,ju,xm,↓yh,↓yi,↓qt,↓y6,↓qu,↓qa,↓yj,↓yk,↓qv,↓qw,↓qx,↓qy,↓qb,↓qz,qc,ww,xn,jv,jw,yl,qd,qe,zj,wx,y7,jx,xp,xq,keq,y8,wy,qf,y9,ym,xr,jy,jz,xt,j0,wz,ja,j1,xu,xv,xw,jb,q5,q6,yn,q7,j2,Option.map_some,yo,qg,q8,q9,qh,ya,xx,yb,yp,yc,xy,w5,xz,x5,w6,jc,x6,Op.operands,Call.operands,yd,qi,w7,AObj.live]
    have hmz : m ≠ 0 := by omega
    have c1 : m % 10 < 10 := by omega
    have hd : List.take 1 (List.drop (m % 10) ([48, 49, 50, 51, 52, 53, 54, 55, 56, 57] : List UInt8)) = [UInt8.ofNat (48 + m % 10)] := decS_at (m % 10) c1
    have hq : m / 10 < m := by omega
    have hcat : 1 + acc.length ≤ 9223372036854775807 := by omega
    have hstep : digA m acc = digA (m / 10) (UInt8.ofNat (48 + m % 10) :: acc) := by
      unfold digA
      rw [if_neg hmz]
      by_cases h : m < 10
      · rw [if_pos (by omega : m / 10 = 0), Lib.decDigits, dif_pos h, (by omega : m % 10 = m)]
        rfl
      · rw [if_neg (by omega : ¬ m / 10 = 0), Lib.decDigits, dif_neg h]
        simp
    have wd1 : IntKind.i64.wrap (((m % 10 : Nat) : Int) + 1) = ((m % 10 : Nat) : Int) + 1 := wrap64 (by omega) (by omega)
    have wd0 : IntKind.i64.wrap ((m % 10 : Nat) : Int) = ((m % 10 : Nat) : Int) := wrap64 (by omega) (by omega)
    have ha1 : (((m % 10 : Nat) : Int) ≤ ((m % 10 : Nat) : Int) + 1) = True := by simp; omega
    have ha2 : (((m % 10 : Nat) : Int) + 1 ≤ 10) = True := by simp; omega
    have ht1 : (((m % 10 : Nat) : Int) + 1).toNat - m % 10 = 1 := by omega
    by_cases hpos : 0 ≤ x
    · have hx : x = (m : Int) := by omega
      subst hx
      have e1 : ((m : Nat) : Int).tmod 10 = ((m % 10 : Nat) : Int) := by rw [Int.tmod_eq_emod_of_nonneg (by omega)]; simp
      have e2 : ((m : Nat) : Int).tdiv 10 = ((m / 10 : Nat) : Int) := by rw [Int.tdiv_eq_ediv_of_nonneg (by omega)]; simp
      have w2 : IntKind.i64.wrap ((m / 10 : Nat) : Int) = ((m / 10 : Nat) : Int) := wrap64 (by omega) (by omega)
      simp only [Int.natAbs_natCast] at hac ⊢
      rw [hstep]
      generalize hc : UInt8.ofNat (48 + m % 10) = c at *
      generalize hA : m % 10 = A at *
      generalize hB : m / 10 = B at *
      have ih2 := ih ((B : Int), c :: acc)
      have hn0 : ¬ ((A : Int) < 0) := by omega
      simp -implicitDefEqProofs [mach_loop, intbne, hz, hmz, e1, e2, w2, wd0, wd1, ha1, ha2, hn0, hd, ht1, hcat, IntWalk.i64_in,IntWalk.u64_in,IntWalk.u8_in,IntWalk.i32_in,IntWalk.u32_in,ye,zk,zm,qj,qk,qm,qn,zb,zc,zn,zp,zq,qo,zd,ze,zr,zt,zu,j3,x7,zw,zf,za,zx,qp,zy,zg,zz,z6,qq,zh,yf,qr,aop,yq,j4,j5,x8,x9,jd,j6,j7,wb,je,j8,yr,j9,wg,jf,jg,xa,xb,z7,jh,z8,ji,jj,yt,yu,xc,AV.one,wh,wi,aun,jk,xd,yw,afn,xe,Out.ren,xf,xg,jl,wj,xh,wl,jm,Eng.distinct,pos,wn,Eng.ren,wo,xi,wp,jo,wq,yg,xj,ws,wu,jp,frz,yx,yz,wv,List.lookup_cons,jq,zi,jr,js,List.range_succ,jt,xk,ju,xm,↓yh,↓yi,↓qt,↓y6,↓qu,↓qa,↓yj,↓yk,↓qv,↓qw,↓qx,↓qy,↓qb,↓qz,qc,ww,xn,jv,jw,yl,qd,qe,zj,wx,y7,jx,xp,xq,keq,y8,wy,qf,y9,ym,xr,jy,jz,xt,j0,wz,ja,j1,xu,xv,xw,jb,q5,q6,yn,q7,j2,Option.map_some,yo,qg,q8,q9,qh,ya,xx,yb,yp,yc,xy,w5,xz,x5,w6,jc,x6,Op.operands,Call.operands,yd,qi,w7,AObj.live]
      rw [ih2 _ ⟨by omega, by omega, by simp; omega⟩ (by simp only [Int.natAbs_neg, Int.natAbs_natCast]; omega) (by simp -implicitDefEqProofs [IntWalk.i64_in,IntWalk.u64_in,IntWalk.u8_in,IntWalk.i32_in,IntWalk.u32_in,ye,zk,zm,qj,qk,qm,qn,zb,zc,zn,zp,zq,qo,zd,ze,zr,zt,zu,j3,x7,zw,zf,za,zx,qp,zy,zg,zz,z6,qq,zh,yf,qr,aop,yq,j4,j5,x8,x9,jd,j6,j7,wb,je,j8,yr,j9,wg,jf,jg,xa,xb,z7,jh,z8,ji,jj,yt,yu,xc,AV.one,wh,wi,aun,jk,xd,yw,afn,xe,Out.ren,xf,xg,jl,wj,xh,wl,jm,Eng.distinct,pos,wn,Eng.ren,wo,xi,wp,jo,wq,yg,xj,ws,wu,jp,frz,yx,yz,wv,List.lookup_cons,jq,zi,jr,js,List.range_succ,jt,xk,ju,xm,↓yh,↓yi,↓qt,↓y6,↓qu,↓qa,↓yj,↓yk,↓qv,↓qw,↓qx,↓qy,↓qb,↓qz,qc,ww,xn,jv,jw,yl,qd,qe,zj,wx,y7,jx,xp,xq,keq,y8,wy,qf,y9,ym,xr,jy,jz,xt,j0,wz,ja,j1,xu,xv,xw,jb,q5,q6,yn,q7,j2,Option.map_some,yo,qg,q8,q9,qh,ya,xx,yb,yp,yc,xy,w5,xz,x5,w6,jc,x6,Op.operands,Call.operands,yd,qi,w7,AObj.live])]
      simp
    · have hx : x = -(m : Int) := by omega
      subst hx
      have e1 : (-(m : Int)).tmod 10 = -((m % 10 : Nat) : Int) := by rw [Int.neg_tmod, Int.tmod_eq_emod_of_nonneg (by omega)]; simp
      have e2 : (-(m : Int)).tdiv 10 = -((m / 10 : Nat) : Int) := by rw [Int.neg_tdiv, Int.tdiv_eq_ediv_of_nonneg (by omega)]; simp
      have w2 : IntKind.i64.wrap (-((m / 10 : Nat) : Int)) = -((m / 10 : Nat) : Int) := wrap64 (by omega) (by omega)
      simp only [Int.natAbs_neg, Int.natAbs_natCast] at hac ⊢
      rw [hstep]
      generalize hc : UInt8.ofNat (48 + m % 10) = c at *
      generalize hA : m % 10 = A at *
      generalize hB : m / 10 = B at *
      have ih2 := ih (-(B : Int), c :: acc)
      by_cases hA0 : A = 0
      · subst hA0
        have hcc : (48 : UInt8) = c := by simpa using hd
        subst hcc
        clear hd
        simp -implicitDefEqProofs [mach_loop, intbne, hz, hmz, e1, e2, w2, hcat, IntWalk.i64_in,IntWalk.u64_in,IntWalk.u8_in,IntWalk.i32_in,IntWalk.u32_in,ye,zk,zm,qj,qk,qm,qn,zb,zc,zn,zp,zq,qo,zd,ze,zr,zt,zu,j3,x7,zw,zf,za,zx,qp,zy,zg,zz,z6,qq,zh,yf,qr,aop,yq,j4,j5,x8,x9,jd,j6,j7,wb,je,j8,yr,j9,wg,jf,jg,xa,xb,z7,jh,z8,ji,jj,yt,yu,xc,AV.one,wh,wi,aun,jk,xd,yw,afn,xe,Out.ren,xf,xg,jl,wj,xh,wl,jm,Eng.distinct,pos,wn,Eng.ren,wo,xi,wp,jo,wq,yg,xj,ws,wu,jp,frz,yx,yz,wv,List.lookup_cons,jq,zi,jr,js,List.range_succ,jt,xk,ju,xm,↓yh,↓yi,↓qt,↓y6,↓qu,↓qa,↓yj,↓yk,↓qv,↓qw,↓qx,↓qy,↓qb,↓qz,qc,ww,xn,jv,jw,yl,qd,qe,zj,wx,y7,jx,xp,xq,keq,y8,wy,qf,y9,ym,xr,jy,jz,xt,j0,wz,ja,j1,xu,xv,xw,jb,q5,q6,yn,q7,j2,Option.map_some,yo,qg,q8,q9,qh,ya,xx,yb,yp,yc,xy,w5,xz,x5,w6,jc,x6,Op.operands,Call.operands,yd,qi,w7,AObj.live]
        rw [ih2 _ ⟨by omega, by omega, by simp; omega⟩ (by simp only [Int.natAbs_neg, Int.natAbs_natCast]; omega) (by simp -implicitDefEqProofs [IntWalk.i64_in,IntWalk.u64_in,IntWalk.u8_in,IntWalk.i32_in,IntWalk.u32_in,ye,zk,zm,qj,qk,qm,qn,zb,zc,zn,zp,zq,qo,zd,ze,zr,zt,zu,j3,x7,zw,zf,za,zx,qp,zy,zg,zz,z6,qq,zh,yf,qr,aop,yq,j4,j5,x8,x9,jd,j6,j7,wb,je,j8,yr,j9,wg,jf,jg,xa,xb,z7,jh,z8,ji,jj,yt,yu,xc,AV.one,wh,wi,aun,jk,xd,yw,afn,xe,Out.ren,xf,xg,jl,wj,xh,wl,jm,Eng.distinct,pos,wn,Eng.ren,wo,xi,wp,jo,wq,yg,xj,ws,wu,jp,frz,yx,yz,wv,List.lookup_cons,jq,zi,jr,js,List.range_succ,jt,xk,ju,xm,↓yh,↓yi,↓qt,↓y6,↓qu,↓qa,↓yj,↓yk,↓qv,↓qw,↓qx,↓qy,↓qb,↓qz,qc,ww,xn,jv,jw,yl,qd,qe,zj,wx,y7,jx,xp,xq,keq,y8,wy,qf,y9,ym,xr,jy,jz,xt,j0,wz,ja,j1,xu,xv,xw,jb,q5,q6,yn,q7,j2,Option.map_some,yo,qg,q8,q9,qh,ya,xx,yb,yp,yc,xy,w5,xz,x5,w6,jc,x6,Op.operands,Call.operands,yd,qi,w7,AObj.live])]
        simp
      · have hn0 : 0 < A := by omega
        simp -implicitDefEqProofs [mach_loop, intbne, hz, hmz, e1, e2, w2, wd0, wd1, ha1, ha2, hn0, hd, ht1, hcat, IntWalk.i64_in,IntWalk.u64_in,IntWalk.u8_in,IntWalk.i32_in,IntWalk.u32_in,ye,zk,zm,qj,qk,qm,qn,zb,zc,zn,zp,zq,qo,zd,ze,zr,zt,zu,j3,x7,zw,zf,za,zx,qp,zy,zg,zz,z6,qq,zh,yf,qr,aop,yq,j4,j5,x8,x9,jd,j6,j7,wb,je,j8,yr,j9,wg,jf,jg,xa,xb,z7,jh,z8,ji,jj,yt,yu,xc,AV.one,wh,wi,aun,jk,xd,yw,afn,xe,Out.ren,xf,xg,jl,wj,xh,wl,jm,Eng.distinct,pos,wn,Eng.ren,wo,xi,wp,jo,wq,yg,xj,ws,wu,jp,frz,yx,yz,wv,List.lookup_cons,jq,zi,jr,js,List.range_succ,jt,xk,ju,xm,↓yh,↓yi,↓qt,↓y6,↓qu,↓qa,↓yj,↓yk,↓qv,↓qw,↓qx,↓qy,↓qb,↓qz,qc,ww,xn,jv,jw,yl,qd,qe,zj,wx,y7,jx,xp,xq,keq,y8,wy,qf,y9,ym,xr,jy,jz,xt,j0,wz,ja,j1,xu,xv,xw,jb,q5,q6,yn,q7,j2,Option.map_some,yo,qg,q8,q9,qh,ya,xx,yb,yp,yc,xy,w5,xz,x5,w6,jc,x6,Op.operands,Call.operands,yd,qi,w7,AObj.live]
        rw [ih2 _ ⟨by omega, by omega, by simp; omega⟩ (by simp only [Int.natAbs_neg, Int.natAbs_natCast]; omega) (by simp -implicitDefEqProofs [IntWalk.i64_in,IntWalk.u64_in,IntWalk.u8_in,IntWalk.i32_in,IntWalk.u32_in,ye,zk,zm,qj,qk,qm,qn,zb,zc,zn,zp,zq,qo,zd,ze,zr,zt,zu,j3,x7,zw,zf,za,zx,qp,zy,zg,zz,z6,qq,zh,yf,qr,aop,yq,j4,j5,x8,x9,jd,j6,j7,wb,je,j8,yr,j9,wg,jf,jg,xa,xb,z7,jh,z8,ji,jj,yt,yu,xc,AV.one,wh,wi,aun,jk,xd,yw,afn,xe,Out.ren,xf,xg,jl,wj,xh,wl,jm,Eng.distinct,pos,wn,Eng.ren,wo,xi,wp,jo,wq,yg,xj,ws,wu,jp,frz,yx,yz,wv,List.lookup_cons,jq,zi,jr,js,List.range_succ,jt,xk,ju,xm,↓yh,↓yi,↓qt,↓y6,↓qu,↓qa,↓yj,↓yk,↓qv,↓qw,↓qx,↓qy,↓qb,↓qz,qc,ww,xn,jv,jw,yl,qd,qe,zj,wx,y7,jx,xp,xq,keq,y8,wy,qf,y9,ym,xr,jy,jz,xt,j0,wz,ja,j1,xu,xv,xw,jb,q5,q6,yn,q7,j2,Option.map_some,yo,qg,q8,q9,qh,ya,xx,yb,yp,yc,xy,w5,xz,x5,w6,jc,x6,Op.operands,Call.operands,yd,qi,w7,AObj.live])]
        simp
  · simp -implicitDefEqProofs [IntWalk.i64_in,IntWalk.u64_in,IntWalk.u8_in,IntWalk.i32_in,IntWalk.u32_in,ye,zk,zm,qj,qk,qm,qn,zb,zc,zn,zp,zq,qo,zd,ze,zr,zt,zu,j3,x7,zw,zf,za,zx,qp,zy,zg,zz,z6,qq,zh,yf,qr,aop,yq,j4,j5,x8,x9,jd,j6,j7,wb,je,j8,yr,j9,wg,jf,jg,xa,xb,z7,jh,z8,ji,jj,yt,yu,xc,AV.one,wh,wi,aun,jk,xd,yw,afn,xe,Out.ren,xf,xg,jl,wj,xh,wl,jm,Eng.distinct,pos,wn,Eng.ren,wo,xi,wp,jo,wq,yg,xj,ws,wu,jp,frz,yx,yz,wv,List.lookup_cons,jq,zi,jr,js,List.range_succ,jt,xk,ju,xm,↓yh,↓yi,↓qt,↓y6,↓qu,↓qa,↓yj,↓yk,↓qv,↓qw,↓qx,↓qy,↓qb,↓qz,qc,ww,xn,jv,jw,yl,qd,qe,zj,wx,y7,jx,xp,xq,keq,y8,wy,qf,y9,ym,xr,jy,jz,xt,j0,wz,ja,j1,xu,xv,xw,jb,q5,q6,yn,q7,j2,Option.map_some,yo,qg,q8,q9,qh,ya,xx,yb,yp,yc,xy,w5,xz,x5,w6,jc,x6,Op.operands,Call.operands,yd,qi,w7,AObj.live]
  have hr : digA n.natAbs [] = Lib.decDigits n.natAbs := by simp [digA]; omega
  by_cases hneg : n < 0
  · have e : Lib.itoa n = 45 :: Lib.decDigits n.natAbs := by unfold Lib.itoa; rw [if_pos hneg]
    have hl := Lib.itoa_length_le n h0 h1
    rw [e, List.length_cons] at hl
    have hl2 : 1 + (Lib.decDigits n.natAbs).length ≤ 9223372036854775807 := by omega
    simp -implicitDefEqProofs [R, hneg, mach_loop, hr, e, hl2, IntWalk.i64_in,IntWalk.u64_in,IntWalk.u8_in,IntWalk.i32_in,IntWalk.u32_in,ye,zk,zm,qj,qk,qm,qn,zb,zc,zn,zp,zq,qo,zd,ze,zr,zt,zu,j3,x7,zw,zf,za,zx,qp,zy,zg,zz,z6,qq,zh,yf,qr,aop,yq,j4,j5,x8,x9,jd,j6,j7,wb,je,j8,yr,j9,wg,jf,jg,xa,xb,z7,jh,z8,ji,jj,yt,yu,xc,AV.one,wh,wi,aun,jk,xd,yw,afn,xe,Out.ren,xf,xg,jl,wj,xh,wl,jm,Eng.distinct,pos,wn,Eng.ren,wo,xi,wp,jo,wq,yg,xj,ws,wu,jp,frz,yx,yz,wv,List.lookup_cons,jq,zi,jr,js,List.range_succ,jt,xk,ju,xm,↓yh,↓yi,↓qt,↓y6,↓qu,↓qa,↓yj,↓yk,↓qv,↓qw,↓qx,↓qy,↓qb,↓qz,qc,ww,xn,jv,jw,yl,qd,qe,zj,wx,y7,jx,xp,xq,keq,y8,wy,qf,y9,ym,xr,jy,jz,xt,j0,wz,ja,j1,xu,xv,xw,jb,q5,q6,yn,q7,j2,Option.map_some,yo,qg,q8,q9,qh,ya,xx,yb,yp,yc,xy,w5,xz,x5,w6,jc,x6,Op.operands,Call.operands,yd,qi,w7,AObj.live]
  · have e : Lib.itoa n = Lib.decDigits n.natAbs := by unfold Lib.itoa; rw [if_neg hneg]; congr 1; omega
    simp -implicitDefEqProofs [R, hneg, mach_loop, hr, e, IntWalk.i64_in,IntWalk.u64_in,IntWalk.u8_in,IntWalk.i32_in,IntWalk.u32_in,ye,zk,zm,qj,qk,qm,qn,zb,zc,zn,zp,zq,qo,zd,ze,zr,zt,zu,j3,x7,zw,zf,za,zx,qp,zy,zg,zz,z6,qq,zh,yf,qr,aop,yq,j4,j5,x8,x9,jd,j6,j7,wb,je,j8,yr,j9,wg,jf,jg,xa,xb,z7,jh,z8,ji,jj,yt,yu,xc,AV.one,wh,wi,aun,jk,xd,yw,afn,xe,Out.ren,xf,xg,jl,wj,xh,wl,jm,Eng.distinct,pos,wn,Eng.ren,wo,xi,wp,jo,wq,yg,xj,ws,wu,jp,frz,yx,yz,wv,List.lookup_cons,jq,zi,jr,js,List.range_succ,jt,xk,ju,xm,↓yh,↓yi,↓qt,↓y6,↓qu,↓qa,↓yj,↓yk,↓qv,↓qw,↓qx,↓qy,↓qb,↓qz,qc,ww,xn,jv,jw,yl,qd,qe,zj,wx,y7,jx,xp,xq,keq,y8,wy,qf,y9,ym,xr,jy,jz,xt,j0,wz,ja,j1,xu,xv,xw,jb,q5,q6,yn,q7,j2,Option.map_some,yo,qg,q8,q9,qh,ya,xx,yb,yp,yc,xy,w5,xz,x5,w6,jc,x6,Op.operands,Call.operands,yd,qi,w7,AObj.live]
end Go.Proofs.YtblejchodicaoaaGreatDoor.Eng

/-
  TIES: texts, their runes, their quotes, keys, on both sides. Own work.
-/
namespace Go.Proofs.YtblejchodicaoaaGreatDoor.Eng
open Go Go.RowKit
set_option maxRecDepth 100000
set_option linter.unusedSimpArgs false

theorem orElse_l {C D : Oracle} {f : FuncId} {args : List AV} {σ : List AObj} {r : Out × List AObj} (h : C f args σ = some r) : orElse_ C D f args σ = some r := by simp only [orElse_, h]
theorem orElse_r {C D : Oracle} {f : FuncId} {args : List AV} {σ : List AObj} {r : Option (Out × List AObj)} (h : C f args σ = none) (h2 : D f args σ = r) : orElse_ C D f args σ = r := by simp only [orElse_, h, h2]

def bS : Nat := 1152921504606846976
def cValid : CtU := ctI 124 (by decide) (fun s : List UInt8 => s.length ≤ 1152921504606846976) (fun s => [.d (.str s)]) (fun _ => []) (fun s => .ret (.d (.bool (validU s)))) (fun _ => []) (fun _ => rfl) inj_s
  fun s hs => mk {} true (octs_ok [cValidString]) (by kernel_rfl) (b_Valid (octs [cValidString]) s (octs_here (c := cValidString) ⟨s, hs⟩ rfl rfl rfl))
def cRule1 : CtU := ctI 140 (by decide) (fun _ : List UInt8 => True) (fun s => [.d (.str s)]) (fun _ => []) (fun s => .ret (.d (.bool (decide (s = []))))) (fun _ => []) (fun _ => rfl) inj_s
  fun s _ => mk {} true (none_ok _ _) (by kernel_rfl) (b_rule1 none_ s)
def cRule2 : CtU := ctI 141 (by decide) (fun _ : List UInt8 => True) (fun s => [.d (.str s)]) (fun _ => []) (fun s => .ret (.d (.bool (decide (64 < s.length))))) (fun _ => []) (fun _ => rfl) inj_s
  fun s _ => mk {} true (none_ok _ _) (by kernel_rfl) (b_rule2 none_ s)
def cRule3 : CtU := ctI 142 (by decide) (fun s : List UInt8 => s.length ≤ 1152921504606846976) (fun s => [.d (.str s)]) (fun _ => []) (fun s => .ret (.d (.bool (!validU s)))) (fun _ => []) (fun _ => rfl) inj_s
  fun s hs => mk {} true (octs_ok [cValid]) (by kernel_rfl) (b_rule3 (octs [cValid]) s (octs_here (c := cValid) ⟨s, hs⟩ rfl rfl rfl))
def cRules : CtU := ctI 111 (by decide) (fun _ : Unit => True) (fun _ => []) (fun _ => []) (fun _ => .ret (.d rulesD)) (fun _ => []) (fun _ => rfl) (fun _ _ _ _ => rfl)
  fun _ _ => mk {} true (none_ok _ _) (by kernel_rfl) (b_rules none_)
def cKeysMay : CtU := ctI 79 (by decide) (fun s : List UInt8 => s.length ≤ 1152921504606846976) (fun s => [.d (.str s)]) (fun _ => []) (fun s => .ret (.d (.int .i64 (keyMay s)))) (fun _ => []) (fun _ => rfl) inj_s
  fun s hs => mk { keep := [(26, [0, 5, 6, 7])], outs := [(26, [2])] } true (octs_ok [cRules, cRule1, cRule2, cRule3]) (by kernel_rfl) (b_keysMay (octs [cRules, cRule1, cRule2, cRule3]) s (octs_here (c := cRules) ⟨(), trivial⟩ rfl rfl rfl)
    ((octs_next (by decide)).trans (octs_here (c := cRule1) ⟨s, trivial⟩ rfl rfl rfl)) ((octs_next (by decide)).trans ((octs_next (by decide)).trans (octs_here (c := cRule2) ⟨s, trivial⟩ rfl rfl rfl)))
    ((octs_next (by decide)).trans ((octs_next (by decide)).trans ((octs_next (by decide)).trans (octs_here (c := cRule3) ⟨s, hs⟩ rfl rfl rfl)))))

/-! ### The reference's -/
theorem at_det (a b : List UInt8 × Nat) (h : nAs [.d (.str a.1), .d (.int .i64 a.2)] = nAs [.d (.str b.1), .d (.int .i64 b.2)]) (_ : ([] : List AObj) = []) : a = b := by
  obtain ⟨a1, a2⟩ := a
  obtain ⟨b1, b2⟩ := b
  simp only [nAs, nA, nD, List.cons.injEq, AV.d.injEq, D.str.injEq, D.int.injEq, true_and, and_true] at h
  obtain ⟨rfl, h2⟩ := h
  rw [show a2 = b2 from by omega]
def cAt : CtU := ctI 114 (by decide) (fun a : List UInt8 × Nat => a.2 < a.1.length ∧ a.1.length ≤ 1152921504606846976) (fun a => [.d (.str a.1), .d (.int .i64 a.2)]) (fun _ => []) (fun a => .ret (.tup [.d (.int .i64 (okD (decU (a.1.drop a.2))).1), .d (.int .i64 (okD (decU (a.1.drop a.2))).2)])) (fun _ => []) (fun _ => rfl) at_det
  fun a ha => mk { keep := [(1018, [0, 1, 7, 8, 9, 10])], outs := [(1018, [4, 5, 7, 8, 9])] } true (none_ok _ _) (by kernel_rfl) (by rw [b_At none_ a.1 a.2 ha.1 ha.2, atS_eq])
def cRValid : CtU := ctI 81 (by decide) (fun s : List UInt8 => s.length ≤ 1152921504606846976) (fun s => [.d (.str s)]) (fun _ => []) (fun s => .ret (.d (.bool (validU s)))) (fun _ => []) (fun _ => rfl) inj_s
  fun s hs => mk { keep := [(26, [0, 3])], outs := [(26, [2])] } true (octs_ok [cAt]) (by kernel_rfl) (b_r01Valid (octs [cAt]) s hs (fun i hi => octs_here (c := cAt) ⟨(s, i), hi, hs⟩ rfl rfl rfl))
def cRRunes : CtU := ctI 89 (by decide) (fun s : List UInt8 => s.length ≤ 1099511627776) (fun s => [.d (.str s)]) (fun _ => []) (fun s => .ret (.tup [.d (rsI ((runesAt 0 s).map Prod.snd)), .d (rsI ((runesAt 0 s).map Prod.fst))])) (fun _ => []) (fun _ => rfl) inj_s
  fun s hs => mk { keep := [(58, [0, 4, 5, 6])], outs := [(58, [2, 3, 4, 5])] } true (octs_ok [cAt]) (by kernel_rfl) (b_r01Runes (octs [cAt]) s hs (fun i hi => octs_here (c := cAt) ⟨(s, i), hi, by simp only; omega⟩ rfl rfl rfl))
theorem nat_det (a b : Nat) (h : nAs [.d (.int .i64 a)] = nAs [.d (.int .i64 b)]) (_ : ([] : List AObj) = []) : a = b := by
  simp only [nAs, nA, nD, List.cons.injEq, AV.d.injEq, D.int.injEq, true_and, and_true] at h
  omega
def cRCode : CtU := ctI 90 (by decide) (fun i : Nat => i < 8) (fun i => [.d (.int .i64 i)]) (fun _ => []) (fun i => .ret (.d (.int .i64 (codesU.getD i 0)))) (fun _ => []) (fun _ => rfl) nat_det
  fun i hi => mk {} true (none_ok _ _) (by kernel_rfl) (b_r01Code none_ i hi)
def cRBytes : CtU := ctI 91 (by decide) (fun r : Nat => r < 55296 ∨ (57344 ≤ r ∧ r ≤ 1114111)) (fun i => [.d (.int .i64 i)]) (fun _ => []) (fun r => .ret (.d (.str (Lib.encodeRune r)))) (fun _ => []) (fun _ => rfl) nat_det
  fun r hr => mk {} true (none_ok _ _) (by kernel_rfl) (b_r01Bytes none_ r hr)
def cRQuote : CtU := ctI 58 (by decide) (fun s : List UInt8 => s.length ≤ 1099511627776) (fun s => [.d (.str s)]) (fun _ => []) (fun s => .ret (.tup [.d (.str (quoteU s)), .d (.int .i64 (if validU s = true then 0 else 3))])) (fun _ => []) (fun _ => rfl) inj_s
  fun s hs => mk { keep := [(506, [4, 5, 7, 8]), (129612, [4, 5, 7, 8, 9, 10])], outs := [(506, [2, 3, 4]), (129612, [2, 3, 4, 5, 7, 8, 9, 10])] } true (octs_ok [cRValid, cRRunes, cRCode, cRBytes]) (by kernel_rfl) (b_r01Quote (octs [cRValid, cRRunes, cRCode, cRBytes]) s hs (octs_here (c := cRValid) ⟨s, by omega⟩ rfl rfl rfl)
    ((octs_next (by decide)).trans (octs_here (c := cRRunes) ⟨s, hs⟩ rfl rfl rfl)) (fun i hi => (octs_next (by decide)).trans ((octs_next (by decide)).trans (octs_here (c := cRCode) ⟨i, hi⟩ rfl rfl rfl)))
    (fun r hr => (octs_next (by decide)).trans ((octs_next (by decide)).trans ((octs_next (by decide)).trans (octs_here (c := cRBytes) ⟨r, hr⟩ rfl rfl rfl)))))
def cDigits : CtU := ctI 57 (by decide) (fun n : Int => -9223372036854775808 ≤ n ∧ n ≤ 9223372036854775807) (fun n => [.d (.int .i64 n)]) (fun _ => []) (fun n => .ret (.d (.str (Lib.itoa n)))) (fun _ => []) (fun _ => rfl)
  (fun a b h _ => by simpa [nAs, nA, nD] using h)
  fun n hn => mk { keep := [(122, [0, 3, 4])], outs := [(122, [0, 2, 3])] } true (none_ok _ _) (by kernel_rfl) (b_digits none_ n hn.1 hn.2)
def cR05May : CtU := ctI 53 (by decide) (fun s : List UInt8 => s.length ≤ 1152921504606846976) (fun s => [.d (.str s)]) (fun _ => []) (fun s => .ret (.d (.int .i64 (keyMay s)))) (fun _ => []) (fun _ => rfl) inj_s
  fun s hs => mk {} true (octs_ok [cRValid]) (by kernel_rfl) (b_r05May (octs [cRValid]) s (octs_here (c := cRValid) ⟨s, hs⟩ rfl rfl rfl))

/-! ### The program's quotes -/
theorem bool_det (a b : Bool) (h : nAs [.d (.bool a)] = nAs [.d (.bool b)]) (_ : ([] : List AObj) = []) : a = b := by simpa [nAs, nA, nD] using h
def cIFormatBool : CtU := ctI 132 (by decide) (fun _ : Bool => True) (fun b => [.d (.bool b)]) (fun _ => []) (fun b => .ret (.d (.str (boolS b)))) (fun _ => []) (fun _ => rfl) bool_det
  fun b _ => mk {} true (none_ok _ _) (by kernel_rfl) (b_iFormatBool none_ b)
def cFormatBool : CtU := ctI 104 (by decide) (fun _ : Bool => True) (fun b => [.d (.bool b)]) (fun _ => []) (fun b => .ret (.d (.str (boolS b)))) (fun _ => []) (fun _ => rfl) bool_det
  fun b _ => mk {} true (octs_ok [cIFormatBool]) (by kernel_rfl) (b_FormatBool (octs [cIFormatBool]) b (octs_here (c := cIFormatBool) ⟨b, trivial⟩ rfl rfl rfl))
def cEscapes : CtU := ctI 134 (by decide) (fun _ : Unit => True) (fun _ => []) (fun _ => []) (fun _ => .ret (.map 0)) (fun _ => [escM]) (fun _ => rfl) (fun _ _ _ _ => rfl)
  fun _ _ => mk {} false (none_ok _ _) (by kernel_rfl) (b_escapes none_)
def cRunes : CtU := ctI 136 (by decide) (fun _ : List UInt8 => True) (fun s => [.d (.str s)]) (fun _ => []) (fun s => .ret (.d (runesF s))) (fun _ => []) (fun _ => rfl) inj_s
  fun s _ => mk {} true (none_ok _ _) (by kernel_rfl) (b_Runes none_ s)
theorem mixed : Tryz.prog.follows .mixedOrders = true := by kernel_rfl
noncomputable def cQuoY (d : D) : Ctr Tryz.prog GU where
  f := yId
  α := { a : List UInt8 × Int × Nat // a.1 ≠ [] ∧ a.1.length ≤ 70368744177664 ∧ validR a.2.2 }
  args := fun a => [.yld 0, .d (.int .i64 a.1.2.1), .d (.int .i32 a.1.2.2)]
  σ := fun a => quoSt d a.1.1
  out := fun _ => .ret (.d (.bool true))
  σ' := fun a => quoNx d a.1.1 (escU a.1.2.2)
  det := fun a b h1 h2 => by
    have e1 : a.1.2.2 = b.1.2.2 := by
      simp only [List.cons.injEq, AV.d.injEq, D.int.injEq, true_and, and_true] at h1
      omega
    have e2 : a.1.1 = b.1.1 := by
      simp only [quoSt, List.cons.injEq, and_true, true_and] at h2
      exact brow_inj h2.2
    rw [e1, e2]
    exact ⟨rfl, rfl⟩
  meets := fun a => by
    simp only [MeetsAt, if_true]
    exact rounds_ok mixed (octs_ok [cWriteString, cWriteRune]) { keep := [(506, [2, 3, 4, 5, 16, 18])] } 506 (r_quo (octs [cWriteString, cWriteRune]) d a.1.1 a.2.1 a.2.2.1 a.1.2.1 a.1.2.2 a.2.2.2
      (fun l x h => octs_here (c := cWriteString) ⟨(true, l, x), h⟩ rfl rfl rfl) (fun l h0 h => (octs_next (by decide)).trans (octs_here (c := cWriteRune) ⟨(true, l, a.1.2.2), h0, h, a.2.2.2⟩ rfl rfl rfl)))
theorem rp_det (a b : List UInt8) (h : nAs [.yld 0, .d (.rp [.str a])] = nAs [.yld 0, .d (.rp [.str b])]) : a = b := by
  simpa [nAs, nA, nD, nDs] using h
noncomputable def cRunes1 : CtU := ctI 166 (by decide) (fun s : List UInt8 => s.length ≤ 1099511627776 ∧ validU s = true) (fun s => [.yld 0, .d (.rp [.str s])]) (fun s => quoSt (runesF s) [34]) (fun _ => .ret (.tup [])) (fun s => quoE (runesF s) (runesAt 0 s)) (fun _ => rfl)
  (fun a b h _ => rp_det a b h)
  fun s hs => mk { keep := [(6, [0, 1, 3])], outs := [(6, [])] } false (orElse_ok (octs_ok [cDecode]) (orcs_ok [cQuoY (runesF s)])) (by kernel_rfl) (b_Runes1 (orElse_ (octs [cDecode]) (orcs [cQuoY (runesF s)])) (runesF s) s hs.1 hs.2
    (fun x hx => orElse_l (octs_here (c := cDecode) ⟨x, hx⟩ rfl rfl rfl))
    (fun l i r h0 hl hr => orElse_r ((octs_next (by decide)).trans rfl) (orcs_here (cQuoY (runesF s)) [] ⟨(l, i, r), h0, hl, hr⟩ rfl rfl rfl)))
noncomputable def cQuote : CtU := ctI 106 (by decide) (fun s : List UInt8 => s.length ≤ 1099511627776) (fun s => [.d (.str s)]) (fun _ => []) (fun s => .ret (.tup [.d (.str (quoteU s)), .d (.int .i64 (if validU s = true then 0 else 3))])) (fun _ => []) (fun _ => rfl) inj_s
  fun s hs => mk { keep := [(506, [2, 3, 4, 5, 16, 18])] } true (octs_ok [cValid, cEscapes, cRunes, cWriteByte, cString, cRunes1]) (by kernel_rfl) (b_Quote (octs [cValid, cEscapes, cRunes, cWriteByte, cString, cRunes1]) s hs (octs_here (c := cValid) ⟨s, by omega⟩ rfl rfl rfl)
    ((octs_next (by decide)).trans (octs_here (c := cEscapes) ⟨(), trivial⟩ rfl rfl rfl)) ((octs_next (by decide)).trans ((octs_next (by decide)).trans (octs_here (c := cRunes) ⟨s, trivial⟩ rfl rfl rfl)))
    (fun u l c h => (octs_next (by decide)).trans ((octs_next (by decide)).trans ((octs_next (by decide)).trans (octs_here (c := cWriteByte) ⟨(u, l, c), h⟩ rfl rfl rfl))))
    (fun u l h => (octs_next (by decide)).trans ((octs_next (by decide)).trans ((octs_next (by decide)).trans ((octs_next (by decide)).trans (octs_here (c := cString) ⟨(u, l), h⟩ rfl rfl rfl)))))
    (fun hv => (octs_next (by decide)).trans ((octs_next (by decide)).trans ((octs_next (by decide)).trans ((octs_next (by decide)).trans ((octs_next (by decide)).trans (octs_here (c := cRunes1) ⟨s, hs, hv⟩ rfl rfl rfl)))))))
end Go.Proofs.YtblejchodicaoaaGreatDoor.Eng

/-
  CONTRACTS: the reference's Text. Own work.
-/
namespace Go.Proofs.YtblejchodicaoaaGreatDoor.Eng
open Go Go.RowKit
set_option maxRecDepth 100000
set_option linter.unusedSimpArgs false
set_option maxHeartbeats 2000000

/-- Texts, commas between them. -/
def jn (l : List (List UInt8)) : List UInt8 := Lib.join l [44]
theorem jn_nil : jn [] = [] := rfl
theorem jn_one (x : List UInt8) : jn [x] = x := Lib.join_one x [44]
theorem jn_snoc (pre : List (List UInt8)) (x : List UInt8) (h : pre ≠ []) : jn (pre ++ [x]) = jn pre ++ 44 :: x := by
  obtain ⟨y, r, rfl⟩ := List.exists_cons_of_ne_nil h
  unfold jn
  rw [List.cons_append, Lib.join_cons, Lib.join_cons]
  simp [Lib.joinTail]
theorem jn_len (pre : List (List UInt8)) (suf : List (List UInt8)) : (jn pre).length ≤ (jn (pre ++ suf)).length := by
  cases pre with
  | nil => simp [jn_nil]
  | cons y r =>
    unfold jn
    rw [List.cons_append, Lib.join_cons, Lib.join_cons]
    simp [Lib.joinTail]

theorem textV_list (v : V) (h : v.k = 5) (ho : v.o = []) : textV v = 91 :: (jn (v.l.map textV) ++ [93]) := by
  obtain ⟨k, b, n, t, l, o⟩ := v
  simp only [V.k, V.o] at h ho
  subst h ho
  simp [textV, textL_map, textO_map, V.l, jn]
theorem textV_obj (v : V) (h : v.k = 6) (hl : v.l = []) : textV v = 123 :: (jn (v.o.map textM) ++ [125]) := by
  obtain ⟨k, b, n, t, l, o⟩ := v
  simp only [V.k, V.l] at h hl
  subst h hl
  simp [textV, textL_map, textO_map, V.o, jn]

theorem b_rText (C : Oracle) (v : V) (hsz : v.size ≤ 1099511627776) (hk : 1 ≤ v.k ∧ v.k ≤ 6) (hl5 : v.k = 5 → v.o = []) (hl6 : v.k = 6 → v.l = []) (hlen : (textV v).length ≤ 1152921504606846976)
    (hQ : ∀ s : List UInt8, s.length ≤ 1099511627776 → C 58 [.d (.str s)] [] = some (.ret (.tup [.d (.str (quoteU s)), .d (.int .i64 (if validU s = true then 0 else 3))]), []))
    (hD : C 57 [.d (.int .i64 v.n)] [] = R (.str (Lib.itoa v.n)))
    (hT : ∀ x ∈ v.l, C 33 [avV x] [] = R (.str (textV x))) (hTo : ∀ m ∈ v.o, C 33 [avV m.v] [] = R (.str (textV m.v))) :
    abody Tryz.prog [] C (mach Tryz.prog C { keep := [(122, [1, 7, 8]), (442346, [1, 5, 6])], outs := [(122, [2, 7]), (442346, [2, 5])] }) true 33 [avV v] [] = R (.str (textV v)) := by
  simp only [R, avV] at hD hT hTo
  unfold abody
  rw [Tryz.func33]
  simp only [Tryz.f33]
  by_cases e1 : v.k = 1
  · have e : textV v = [110, 117, 108, 108] := by obtain ⟨k, b, n, t, l, o⟩ := v; simp only [V.k] at e1; simp [textV, e1]
    simp -implicitDefEqProofs [R, avV, e1, e, IntWalk.i64_in,IntWalk.u64_in,IntWalk.u8_in,IntWalk.i32_in,IntWalk.u32_in,ye,zk,zm,qj,qk,qm,qn,zb,zc,zn,zp,zq,qo,zd,ze,zr,zt,zu,j3,x7,zw,zf,za,zx,qp,zy,zg,zz,z6,qq,zh,yf,qr,aop,yq,j4,j5,x8,x9,jd,j6,j7,wb,je,j8,yr,j9,wg,jf,jg,xa,xb,z7,jh,z8,ji,jj,yt,yu,xc,AV.one,wh,wi,aun,jk,xd,yw,afn,xe,Out.ren,xf,xg,jl,wj,xh,wl,jm,Eng.distinct,pos,wn,Eng.ren,wo,xi,wp,jo,wq,yg,xj,ws,wu,jp,frz,yx,yz,wv,List.lookup_cons,jq,zi,jr,js,List.range_succ,jt,xk,ju,xm,↓yh,↓yi,↓qt,↓y6,↓qu,↓qa,↓yj,↓yk,↓qv,↓qw,↓qx,↓qy,↓qb,↓qz,qc,ww,xn,jv,jw,yl,qd,qe,zj,wx,y7,jx,xp,xq,keq,y8,wy,qf,y9,ym,xr,jy,jz,xt,j0,wz,ja,j1,xu,xv,xw,jb,q5,q6,yn,q7,j2,Option.map_some,yo,qg,q8,q9,qh,ya,xx,yb,yp,yc,xy,w5,xz,x5,w6,jc,x6,Op.operands,Call.operands,yd,qi,w7,AObj.live]
  by_cases e2 : v.k = 2
  · cases hb : v.b with
    | true =>
      have e : textV v = [116, 114, 117, 101] := by obtain ⟨k, b, n, t, l, o⟩ := v; simp only [V.k, V.b] at e2 hb; simp [textV, e2, hb]
      simp -implicitDefEqProofs [R, avV, e2, hb, e, IntWalk.i64_in,IntWalk.u64_in,IntWalk.u8_in,IntWalk.i32_in,IntWalk.u32_in,ye,zk,zm,qj,qk,qm,qn,zb,zc,zn,zp,zq,qo,zd,ze,zr,zt,zu,j3,x7,zw,zf,za,zx,qp,zy,zg,zz,z6,qq,zh,yf,qr,aop,yq,j4,j5,x8,x9,jd,j6,j7,wb,je,j8,yr,j9,wg,jf,jg,xa,xb,z7,jh,z8,ji,jj,yt,yu,xc,AV.one,wh,wi,aun,jk,xd,yw,afn,xe,Out.ren,xf,xg,jl,wj,xh,wl,jm,Eng.distinct,pos,wn,Eng.ren,wo,xi,wp,jo,wq,yg,xj,ws,wu,jp,frz,yx,yz,wv,List.lookup_cons,jq,zi,jr,js,List.range_succ,jt,xk,ju,xm,↓yh,↓yi,↓qt,↓y6,↓qu,↓qa,↓yj,↓yk,↓qv,↓qw,↓qx,↓qy,↓qb,↓qz,qc,ww,xn,jv,jw,yl,qd,qe,zj,wx,y7,jx,xp,xq,keq,y8,wy,qf,y9,ym,xr,jy,jz,xt,j0,wz,ja,j1,xu,xv,xw,jb,q5,q6,yn,q7,j2,Option.map_some,yo,qg,q8,q9,qh,ya,xx,yb,yp,yc,xy,w5,xz,x5,w6,jc,x6,Op.operands,Call.operands,yd,qi,w7,AObj.live]
    | false =>
      have e : textV v = [102, 97, 108, 115, 101] := by obtain ⟨k, b, n, t, l, o⟩ := v; simp only [V.k, V.b] at e2 hb; simp [textV, e2, hb]
      simp -implicitDefEqProofs [R, avV, e2, hb, e, IntWalk.i64_in,IntWalk.u64_in,IntWalk.u8_in,IntWalk.i32_in,IntWalk.u32_in,ye,zk,zm,qj,qk,qm,qn,zb,zc,zn,zp,zq,qo,zd,ze,zr,zt,zu,j3,x7,zw,zf,za,zx,qp,zy,zg,zz,z6,qq,zh,yf,qr,aop,yq,j4,j5,x8,x9,jd,j6,j7,wb,je,j8,yr,j9,wg,jf,jg,xa,xb,z7,jh,z8,ji,jj,yt,yu,xc,AV.one,wh,wi,aun,jk,xd,yw,afn,xe,Out.ren,xf,xg,jl,wj,xh,wl,jm,Eng.distinct,pos,wn,Eng.ren,wo,xi,wp,jo,wq,yg,xj,ws,wu,jp,frz,yx,yz,wv,List.lookup_cons,jq,zi,jr,js,List.range_succ,jt,xk,ju,xm,↓yh,↓yi,↓qt,↓y6,↓qu,↓qa,↓yj,↓yk,↓qv,↓qw,↓qx,↓qy,↓qb,↓qz,qc,ww,xn,jv,jw,yl,qd,qe,zj,wx,y7,jx,xp,xq,keq,y8,wy,qf,y9,ym,xr,jy,jz,xt,j0,wz,ja,j1,xu,xv,xw,jb,q5,q6,yn,q7,j2,Option.map_some,yo,qg,q8,q9,qh,ya,xx,yb,yp,yc,xy,w5,xz,x5,w6,jc,x6,Op.operands,Call.operands,yd,qi,w7,AObj.live]
  by_cases e3 : v.k = 3
  · have e : textV v = Lib.itoa v.n := by obtain ⟨k, b, n, t, l, o⟩ := v; simp only [V.k] at e3; simp [textV, e3, V.n]
    simp -implicitDefEqProofs [R, avV, e3, hD, e, IntWalk.i64_in,IntWalk.u64_in,IntWalk.u8_in,IntWalk.i32_in,IntWalk.u32_in,ye,zk,zm,qj,qk,qm,qn,zb,zc,zn,zp,zq,qo,zd,ze,zr,zt,zu,j3,x7,zw,zf,za,zx,qp,zy,zg,zz,z6,qq,zh,yf,qr,aop,yq,j4,j5,x8,x9,jd,j6,j7,wb,je,j8,yr,j9,wg,jf,jg,xa,xb,z7,jh,z8,ji,jj,yt,yu,xc,AV.one,wh,wi,aun,jk,xd,yw,afn,xe,Out.ren,xf,xg,jl,wj,xh,wl,jm,Eng.distinct,pos,wn,Eng.ren,wo,xi,wp,jo,wq,yg,xj,ws,wu,jp,frz,yx,yz,wv,List.lookup_cons,jq,zi,jr,js,List.range_succ,jt,xk,ju,xm,↓yh,↓yi,↓qt,↓y6,↓qu,↓qa,↓yj,↓yk,↓qv,↓qw,↓qx,↓qy,↓qb,↓qz,qc,ww,xn,jv,jw,yl,qd,qe,zj,wx,y7,jx,xp,xq,keq,y8,wy,qf,y9,ym,xr,jy,jz,xt,j0,wz,ja,j1,xu,xv,xw,jb,q5,q6,yn,q7,j2,Option.map_some,yo,qg,q8,q9,qh,ya,xx,yb,yp,yc,xy,w5,xz,x5,w6,jc,x6,Op.operands,Call.operands,yd,qi,w7,AObj.live]
  by_cases e4 : v.k = 4
  · have e : textV v = quoteU v.t := by obtain ⟨k, b, n, t, l, o⟩ := v; simp only [V.k] at e4; simp [textV, e4, V.t]
    have hQ := hQ v.t (by have := V.t_len v; omega)
    simp -implicitDefEqProofs [R, avV, e4, hQ, e, IntWalk.i64_in,IntWalk.u64_in,IntWalk.u8_in,IntWalk.i32_in,IntWalk.u32_in,ye,zk,zm,qj,qk,qm,qn,zb,zc,zn,zp,zq,qo,zd,ze,zr,zt,zu,j3,x7,zw,zf,za,zx,qp,zy,zg,zz,z6,qq,zh,yf,qr,aop,yq,j4,j5,x8,x9,jd,j6,j7,wb,je,j8,yr,j9,wg,jf,jg,xa,xb,z7,jh,z8,ji,jj,yt,yu,xc,AV.one,wh,wi,aun,jk,xd,yw,afn,xe,Out.ren,xf,xg,jl,wj,xh,wl,jm,Eng.distinct,pos,wn,Eng.ren,wo,xi,wp,jo,wq,yg,xj,ws,wu,jp,frz,yx,yz,wv,List.lookup_cons,jq,zi,jr,js,List.range_succ,jt,xk,ju,xm,↓yh,↓yi,↓qt,↓y6,↓qu,↓qa,↓yj,↓yk,↓qv,↓qw,↓qx,↓qy,↓qb,↓qz,qc,ww,xn,jv,jw,yl,qd,qe,zj,wx,y7,jx,xp,xq,keq,y8,wy,qf,y9,ym,xr,jy,jz,xt,j0,wz,ja,j1,xu,xv,xw,jb,q5,q6,yn,q7,j2,Option.map_some,yo,qg,q8,q9,qh,ya,xx,yb,yp,yc,xy,w5,xz,x5,w6,jc,x6,Op.operands,Call.operands,yd,qi,w7,AObj.live]
  by_cases e5 : v.k = 5
  · have et := textV_list v e5 (hl5 e5)
    have hlp := V.l_len v
    rw [et] at hlen
    simp only [List.length_cons, List.length_append, List.length_nil] at hlen
    rw [et]
    simp -implicitDefEqProofs [R, avV, e5, mach_loop, IntWalk.i64_in,IntWalk.u64_in,IntWalk.u8_in,IntWalk.i32_in,IntWalk.u32_in,ye,zk,zm,qj,qk,qm,qn,zb,zc,zn,zp,zq,qo,zd,ze,zr,zt,zu,j3,x7,zw,zf,za,zx,qp,zy,zg,zz,z6,qq,zh,yf,qr,aop,yq,j4,j5,x8,x9,jd,j6,j7,wb,je,j8,yr,j9,wg,jf,jg,xa,xb,z7,jh,z8,ji,jj,yt,yu,xc,AV.one,wh,wi,aun,jk,xd,yw,afn,xe,Out.ren,xf,xg,jl,wj,xh,wl,jm,Eng.distinct,pos,wn,Eng.ren,wo,xi,wp,jo,wq,yg,xj,ws,wu,jp,frz,yx,yz,wv,List.lookup_cons,jq,zi,jr,js,List.range_succ,jt,xk,ju,xm,↓yh,↓yi,↓qt,↓y6,↓qu,↓qa,↓yj,↓yk,↓qv,↓qw,↓qx,↓qy,↓qb,↓qz,qc,ww,xn,jv,jw,yl,qd,qe,zj,wx,y7,jx,xp,xq,keq,y8,wy,qf,y9,ym,xr,jy,jz,xt,j0,wz,ja,j1,xu,xv,xw,jb,q5,q6,yn,q7,j2,Option.map_some,yo,qg,q8,q9,qh,ya,xx,yb,yp,yc,xy,w5,xz,x5,w6,jc,x6,Op.operands,Call.operands,yd,qi,w7,AObj.live]
    rw [aloop_list (l := v.l)
      (S := fun pre suf => { env := [(1, .ptr 0 0), (5, .d (.str (91 :: jn (pre.map textV)))), (6, .d (.int .i64 (pre.length : Nat)))], σ := [.box [.d (.int .i64 5), .d (.bool v.b), .d (.int .i64 v.n), .d (.str v.t), .d (.rs 6 ((pre ++ suf).map encV)), .d (.rs 7 (v.o.map encM))] 45], dfs := [] })
      (R := fun pre suf => some (.exit 1, { env := [(5, .d (.str (91 :: jn ((pre ++ suf).map textV))))], σ := [], dfs := [] }))
      (hs := ?_) (h0 := ?_) (h1 := ?_)]
    rotate_left
    · simp -implicitDefEqProofs [jn_nil, IntWalk.i64_in,IntWalk.u64_in,IntWalk.u8_in,IntWalk.i32_in,IntWalk.u32_in,ye,zk,zm,qj,qk,qm,qn,zb,zc,zn,zp,zq,qo,zd,ze,zr,zt,zu,j3,x7,zw,zf,za,zx,qp,zy,zg,zz,z6,qq,zh,yf,qr,aop,yq,j4,j5,x8,x9,jd,j6,j7,wb,je,j8,yr,j9,wg,jf,jg,xa,xb,z7,jh,z8,ji,jj,yt,yu,xc,AV.one,wh,wi,aun,jk,xd,yw,afn,xe,Out.ren,xf,xg,jl,wj,xh,wl,jm,Eng.distinct,pos,wn,Eng.ren,wo,xi,wp,jo,wq,yg,xj,ws,wu,jp,frz,yx,yz,wv,List.lookup_cons,jq,zi,jr,js,List.range_succ,jt,xk,ju,xm,↓yh,↓yi,↓qt,↓y6,↓qu,↓qa,↓yj,↓yk,↓qv,↓qw,↓qx,↓qy,↓qb,↓qz,qc,ww,xn,jv,jw,yl,qd,qe,zj,wx,y7,jx,xp,xq,keq,y8,wy,qf,y9,ym,xr,jy,jz,xt,j0,wz,ja,j1,xu,xv,xw,jb,q5,q6,yn,q7,j2,Option.map_some,yo,qg,q8,q9,qh,ya,xx,yb,yp,yc,xy,w5,xz,x5,w6,jc,x6,Op.operands,Call.operands,yd,qi,w7,AObj.live]
    · intro pre hp
      simp -implicitDefEqProofs [mach_loop, IntWalk.i64_in,IntWalk.u64_in,IntWalk.u8_in,IntWalk.i32_in,IntWalk.u32_in,ye,zk,zm,qj,qk,qm,qn,zb,zc,zn,zp,zq,qo,zd,ze,zr,zt,zu,j3,x7,zw,zf,za,zx,qp,zy,zg,zz,z6,qq,zh,yf,qr,aop,yq,j4,j5,x8,x9,jd,j6,j7,wb,je,j8,yr,j9,wg,jf,jg,xa,xb,z7,jh,z8,ji,jj,yt,yu,xc,AV.one,wh,wi,aun,jk,xd,yw,afn,xe,Out.ren,xf,xg,jl,wj,xh,wl,jm,Eng.distinct,pos,wn,Eng.ren,wo,xi,wp,jo,wq,yg,xj,ws,wu,jp,frz,yx,yz,wv,List.lookup_cons,jq,zi,jr,js,List.range_succ,jt,xk,ju,xm,↓yh,↓yi,↓qt,↓y6,↓qu,↓qa,↓yj,↓yk,↓qv,↓qw,↓qx,↓qy,↓qb,↓qz,qc,ww,xn,jv,jw,yl,qd,qe,zj,wx,y7,jx,xp,xq,keq,y8,wy,qf,y9,ym,xr,jy,jz,xt,j0,wz,ja,j1,xu,xv,xw,jb,q5,q6,yn,q7,j2,Option.map_some,yo,qg,q8,q9,qh,ya,xx,yb,yp,yc,xy,w5,xz,x5,w6,jc,x6,Op.operands,Call.operands,yd,qi,w7,AObj.live]
    · intro pre x suf hp ih
      have hx := hT x (by rw [← hp]; simp)
      have hll : pre.length < v.l.length := by rw [← hp]; simp
      have hw2 : IntKind.i64.wrap ((pre.length : Nat) + 1) = (pre.length : Nat) + 1 := wrap64 (by omega) (by omega)
      have hj1 := jn_len ((pre ++ [x]).map textV) (suf.map textV)
      rw [← List.map_append, List.append_assoc, List.singleton_append, hp] at hj1
      rcases List.eq_nil_or_concat pre with rfl | ⟨pre', q, rfl⟩
      · simp only [List.nil_append, List.map_cons, List.map_nil, jn_one] at hj1
        have hc : (textV x).length + 1 ≤ 9223372036854775807 := by omega
        have hc' : 1 + (textV x).length ≤ 9223372036854775807 := by omega
        simp -implicitDefEqProofs [mach_loop, jn_nil, hx, hw2, hc, hc', encV_eq x, mid_lt, IntWalk.i64_in,IntWalk.u64_in,IntWalk.u8_in,IntWalk.i32_in,IntWalk.u32_in,ye,zk,zm,qj,qk,qm,qn,zb,zc,zn,zp,zq,qo,zd,ze,zr,zt,zu,j3,x7,zw,zf,za,zx,qp,zy,zg,zz,z6,qq,zh,yf,qr,aop,yq,j4,j5,x8,x9,jd,j6,j7,wb,je,j8,yr,j9,wg,jf,jg,xa,xb,z7,jh,z8,ji,jj,yt,yu,xc,AV.one,wh,wi,aun,jk,xd,yw,afn,xe,Out.ren,xf,xg,jl,wj,xh,wl,jm,Eng.distinct,pos,wn,Eng.ren,wo,xi,wp,jo,wq,yg,xj,ws,wu,jp,frz,yx,yz,wv,List.lookup_cons,jq,zi,jr,js,List.range_succ,jt,xk,ju,xm,↓yh,↓yi,↓qt,↓y6,↓qu,↓qa,↓yj,↓yk,↓qv,↓qw,↓qx,↓qy,↓qb,↓qz,qc,ww,xn,jv,jw,yl,qd,qe,zj,wx,y7,jx,xp,xq,keq,y8,wy,qf,y9,ym,xr,jy,jz,xt,j0,wz,ja,j1,xu,xv,xw,jb,q5,q6,yn,q7,j2,Option.map_some,yo,qg,q8,q9,qh,ya,xx,yb,yp,yc,xy,w5,xz,x5,w6,jc,x6,Op.operands,Call.operands,yd,qi,w7,AObj.live]
        rw [ih _ (by simp -implicitDefEqProofs [jn_one, encV_eq x, IntWalk.i64_in,IntWalk.u64_in,IntWalk.u8_in,IntWalk.i32_in,IntWalk.u32_in,ye,zk,zm,qj,qk,qm,qn,zb,zc,zn,zp,zq,qo,zd,ze,zr,zt,zu,j3,x7,zw,zf,za,zx,qp,zy,zg,zz,z6,qq,zh,yf,qr,aop,yq,j4,j5,x8,x9,jd,j6,j7,wb,je,j8,yr,j9,wg,jf,jg,xa,xb,z7,jh,z8,ji,jj,yt,yu,xc,AV.one,wh,wi,aun,jk,xd,yw,afn,xe,Out.ren,xf,xg,jl,wj,xh,wl,jm,Eng.distinct,pos,wn,Eng.ren,wo,xi,wp,jo,wq,yg,xj,ws,wu,jp,frz,yx,yz,wv,List.lookup_cons,jq,zi,jr,js,List.range_succ,jt,xk,ju,xm,↓yh,↓yi,↓qt,↓y6,↓qu,↓qa,↓yj,↓yk,↓qv,↓qw,↓qx,↓qy,↓qb,↓qz,qc,ww,xn,jv,jw,yl,qd,qe,zj,wx,y7,jx,xp,xq,keq,y8,wy,qf,y9,ym,xr,jy,jz,xt,j0,wz,ja,j1,xu,xv,xw,jb,q5,q6,yn,q7,j2,Option.map_some,yo,qg,q8,q9,qh,ya,xx,yb,yp,yc,xy,w5,xz,x5,w6,jc,x6,Op.operands,Call.operands,yd,qi,w7,AObj.live])]
        simp [encV_eq x]
      · simp only [List.concat_eq_append] at *
        have hsn : jn (((pre' ++ [q]) ++ [x]).map textV) = jn ((pre' ++ [q]).map textV) ++ 44 :: textV x := by rw [List.map_append]; exact jn_snoc _ _ (by simp)
        rw [hsn] at hj1
        simp only [List.length_append, List.length_cons] at hj1
        generalize hJ : jn ((pre' ++ [q]).map textV) = J at *
        simp only [List.map_append, List.map_cons, List.map_nil, List.append_assoc, List.cons_append, List.nil_append] at hsn
        have hJK : ∀ K : Nat, 2305843009213693952 ≤ K → (J.length ≤ K) = True := by intro K hK; simp; omega
        have hJX : ∀ K : Nat, 2305843009213693952 ≤ K → (J.length + (textV x).length ≤ K) = True := by intro K hK; simp; omega
        have hJY : ∀ a K : Nat, a ≤ 3 → 2305843009213693952 ≤ K → (J.length + a + (textV x).length ≤ K) = True := by intro a K ha hK; simp; omega
        have hJZ : ∀ K : Nat, 2305843009213693952 ≤ K → (J.length + 1 + 1 + (textV x).length ≤ K) = True := by intro K hK; simp; omega
        have hw4 : IntKind.i64.wrap (((pre'.length : Nat) : Int) + 1 + 1) = (pre'.length : Nat) + 1 + 1 := wrap64 (by omega) (by simp at hll; omega)
        simp -implicitDefEqProofs [mach_loop, hx, hw2, hw4, hJK, hJX, hJY, hJZ, pos1, ar1, ar2, ar3, ar4, encV_eq x, mid_lt, IntWalk.i64_in,IntWalk.u64_in,IntWalk.u8_in,IntWalk.i32_in,IntWalk.u32_in,ye,zk,zm,qj,qk,qm,qn,zb,zc,zn,zp,zq,qo,zd,ze,zr,zt,zu,j3,x7,zw,zf,za,zx,qp,zy,zg,zz,z6,qq,zh,yf,qr,aop,yq,j4,j5,x8,x9,jd,j6,j7,wb,je,j8,yr,j9,wg,jf,jg,xa,xb,z7,jh,z8,ji,jj,yt,yu,xc,AV.one,wh,wi,aun,jk,xd,yw,afn,xe,Out.ren,xf,xg,jl,wj,xh,wl,jm,Eng.distinct,pos,wn,Eng.ren,wo,xi,wp,jo,wq,yg,xj,ws,wu,jp,frz,yx,yz,wv,List.lookup_cons,jq,zi,jr,js,List.range_succ,jt,xk,ju,xm,↓yh,↓yi,↓qt,↓y6,↓qu,↓qa,↓yj,↓yk,↓qv,↓qw,↓qx,↓qy,↓qb,↓qz,qc,ww,xn,jv,jw,yl,qd,qe,zj,wx,y7,jx,xp,xq,keq,y8,wy,qf,y9,ym,xr,jy,jz,xt,j0,wz,ja,j1,xu,xv,xw,jb,q5,q6,yn,q7,j2,Option.map_some,yo,qg,q8,q9,qh,ya,xx,yb,yp,yc,xy,w5,xz,x5,w6,jc,x6,Op.operands,Call.operands,yd,qi,w7,AObj.live]
        rw [ih _ (by simp -implicitDefEqProofs [hsn, encV_eq x, IntWalk.i64_in,IntWalk.u64_in,IntWalk.u8_in,IntWalk.i32_in,IntWalk.u32_in,ye,zk,zm,qj,qk,qm,qn,zb,zc,zn,zp,zq,qo,zd,ze,zr,zt,zu,j3,x7,zw,zf,za,zx,qp,zy,zg,zz,z6,qq,zh,yf,qr,aop,yq,j4,j5,x8,x9,jd,j6,j7,wb,je,j8,yr,j9,wg,jf,jg,xa,xb,z7,jh,z8,ji,jj,yt,yu,xc,AV.one,wh,wi,aun,jk,xd,yw,afn,xe,Out.ren,xf,xg,jl,wj,xh,wl,jm,Eng.distinct,pos,wn,Eng.ren,wo,xi,wp,jo,wq,yg,xj,ws,wu,jp,frz,yx,yz,wv,List.lookup_cons,jq,zi,jr,js,List.range_succ,jt,xk,ju,xm,↓yh,↓yi,↓qt,↓y6,↓qu,↓qa,↓yj,↓yk,↓qv,↓qw,↓qx,↓qy,↓qb,↓qz,qc,ww,xn,jv,jw,yl,qd,qe,zj,wx,y7,jx,xp,xq,keq,y8,wy,qf,y9,ym,xr,jy,jz,xt,j0,wz,ja,j1,xu,xv,xw,jb,q5,q6,yn,q7,j2,Option.map_some,yo,qg,q8,q9,qh,ya,xx,yb,yp,yc,xy,w5,xz,x5,w6,jc,x6,Op.operands,Call.operands,yd,qi,w7,AObj.live] <;> omega)]
        simp [encV_eq x]
    have hK : ∀ K : Nat, 2305843009213693952 ≤ K → ((jn (v.l.map textV)).length ≤ K) = True := by intro K hK; simp; omega
    simp -implicitDefEqProofs [R, hK, mach_loop, IntWalk.i64_in,IntWalk.u64_in,IntWalk.u8_in,IntWalk.i32_in,IntWalk.u32_in,ye,zk,zm,qj,qk,qm,qn,zb,zc,zn,zp,zq,qo,zd,ze,zr,zt,zu,j3,x7,zw,zf,za,zx,qp,zy,zg,zz,z6,qq,zh,yf,qr,aop,yq,j4,j5,x8,x9,jd,j6,j7,wb,je,j8,yr,j9,wg,jf,jg,xa,xb,z7,jh,z8,ji,jj,yt,yu,xc,AV.one,wh,wi,aun,jk,xd,yw,afn,xe,Out.ren,xf,xg,jl,wj,xh,wl,jm,Eng.distinct,pos,wn,Eng.ren,wo,xi,wp,jo,wq,yg,xj,ws,wu,jp,frz,yx,yz,wv,List.lookup_cons,jq,zi,jr,js,List.range_succ,jt,xk,ju,xm,↓yh,↓yi,↓qt,↓y6,↓qu,↓qa,↓yj,↓yk,↓qv,↓qw,↓qx,↓qy,↓qb,↓qz,qc,ww,xn,jv,jw,yl,qd,qe,zj,wx,y7,jx,xp,xq,keq,y8,wy,qf,y9,ym,xr,jy,jz,xt,j0,wz,ja,j1,xu,xv,xw,jb,q5,q6,yn,q7,j2,Option.map_some,yo,qg,q8,q9,qh,ya,xx,yb,yp,yc,xy,w5,xz,x5,w6,jc,x6,Op.operands,Call.operands,yd,qi,w7,AObj.live]
  have e6 : v.k = 6 := by omega
  have et := textV_obj v e6 (hl6 e6)
  have hlp := V.o_len v
  rw [et] at hlen
  simp only [List.length_cons, List.length_append, List.length_nil] at hlen
  rw [et]
  simp -implicitDefEqProofs [R, avV, e6, mach_loop, IntWalk.i64_in,IntWalk.u64_in,IntWalk.u8_in,IntWalk.i32_in,IntWalk.u32_in,ye,zk,zm,qj,qk,qm,qn,zb,zc,zn,zp,zq,qo,zd,ze,zr,zt,zu,j3,x7,zw,zf,za,zx,qp,zy,zg,zz,z6,qq,zh,yf,qr,aop,yq,j4,j5,x8,x9,jd,j6,j7,wb,je,j8,yr,j9,wg,jf,jg,xa,xb,z7,jh,z8,ji,jj,yt,yu,xc,AV.one,wh,wi,aun,jk,xd,yw,afn,xe,Out.ren,xf,xg,jl,wj,xh,wl,jm,Eng.distinct,pos,wn,Eng.ren,wo,xi,wp,jo,wq,yg,xj,ws,wu,jp,frz,yx,yz,wv,List.lookup_cons,jq,zi,jr,js,List.range_succ,jt,xk,ju,xm,↓yh,↓yi,↓qt,↓y6,↓qu,↓qa,↓yj,↓yk,↓qv,↓qw,↓qx,↓qy,↓qb,↓qz,qc,ww,xn,jv,jw,yl,qd,qe,zj,wx,y7,jx,xp,xq,keq,y8,wy,qf,y9,ym,xr,jy,jz,xt,j0,wz,ja,j1,xu,xv,xw,jb,q5,q6,yn,q7,j2,Option.map_some,yo,qg,q8,q9,qh,ya,xx,yb,yp,yc,xy,w5,xz,x5,w6,jc,x6,Op.operands,Call.operands,yd,qi,w7,AObj.live]
  rw [aloop_list (l := v.o)
    (S := fun pre suf => { env := [(1, .ptr 0 0), (7, .d (.str (123 :: jn (pre.map textM)))), (8, .d (.int .i64 (pre.length : Nat)))], σ := [.box [.d (.int .i64 6), .d (.bool v.b), .d (.int .i64 v.n), .d (.str v.t), .d (.rs 6 (v.l.map encV)), .d (.rs 7 ((pre ++ suf).map encM))] 45], dfs := [] })
    (R := fun pre suf => some (.exit 3, { env := [(7, .d (.str (123 :: jn ((pre ++ suf).map textM))))], σ := [], dfs := [] }))
    (hs := ?_) (h0 := ?_) (h1 := ?_)]
  rotate_left
  · simp -implicitDefEqProofs [jn_nil, IntWalk.i64_in,IntWalk.u64_in,IntWalk.u8_in,IntWalk.i32_in,IntWalk.u32_in,ye,zk,zm,qj,qk,qm,qn,zb,zc,zn,zp,zq,qo,zd,ze,zr,zt,zu,j3,x7,zw,zf,za,zx,qp,zy,zg,zz,z6,qq,zh,yf,qr,aop,yq,j4,j5,x8,x9,jd,j6,j7,wb,je,j8,yr,j9,wg,jf,jg,xa,xb,z7,jh,z8,ji,jj,yt,yu,xc,AV.one,wh,wi,aun,jk,xd,yw,afn,xe,Out.ren,xf,xg,jl,wj,xh,wl,jm,Eng.distinct,pos,wn,Eng.ren,wo,xi,wp,jo,wq,yg,xj,ws,wu,jp,frz,yx,yz,wv,List.lookup_cons,jq,zi,jr,js,List.range_succ,jt,xk,ju,xm,↓yh,↓yi,↓qt,↓y6,↓qu,↓qa,↓yj,↓yk,↓qv,↓qw,↓qx,↓qy,↓qb,↓qz,qc,ww,xn,jv,jw,yl,qd,qe,zj,wx,y7,jx,xp,xq,keq,y8,wy,qf,y9,ym,xr,jy,jz,xt,j0,wz,ja,j1,xu,xv,xw,jb,q5,q6,yn,q7,j2,Option.map_some,yo,qg,q8,q9,qh,ya,xx,yb,yp,yc,xy,w5,xz,x5,w6,jc,x6,Op.operands,Call.operands,yd,qi,w7,AObj.live]
  · intro pre hp
    simp -implicitDefEqProofs [mach_loop, IntWalk.i64_in,IntWalk.u64_in,IntWalk.u8_in,IntWalk.i32_in,IntWalk.u32_in,ye,zk,zm,qj,qk,qm,qn,zb,zc,zn,zp,zq,qo,zd,ze,zr,zt,zu,j3,x7,zw,zf,za,zx,qp,zy,zg,zz,z6,qq,zh,yf,qr,aop,yq,j4,j5,x8,x9,jd,j6,j7,wb,je,j8,yr,j9,wg,jf,jg,xa,xb,z7,jh,z8,ji,jj,yt,yu,xc,AV.one,wh,wi,aun,jk,xd,yw,afn,xe,Out.ren,xf,xg,jl,wj,xh,wl,jm,Eng.distinct,pos,wn,Eng.ren,wo,xi,wp,jo,wq,yg,xj,ws,wu,jp,frz,yx,yz,wv,List.lookup_cons,jq,zi,jr,js,List.range_succ,jt,xk,ju,xm,↓yh,↓yi,↓qt,↓y6,↓qu,↓qa,↓yj,↓yk,↓qv,↓qw,↓qx,↓qy,↓qb,↓qz,qc,ww,xn,jv,jw,yl,qd,qe,zj,wx,y7,jx,xp,xq,keq,y8,wy,qf,y9,ym,xr,jy,jz,xt,j0,wz,ja,j1,xu,xv,xw,jb,q5,q6,yn,q7,j2,Option.map_some,yo,qg,q8,q9,qh,ya,xx,yb,yp,yc,xy,w5,xz,x5,w6,jc,x6,Op.operands,Call.operands,yd,qi,w7,AObj.live]
  · intro pre m suf hp ih
    have hx := hTo m (by rw [← hp]; simp)
    have hq := hQ m.key (by have := V.key_len (v := v) (m := m) (by rw [← hp]; simp); omega)
    have hll : pre.length < v.o.length := by rw [← hp]; simp
    have hw2 : IntKind.i64.wrap ((pre.length : Nat) + 1) = (pre.length : Nat) + 1 := wrap64 (by omega) (by omega)
    have hj1 := jn_len ((pre ++ [m]).map textM) (suf.map textM)
    have hm : textM m = quoteU m.key ++ 58 :: textV m.v := by obtain ⟨k, x⟩ := m; simp [textM, M.key, M.v]
    have hml : (textM m).length = (quoteU m.key).length + (textV m.v).length + 1 := by rw [hm]; simp; omega
    rw [← List.map_append, List.append_assoc, List.singleton_append, hp] at hj1
    rcases List.eq_nil_or_concat pre with rfl | ⟨pre', q, rfl⟩
    · simp only [List.nil_append, List.map_cons, List.map_nil, jn_one] at hj1
      have h1K : ∀ K : Nat, 2305843009213693952 ≤ K → ((quoteU m.key).length ≤ K) = True := by intro K hK; simp; omega
      have h1L : ∀ K : Nat, 2305843009213693952 ≤ K → (1 + (quoteU m.key).length ≤ K) = True := by intro K hK; simp; omega
      have h2K : ∀ K : Nat, 2305843009213693952 ≤ K → ((quoteU m.key).length + 1 + 1 + (textV m.v).length ≤ K) = True := by intro K hK; simp; omega
      simp -implicitDefEqProofs [mach_loop, jn_nil, hx, hq, hw2, h1K, h1L, h2K, encM_eq m, encV_eq m.v, mid_lt, IntWalk.i64_in,IntWalk.u64_in,IntWalk.u8_in,IntWalk.i32_in,IntWalk.u32_in,ye,zk,zm,qj,qk,qm,qn,zb,zc,zn,zp,zq,qo,zd,ze,zr,zt,zu,j3,x7,zw,zf,za,zx,qp,zy,zg,zz,z6,qq,zh,yf,qr,aop,yq,j4,j5,x8,x9,jd,j6,j7,wb,je,j8,yr,j9,wg,jf,jg,xa,xb,z7,jh,z8,ji,jj,yt,yu,xc,AV.one,wh,wi,aun,jk,xd,yw,afn,xe,Out.ren,xf,xg,jl,wj,xh,wl,jm,Eng.distinct,pos,wn,Eng.ren,wo,xi,wp,jo,wq,yg,xj,ws,wu,jp,frz,yx,yz,wv,List.lookup_cons,jq,zi,jr,js,List.range_succ,jt,xk,ju,xm,↓yh,↓yi,↓qt,↓y6,↓qu,↓qa,↓yj,↓yk,↓qv,↓qw,↓qx,↓qy,↓qb,↓qz,qc,ww,xn,jv,jw,yl,qd,qe,zj,wx,y7,jx,xp,xq,keq,y8,wy,qf,y9,ym,xr,jy,jz,xt,j0,wz,ja,j1,xu,xv,xw,jb,q5,q6,yn,q7,j2,Option.map_some,yo,qg,q8,q9,qh,ya,xx,yb,yp,yc,xy,w5,xz,x5,w6,jc,x6,Op.operands,Call.operands,yd,qi,w7,AObj.live]
      rw [ih _ (by simp -implicitDefEqProofs [jn_one, hm, encM_eq m, encV_eq m.v, IntWalk.i64_in,IntWalk.u64_in,IntWalk.u8_in,IntWalk.i32_in,IntWalk.u32_in,ye,zk,zm,qj,qk,qm,qn,zb,zc,zn,zp,zq,qo,zd,ze,zr,zt,zu,j3,x7,zw,zf,za,zx,qp,zy,zg,zz,z6,qq,zh,yf,qr,aop,yq,j4,j5,x8,x9,jd,j6,j7,wb,je,j8,yr,j9,wg,jf,jg,xa,xb,z7,jh,z8,ji,jj,yt,yu,xc,AV.one,wh,wi,aun,jk,xd,yw,afn,xe,Out.ren,xf,xg,jl,wj,xh,wl,jm,Eng.distinct,pos,wn,Eng.ren,wo,xi,wp,jo,wq,yg,xj,ws,wu,jp,frz,yx,yz,wv,List.lookup_cons,jq,zi,jr,js,List.range_succ,jt,xk,ju,xm,↓yh,↓yi,↓qt,↓y6,↓qu,↓qa,↓yj,↓yk,↓qv,↓qw,↓qx,↓qy,↓qb,↓qz,qc,ww,xn,jv,jw,yl,qd,qe,zj,wx,y7,jx,xp,xq,keq,y8,wy,qf,y9,ym,xr,jy,jz,xt,j0,wz,ja,j1,xu,xv,xw,jb,q5,q6,yn,q7,j2,Option.map_some,yo,qg,q8,q9,qh,ya,xx,yb,yp,yc,xy,w5,xz,x5,w6,jc,x6,Op.operands,Call.operands,yd,qi,w7,AObj.live])]
      simp [encM_eq m, encV_eq m.v]
    · simp only [List.concat_eq_append] at *
      have hsn : jn (((pre' ++ [q]) ++ [m]).map textM) = jn ((pre' ++ [q]).map textM) ++ 44 :: textM m := by rw [List.map_append]; exact jn_snoc _ _ (by simp)
      rw [hsn] at hj1
      simp only [List.length_append, List.length_cons, hml] at hj1
      rw [hm] at hsn
      generalize hJ : jn ((pre' ++ [q]).map textM) = J at *
      simp only [List.map_append, List.map_cons, List.map_nil, List.append_assoc, List.cons_append, List.nil_append, hm] at hsn
      have hJK : ∀ K : Nat, 2305843009213693952 ≤ K → (J.length ≤ K) = True := by intro K hK; simp; omega
      have hJX : ∀ K : Nat, 2305843009213693952 ≤ K → (J.length + 1 + 1 + (quoteU m.key).length ≤ K) = True := by intro K hK; simp; omega
      have hJY : ∀ K : Nat, 2305843009213693952 ≤ K → (J.length + ((quoteU m.key).length + 1) ≤ K) = True := by intro K hK; simp; omega
      have hJZ : ∀ K : Nat, 2305843009213693952 ≤ K → (J.length + ((quoteU m.key).length + 1 + 1) + 1 + (textV m.v).length ≤ K) = True := by intro K hK; simp; omega
      have hw4 : IntKind.i64.wrap (((pre'.length : Nat) : Int) + 1 + 1) = (pre'.length : Nat) + 1 + 1 := wrap64 (by omega) (by simp at hll; omega)
      simp -implicitDefEqProofs [mach_loop, hx, hq, hw2, hw4, hJK, hJX, hJY, hJZ, pos1, ar1, ar2, ar3, ar4, encM_eq m, encV_eq m.v, mid_lt, IntWalk.i64_in,IntWalk.u64_in,IntWalk.u8_in,IntWalk.i32_in,IntWalk.u32_in,ye,zk,zm,qj,qk,qm,qn,zb,zc,zn,zp,zq,qo,zd,ze,zr,zt,zu,j3,x7,zw,zf,za,zx,qp,zy,zg,zz,z6,qq,zh,yf,qr,aop,yq,j4,j5,x8,x9,jd,j6,j7,wb,je,j8,yr,j9,wg,jf,jg,xa,xb,z7,jh,z8,ji,jj,yt,yu,xc,AV.one,wh,wi,aun,jk,xd,yw,afn,xe,Out.ren,xf,xg,jl,wj,xh,wl,jm,Eng.distinct,pos,wn,Eng.ren,wo,xi,wp,jo,wq,yg,xj,ws,wu,jp,frz,yx,yz,wv,List.lookup_cons,jq,zi,jr,js,List.range_succ,jt,xk,ju,xm,↓yh,↓yi,↓qt,↓y6,↓qu,↓qa,↓yj,↓yk,↓qv,↓qw,↓qx,↓qy,↓qb,↓qz,qc,ww,xn,jv,jw,yl,qd,qe,zj,wx,y7,jx,xp,xq,keq,y8,wy,qf,y9,ym,xr,jy,jz,xt,j0,wz,ja,j1,xu,xv,xw,jb,q5,q6,yn,q7,j2,Option.map_some,yo,qg,q8,q9,qh,ya,xx,yb,yp,yc,xy,w5,xz,x5,w6,jc,x6,Op.operands,Call.operands,yd,qi,w7,AObj.live]
      rw [ih _ (by simp -implicitDefEqProofs [hsn, hm, encM_eq m, encV_eq m.v, IntWalk.i64_in,IntWalk.u64_in,IntWalk.u8_in,IntWalk.i32_in,IntWalk.u32_in,ye,zk,zm,qj,qk,qm,qn,zb,zc,zn,zp,zq,qo,zd,ze,zr,zt,zu,j3,x7,zw,zf,za,zx,qp,zy,zg,zz,z6,qq,zh,yf,qr,aop,yq,j4,j5,x8,x9,jd,j6,j7,wb,je,j8,yr,j9,wg,jf,jg,xa,xb,z7,jh,z8,ji,jj,yt,yu,xc,AV.one,wh,wi,aun,jk,xd,yw,afn,xe,Out.ren,xf,xg,jl,wj,xh,wl,jm,Eng.distinct,pos,wn,Eng.ren,wo,xi,wp,jo,wq,yg,xj,ws,wu,jp,frz,yx,yz,wv,List.lookup_cons,jq,zi,jr,js,List.range_succ,jt,xk,ju,xm,↓yh,↓yi,↓qt,↓y6,↓qu,↓qa,↓yj,↓yk,↓qv,↓qw,↓qx,↓qy,↓qb,↓qz,qc,ww,xn,jv,jw,yl,qd,qe,zj,wx,y7,jx,xp,xq,keq,y8,wy,qf,y9,ym,xr,jy,jz,xt,j0,wz,ja,j1,xu,xv,xw,jb,q5,q6,yn,q7,j2,Option.map_some,yo,qg,q8,q9,qh,ya,xx,yb,yp,yc,xy,w5,xz,x5,w6,jc,x6,Op.operands,Call.operands,yd,qi,w7,AObj.live] <;> omega)]
      simp [encM_eq m, encV_eq m.v]
  have hK : ∀ K : Nat, 2305843009213693952 ≤ K → ((jn (v.o.map textM)).length ≤ K) = True := by intro K hK; simp; omega
  simp -implicitDefEqProofs [R, hK, mach_loop, IntWalk.i64_in,IntWalk.u64_in,IntWalk.u8_in,IntWalk.i32_in,IntWalk.u32_in,ye,zk,zm,qj,qk,qm,qn,zb,zc,zn,zp,zq,qo,zd,ze,zr,zt,zu,j3,x7,zw,zf,za,zx,qp,zy,zg,zz,z6,qq,zh,yf,qr,aop,yq,j4,j5,x8,x9,jd,j6,j7,wb,je,j8,yr,j9,wg,jf,jg,xa,xb,z7,jh,z8,ji,jj,yt,yu,xc,AV.one,wh,wi,aun,jk,xd,yw,afn,xe,Out.ren,xf,xg,jl,wj,xh,wl,jm,Eng.distinct,pos,wn,Eng.ren,wo,xi,wp,jo,wq,yg,xj,ws,wu,jp,frz,yx,yz,wv,List.lookup_cons,jq,zi,jr,js,List.range_succ,jt,xk,ju,xm,↓yh,↓yi,↓qt,↓y6,↓qu,↓qa,↓yj,↓yk,↓qv,↓qw,↓qx,↓qy,↓qb,↓qz,qc,ww,xn,jv,jw,yl,qd,qe,zj,wx,y7,jx,xp,xq,keq,y8,wy,qf,y9,ym,xr,jy,jz,xt,j0,wz,ja,j1,xu,xv,xw,jb,q5,q6,yn,q7,j2,Option.map_some,yo,qg,q8,q9,qh,ya,xx,yb,yp,yc,xy,w5,xz,x5,w6,jc,x6,Op.operands,Call.operands,yd,qi,w7,AObj.live]
end Go.Proofs.YtblejchodicaoaaGreatDoor.Eng

/-
  CONTRACTS: encode.text. Own work.
-/
namespace Go.Proofs.YtblejchodicaoaaGreatDoor.Eng
open Go Go.RowKit
set_option maxRecDepth 100000
set_option linter.unusedSimpArgs false
set_option maxHeartbeats 2000000

def cellsV (v : V) : List AV := [.d (.int .i64 v.k), .d (.bool v.b), .d (.int .i64 v.n), .d (.str v.t), .d (.rs 6 (v.l.map encV)), .d (.rs 7 (v.o.map encM))]
def tx0 (v : V) : List AObj := [.box [.d .nilp, .d .nils] 139, .box (cellsV v) 45]
def tx1 (v : V) (l : List UInt8) : List AObj := [.box [.ptr 0 0, .sl 2 1 0 l.length] 139, .box (cellsV v) 45, brow l]

theorem b_text1 (C : Oracle) (v : V) (a b : UInt8) (hlen : (jn (partsV v)).length + 2 ≤ 140737488355328)
    (h1 : C 103 [avV v] [] = R (partsD v)) (h2 : C 102 [.d (partsD v)] [] = R (.rs 1 ((partsV v).map fun s => [.str s])))
    (h3 : C 101 [.d (.rs 1 ((partsV v).map fun s => [.str s])), .d (.str [44])] [] = R (.str (jn (partsV v))))
    (h4 : ∀ ps : List (List UInt8), ps.length ≤ 1099511627776 → ps.flatten.length ≤ 140737488355328 → C 100 [.ptr 0 0, .sl 1 1 0 ps.length] (bld2 false [] ps) = some (.ret (.tup []), put2 ps)) :
    abody Tryz.prog [] C (mach Tryz.prog C {}) false 99 [.d (.str [a]), .d (.str [b]), .ptr 0 0, .ptr 1 0] (tx0 v) = some (.ret (.tup []), tx1 v (a :: (jn (partsV v) ++ [b]))) := by
  have h5 := h4 [[a], jn (partsV v), [b]] (by simp) (by simp; omega)
  simp [bld2, put2, prow, brow] at h5
  simp only [R, avV] at h1 h2 h3
  unfold abody
  rw [Tryz.func99]
  simp only [Tryz.f99]
  simp -implicitDefEqProofs [tx0, tx1, cellsV, brow, h1, h2, h3, h5, IntWalk.i64_in,IntWalk.u64_in,IntWalk.u8_in,IntWalk.i32_in,IntWalk.u32_in,ye,zk,zm,qj,qk,qm,qn,zb,zc,zn,zp,zq,qo,zd,ze,zr,zt,zu,j3,x7,zw,zf,za,zx,qp,zy,zg,zz,z6,qq,zh,yf,qr,aop,yq,j4,j5,x8,x9,jd,j6,j7,wb,je,j8,yr,j9,wg,jf,jg,xa,xb,z7,jh,z8,ji,jj,yt,yu,xc,AV.one,wh,wi,aun,jk,xd,yw,afn,xe,Out.ren,xf,xg,jl,wj,xh,wl,jm,Eng.distinct,pos,wn,Eng.ren,wo,xi,wp,jo,wq,yg,xj,ws,wu,jp,frz,yx,yz,wv,List.lookup_cons,jq,zi,jr,js,List.range_succ,jt,xk,ju,xm,↓yh,↓yi,↓qt,↓y6,↓qu,↓qa,↓yj,↓yk,↓qv,↓qw,↓qx,↓qy,↓qb,↓qz,qc,ww,xn,jv,jw,yl,qd,qe,zj,wx,y7,jx,xp,xq,keq,y8,wy,qf,y9,ym,xr,jy,jz,xt,j0,wz,ja,j1,xu,xv,xw,jb,q5,q6,yn,q7,j2,Option.map_some,yo,qg,q8,q9,qh,ya,xx,yb,yp,yc,xy,w5,xz,x5,w6,jc,x6,Op.operands,Call.operands,yd,qi,w7,AObj.live]

theorem textV_5 (v : V) (h : v.k = 5) : textV v = 91 :: (jn (partsV v) ++ [93]) := by
  obtain ⟨k, b, n, t, l, o⟩ := v
  simp only [V.k] at h
  subst h
  simp [textV, textL_map, textO_map, partsV, V.l, V.o, jn]
theorem textV_6 (v : V) (h : v.k = 6) : textV v = 123 :: (jn (partsV v) ++ [125]) := by
  obtain ⟨k, b, n, t, l, o⟩ := v
  simp only [V.k] at h
  subst h
  simp [textV, textL_map, textO_map, partsV, V.l, V.o, jn]

theorem b_text (C : Oracle) (v : V) (hlen : (textV v).length ≤ 140737488355328)
    (h1 : ∀ a b : UInt8, (v.k = 5 ∨ v.k = 6) → C 99 [.d (.str [a]), .d (.str [b]), .ptr 0 0, .ptr 1 0] (tx0 v) = some (.ret (.tup []), tx1 v (a :: (jn (partsV v) ++ [b]))))
    (h2 : ∀ b : Bool, C 104 [.d (.bool b)] [] = R (.str (if b then [116, 114, 117, 101] else [102, 97, 108, 115, 101])))
    (h3 : v.k = 3 → C 105 [.d (.int .i64 v.n), .d (.int .i64 10)] [] = R (.str (Lib.itoa v.n)))
    (h4 : ∀ ps : List (List UInt8), ps.length ≤ 1099511627776 → ps.flatten.length ≤ 140737488355328 → C 100 [.ptr 0 0, .sl 1 1 0 ps.length] (bld2 false [] ps) = some (.ret (.tup []), put2 ps))
    (h5 : v.k = 4 → C 106 [.d (.str v.t)] [] = some (.ret (.tup [.d (.str (quoteU v.t)), .d (.int .i64 (if validU v.t = true then 0 else 3))]), []))
    (h6 : ∀ (u : Bool) (l : List UInt8), l.length ≤ 140737488355328 → C 107 [.ptr 0 0] (bld u l) = some (.ret (.d (.str l)), if l = [] then bld u l else [.box [.ptr 0 0, .sl 1 1 0 l.length] 139, .fz 1 (l.map fun b => [.int .u8 b.toNat])])) :
    abody Tryz.prog [] C (mach Tryz.prog C {}) true 71 [avV v] [] = R (.str (textV v)) := by
  have hp : ∀ s : List UInt8, s.length ≤ 140737488355328 → C 100 [.ptr 0 0, .sl 1 1 0 1] [.box [.d .nilp, .d .nils] 139, .drow [[.str s]] 9 1] = some (.ret (.tup []), if s = [] then [.box [.ptr 0 0, .d .nils] 139, .drow [[.str s]] 9 1] else [.box [.ptr 0 0, .sl 2 1 0 s.length] 139, .drow [[.str s]] 9 1, .drow (s.map fun b => [.int .u8 b.toNat]) 5 1]) := by
    intro s hs
    have h := h4 [s] (by simp) (by simpa using hs)
    simp [bld2, put2, prow, brow] at h
    exact h
  have hr1 : C 107 [.ptr 0 0] [.box [.d .nilp, .d .nils] 139] = some (.ret (.d (.str [])), [.box [.d .nilp, .d .nils] 139]) := by
    have h := h6 false [] (by simp)
    simpa [bld] using h
  have hr2 : C 107 [.ptr 0 0] [.box [.ptr 0 0, .d .nils] 139] = some (.ret (.d (.str [])), [.box [.ptr 0 0, .d .nils] 139]) := by
    have h := h6 true [] (by simp)
    simpa [bld] using h
  have hr3 : ∀ l : List UInt8, l ≠ [] → l.length ≤ 140737488355328 → C 107 [.ptr 0 0] [.box [.ptr 0 0, .sl 1 1 0 l.length] 139, .drow (l.map fun b => [.int .u8 b.toNat]) 5 1] = some (.ret (.d (.str l)), [.box [.ptr 0 0, .sl 1 1 0 l.length] 139, .fz 1 (l.map fun b => [.int .u8 b.toNat])]) := by
    intro l hl hs
    have h := h6 true l hs
    simpa [bld, hl] using h
  unfold abody
  rw [Tryz.func71]
  simp only [Tryz.f71]
  by_cases e1 : v.k = 1
  · have e : textV v = [110, 117, 108, 108] := by obtain ⟨k, b, n, t, l, o⟩ := v; simp only [V.k] at e1; simp [textV, e1]
    have g1 := hp [110, 117, 108, 108] (by simp)
    have g2 := hr3 [110, 117, 108, 108] (by simp) (by simp)
    simp at g1 g2
    simp -implicitDefEqProofs [R, avV, e1, e, g1, g2, IntWalk.i64_in,IntWalk.u64_in,IntWalk.u8_in,IntWalk.i32_in,IntWalk.u32_in,ye,zk,zm,qj,qk,qm,qn,zb,zc,zn,zp,zq,qo,zd,ze,zr,zt,zu,j3,x7,zw,zf,za,zx,qp,zy,zg,zz,z6,qq,zh,yf,qr,aop,yq,j4,j5,x8,x9,jd,j6,j7,wb,je,j8,yr,j9,wg,jf,jg,xa,xb,z7,jh,z8,ji,jj,yt,yu,xc,AV.one,wh,wi,aun,jk,xd,yw,afn,xe,Out.ren,xf,xg,jl,wj,xh,wl,jm,Eng.distinct,pos,wn,Eng.ren,wo,xi,wp,jo,wq,yg,xj,ws,wu,jp,frz,yx,yz,wv,List.lookup_cons,jq,zi,jr,js,List.range_succ,jt,xk,ju,xm,↓yh,↓yi,↓qt,↓y6,↓qu,↓qa,↓yj,↓yk,↓qv,↓qw,↓qx,↓qy,↓qb,↓qz,qc,ww,xn,jv,jw,yl,qd,qe,zj,wx,y7,jx,xp,xq,keq,y8,wy,qf,y9,ym,xr,jy,jz,xt,j0,wz,ja,j1,xu,xv,xw,jb,q5,q6,yn,q7,j2,Option.map_some,yo,qg,q8,q9,qh,ya,xx,yb,yp,yc,xy,w5,xz,x5,w6,jc,x6,Op.operands,Call.operands,yd,qi,w7,AObj.live]
  by_cases e2 : v.k = 2
  · have e : textV v = (if v.b then ([116, 114, 117, 101] : List UInt8) else ([102, 97, 108, 115, 101] : List UInt8)) := by obtain ⟨k, b, n, t, l, o⟩ := v; simp only [V.k] at e2; subst e2; cases b <;> simp [textV, V.b]
    cases hb : v.b
    · have g0 := h2 false
      have g1 := hp [102, 97, 108, 115, 101] (by simp)
      have g2 := hr3 [102, 97, 108, 115, 101] (by simp) (by simp)
      simp [hb] at e
      simp at g0 g1 g2
      simp -implicitDefEqProofs [R, avV, e2, hb, e, g0, g1, g2, IntWalk.i64_in,IntWalk.u64_in,IntWalk.u8_in,IntWalk.i32_in,IntWalk.u32_in,ye,zk,zm,qj,qk,qm,qn,zb,zc,zn,zp,zq,qo,zd,ze,zr,zt,zu,j3,x7,zw,zf,za,zx,qp,zy,zg,zz,z6,qq,zh,yf,qr,aop,yq,j4,j5,x8,x9,jd,j6,j7,wb,je,j8,yr,j9,wg,jf,jg,xa,xb,z7,jh,z8,ji,jj,yt,yu,xc,AV.one,wh,wi,aun,jk,xd,yw,afn,xe,Out.ren,xf,xg,jl,wj,xh,wl,jm,Eng.distinct,pos,wn,Eng.ren,wo,xi,wp,jo,wq,yg,xj,ws,wu,jp,frz,yx,yz,wv,List.lookup_cons,jq,zi,jr,js,List.range_succ,jt,xk,ju,xm,↓yh,↓yi,↓qt,↓y6,↓qu,↓qa,↓yj,↓yk,↓qv,↓qw,↓qx,↓qy,↓qb,↓qz,qc,ww,xn,jv,jw,yl,qd,qe,zj,wx,y7,jx,xp,xq,keq,y8,wy,qf,y9,ym,xr,jy,jz,xt,j0,wz,ja,j1,xu,xv,xw,jb,q5,q6,yn,q7,j2,Option.map_some,yo,qg,q8,q9,qh,ya,xx,yb,yp,yc,xy,w5,xz,x5,w6,jc,x6,Op.operands,Call.operands,yd,qi,w7,AObj.live]
    · have g0 := h2 true
      have g1 := hp [116, 114, 117, 101] (by simp)
      have g2 := hr3 [116, 114, 117, 101] (by simp) (by simp)
      simp [hb] at e
      simp at g0 g1 g2
      simp -implicitDefEqProofs [R, avV, e2, hb, e, g0, g1, g2, IntWalk.i64_in,IntWalk.u64_in,IntWalk.u8_in,IntWalk.i32_in,IntWalk.u32_in,ye,zk,zm,qj,qk,qm,qn,zb,zc,zn,zp,zq,qo,zd,ze,zr,zt,zu,j3,x7,zw,zf,za,zx,qp,zy,zg,zz,z6,qq,zh,yf,qr,aop,yq,j4,j5,x8,x9,jd,j6,j7,wb,je,j8,yr,j9,wg,jf,jg,xa,xb,z7,jh,z8,ji,jj,yt,yu,xc,AV.one,wh,wi,aun,jk,xd,yw,afn,xe,Out.ren,xf,xg,jl,wj,xh,wl,jm,Eng.distinct,pos,wn,Eng.ren,wo,xi,wp,jo,wq,yg,xj,ws,wu,jp,frz,yx,yz,wv,List.lookup_cons,jq,zi,jr,js,List.range_succ,jt,xk,ju,xm,↓yh,↓yi,↓qt,↓y6,↓qu,↓qa,↓yj,↓yk,↓qv,↓qw,↓qx,↓qy,↓qb,↓qz,qc,ww,xn,jv,jw,yl,qd,qe,zj,wx,y7,jx,xp,xq,keq,y8,wy,qf,y9,ym,xr,jy,jz,xt,j0,wz,ja,j1,xu,xv,xw,jb,q5,q6,yn,q7,j2,Option.map_some,yo,qg,q8,q9,qh,ya,xx,yb,yp,yc,xy,w5,xz,x5,w6,jc,x6,Op.operands,Call.operands,yd,qi,w7,AObj.live]
  by_cases e3 : v.k = 3
  · have e : textV v = Lib.itoa v.n := by obtain ⟨k, b, n, t, l, o⟩ := v; simp only [V.k] at e3; simp [textV, e3, V.n]
    have g0 := h3 e3
    rw [e] at hlen
    rw [e]
    generalize Lib.itoa v.n = q at *
    have g1 := hp q hlen
    by_cases hq : q = []
    · simp [hq] at g0 g1
      simp -implicitDefEqProofs [R, avV, e3, g0, g1, hr2, hq, IntWalk.i64_in,IntWalk.u64_in,IntWalk.u8_in,IntWalk.i32_in,IntWalk.u32_in,ye,zk,zm,qj,qk,qm,qn,zb,zc,zn,zp,zq,qo,zd,ze,zr,zt,zu,j3,x7,zw,zf,za,zx,qp,zy,zg,zz,z6,qq,zh,yf,qr,aop,yq,j4,j5,x8,x9,jd,j6,j7,wb,je,j8,yr,j9,wg,jf,jg,xa,xb,z7,jh,z8,ji,jj,yt,yu,xc,AV.one,wh,wi,aun,jk,xd,yw,afn,xe,Out.ren,xf,xg,jl,wj,xh,wl,jm,Eng.distinct,pos,wn,Eng.ren,wo,xi,wp,jo,wq,yg,xj,ws,wu,jp,frz,yx,yz,wv,List.lookup_cons,jq,zi,jr,js,List.range_succ,jt,xk,ju,xm,↓yh,↓yi,↓qt,↓y6,↓qu,↓qa,↓yj,↓yk,↓qv,↓qw,↓qx,↓qy,↓qb,↓qz,qc,ww,xn,jv,jw,yl,qd,qe,zj,wx,y7,jx,xp,xq,keq,y8,wy,qf,y9,ym,xr,jy,jz,xt,j0,wz,ja,j1,xu,xv,xw,jb,q5,q6,yn,q7,j2,Option.map_some,yo,qg,q8,q9,qh,ya,xx,yb,yp,yc,xy,w5,xz,x5,w6,jc,x6,Op.operands,Call.operands,yd,qi,w7,AObj.live]
    · have g2 := hr3 q hq hlen
      simp [hq] at g0 g1 g2
      simp -implicitDefEqProofs [R, avV, e3, g0, g1, g2, IntWalk.i64_in,IntWalk.u64_in,IntWalk.u8_in,IntWalk.i32_in,IntWalk.u32_in,ye,zk,zm,qj,qk,qm,qn,zb,zc,zn,zp,zq,qo,zd,ze,zr,zt,zu,j3,x7,zw,zf,za,zx,qp,zy,zg,zz,z6,qq,zh,yf,qr,aop,yq,j4,j5,x8,x9,jd,j6,j7,wb,je,j8,yr,j9,wg,jf,jg,xa,xb,z7,jh,z8,ji,jj,yt,yu,xc,AV.one,wh,wi,aun,jk,xd,yw,afn,xe,Out.ren,xf,xg,jl,wj,xh,wl,jm,Eng.distinct,pos,wn,Eng.ren,wo,xi,wp,jo,wq,yg,xj,ws,wu,jp,frz,yx,yz,wv,List.lookup_cons,jq,zi,jr,js,List.range_succ,jt,xk,ju,xm,↓yh,↓yi,↓qt,↓y6,↓qu,↓qa,↓yj,↓yk,↓qv,↓qw,↓qx,↓qy,↓qb,↓qz,qc,ww,xn,jv,jw,yl,qd,qe,zj,wx,y7,jx,xp,xq,keq,y8,wy,qf,y9,ym,xr,jy,jz,xt,j0,wz,ja,j1,xu,xv,xw,jb,q5,q6,yn,q7,j2,Option.map_some,yo,qg,q8,q9,qh,ya,xx,yb,yp,yc,xy,w5,xz,x5,w6,jc,x6,Op.operands,Call.operands,yd,qi,w7,AObj.live]
  by_cases e4 : v.k = 4
  · have e : textV v = quoteU v.t := by obtain ⟨k, b, n, t, l, o⟩ := v; simp only [V.k] at e4; simp [textV, e4, V.t]
    have g0 := h5 e4
    rw [e] at hlen
    rw [e]
    generalize quoteU v.t = q at *
    have g1 := hp q hlen
    by_cases hq : q = []
    · simp only [hq, if_true] at g0 g1
      simp -implicitDefEqProofs [R, avV, e4, g0, g1, hr2, hq, IntWalk.i64_in,IntWalk.u64_in,IntWalk.u8_in,IntWalk.i32_in,IntWalk.u32_in,ye,zk,zm,qj,qk,qm,qn,zb,zc,zn,zp,zq,qo,zd,ze,zr,zt,zu,j3,x7,zw,zf,za,zx,qp,zy,zg,zz,z6,qq,zh,yf,qr,aop,yq,j4,j5,x8,x9,jd,j6,j7,wb,je,j8,yr,j9,wg,jf,jg,xa,xb,z7,jh,z8,ji,jj,yt,yu,xc,AV.one,wh,wi,aun,jk,xd,yw,afn,xe,Out.ren,xf,xg,jl,wj,xh,wl,jm,Eng.distinct,pos,wn,Eng.ren,wo,xi,wp,jo,wq,yg,xj,ws,wu,jp,frz,yx,yz,wv,List.lookup_cons,jq,zi,jr,js,List.range_succ,jt,xk,ju,xm,↓yh,↓yi,↓qt,↓y6,↓qu,↓qa,↓yj,↓yk,↓qv,↓qw,↓qx,↓qy,↓qb,↓qz,qc,ww,xn,jv,jw,yl,qd,qe,zj,wx,y7,jx,xp,xq,keq,y8,wy,qf,y9,ym,xr,jy,jz,xt,j0,wz,ja,j1,xu,xv,xw,jb,q5,q6,yn,q7,j2,Option.map_some,yo,qg,q8,q9,qh,ya,xx,yb,yp,yc,xy,w5,xz,x5,w6,jc,x6,Op.operands,Call.operands,yd,qi,w7,AObj.live]
    · have g2 := hr3 q hq hlen
      simp only [hq, if_false] at g1
      simp -implicitDefEqProofs [R, avV, e4, g0, g1, g2, IntWalk.i64_in,IntWalk.u64_in,IntWalk.u8_in,IntWalk.i32_in,IntWalk.u32_in,ye,zk,zm,qj,qk,qm,qn,zb,zc,zn,zp,zq,qo,zd,ze,zr,zt,zu,j3,x7,zw,zf,za,zx,qp,zy,zg,zz,z6,qq,zh,yf,qr,aop,yq,j4,j5,x8,x9,jd,j6,j7,wb,je,j8,yr,j9,wg,jf,jg,xa,xb,z7,jh,z8,ji,jj,yt,yu,xc,AV.one,wh,wi,aun,jk,xd,yw,afn,xe,Out.ren,xf,xg,jl,wj,xh,wl,jm,Eng.distinct,pos,wn,Eng.ren,wo,xi,wp,jo,wq,yg,xj,ws,wu,jp,frz,yx,yz,wv,List.lookup_cons,jq,zi,jr,js,List.range_succ,jt,xk,ju,xm,↓yh,↓yi,↓qt,↓y6,↓qu,↓qa,↓yj,↓yk,↓qv,↓qw,↓qx,↓qy,↓qb,↓qz,qc,ww,xn,jv,jw,yl,qd,qe,zj,wx,y7,jx,xp,xq,keq,y8,wy,qf,y9,ym,xr,jy,jz,xt,j0,wz,ja,j1,xu,xv,xw,jb,q5,q6,yn,q7,j2,Option.map_some,yo,qg,q8,q9,qh,ya,xx,yb,yp,yc,xy,w5,xz,x5,w6,jc,x6,Op.operands,Call.operands,yd,qi,w7,AObj.live]
  by_cases e5 : v.k = 5
  · have e := textV_5 v e5
    have g0 := h1 91 93 (Or.inl e5)
    rw [e] at hlen
    rw [e]
    have g2 := hr3 (91 :: (jn (partsV v) ++ [93])) (by simp) hlen
    simp [tx0, tx1, cellsV, brow, e5] at g0 g2
    simp -implicitDefEqProofs [R, avV, e5, g0, g2, IntWalk.i64_in,IntWalk.u64_in,IntWalk.u8_in,IntWalk.i32_in,IntWalk.u32_in,ye,zk,zm,qj,qk,qm,qn,zb,zc,zn,zp,zq,qo,zd,ze,zr,zt,zu,j3,x7,zw,zf,za,zx,qp,zy,zg,zz,z6,qq,zh,yf,qr,aop,yq,j4,j5,x8,x9,jd,j6,j7,wb,je,j8,yr,j9,wg,jf,jg,xa,xb,z7,jh,z8,ji,jj,yt,yu,xc,AV.one,wh,wi,aun,jk,xd,yw,afn,xe,Out.ren,xf,xg,jl,wj,xh,wl,jm,Eng.distinct,pos,wn,Eng.ren,wo,xi,wp,jo,wq,yg,xj,ws,wu,jp,frz,yx,yz,wv,List.lookup_cons,jq,zi,jr,js,List.range_succ,jt,xk,ju,xm,↓yh,↓yi,↓qt,↓y6,↓qu,↓qa,↓yj,↓yk,↓qv,↓qw,↓qx,↓qy,↓qb,↓qz,qc,ww,xn,jv,jw,yl,qd,qe,zj,wx,y7,jx,xp,xq,keq,y8,wy,qf,y9,ym,xr,jy,jz,xt,j0,wz,ja,j1,xu,xv,xw,jb,q5,q6,yn,q7,j2,Option.map_some,yo,qg,q8,q9,qh,ya,xx,yb,yp,yc,xy,w5,xz,x5,w6,jc,x6,Op.operands,Call.operands,yd,qi,w7,AObj.live]
  by_cases e6 : v.k = 6
  · have e := textV_6 v e6
    have g0 := h1 123 125 (Or.inr e6)
    rw [e] at hlen
    rw [e]
    have g2 := hr3 (123 :: (jn (partsV v) ++ [125])) (by simp) hlen
    simp [tx0, tx1, cellsV, brow, e6] at g0 g2
    simp -implicitDefEqProofs [R, avV, e6, g0, g2, IntWalk.i64_in,IntWalk.u64_in,IntWalk.u8_in,IntWalk.i32_in,IntWalk.u32_in,ye,zk,zm,qj,qk,qm,qn,zb,zc,zn,zp,zq,qo,zd,ze,zr,zt,zu,j3,x7,zw,zf,za,zx,qp,zy,zg,zz,z6,qq,zh,yf,qr,aop,yq,j4,j5,x8,x9,jd,j6,j7,wb,je,j8,yr,j9,wg,jf,jg,xa,xb,z7,jh,z8,ji,jj,yt,yu,xc,AV.one,wh,wi,aun,jk,xd,yw,afn,xe,Out.ren,xf,xg,jl,wj,xh,wl,jm,Eng.distinct,pos,wn,Eng.ren,wo,xi,wp,jo,wq,yg,xj,ws,wu,jp,frz,yx,yz,wv,List.lookup_cons,jq,zi,jr,js,List.range_succ,jt,xk,ju,xm,↓yh,↓yi,↓qt,↓y6,↓qu,↓qa,↓yj,↓yk,↓qv,↓qw,↓qx,↓qy,↓qb,↓qz,qc,ww,xn,jv,jw,yl,qd,qe,zj,wx,y7,jx,xp,xq,keq,y8,wy,qf,y9,ym,xr,jy,jz,xt,j0,wz,ja,j1,xu,xv,xw,jb,q5,q6,yn,q7,j2,Option.map_some,yo,qg,q8,q9,qh,ya,xx,yb,yp,yc,xy,w5,xz,x5,w6,jc,x6,Op.operands,Call.operands,yd,qi,w7,AObj.live]
  have e : textV v = [] := by obtain ⟨k, b, n, t, l, o⟩ := v; simp only [V.k] at e1 e2 e3 e4 e5 e6; simp [textV, e1, e2, e3, e4, e5, e6]
  simp -implicitDefEqProofs [R, avV, e1, e2, e3, e4, e5, e6, e, hr1, intbeq, IntWalk.i64_in,IntWalk.u64_in,IntWalk.u8_in,IntWalk.i32_in,IntWalk.u32_in,ye,zk,zm,qj,qk,qm,qn,zb,zc,zn,zp,zq,qo,zd,ze,zr,zt,zu,j3,x7,zw,zf,za,zx,qp,zy,zg,zz,z6,qq,zh,yf,qr,aop,yq,j4,j5,x8,x9,jd,j6,j7,wb,je,j8,yr,j9,wg,jf,jg,xa,xb,z7,jh,z8,ji,jj,yt,yu,xc,AV.one,wh,wi,aun,jk,xd,yw,afn,xe,Out.ren,xf,xg,jl,wj,xh,wl,jm,Eng.distinct,pos,wn,Eng.ren,wo,xi,wp,jo,wq,yg,xj,ws,wu,jp,frz,yx,yz,wv,List.lookup_cons,jq,zi,jr,js,List.range_succ,jt,xk,ju,xm,↓yh,↓yi,↓qt,↓y6,↓qu,↓qa,↓yj,↓yk,↓qv,↓qw,↓qx,↓qy,↓qb,↓qz,qc,ww,xn,jv,jw,yl,qd,qe,zj,wx,y7,jx,xp,xq,keq,y8,wy,qf,y9,ym,xr,jy,jz,xt,j0,wz,ja,j1,xu,xv,xw,jb,q5,q6,yn,q7,j2,Option.map_some,yo,qg,q8,q9,qh,ya,xx,yb,yp,yc,xy,w5,xz,x5,w6,jc,x6,Op.operands,Call.operands,yd,qi,w7,AObj.live]
end Go.Proofs.YtblejchodicaoaaGreatDoor.Eng
