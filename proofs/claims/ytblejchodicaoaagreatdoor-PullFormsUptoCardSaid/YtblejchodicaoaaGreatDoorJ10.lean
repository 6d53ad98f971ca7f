/-
  PROVED HERE: for every answer, PullForms returns true, and the answer reads behind the call as it read before.
  Conditions: the answer is of bulk at most 1048576 (the second form), the listed tables hold what the row lists, and the card ties those to the program's text. No other hypothesis. Own work.
-/
/-
  CONTRACTS: ref14.Value; ref18.Response, Frame; law18.answer; PullForms. Own work.
-/
import Derived.Test.YtblejchodicaoaaGreatDoorJ9
import Derived.Test.YtblejchodicaoaaGreatDoorJ8
import Derived.Test.YtblejchodicaoaaGreatDoorRows
import Derived.Lib.LaidU8
import Derived.Deep.Slices
import Derived.Lib.SmallJoins
import Derived.Carry
import Derived.ProofKit
import Derived.OpenShut
import Derived.Deep.DeepHandedRow
import Derived.Test.YtblejchodicaoaaGreatDoorCards
import Derived.Test.YtblejchodicaoaaGreatDoorTie
set_option linter.unusedVariables false
set_option linter.unusedSimpArgs false
namespace Go.Proofs.YtblejchodicaoaaGreatDoor.Eng
open Go Go.RowKit
set_option maxRecDepth 100000
set_option linter.unusedSimpArgs false
set_option maxHeartbeats 4000000

def rvOut (l : List V) : AV := if l = [] then .d .nils else .sl 1 6 0 l.length
def rvS (l : List V) : List AObj := [cpZ] ++ if l = [] then [] else [vrow l]
def rvS' (l : List V) : List AObj := rvS l
theorem b_r14Value (C : Oracle) (l : List PO) (hl : l.length ≤ 1099511627776) (hk : ∀ p ∈ l, p.k = 1 ∨ p.k = 2 ∨ p.k = 3)
    (h1 : ∀ s, C 59 [.d (.str s)] [] = some (.ret (avT s), [])) (h2 : ∀ s, C 60 [.d (.str s)] [] = some (.ret (amM ⟨kOp, tV s⟩), []))
    (h3 : ∀ m : List M, m ≠ [] → C 34 [.sl 0 7 0 m.length] [.drow (m.map encM) 70 7] = some (.ret (avV (oV m)), [.fz 7 (m.map encM)]))
    (h4 : ∀ m : List V, m ≠ [] → C 49 [.sl 0 6 0 m.length] [vrow m] = some (.ret (avV (lV m)), [.fz 6 (m.map encV)])) (h5 : C 49 [.d .nils] [] = some (.ret (avV (lV [])), [])) :
    abody Tryz.prog [] C (mach Tryz.prog C { keep := [(58, [0, 2, 3, 4])], wins := [(29850, [[], [3], [], [], [], [], [], [0]]), (119406, [[], [3]])], outs := [(58, [2, 3])] }) true 36 [.d (.rs 8 (l.map encPO))] [] = some (.ret (avV (lV (l.map opV))), []) := by
  simp only [avT] at h1
  unfold abody
  rw [Tryz.func36]
  simp only [Tryz.f36]
  simp -implicitDefEqProofs [mach_draw, mach_loop, IntWalk.i64_in,IntWalk.u64_in,IntWalk.u8_in,IntWalk.i32_in,IntWalk.u32_in,ye,zk,zm,qj,qk,qm,qn,zb,zc,zn,zp,zq,qo,zd,ze,zr,zt,zu,j3,x7,zw,zf,za,zx,qp,zy,zg,zz,z6,qq,zh,yf,qr,aop,yq,j4,j5,x8,x9,jd,j6,j7,wb,je,j8,yr,j9,wg,jf,jg,xa,xb,z7,jh,z8,ji,jj,yt,yu,xc,AV.one,wh,wi,aun,jk,xd,yw,afn,xe,Out.ren,xf,xg,jl,wj,xh,wl,jm,Eng.distinct,pos,wn,Eng.ren,wo,xi,wp,jo,wq,yg,xj,ws,wu,jp,frz,yx,yz,wv,List.lookup_cons,jq,zi,jr,js,List.range_succ,jt,xk,ju,xm,↓yh,↓yi,↓qt,↓y6,↓qu,↓qa,↓yj,↓yk,↓qv,↓qw,↓qx,↓qy,↓qb,↓qz,qc,ww,xn,jv,jw,yl,qd,qe,zj,wx,y7,jx,xp,xq,keq,y8,wy,qf,y9,ym,xr,jy,jz,xt,j0,wz,ja,j1,xu,xv,xw,jb,q5,q6,yn,q7,j2,Option.map_some,yo,qg,q8,q9,qh,ya,xx,yb,yp,yc,xy,w5,xz,x5,w6,jc,x6,Op.operands,Call.operands,yd,qi,w7,AObj.live]
  rw [aloop_list (l := l)
    (S := fun pre suf => { env := [(0, .d (.rs 8 ((pre ++ suf).map encPO))), (2, .ptr 0 0), (3, rvOut (pre.map opV)), (4, .d (.int .i64 (pre.length : Nat)))], σ := rvS (pre.map opV), dfs := [] })
    (R := fun pre suf => some (.exit 0, { env := [(2, .ptr 0 0), (3, rvOut (l.map opV))], σ := rvS' (l.map opV), dfs := [] }))
    (hs := ?_) (h0 := ?_) (h1 := ?_)]
  rotate_left
  · simp -implicitDefEqProofs [rvOut, rvS, cpZ, IntWalk.i64_in,IntWalk.u64_in,IntWalk.u8_in,IntWalk.i32_in,IntWalk.u32_in,ye,zk,zm,qj,qk,qm,qn,zb,zc,zn,zp,zq,qo,zd,ze,zr,zt,zu,j3,x7,zw,zf,za,zx,qp,zy,zg,zz,z6,qq,zh,yf,qr,aop,yq,j4,j5,x8,x9,jd,j6,j7,wb,je,j8,yr,j9,wg,jf,jg,xa,xb,z7,jh,z8,ji,jj,yt,yu,xc,AV.one,wh,wi,aun,jk,xd,yw,afn,xe,Out.ren,xf,xg,jl,wj,xh,wl,jm,Eng.distinct,pos,wn,Eng.ren,wo,xi,wp,jo,wq,yg,xj,ws,wu,jp,frz,yx,yz,wv,List.lookup_cons,jq,zi,jr,js,List.range_succ,jt,xk,ju,xm,↓yh,↓yi,↓qt,↓y6,↓qu,↓qa,↓yj,↓yk,↓qv,↓qw,↓qx,↓qy,↓qb,↓qz,qc,ww,xn,jv,jw,yl,qd,qe,zj,wx,y7,jx,xp,xq,keq,y8,wy,qf,y9,ym,xr,jy,jz,xt,j0,wz,ja,j1,xu,xv,xw,jb,q5,q6,yn,q7,j2,Option.map_some,yo,qg,q8,q9,qh,ya,xx,yb,yp,yc,xy,w5,xz,x5,w6,jc,x6,Op.operands,Call.operands,yd,qi,w7,AObj.live]
  · intro pre hp
    subst hp
    rcases Decidable.em (pre = []) with e | e <;> simp -implicitDefEqProofs [rvOut, rvS, rvS', cpZ, vrow, e, mach_loop, IntWalk.i64_in,IntWalk.u64_in,IntWalk.u8_in,IntWalk.i32_in,IntWalk.u32_in,ye,zk,zm,qj,qk,qm,qn,zb,zc,zn,zp,zq,qo,zd,ze,zr,zt,zu,j3,x7,zw,zf,za,zx,qp,zy,zg,zz,z6,qq,zh,yf,qr,aop,yq,j4,j5,x8,x9,jd,j6,j7,wb,je,j8,yr,j9,wg,jf,jg,xa,xb,z7,jh,z8,ji,jj,yt,yu,xc,AV.one,wh,wi,aun,jk,xd,yw,afn,xe,Out.ren,xf,xg,jl,wj,xh,wl,jm,Eng.distinct,pos,wn,Eng.ren,wo,xi,wp,jo,wq,yg,xj,ws,wu,jp,frz,yx,yz,wv,List.lookup_cons,jq,zi,jr,js,List.range_succ,jt,xk,ju,xm,↓yh,↓yi,↓qt,↓y6,↓qu,↓qa,↓yj,↓yk,↓qv,↓qw,↓qx,↓qy,↓qb,↓qz,qc,ww,xn,jv,jw,yl,qd,qe,zj,wx,y7,jx,xp,xq,keq,y8,wy,qf,y9,ym,xr,jy,jz,xt,j0,wz,ja,j1,xu,xv,xw,jb,q5,q6,yn,q7,j2,Option.map_some,yo,qg,q8,q9,qh,ya,xx,yb,yp,yc,xy,w5,xz,x5,w6,jc,x6,Op.operands,Call.operands,yd,qi,w7,AObj.live]
  · intro pre p suf hp ih
    have hll : pre.length < l.length := by rw [← hp]; simp
    have hw2 : IntKind.i64.wrap ((pre.length : Nat) + 1) = (pre.length : Nat) + 1 := wrap64 (by omega) (by omega)
    have k2 : (pre.length + 1) * 88 ≤ 140737488355328 := by omega
    have k3 : pre.length + 1 ≤ 140737488355328 := by omega
    rcases hk p (by rw [← hp]; simp) with hkp | hkp | hkp
    · have h6 : C 34 [.sl 0 7 0 3] [.drow ([⟨kKey, tV p.key⟩, ⟨kOp, tV kPut⟩, ⟨kValue, p.v⟩].map encM) 70 7] = some (.ret (avV (opV p)), [.fz 7 ([⟨kKey, tV p.key⟩, ⟨kOp, tV kPut⟩, ⟨kValue, p.v⟩].map encM)]) := by
        have := h3 [⟨kKey, tV p.key⟩, ⟨kOp, tV kPut⟩, ⟨kValue, p.v⟩] (by simp)
        simpa [opV, hkp] using this
      have h7 := h2 kPut
      simp [kValue, kKey, kOp, kPut, tV, encM, encV, encVs, encMs, encV_eq p.v] at h6
      simp [amM, M.key, M.v, tV, V.l, V.o, V.k, V.b, V.n, V.t, kOp, kPut] at h7
      simp only [avV] at h6
      generalize hq : opV p = q at *
      rcases Decidable.em (pre = []) with e | e <;> (
        simp -implicitDefEqProofs [rvOut, rvS, cpZ, vrow, e, hkp, h1, h6, h7, hw2, k2, k3, encPO_eq p, encV_eq p.v, mid_lt, pos1, mach_draw, mach_loop, IntWalk.i64_in,IntWalk.u64_in,IntWalk.u8_in,IntWalk.i32_in,IntWalk.u32_in,ye,zk,zm,qj,qk,qm,qn,zb,zc,zn,zp,zq,qo,zd,ze,zr,zt,zu,j3,x7,zw,zf,za,zx,qp,zy,zg,zz,z6,qq,zh,yf,qr,aop,yq,j4,j5,x8,x9,jd,j6,j7,wb,je,j8,yr,j9,wg,jf,jg,xa,xb,z7,jh,z8,ji,jj,yt,yu,xc,AV.one,wh,wi,aun,jk,xd,yw,afn,xe,Out.ren,xf,xg,jl,wj,xh,wl,jm,Eng.distinct,pos,wn,Eng.ren,wo,xi,wp,jo,wq,yg,xj,ws,wu,jp,frz,yx,yz,wv,List.lookup_cons,jq,zi,jr,js,List.range_succ,jt,xk,ju,xm,↓yh,↓yi,↓qt,↓y6,↓qu,↓qa,↓yj,↓yk,↓qv,↓qw,↓qx,↓qy,↓qb,↓qz,qc,ww,xn,jv,jw,yl,qd,qe,zj,wx,y7,jx,xp,xq,keq,y8,wy,qf,y9,ym,xr,jy,jz,xt,j0,wz,ja,j1,xu,xv,xw,jb,q5,q6,yn,q7,j2,Option.map_some,yo,qg,q8,q9,qh,ya,xx,yb,yp,yc,xy,w5,xz,x5,w6,jc,x6,Op.operands,Call.operands,yd,qi,w7,AObj.live]
        rw [ih _ (by simp -implicitDefEqProofs [rvOut, rvS, cpZ, vrow, e, hq, hkp, encPO_eq p, encV_eq p.v, encV_eq q, IntWalk.i64_in,IntWalk.u64_in,IntWalk.u8_in,IntWalk.i32_in,IntWalk.u32_in,ye,zk,zm,qj,qk,qm,qn,zb,zc,zn,zp,zq,qo,zd,ze,zr,zt,zu,j3,x7,zw,zf,za,zx,qp,zy,zg,zz,z6,qq,zh,yf,qr,aop,yq,j4,j5,x8,x9,jd,j6,j7,wb,je,j8,yr,j9,wg,jf,jg,xa,xb,z7,jh,z8,ji,jj,yt,yu,xc,AV.one,wh,wi,aun,jk,xd,yw,afn,xe,Out.ren,xf,xg,jl,wj,xh,wl,jm,Eng.distinct,pos,wn,Eng.ren,wo,xi,wp,jo,wq,yg,xj,ws,wu,jp,frz,yx,yz,wv,List.lookup_cons,jq,zi,jr,js,List.range_succ,jt,xk,ju,xm,↓yh,↓yi,↓qt,↓y6,↓qu,↓qa,↓yj,↓yk,↓qv,↓qw,↓qx,↓qy,↓qb,↓qz,qc,ww,xn,jv,jw,yl,qd,qe,zj,wx,y7,jx,xp,xq,keq,y8,wy,qf,y9,ym,xr,jy,jz,xt,j0,wz,ja,j1,xu,xv,xw,jb,q5,q6,yn,q7,j2,Option.map_some,yo,qg,q8,q9,qh,ya,xx,yb,yp,yc,xy,w5,xz,x5,w6,jc,x6,Op.operands,Call.operands,yd,qi,w7,AObj.live])]
        try simp [e, hq, rvOut])
    · have h6 : C 34 [.sl 0 7 0 2] [.drow ([⟨kKey, tV p.key⟩, ⟨kOp, tV kDel⟩].map encM) 70 7] = some (.ret (avV (opV p)), [.fz 7 ([⟨kKey, tV p.key⟩, ⟨kOp, tV kDel⟩].map encM)]) := by
        have := h3 [⟨kKey, tV p.key⟩, ⟨kOp, tV kDel⟩] (by simp)
        simpa [opV, hkp] using this
      have h7 := h2 kDel
      simp [kKey, kOp, kDel, tV, encM, encV, encVs, encMs] at h6
      simp [amM, M.key, M.v, tV, V.l, V.o, V.k, V.b, V.n, V.t, kOp, kDel] at h7
      simp only [avV] at h6
      generalize hq : opV p = q at *
      rcases Decidable.em (pre = []) with e | e <;> (
        simp -implicitDefEqProofs [rvOut, rvS, cpZ, vrow, e, hkp, h1, h6, h7, hw2, k2, k3, encPO_eq p, encV_eq p.v, mid_lt, pos1, mach_draw, mach_loop, IntWalk.i64_in,IntWalk.u64_in,IntWalk.u8_in,IntWalk.i32_in,IntWalk.u32_in,ye,zk,zm,qj,qk,qm,qn,zb,zc,zn,zp,zq,qo,zd,ze,zr,zt,zu,j3,x7,zw,zf,za,zx,qp,zy,zg,zz,z6,qq,zh,yf,qr,aop,yq,j4,j5,x8,x9,jd,j6,j7,wb,je,j8,yr,j9,wg,jf,jg,xa,xb,z7,jh,z8,ji,jj,yt,yu,xc,AV.one,wh,wi,aun,jk,xd,yw,afn,xe,Out.ren,xf,xg,jl,wj,xh,wl,jm,Eng.distinct,pos,wn,Eng.ren,wo,xi,wp,jo,wq,yg,xj,ws,wu,jp,frz,yx,yz,wv,List.lookup_cons,jq,zi,jr,js,List.range_succ,jt,xk,ju,xm,↓yh,↓yi,↓qt,↓y6,↓qu,↓qa,↓yj,↓yk,↓qv,↓qw,↓qx,↓qy,↓qb,↓qz,qc,ww,xn,jv,jw,yl,qd,qe,zj,wx,y7,jx,xp,xq,keq,y8,wy,qf,y9,ym,xr,jy,jz,xt,j0,wz,ja,j1,xu,xv,xw,jb,q5,q6,yn,q7,j2,Option.map_some,yo,qg,q8,q9,qh,ya,xx,yb,yp,yc,xy,w5,xz,x5,w6,jc,x6,Op.operands,Call.operands,yd,qi,w7,AObj.live]
        rw [ih _ (by simp -implicitDefEqProofs [rvOut, rvS, cpZ, vrow, e, hq, hkp, encPO_eq p, encV_eq p.v, encV_eq q, IntWalk.i64_in,IntWalk.u64_in,IntWalk.u8_in,IntWalk.i32_in,IntWalk.u32_in,ye,zk,zm,qj,qk,qm,qn,zb,zc,zn,zp,zq,qo,zd,ze,zr,zt,zu,j3,x7,zw,zf,za,zx,qp,zy,zg,zz,z6,qq,zh,yf,qr,aop,yq,j4,j5,x8,x9,jd,j6,j7,wb,je,j8,yr,j9,wg,jf,jg,xa,xb,z7,jh,z8,ji,jj,yt,yu,xc,AV.one,wh,wi,aun,jk,xd,yw,afn,xe,Out.ren,xf,xg,jl,wj,xh,wl,jm,Eng.distinct,pos,wn,Eng.ren,wo,xi,wp,jo,wq,yg,xj,ws,wu,jp,frz,yx,yz,wv,List.lookup_cons,jq,zi,jr,js,List.range_succ,jt,xk,ju,xm,↓yh,↓yi,↓qt,↓y6,↓qu,↓qa,↓yj,↓yk,↓qv,↓qw,↓qx,↓qy,↓qb,↓qz,qc,ww,xn,jv,jw,yl,qd,qe,zj,wx,y7,jx,xp,xq,keq,y8,wy,qf,y9,ym,xr,jy,jz,xt,j0,wz,ja,j1,xu,xv,xw,jb,q5,q6,yn,q7,j2,Option.map_some,yo,qg,q8,q9,qh,ya,xx,yb,yp,yc,xy,w5,xz,x5,w6,jc,x6,Op.operands,Call.operands,yd,qi,w7,AObj.live])]
        try simp [e, hq, rvOut])
    · have h6 : C 34 [.sl 0 7 0 1] [.drow ([⟨kOp, tV kClear⟩].map encM) 70 7] = some (.ret (avV (opV p)), [.fz 7 ([⟨kOp, tV kClear⟩].map encM)]) := by
        have := h3 [⟨kOp, tV kClear⟩] (by simp)
        simpa [opV, hkp] using this
      have h7 := h2 kClear
      simp [kOp, kClear, tV, encM, encV, encVs, encMs] at h6
      simp [amM, M.key, M.v, tV, V.l, V.o, V.k, V.b, V.n, V.t, kOp, kClear] at h7
      simp only [avV] at h6
      generalize hq : opV p = q at *
      rcases Decidable.em (pre = []) with e | e <;> (
        simp -implicitDefEqProofs [rvOut, rvS, cpZ, vrow, e, hkp, h1, h6, h7, hw2, k2, k3, encPO_eq p, encV_eq p.v, mid_lt, pos1, mach_draw, mach_loop, IntWalk.i64_in,IntWalk.u64_in,IntWalk.u8_in,IntWalk.i32_in,IntWalk.u32_in,ye,zk,zm,qj,qk,qm,qn,zb,zc,zn,zp,zq,qo,zd,ze,zr,zt,zu,j3,x7,zw,zf,za,zx,qp,zy,zg,zz,z6,qq,zh,yf,qr,aop,yq,j4,j5,x8,x9,jd,j6,j7,wb,je,j8,yr,j9,wg,jf,jg,xa,xb,z7,jh,z8,ji,jj,yt,yu,xc,AV.one,wh,wi,aun,jk,xd,yw,afn,xe,Out.ren,xf,xg,jl,wj,xh,wl,jm,Eng.distinct,pos,wn,Eng.ren,wo,xi,wp,jo,wq,yg,xj,ws,wu,jp,frz,yx,yz,wv,List.lookup_cons,jq,zi,jr,js,List.range_succ,jt,xk,ju,xm,↓yh,↓yi,↓qt,↓y6,↓qu,↓qa,↓yj,↓yk,↓qv,↓qw,↓qx,↓qy,↓qb,↓qz,qc,ww,xn,jv,jw,yl,qd,qe,zj,wx,y7,jx,xp,xq,keq,y8,wy,qf,y9,ym,xr,jy,jz,xt,j0,wz,ja,j1,xu,xv,xw,jb,q5,q6,yn,q7,j2,Option.map_some,yo,qg,q8,q9,qh,ya,xx,yb,yp,yc,xy,w5,xz,x5,w6,jc,x6,Op.operands,Call.operands,yd,qi,w7,AObj.live]
        rw [ih _ (by simp -implicitDefEqProofs [rvOut, rvS, cpZ, vrow, e, hq, hkp, encPO_eq p, encV_eq p.v, encV_eq q, IntWalk.i64_in,IntWalk.u64_in,IntWalk.u8_in,IntWalk.i32_in,IntWalk.u32_in,ye,zk,zm,qj,qk,qm,qn,zb,zc,zn,zp,zq,qo,zd,ze,zr,zt,zu,j3,x7,zw,zf,za,zx,qp,zy,zg,zz,z6,qq,zh,yf,qr,aop,yq,j4,j5,x8,x9,jd,j6,j7,wb,je,j8,yr,j9,wg,jf,jg,xa,xb,z7,jh,z8,ji,jj,yt,yu,xc,AV.one,wh,wi,aun,jk,xd,yw,afn,xe,Out.ren,xf,xg,jl,wj,xh,wl,jm,Eng.distinct,pos,wn,Eng.ren,wo,xi,wp,jo,wq,yg,xj,ws,wu,jp,frz,yx,yz,wv,List.lookup_cons,jq,zi,jr,js,List.range_succ,jt,xk,ju,xm,↓yh,↓yi,↓qt,↓y6,↓qu,↓qa,↓yj,↓yk,↓qv,↓qw,↓qx,↓qy,↓qb,↓qz,qc,ww,xn,jv,jw,yl,qd,qe,zj,wx,y7,jx,xp,xq,keq,y8,wy,qf,y9,ym,xr,jy,jz,xt,j0,wz,ja,j1,xu,xv,xw,jb,q5,q6,yn,q7,j2,Option.map_some,yo,qg,q8,q9,qh,ya,xx,yb,yp,yc,xy,w5,xz,x5,w6,jc,x6,Op.operands,Call.operands,yd,qi,w7,AObj.live])]
        try simp [e, hq, rvOut])
  have h8 := h4 (l.map opV)
  generalize l.map opV = m at *
  simp only [avV, lV, V.l, V.o, V.k, V.b, V.n, V.t, vrow] at h5 h8
  rcases Decidable.em (m = []) with e | e
  · subst e
    simp at h5
    simp -implicitDefEqProofs [rvOut, rvS', rvS, cpZ, avV, lV, V.l, V.o, V.k, V.b, V.n, V.t, h5, mach_loop, IntWalk.i64_in,IntWalk.u64_in,IntWalk.u8_in,IntWalk.i32_in,IntWalk.u32_in,ye,zk,zm,qj,qk,qm,qn,zb,zc,zn,zp,zq,qo,zd,ze,zr,zt,zu,j3,x7,zw,zf,za,zx,qp,zy,zg,zz,z6,qq,zh,yf,qr,aop,yq,j4,j5,x8,x9,jd,j6,j7,wb,je,j8,yr,j9,wg,jf,jg,xa,xb,z7,jh,z8,ji,jj,yt,yu,xc,AV.one,wh,wi,aun,jk,xd,yw,afn,xe,Out.ren,xf,xg,jl,wj,xh,wl,jm,Eng.distinct,pos,wn,Eng.ren,wo,xi,wp,jo,wq,yg,xj,ws,wu,jp,frz,yx,yz,wv,List.lookup_cons,jq,zi,jr,js,List.range_succ,jt,xk,ju,xm,↓yh,↓yi,↓qt,↓y6,↓qu,↓qa,↓yj,↓yk,↓qv,↓qw,↓qx,↓qy,↓qb,↓qz,qc,ww,xn,jv,jw,yl,qd,qe,zj,wx,y7,jx,xp,xq,keq,y8,wy,qf,y9,ym,xr,jy,jz,xt,j0,wz,ja,j1,xu,xv,xw,jb,q5,q6,yn,q7,j2,Option.map_some,yo,qg,q8,q9,qh,ya,xx,yb,yp,yc,xy,w5,xz,x5,w6,jc,x6,Op.operands,Call.operands,yd,qi,w7,AObj.live]
  · have h9 := h8 e
    simp at h9
    simp -implicitDefEqProofs [rvOut, rvS', rvS, cpZ, vrow, avV, lV, V.l, V.o, V.k, V.b, V.n, V.t, e, h9, mach_loop, IntWalk.i64_in,IntWalk.u64_in,IntWalk.u8_in,IntWalk.i32_in,IntWalk.u32_in,ye,zk,zm,qj,qk,qm,qn,zb,zc,zn,zp,zq,qo,zd,ze,zr,zt,zu,j3,x7,zw,zf,za,zx,qp,zy,zg,zz,z6,qq,zh,yf,qr,aop,yq,j4,j5,x8,x9,jd,j6,j7,wb,je,j8,yr,j9,wg,jf,jg,xa,xb,z7,jh,z8,ji,jj,yt,yu,xc,AV.one,wh,wi,aun,jk,xd,yw,afn,xe,Out.ren,xf,xg,jl,wj,xh,wl,jm,Eng.distinct,pos,wn,Eng.ren,wo,xi,wp,jo,wq,yg,xj,ws,wu,jp,frz,yx,yz,wv,List.lookup_cons,jq,zi,jr,js,List.range_succ,jt,xk,ju,xm,↓yh,↓yi,↓qt,↓y6,↓qu,↓qa,↓yj,↓yk,↓qv,↓qw,↓qx,↓qy,↓qb,↓qz,qc,ww,xn,jv,jw,yl,qd,qe,zj,wx,y7,jx,xp,xq,keq,y8,wy,qf,y9,ym,xr,jy,jz,xt,j0,wz,ja,j1,xu,xv,xw,jb,q5,q6,yn,q7,j2,Option.map_some,yo,qg,q8,q9,qh,ya,xx,yb,yp,yc,xy,w5,xz,x5,w6,jc,x6,Op.operands,Call.operands,yd,qi,w7,AObj.live]

theorem b_r18Response (C : Oracle) (c b k t : Int) (l : List PO) (hc : 0 ≤ c ∧ c ≤ 9223372036854775807) (hb : 0 ≤ b ∧ b ≤ 9223372036854775807) (hk : 0 ≤ k ∧ k ≤ 9223372036854775807) (ht : 0 ≤ t ∧ t ≤ 9223372036854775807)
    (h1 : ∀ s n, 0 ≤ n → n ≤ 9223372036854775807 → C 35 [.d (.str s), .d (.int .u64 n)] [] = some (.ret (amM ⟨s, iV n⟩), []))
    (h2 : C 36 [.d (.rs 8 (l.map encPO))] [] = some (.ret (avV (lV (l.map opV))), []))
    (h3 : ∀ m : List M, m ≠ [] → C 34 [.sl 0 7 0 m.length] [.drow (m.map encM) 70 7] = some (.ret (avV (oV m)), [.fz 7 (m.map encM)])) :
    abody Tryz.prog [] C (mach Tryz.prog C { wins := [(6, [[], [], [], [], [0], [], [], [0, 3], [], [], [0, 3, 6], [], [], [0, 3, 6, 9]])] }) true 17 [.agg [.d (.int .u64 c), .d (.int .u64 b), .d (.int .u64 k), .d (.int .u64 t), .d (.rs 8 (l.map encPO))]] [] = some (.ret (avV (oV (respM c b k t (lV (l.map opV))))), []) := by
  have g1 := h1 kBase b hb.1 hb.2
  have g2 := h1 kClient c hc.1 hc.2
  have g3 := h1 kCookie k hk.1 hk.2
  have g4 := h1 kLast t ht.1 ht.2
  have h4 := h3 (respM c b k t (lV (l.map opV))) (by simp [respM])
  generalize hq : lV (l.map opV) = q at *
  simp only [avV] at h2
  simp [amM, M.key, M.v, iV, V.l, V.o, V.k, V.b, V.n, V.t, kClient, kCookie, kBase, kLast] at g1 g2 g3 g4
  simp [respM, avV, oV, V.l, V.o, V.k, V.b, V.n, V.t, iV, encM, encV, encVs, encMs, encV_eq q, kClient, kCookie, kBase, kLast, kPatch] at h4
  unfold abody
  rw [Tryz.func17]
  simp only [Tryz.f17]
  simp -implicitDefEqProofs [respM, avV, oV, V.l, V.o, V.k, V.b, V.n, V.t, iV, encM, encV, encVs, encMs, encV_eq q, kClient, kCookie, kBase, kLast, kPatch, g1, g2, g3, g4, h2, h4, mach_draw, IntWalk.i64_in,IntWalk.u64_in,IntWalk.u8_in,IntWalk.i32_in,IntWalk.u32_in,ye,zk,zm,qj,qk,qm,qn,zb,zc,zn,zp,zq,qo,zd,ze,zr,zt,zu,j3,x7,zw,zf,za,zx,qp,zy,zg,zz,z6,qq,zh,yf,qr,aop,yq,j4,j5,x8,x9,jd,j6,j7,wb,je,j8,yr,j9,wg,jf,jg,xa,xb,z7,jh,z8,ji,jj,yt,yu,xc,AV.one,wh,wi,aun,jk,xd,yw,afn,xe,Out.ren,xf,xg,jl,wj,xh,wl,jm,Eng.distinct,pos,wn,Eng.ren,wo,xi,wp,jo,wq,yg,xj,ws,wu,jp,frz,yx,yz,wv,List.lookup_cons,jq,zi,jr,js,List.range_succ,jt,xk,ju,xm,↓yh,↓yi,↓qt,↓y6,↓qu,↓qa,↓yj,↓yk,↓qv,↓qw,↓qx,↓qy,↓qb,↓qz,qc,ww,xn,jv,jw,yl,qd,qe,zj,wx,y7,jx,xp,xq,keq,y8,wy,qf,y9,ym,xr,jy,jz,xt,j0,wz,ja,j1,xu,xv,xw,jb,q5,q6,yn,q7,j2,Option.map_some,yo,qg,q8,q9,qh,ya,xx,yb,yp,yc,xy,w5,xz,x5,w6,jc,x6,Op.operands,Call.operands,yd,qi,w7,AObj.live]

theorem b_r18Frame (C : Oracle) (k : UInt8) (v : V) (f : List UInt8) (hne : textV v ≠ [])
    (h1 : C 33 [avV v] [] = some (.ret (.d (.str (textV v))), []))
    (h2 : C 22 [.d (.int .u8 k.toNat), .d (.rs 1 (byL (textV v)))] [] = some (.ret (.tup [.d (.rs 1 (byL f)), .d (.int .i64 0)]), [])) :
    abody Tryz.prog [] C (mach Tryz.prog C {}) true 16 [.d (.int .u8 k.toNat), avV v] [] = R (.rs 1 (byL f)) := by
  generalize textV v = b at *
  have hpos : 0 < b.length := List.length_pos_iff.2 hne
  simp only [byL] at h2
  simp only [avV] at h1 ⊢
  unfold abody
  rw [Tryz.func16]
  simp only [Tryz.f16]
  simp -implicitDefEqProofs [R, h1, h2, hne, hpos, byL, IntWalk.i64_in,IntWalk.u64_in,IntWalk.u8_in,IntWalk.i32_in,IntWalk.u32_in,ye,zk,zm,qj,qk,qm,qn,zb,zc,zn,zp,zq,qo,zd,ze,zr,zt,zu,j3,x7,zw,zf,za,zx,qp,zy,zg,zz,z6,qq,zh,yf,qr,aop,yq,j4,j5,x8,x9,jd,j6,j7,wb,je,j8,yr,j9,wg,jf,jg,xa,xb,z7,jh,z8,ji,jj,yt,yu,xc,AV.one,wh,wi,aun,jk,xd,yw,afn,xe,Out.ren,xf,xg,jl,wj,xh,wl,jm,Eng.distinct,pos,wn,Eng.ren,wo,xi,wp,jo,wq,yg,xj,ws,wu,jp,frz,yx,yz,wv,List.lookup_cons,jq,zi,jr,js,List.range_succ,jt,xk,ju,xm,↓yh,↓yi,↓qt,↓y6,↓qu,↓qa,↓yj,↓yk,↓qv,↓qw,↓qx,↓qy,↓qb,↓qz,qc,ww,xn,jv,jw,yl,qd,qe,zj,wx,y7,jx,xp,xq,keq,y8,wy,qf,y9,ym,xr,jy,jz,xt,j0,wz,ja,j1,xu,xv,xw,jb,q5,q6,yn,q7,j2,Option.map_some,yo,qg,q8,q9,qh,ya,xx,yb,yp,yc,xy,w5,xz,x5,w6,jc,x6,Op.operands,Call.operands,yd,qi,w7,AObj.live]

/-! ### An answer in memory of its own -/
def anB (c b k t : Int) (l : AV) : AObj := .box [.d (.int .u64 c), .d (.int .u64 b), .d (.int .u64 k), .d (.int .u64 t), l] 27
def anZ : AObj := .box [.d (.int .u64 0), .d (.int .u64 0), .d (.int .u64 0), .d (.int .u64 0), .d .nils] 27
def anB' (c b k t : Int) (l : AV) : AObj := anB c b k t l
def anZ' : AObj := anZ
def anRow (l : List PO) : AObj := .drow (l.map encPO) 64 8
def anRow' (l : List PO) : AObj := anRow l
def anO (l : List PO) : AV := if l = [] then .d .nils else .sl 2 8 0 l.length
theorem b_answer (C : Oracle) (c b k t : Int) (l : List PO) (hl : l.length ≤ 1099511627776) (h1 : ∀ p ∈ l, C 32 [avV p.v] [] = some (.ret (avV p.v), [])) :
    abody Tryz.prog [] C (mach Tryz.prog C { keep := [(58, [1, 2, 3, 4])], wins := [(932, [[], [], [20], [], [], [], [20], [], [20], [], [], [], [20]])], outs := [(58, [1, 2, 3])] }) true 14 [.agg [.d (.int .u64 c), .d (.int .u64 b), .d (.int .u64 k), .d (.int .u64 t), .d (.rs 8 (l.map encPO))]] [] =
      some (.ret (.agg [.d (.int .u64 c), .d (.int .u64 b), .d (.int .u64 k), .d (.int .u64 t), .d (slD 8 (l.map encPO))]), []) := by
  simp only [avV] at h1
  unfold abody
  rw [Tryz.func14]
  simp only [Tryz.f14]
  simp -implicitDefEqProofs [mach_draw, mach_loop, IntWalk.i64_in,IntWalk.u64_in,IntWalk.u8_in,IntWalk.i32_in,IntWalk.u32_in,ye,zk,zm,qj,qk,qm,qn,zb,zc,zn,zp,zq,qo,zd,ze,zr,zt,zu,j3,x7,zw,zf,za,zx,qp,zy,zg,zz,z6,qq,zh,yf,qr,aop,yq,j4,j5,x8,x9,jd,j6,j7,wb,je,j8,yr,j9,wg,jf,jg,xa,xb,z7,jh,z8,ji,jj,yt,yu,xc,AV.one,wh,wi,aun,jk,xd,yw,afn,xe,Out.ren,xf,xg,jl,wj,xh,wl,jm,Eng.distinct,pos,wn,Eng.ren,wo,xi,wp,jo,wq,yg,xj,ws,wu,jp,frz,yx,yz,wv,List.lookup_cons,jq,zi,jr,js,List.range_succ,jt,xk,ju,xm,↓yh,↓yi,↓qt,↓y6,↓qu,↓qa,↓yj,↓yk,↓qv,↓qw,↓qx,↓qy,↓qb,↓qz,qc,ww,xn,jv,jw,yl,qd,qe,zj,wx,y7,jx,xp,xq,keq,y8,wy,qf,y9,ym,xr,jy,jz,xt,j0,wz,ja,j1,xu,xv,xw,jb,q5,q6,yn,q7,j2,Option.map_some,yo,qg,q8,q9,qh,ya,xx,yb,yp,yc,xy,w5,xz,x5,w6,jc,x6,Op.operands,Call.operands,yd,qi,w7,AObj.live]
  rw [aloop_list (l := l)
    (S := fun pre suf => { env := [(1, .ptr 0 0), (2, .ptr 1 0), (3, anO pre), (4, .d (.int .i64 (pre.length : Nat)))], σ := [anB c b k t (.d (.rs 8 ((pre ++ suf).map encPO))), anZ] ++ (if pre = [] then [] else [anRow pre]), dfs := [] })
    (R := fun pre suf => some (.exit 0, { env := [(1, .ptr 0 0), (2, .ptr 1 0), (3, anO l)], σ := [anB' c b k t (.d (.rs 8 (l.map encPO))), anZ'] ++ (if l = [] then [] else [anRow' l]), dfs := [] }))
    (hs := ?_) (h0 := ?_) (h1 := ?_)]
  rotate_left
  · simp -implicitDefEqProofs [anB, anZ, anO, IntWalk.i64_in,IntWalk.u64_in,IntWalk.u8_in,IntWalk.i32_in,IntWalk.u32_in,ye,zk,zm,qj,qk,qm,qn,zb,zc,zn,zp,zq,qo,zd,ze,zr,zt,zu,j3,x7,zw,zf,za,zx,qp,zy,zg,zz,z6,qq,zh,yf,qr,aop,yq,j4,j5,x8,x9,jd,j6,j7,wb,je,j8,yr,j9,wg,jf,jg,xa,xb,z7,jh,z8,ji,jj,yt,yu,xc,AV.one,wh,wi,aun,jk,xd,yw,afn,xe,Out.ren,xf,xg,jl,wj,xh,wl,jm,Eng.distinct,pos,wn,Eng.ren,wo,xi,wp,jo,wq,yg,xj,ws,wu,jp,frz,yx,yz,wv,List.lookup_cons,jq,zi,jr,js,List.range_succ,jt,xk,ju,xm,↓yh,↓yi,↓qt,↓y6,↓qu,↓qa,↓yj,↓yk,↓qv,↓qw,↓qx,↓qy,↓qb,↓qz,qc,ww,xn,jv,jw,yl,qd,qe,zj,wx,y7,jx,xp,xq,keq,y8,wy,qf,y9,ym,xr,jy,jz,xt,j0,wz,ja,j1,xu,xv,xw,jb,q5,q6,yn,q7,j2,Option.map_some,yo,qg,q8,q9,qh,ya,xx,yb,yp,yc,xy,w5,xz,x5,w6,jc,x6,Op.operands,Call.operands,yd,qi,w7,AObj.live]
  · intro pre hp
    subst hp
    rcases Decidable.em (pre = []) with e | e <;> simp -implicitDefEqProofs [anB, anZ, anO, anB', anZ', anRow, anRow', e, mach_loop, IntWalk.i64_in,IntWalk.u64_in,IntWalk.u8_in,IntWalk.i32_in,IntWalk.u32_in,ye,zk,zm,qj,qk,qm,qn,zb,zc,zn,zp,zq,qo,zd,ze,zr,zt,zu,j3,x7,zw,zf,za,zx,qp,zy,zg,zz,z6,qq,zh,yf,qr,aop,yq,j4,j5,x8,x9,jd,j6,j7,wb,je,j8,yr,j9,wg,jf,jg,xa,xb,z7,jh,z8,ji,jj,yt,yu,xc,AV.one,wh,wi,aun,jk,xd,yw,afn,xe,Out.ren,xf,xg,jl,wj,xh,wl,jm,Eng.distinct,pos,wn,Eng.ren,wo,xi,wp,jo,wq,yg,xj,ws,wu,jp,frz,yx,yz,wv,List.lookup_cons,jq,zi,jr,js,List.range_succ,jt,xk,ju,xm,↓yh,↓yi,↓qt,↓y6,↓qu,↓qa,↓yj,↓yk,↓qv,↓qw,↓qx,↓qy,↓qb,↓qz,qc,ww,xn,jv,jw,yl,qd,qe,zj,wx,y7,jx,xp,xq,keq,y8,wy,qf,y9,ym,xr,jy,jz,xt,j0,wz,ja,j1,xu,xv,xw,jb,q5,q6,yn,q7,j2,Option.map_some,yo,qg,q8,q9,qh,ya,xx,yb,yp,yc,xy,w5,xz,x5,w6,jc,x6,Op.operands,Call.operands,yd,qi,w7,AObj.live]
  · intro pre p suf hp ih
    have hx := h1 p (by rw [← hp]; simp)
    have hll : pre.length < l.length := by rw [← hp]; simp
    have hw2 : IntKind.i64.wrap ((pre.length : Nat) + 1) = (pre.length : Nat) + 1 := wrap64 (by omega) (by omega)
    have k2 : (pre.length + 1) * 112 ≤ 140737488355328 := by omega
    have k3 : pre.length + 1 ≤ 140737488355328 := by omega
    rcases Decidable.em (pre = []) with e | e <;> (
      simp -implicitDefEqProofs [anB, anZ, anO, anRow, e, hx, hw2, k2, k3, encPO_eq p, encV_eq p.v, mid_lt, pos1, mach_draw, mach_loop, IntWalk.i64_in,IntWalk.u64_in,IntWalk.u8_in,IntWalk.i32_in,IntWalk.u32_in,ye,zk,zm,qj,qk,qm,qn,zb,zc,zn,zp,zq,qo,zd,ze,zr,zt,zu,j3,x7,zw,zf,za,zx,qp,zy,zg,zz,z6,qq,zh,yf,qr,aop,yq,j4,j5,x8,x9,jd,j6,j7,wb,je,j8,yr,j9,wg,jf,jg,xa,xb,z7,jh,z8,ji,jj,yt,yu,xc,AV.one,wh,wi,aun,jk,xd,yw,afn,xe,Out.ren,xf,xg,jl,wj,xh,wl,jm,Eng.distinct,pos,wn,Eng.ren,wo,xi,wp,jo,wq,yg,xj,ws,wu,jp,frz,yx,yz,wv,List.lookup_cons,jq,zi,jr,js,List.range_succ,jt,xk,ju,xm,↓yh,↓yi,↓qt,↓y6,↓qu,↓qa,↓yj,↓yk,↓qv,↓qw,↓qx,↓qy,↓qb,↓qz,qc,ww,xn,jv,jw,yl,qd,qe,zj,wx,y7,jx,xp,xq,keq,y8,wy,qf,y9,ym,xr,jy,jz,xt,j0,wz,ja,j1,xu,xv,xw,jb,q5,q6,yn,q7,j2,Option.map_some,yo,qg,q8,q9,qh,ya,xx,yb,yp,yc,xy,w5,xz,x5,w6,jc,x6,Op.operands,Call.operands,yd,qi,w7,AObj.live]
      rw [ih _ (by simp -implicitDefEqProofs [anB, anZ, anO, anRow, e, encPO_eq p, encV_eq p.v, IntWalk.i64_in,IntWalk.u64_in,IntWalk.u8_in,IntWalk.i32_in,IntWalk.u32_in,ye,zk,zm,qj,qk,qm,qn,zb,zc,zn,zp,zq,qo,zd,ze,zr,zt,zu,j3,x7,zw,zf,za,zx,qp,zy,zg,zz,z6,qq,zh,yf,qr,aop,yq,j4,j5,x8,x9,jd,j6,j7,wb,je,j8,yr,j9,wg,jf,jg,xa,xb,z7,jh,z8,ji,jj,yt,yu,xc,AV.one,wh,wi,aun,jk,xd,yw,afn,xe,Out.ren,xf,xg,jl,wj,xh,wl,jm,Eng.distinct,pos,wn,Eng.ren,wo,xi,wp,jo,wq,yg,xj,ws,wu,jp,frz,yx,yz,wv,List.lookup_cons,jq,zi,jr,js,List.range_succ,jt,xk,ju,xm,↓yh,↓yi,↓qt,↓y6,↓qu,↓qa,↓yj,↓yk,↓qv,↓qw,↓qx,↓qy,↓qb,↓qz,qc,ww,xn,jv,jw,yl,qd,qe,zj,wx,y7,jx,xp,xq,keq,y8,wy,qf,y9,ym,xr,jy,jz,xt,j0,wz,ja,j1,xu,xv,xw,jb,q5,q6,yn,q7,j2,Option.map_some,yo,qg,q8,q9,qh,ya,xx,yb,yp,yc,xy,w5,xz,x5,w6,jc,x6,Op.operands,Call.operands,yd,qi,w7,AObj.live])]
      try simp [e, anO])
  rcases Decidable.em (l = []) with e | e <;> simp -implicitDefEqProofs [anB, anZ, anO, anB', anZ', anRow, anRow', slD, e, take_map_len, mach_loop, IntWalk.i64_in,IntWalk.u64_in,IntWalk.u8_in,IntWalk.i32_in,IntWalk.u32_in,ye,zk,zm,qj,qk,qm,qn,zb,zc,zn,zp,zq,qo,zd,ze,zr,zt,zu,j3,x7,zw,zf,za,zx,qp,zy,zg,zz,z6,qq,zh,yf,qr,aop,yq,j4,j5,x8,x9,jd,j6,j7,wb,je,j8,yr,j9,wg,jf,jg,xa,xb,z7,jh,z8,ji,jj,yt,yu,xc,AV.one,wh,wi,aun,jk,xd,yw,afn,xe,Out.ren,xf,xg,jl,wj,xh,wl,jm,Eng.distinct,pos,wn,Eng.ren,wo,xi,wp,jo,wq,yg,xj,ws,wu,jp,frz,yx,yz,wv,List.lookup_cons,jq,zi,jr,js,List.range_succ,jt,xk,ju,xm,↓yh,↓yi,↓qt,↓y6,↓qu,↓qa,↓yj,↓yk,↓qv,↓qw,↓qx,↓qy,↓qb,↓qz,qc,ww,xn,jv,jw,yl,qd,qe,zj,wx,y7,jx,xp,xq,keq,y8,wy,qf,y9,ym,xr,jy,jz,xt,j0,wz,ja,j1,xu,xv,xw,jb,q5,q6,yn,q7,j2,Option.map_some,yo,qg,q8,q9,qh,ya,xx,yb,yp,yc,xy,w5,xz,x5,w6,jc,x6,Op.operands,Call.operands,yd,qi,w7,AObj.live]

theorem b_PullForms (C : Oracle) (c b k t : Int) (l : List PO) (v : V) (f : List UInt8)
    (h1 : C 14 [.agg [.d (.int .u64 c), .d (.int .u64 b), .d (.int .u64 k), .d (.int .u64 t), .d (.rs 8 (l.map encPO))]] [] = some (.ret (.agg [.d (.int .u64 c), .d (.int .u64 b), .d (.int .u64 k), .d (.int .u64 t), .d (.rs 8 (l.map encPO))]), []))
    (h2 : C 13 [.agg [.d (.int .u64 c), .d (.int .u64 b), .d (.int .u64 k), .d (.int .u64 t), .d (.rs 8 (l.map encPO))]] [] = some (.ret (.tup [.d (if respMay c b k t l = 0 then .rs 1 (byL f) else .nils), .d (.int .i64 (respMay c b k t l))]), []))
    (h3 : C 11 [.agg [.d (.int .u64 c), .d (.int .u64 b), .d (.int .u64 k), .d (.int .u64 t), .d (.rs 8 (l.map encPO))]] [] = R (.int .i64 (respMay c b k t l)))
    (h4 : respMay c b k t l = 0 → C 17 [.agg [.d (.int .u64 c), .d (.int .u64 b), .d (.int .u64 k), .d (.int .u64 t), .d (.rs 8 (l.map encPO))]] [] = some (.ret (avV v), []))
    (h5 : respMay c b k t l = 0 → C 16 [.d (.int .u8 3), avV v] [] = R (.rs 1 (byL f))) (h6 : C 15 [.d (.rs 1 (byL f)), .d (.rs 1 (byL f))] [] = R (.bool true))
    (h7 : C 12 [] [] = R (.bool true)) :
    abody Tryz.prog [] C (mach Tryz.prog C {}) true 4 [.agg [.d (.int .u64 c), .d (.int .u64 b), .d (.int .u64 k), .d (.int .u64 t), .d (.rs 8 (l.map encPO))]] [] = R (.bool true) := by
  simp only [R] at h3 h5 h6 h7
  simp only [avV] at h4 h5
  unfold abody
  rw [Tryz.func4]
  simp only [Tryz.f4]
  by_cases hm : respMay c b k t l = 0
  · have g4 := h4 hm
    have g5 := h5 hm
    rw [if_pos hm, hm] at h2
    rw [hm] at h3
    simp -implicitDefEqProofs [R, h1, h2, h3, g4, g5, h6, h7, intbne, intbeq, mach_draw, IntWalk.i64_in,IntWalk.u64_in,IntWalk.u8_in,IntWalk.i32_in,IntWalk.u32_in,ye,zk,zm,qj,qk,qm,qn,zb,zc,zn,zp,zq,qo,zd,ze,zr,zt,zu,j3,x7,zw,zf,za,zx,qp,zy,zg,zz,z6,qq,zh,yf,qr,aop,yq,j4,j5,x8,x9,jd,j6,j7,wb,je,j8,yr,j9,wg,jf,jg,xa,xb,z7,jh,z8,ji,jj,yt,yu,xc,AV.one,wh,wi,aun,jk,xd,yw,afn,xe,Out.ren,xf,xg,jl,wj,xh,wl,jm,Eng.distinct,pos,wn,Eng.ren,wo,xi,wp,jo,wq,yg,xj,ws,wu,jp,frz,yx,yz,wv,List.lookup_cons,jq,zi,jr,js,List.range_succ,jt,xk,ju,xm,↓yh,↓yi,↓qt,↓y6,↓qu,↓qa,↓yj,↓yk,↓qv,↓qw,↓qx,↓qy,↓qb,↓qz,qc,ww,xn,jv,jw,yl,qd,qe,zj,wx,y7,jx,xp,xq,keq,y8,wy,qf,y9,ym,xr,jy,jz,xt,j0,wz,ja,j1,xu,xv,xw,jb,q5,q6,yn,q7,j2,Option.map_some,yo,qg,q8,q9,qh,ya,xx,yb,yp,yc,xy,w5,xz,x5,w6,jc,x6,Op.operands,Call.operands,yd,qi,w7,AObj.live]
  · rw [if_neg hm] at h2
    simp -implicitDefEqProofs [R, h1, h2, h3, hm, h7, intbne, intbeq, mach_draw, IntWalk.i64_in,IntWalk.u64_in,IntWalk.u8_in,IntWalk.i32_in,IntWalk.u32_in,ye,zk,zm,qj,qk,qm,qn,zb,zc,zn,zp,zq,qo,zd,ze,zr,zt,zu,j3,x7,zw,zf,za,zx,qp,zy,zg,zz,z6,qq,zh,yf,qr,aop,yq,j4,j5,x8,x9,jd,j6,j7,wb,je,j8,yr,j9,wg,jf,jg,xa,xb,z7,jh,z8,ji,jj,yt,yu,xc,AV.one,wh,wi,aun,jk,xd,yw,afn,xe,Out.ren,xf,xg,jl,wj,xh,wl,jm,Eng.distinct,pos,wn,Eng.ren,wo,xi,wp,jo,wq,yg,xj,ws,wu,jp,frz,yx,yz,wv,List.lookup_cons,jq,zi,jr,js,List.range_succ,jt,xk,ju,xm,↓yh,↓yi,↓qt,↓y6,↓qu,↓qa,↓yj,↓yk,↓qv,↓qw,↓qx,↓qy,↓qb,↓qz,qc,ww,xn,jv,jw,yl,qd,qe,zj,wx,y7,jx,xp,xq,keq,y8,wy,qf,y9,ym,xr,jy,jz,xt,j0,wz,ja,j1,xu,xv,xw,jb,q5,q6,yn,q7,j2,Option.map_some,yo,qg,q8,q9,qh,ya,xx,yb,yp,yc,xy,w5,xz,x5,w6,jc,x6,Op.operands,Call.operands,yd,qi,w7,AObj.live]
end Go.Proofs.YtblejchodicaoaaGreatDoor.Eng

/-
  PLAIN LAW: the object of an answer that may be, may be. Own work.
-/
namespace Go.Proofs.YtblejchodicaoaaGreatDoor.Eng
open Go Go.RowKit
set_option maxRecDepth 100000

theorem deepL_nn : ∀ l : List V, 0 ≤ deepL l
  | [] => by simp [deepL]
  | x :: r => by have := deepL_nn r; simp only [deepL]; omega
theorem deepO_nn : ∀ l : List M, 0 ≤ deepO l
  | [] => by simp [deepO]
  | x :: r => by have := deepO_nn r; simp only [deepO]; omega
theorem bare_all {v : V} (h : bareV v = true) : (v.k = 5 ∨ v.l = []) ∧ (v.k = 6 ∨ v.o = []) := by
  simp only [bareV, decide_eq_true_eq] at h
  exact ⟨h.2.2.2.2.2.1, h.2.2.2.2.2.2⟩
mutual
theorem mayV_shift {valid : List UInt8 → Bool} : ∀ (v : V) (d d' : Int), mayV valid v d = 0 → d' + deepV v ≤ 65 → mayV valid v d' = 0
  | .mk k b n t l o, d, d', h, hd => by
    simp only [mayV] at h ⊢
    split at h
    · omega
    rename_i h1
    split at h
    · omega
    split at h
    · omega
    rename_i h3
    have hb : bareV (.mk k b n t l o) = true := by simpa using h1
    obtain ⟨b1, b2⟩ := bare_all hb
    simp only [V.k, V.l, V.o] at b1 b2
    have hL := deepL_nn l
    have hO := deepO_nn o
    have hl0 : mayL valid l (d + 1) = 0 := by
      split at h
      · assumption
      · exact h
    have ho0 : mayO valid none o (d + 1) = 0 := by rw [if_pos hl0] at h; exact h
    have hd1 : d' ≤ 64 := by
      simp only [deepV] at hd
      split at hd
      · omega
      · split at hd <;> omega
    rw [if_neg h1, if_neg (by omega), if_neg h3]
    have hl1 : mayL valid l (d' + 1) = 0 := by
      rcases b1 with e | e
      · refine mayL_shift l (d + 1) (d' + 1) hl0 ?_
        simp only [deepV, e] at hd
        simp at hd
        omega
      · rw [e]; rfl
    have ho1 : mayO valid none o (d' + 1) = 0 := by
      rcases b2 with e | e
      · refine mayO_shift none o (d + 1) (d' + 1) ho0 ?_
        simp only [deepV, e] at hd
        simp at hd
        omega
      · rw [e]; rfl
    rw [if_pos hl1, ho1]
theorem mayM_shift {valid : List UInt8 → Bool} : ∀ (m : M) (d d' : Int), mayM valid m d = 0 → d' + deepM m ≤ 65 → mayM valid m d' = 0
  | .mk _ v, d, d', h, hd => by
    simp only [mayM, deepM] at h hd ⊢
    exact mayV_shift v d d' h hd
theorem mayL_shift {valid : List UInt8 → Bool} : ∀ (l : List V) (d d' : Int), mayL valid l d = 0 → d' + deepL l ≤ 65 → mayL valid l d' = 0
  | [], _, _, _, _ => rfl
  | x :: r, d, d', h, hd => by
    simp only [mayL, deepL] at h hd ⊢
    by_cases hx : mayV valid x d = 0
    · rw [if_pos hx] at h
      rw [if_pos (mayV_shift x d d' hx (by omega))]
      exact mayL_shift r d d' h (by omega)
    · rw [if_neg hx] at h
      exact absurd h hx
theorem mayO_shift {valid : List UInt8 → Bool} : ∀ (p : Option (List UInt8)) (l : List M) (d d' : Int), mayO valid p l d = 0 → d' + deepO l ≤ 65 → mayO valid p l d' = 0
  | _, [], _, _, _, _ => rfl
  | p, m :: r, d, d', h, hd => by
    simp only [mayO, deepO] at h hd ⊢
    by_cases c1 : valid m.key = false
    · rw [if_pos c1] at h; omega
    rw [if_neg c1] at h ⊢
    cases p with
    | none =>
      dsimp only at h ⊢
      rw [if_neg Bool.false_ne_true] at h ⊢
      by_cases hx : mayM valid m d = 0
      · rw [if_pos hx] at h
        rw [if_pos (mayM_shift m d d' hx (by omega))]
        exact mayO_shift (some m.key) r d d' h (by omega)
      · rw [if_neg hx] at h
        exact absurd h hx
    | some q =>
      dsimp only at h ⊢
      by_cases c : (Op.bytesLess m.key q || m.key == q) = true
      · rw [if_pos c] at h; cases h
      · rw [if_neg c] at h ⊢
        by_cases hx : mayM valid m d = 0
        · rw [if_pos hx] at h
          rw [if_pos (mayM_shift m d d' hx (by omega))]
          exact mayO_shift (some m.key) r d d' h (by omega)
        · rw [if_neg hx] at h
          exact absurd h hx
end

theorem may_tV (s : List UInt8) (d : Int) (hd : d ≤ 64) (h : validU s = true) : mayV validU (tV s) d = 0 := by
  have : ¬ 64 < d := by omega
  simp [tV, mayV, mayL, mayO, bareV, V.k, V.b, V.n, V.t, V.l, V.o, this, h]
theorem valid_nil : validU [] = true := by kernel_rfl
theorem may_iV (n d : Int) (hd : d ≤ 64) : mayV validU (iV n) d = 0 := by
  have : ¬ 64 < d := by omega
  simp [iV, mayV, mayL, mayO, bareV, V.k, V.b, V.n, V.t, V.l, V.o, this, valid_nil]
theorem may_lV (l : List V) (d : Int) (hd : d ≤ 64) (h : ∀ x ∈ l, mayV validU x (d + 1) = 0) : mayV validU (lV l) d = 0 := by
  have h64 : ¬ 64 < d := by omega
  have hl : mayL validU l (d + 1) = 0 := by
    induction l with
    | nil => rfl
    | cons x r ih =>
      simp only [mayL]
      rw [if_pos (h x (by simp))]
      exact ih fun y hy => h y (by simp [hy])
  simp [lV, mayV, mayO, bareV, V.k, V.b, V.n, V.t, V.l, V.o, h64, valid_nil, hl]
theorem may_oV (l : List M) (d : Int) (hd : d ≤ 64) (h : mayO validU none l (d + 1) = 0) : mayV validU (oV l) d = 0 := by
  have h64 : ¬ 64 < d := by omega
  simp [oV, mayV, mayL, bareV, V.k, V.b, V.n, V.t, V.l, V.o, h64, valid_nil, h]
theorem v_key : validU kKey = true := by kernel_rfl
theorem v_op : validU kOp = true := by kernel_rfl
theorem v_value : validU kValue = true := by kernel_rfl
theorem v_put : validU kPut = true := by kernel_rfl
theorem v_del : validU kDel = true := by kernel_rfl
theorem v_clear : validU kClear = true := by kernel_rfl
theorem l_op1 : Op.bytesLess kOp kKey = false := by decide
theorem l_op2 : (kOp = kKey) = False := by decide
theorem l_value1 : Op.bytesLess kValue kOp = false := by decide
theorem l_value2 : (kValue = kOp) = False := by decide
theorem may_opV (p : PO) (hk : p.k = 1 ∨ p.k = 2 ∨ p.k = 3) (hkey : ¬ p.k = 3 → validU p.key = true) (hv : p.k = 1 → mayV validU p.v 4 = 0) : mayV validU (opV p) 3 = 0 := by
  unfold opV
  rcases hk with hk | hk | hk
  · rw [if_pos hk]
    refine may_oV _ 3 (by decide) ?_
    have e1 : mayV validU (tV p.key) 4 = 0 := may_tV _ _ (by decide) (hkey (by omega))
    have e2 : mayV validU (tV kPut) 4 = 0 := may_tV _ _ (by decide) v_put
    have e3 := hv hk
    simp [mayO, mayM, M.key, M.v, v_key, v_op, v_value, e1, e2, e3, l_op1, l_op2, l_value1, l_value2]
  · rw [if_neg (by omega), if_pos hk]
    refine may_oV _ 3 (by decide) ?_
    have e1 : mayV validU (tV p.key) 4 = 0 := may_tV _ _ (by decide) (hkey (by omega))
    have e2 : mayV validU (tV kDel) 4 = 0 := may_tV _ _ (by decide) v_del
    simp [mayO, mayM, M.key, M.v, v_key, v_op, e1, e2, l_op1, l_op2]
  · rw [if_neg (by omega), if_neg (by omega)]
    refine may_oV _ 3 (by decide) ?_
    have e2 : mayV validU (tV kClear) 4 = 0 := may_tV _ _ (by decide) v_clear
    simp [mayO, mayM, M.key, M.v, v_op, e2]
theorem v_base : validU kBase = true := by kernel_rfl
theorem v_client : validU kClient = true := by kernel_rfl
theorem v_cookie : validU kCookie = true := by kernel_rfl
theorem v_last : validU kLast = true := by kernel_rfl
theorem v_patch : validU kPatch = true := by kernel_rfl
theorem l_client1 : Op.bytesLess kClient kBase = false := by decide
theorem l_client2 : (kClient = kBase) = False := by decide
theorem l_cookie1 : Op.bytesLess kCookie kClient = false := by decide
theorem l_cookie2 : (kCookie = kClient) = False := by decide
theorem l_last1 : Op.bytesLess kLast kCookie = false := by decide
theorem l_last2 : (kLast = kCookie) = False := by decide
theorem l_patch1 : Op.bytesLess kPatch kLast = false := by decide
theorem l_patch2 : (kPatch = kLast) = False := by decide
theorem may_respM (c b k t : Int) (l : List V) (h : ∀ x ∈ l, mayV validU x 3 = 0) : mayTop (oV (respM c b k t (lV l))) = 0 := by
  refine may_oV _ 1 (by decide) ?_
  have e := may_lV l 2 (by decide) h
  have i : ∀ n, mayV validU (iV n) 2 = 0 := fun n => may_iV n 2 (by decide)
  simp [respM, mayO, mayM, M.key, M.v, v_base, v_client, v_cookie, v_last, v_patch, e, i, l_client1, l_client2, l_cookie1, l_cookie2, l_last1, l_last2, l_patch1, l_patch2]

theorem fits_parts {v : V} (h : fitsV v = 0) : mayTop v = 0 ∧ deepV v ≤ 16 := by
  unfold fitsV at h
  split at h
  · cases h
  · rename_i hc
    have hm : mayTop v = 0 := by
      apply Classical.byContradiction
      intro hn
      simp only [shortV, if_neg hn] at h
      exact hn h
    refine ⟨hm, ?_⟩
    apply Classical.byContradiction
    intro hd
    exact hc ⟨.inl h, by omega⟩
theorem poMay_parts {o : PO} {ahead : List PO} (h : poMay o ahead = 0) : (o.k = 1 ∨ o.k = 2 ∨ o.k = 3) ∧ (¬ o.k = 3 → validU o.key = true) ∧ (o.k = 1 → fitsV o.v = 0) := by
  unfold poMay at h
  by_cases h1 : o.k < 1 ∨ 3 < o.k
  · rw [if_pos h1] at h; cases h
  rw [if_neg h1] at h
  have hk : o.k = 1 ∨ o.k = 2 ∨ o.k = 3 := by omega
  refine ⟨hk, ?_⟩
  by_cases h2 : ¬ o.k = 1 ∧ blankV o.v = false
  · rw [if_pos h2] at h; cases h
  rw [if_neg h2] at h
  by_cases h3 : o.k = 3
  · exact ⟨fun e => absurd h3 e, fun e => by omega⟩
  rw [if_neg h3] at h
  have h' : (if ¬ keyMay o.key = 0 then 8 else if o.k = 1 then fitsV o.v else 0) = (0 : Int) := by
    generalize (if ¬ keyMay o.key = 0 then (8 : Int) else if o.k = 1 then fitsV o.v else 0) = X at h ⊢
    revert h
    repeat' split
    all_goals first | exact fun h => h | (intro h; cases h; done)
  by_cases h4 : ¬ keyMay o.key = 0
  · rw [if_pos h4] at h'; cases h'
  rw [if_neg h4] at h'
  refine ⟨fun _ => ?_, fun e => by rw [if_pos e] at h'; exact h'⟩
  have h5 : keyMay o.key = 0 := Classical.not_not.1 h4
  unfold keyMay at h5
  split at h5
  · cases h5
  · split at h5
    · cases h5
    · split at h5
      · assumption
      · cases h5
theorem poMayL_mem : ∀ (l pre : List PO), poMayL pre l = 0 → ∀ p ∈ l, ∃ q, poMay p q = 0
  | [], _, _, p, hp => by cases hp
  | o :: r, pre, h, p, hp => by
    simp only [poMayL] at h
    by_cases ho : poMay o pre = 0
    · rw [if_pos ho] at h
      rcases List.mem_cons.1 hp with rfl | hp
      · exact ⟨pre, ho⟩
      · exact poMayL_mem r _ h p hp
    · rw [if_neg ho] at h
      exact absurd h ho
/-- An answer's object may be. -/
theorem may_resp {c b k t : Int} {l : List PO} (h : poMayL [] l = 0) : mayTop (oV (respM c b k t (lV (l.map opV)))) = 0 := by
  refine may_respM c b k t _ fun x hx => ?_
  obtain ⟨p, hp, rfl⟩ := List.mem_map.1 hx
  obtain ⟨q, hq⟩ := poMayL_mem l [] h p hp
  obtain ⟨h1, h2, h3⟩ := poMay_parts hq
  refine may_opV p h1 h2 fun e => ?_
  obtain ⟨f1, f2⟩ := fits_parts (h3 e)
  exact mayV_shift p.v 1 4 f1 (by omega)
end Go.Proofs.YtblejchodicaoaaGreatDoor.Eng

/-
  Patches by their bulk. Own work.
-/
namespace Go.Proofs.YtblejchodicaoaaGreatDoor.Eng
open Go Go.RowKit

/-- Patches whose ops are together of bulk at most so much. -/
def PSum (l : List PO) : Prop := (l.map fun p => p.v.size + p.key.length).sum ≤ 1048576 ∧ ∀ p ∈ l, p.v.ok
theorem psum_mem : ∀ {l : List PO} {p : PO}, p ∈ l → p.v.size + p.key.length ≤ (l.map fun p => p.v.size + p.key.length).sum
  | a :: r, p, hp => by
    simp only [List.map_cons, List.sum_cons]
    rcases List.mem_cons.1 hp with rfl | hp
    · omega
    · have := psum_mem hp; omega
theorem psum_len : ∀ l : List PO, l.length ≤ (l.map fun p => p.v.size + p.key.length).sum
  | [] => by simp
  | a :: r => by
    have := psum_len r
    have := V.size_eq a.v
    simp only [List.map_cons, List.sum_cons, List.length_cons]
    omega
theorem PSum.pos {l : List PO} (h : PSum l) : POs l := by
  refine ⟨by have := psum_len l; have := h.1; omega, fun p hp => ⟨h.2 p hp, ?_, ?_⟩⟩ <;> (have := psum_mem hp; have := h.1; omega)
end Go.Proofs.YtblejchodicaoaaGreatDoor.Eng

/-
  TIES: sorting however members stand; objects; what PullForms asks; PullForms. Own work.
-/
namespace Go.Proofs.YtblejchodicaoaaGreatDoor.Eng
open Go Go.RowKit
set_option maxRecDepth 100000
set_option linter.unusedSimpArgs false

/-! ### Sorting -/
def cInsertionG : CtU := ctI 146 (by decide) (fun l : List M => l ≠ [] ∧ l.length ≤ 1099511627776) (fun l => [.sl 0 7 0 l.length, .d (.int .i64 0), .d (.int .i64 l.length), .d (.fn (.func 87) [] [])]) (fun l => [mrow l]) (fun _ => .ret (.tup [])) (fun l => [mrow' (isort l)]) (fun _ => rfl)
  (fun a b _ h => mrow_inj h)
  fun l hl => mk { keep := [(6, [0, 1, 2, 3, 8]), (402, [0, 1, 2, 3, 8, 9])], outs := [(6, []), (402, [0, 1, 2, 3, 8])] } false (octs_ok [cObject1]) (by kernel_rfl) (b_insertionG (octs [cObject1]) l hl.1 hl.2 (fun a b => octs_here (c := cObject1) ⟨(a, b), trivial⟩ rfl rfl rfl))
def cStableG : CtU := ctI 119 (by decide) (fun l : List M => l ≠ [] ∧ l.length < 20) (fun l => [.sl 0 7 0 l.length, .d (.int .i64 l.length), .d (.fn (.func 87) [] [])]) (fun l => [mrow l]) (fun _ => .ret (.tup [])) (fun l => [mrow' (isort l)]) (fun _ => rfl)
  (fun a b _ h => mrow_inj h)
  fun l hl => mk { keep := [(28, [0, 1, 2, 6, 7, 8]), (62, [0, 1, 2, 6]), (3988, [0, 1, 2, 6, 7, 8])], outs := [(28, [0, 1, 2, 6, 7]), (62, []), (3988, [0, 1, 2, 6, 7])] } false (octs_ok [cInsertionG]) (by kernel_rfl) (b_stableG (octs [cInsertionG]) l (isort l) hl.2 (octs_here (c := cInsertionG) ⟨l, hl.1, by omega⟩ rfl rfl rfl))
def cSortStableG : CtU := ctI 86 (by decide) (fun l : List M => l ≠ [] ∧ l.length < 20) (fun l => [.sl 0 7 0 l.length, .d (.fn (.func 87) [] [])]) (fun l => [mrow l]) (fun _ => .ret (.tup [])) (fun l => [mrow' (isort l)]) (fun _ => rfl)
  (fun a b _ h => mrow_inj h)
  fun l hl => mk {} false (octs_ok [cStableG]) (by kernel_rfl) (b_SortStableG (octs [cStableG]) l (isort l) (octs_here (c := cStableG) ⟨l, hl⟩ rfl rfl rfl))
def cObjectG : CtU := ctI 56 (by decide) (fun l : List M => l ≠ [] ∧ l.length < 20 ∧ strictM (isort l) ∧ M.sizes l < 1099511627776) (fun l => [.d (.rs 7 (l.map encM))]) (fun _ => []) (fun l => .ret (.tup [avV (oV (isort l)), .d (.int .i64 0)])) (fun _ => []) (fun l => by simp [fAs, fA, fLM]) inj_lm
  fun l hl => (mk { keep := [(122, [0, 2, 4])], outs := [(122, [0, 2, 3])] } true (octs_ok [cCopy, cSortStableG]) (by kernel_rfl) (b_ObjectG (octs [cCopy, cSortStableG]) l (isort l) (isort_len l).symm (by intro e; have := congrArg List.length e; rw [isort_len] at this; exact hl.1 (List.length_eq_zero_iff.1 this)) (by rw [isort_len]; exact hl.2.1) hl.2.2.1
    (octs_here (c := cCopy) ⟨.mk 0 false 0 [] [] l, by simp [V.size, V.sizes]; omega⟩ rfl rfl rfl) ((octs_nx rfl).trans (octs_here (c := cSortStableG) ⟨l, hl.1, hl.2.1⟩ rfl rfl rfl)))).weak rfl (by simp [fO, fA, fAs, fav, fD])

/-! ### Patches' objects -/
theorem isort_opM (p : PO) (hk : p.k = 1 ∨ p.k = 2 ∨ p.k = 3) : oV (isort (opM p)) = opV p ∧ strictM (isort (opM p)) := by
  have a1 : cmpT kKey kValue < 0 := by decide
  have a2 : cmpT kOp kValue < 0 := by decide
  have a3 : ¬ cmpT kOp kKey < 0 := by decide
  have e1 : isort (opM p) = if p.k = 1 then [⟨kKey, tV p.key⟩, ⟨kOp, tV kPut⟩, ⟨kValue, p.v⟩] else opM p := by
    rcases hk with hk | hk | hk
    · simp [opM, hk, isort, isortGo, insB, insR, M.key, a1, a2, a3]
    · simp [opM, hk, isort, isortGo, insB, insR, M.key, a3]
    · simp [opM, hk, isort, isortGo]
  rw [e1]
  rcases hk with hk | hk | hk
  · simp only [opV, if_pos hk]
    exact ⟨trivial, ⟨by show 0 ≤ cmpT kOp kKey; decide, by show (kOp == kKey) = false; decide⟩, ⟨by show 0 ≤ cmpT kValue kOp; decide, by show (kValue == kOp) = false; decide⟩, trivial⟩
  · have h1 : ¬ p.k = 1 := by omega
    simp only [opV, opM, if_neg h1, if_pos hk]
    exact ⟨trivial, ⟨by show 0 ≤ cmpT kOp kKey; decide, by show (kOp == kKey) = false; decide⟩, trivial⟩
  · have h1 : ¬ p.k = 1 := by omega
    have h2 : ¬ p.k = 2 := by omega
    simp only [opV, opM, if_neg h1, if_neg h2]
    exact ⟨trivial, trivial⟩
theorem opM_ne (p : PO) : opM p ≠ [] := by
  unfold opM
  split
  · simp
  · split <;> simp
theorem opM_len (p : PO) : (opM p).length < 20 := by
  unfold opM
  split
  · simp
  · split <;> simp
theorem opM_size (p : PO) : M.sizes (opM p) ≤ p.v.size + p.key.length + 19 := by
  unfold opM
  split
  · simp [M.sizes, M.size, V.size, V.sizes, tV, kKey, kOp, kValue, kPut] <;> omega
  · split
    · simp [M.sizes, M.size, V.size, V.sizes, tV, kKey, kOp, kDel] <;> omega
    · simp [M.sizes, M.size, V.size, V.sizes, tV, kOp, kClear] <;> omega
def cPobjectG : CtU := ctI 55 (by decide) (fun p : PO => (p.k = 1 ∨ p.k = 2 ∨ p.k = 3) ∧ p.v.size + p.key.length ≤ 1048576) (fun p => [avO p]) (fun _ => []) (fun p => .ret (avV (opV p))) (fun _ => []) (fun a => by show fAs [avPO a] = true; simp [fAs, avPO_full])
  (fun a b h _ => by
    simp only [nAs, List.cons.injEq, and_true] at h
    exact avO_inj h)
  fun p hp => mk {} true (frO_ok (fs := [56]) (octs_ok [cCopy, cPtext, cObjectG])) (by kernel_rfl) (b_pobject (frO [56] (octs [cCopy, cPtext, cObjectG])) p hp.1
      ((frO_other rfl).trans (octs_here (c := cCopy) ⟨p.v, by have := hp.2; omega⟩ rfl rfl rfl))
      (fun s => (frO_other rfl).trans ((octs_nx rfl).trans (octs_here (c := cPtext) ⟨s, trivial⟩ rfl rfl rfl)))
      (fun es he => frO_one rfl (by decide) (by have := congrArg List.length he; simpa [nDe_len] using this.symm) (fun m => rfl)
        (by
          have h := (octs_nx (c := cCopy) rfl).trans ((octs_nx (c := cPtext) rfl).trans (octs_here (c := cObjectG) (r := []) ⟨opM p, opM_ne p, opM_len p, (isort_opM p hp.1).2, by have := opM_size p; have := hp.2; omega⟩ rfl (show nAs [.d (.rs 7 es)] = nAs [.d (.rs 7 ((opM p).map encM))] from by simp only [nAs, nA, nD_rs_mk he]) rfl))
          have e : cObjectG.out ⟨opM p, opM_ne p, opM_len p, (isort_opM p hp.1).2, by have := opM_size p; have := hp.2; omega⟩ = .ret (.tup [avV (opV p), .d (.int .i64 0)]) := by
            show Out.ret (.tup [avV (oV (isort (opM p))), .d (.int .i64 0)]) = _
            rw [(isort_opM p hp.1).1]
          rw [e] at h
          exact h)))
theorem may_k {l : List PO} (h : poMayL [] l = 0) : ∀ p ∈ l, p.k = 1 ∨ p.k = 2 ∨ p.k = 3 := fun p hp => by
  obtain ⟨q, hq⟩ := poMayL_mem l [] h p hp
  exact (poMay_parts hq).1
def cPListG : CtU := ctI 29 (by decide) (fun l : List PO => PSum l ∧ poMayL [] l = 0) (fun l => [.d (.rs 8 (l.map encPO))]) (fun _ => []) (fun l => .ret (.tup [avV (lV (l.map opV)), .d (.int .i64 0)])) (fun _ => []) full_pos inj_pos
  fun l hl => by
    have h := mk { keep := [(122, [2, 5, 15, 16, 17])], wins := [(7833, [[], [4, 5]])], outs := [(122, [2, 3, 5])] } true (octs_ok [cPatchMay, cPobjectG]) (by kernel_rfl) (b_pList (octs [cPatchMay, cPobjectG]) l hl.1.pos.1 (octs_here (c := cPatchMay) ⟨l, hl.1.pos⟩ rfl rfl rfl)
      (fun _ p hp => (octs_nx rfl).trans (octs_here (c := cPobjectG) ⟨p, may_k hl.2 p hp, by have := psum_mem hp; have := hl.1.1; omega⟩ rfl rfl rfl)))
    rw [if_pos hl.2, hl.2] at h
    refine h.weak ?_ (by simp [fO, fA, fAs, fav, fD])
    by_cases e : l = []
    · subst e; rfl
    · simp [nO, nA, nAs, lA, slD, e, avV, lV, V.l, V.o, V.k, V.b, V.n, V.t, nD, List.map_map, Function.comp_def]
end Go.Proofs.YtblejchodicaoaaGreatDoor.Eng

/-
  READINGS: what a row's arguments read as, in the engine's words; what its listed tables hold. Own work.
-/
namespace Go.Proofs.YtblejchodicaoaaGreatDoor.Eng
open Go Go.RowKit Go.ChangeShapes Go.WideShapes Go.Deep
set_option maxRecDepth 100000
set_option linter.unusedSimpArgs false


section
variable {H : Type} {enc : TypeId × Value → H} {w : World} {st : Nat → Prop} {sp : Nat → Bool} {hd : Bool}

theorem bulk_one (d : DataW H) : 1 ≤ Rows.uptoBulk d := by
  cases d with
  | lit l => cases l <;> simp [Rows.uptoBulk]
  | _ => simp [Rows.uptoBulk]
theorem cells_GDs {b : Nat} : ∀ (ds : List D) (cs : List Value) (off : Nat), (∀ i, i < cs.length → w.cell? ⟨b, off + i, none⟩ = cs[i]?) → GDl w st ds cs → GDs w st ds b off
  | [], _, _, _, _ => by simp [GDs]
  | x :: r, cs, off, h, hg => by
    simp only [GDl] at hg
    obtain ⟨v, q, rfl, hx, hr⟩ := hg
    simp only [GDs]
    refine ⟨⟨v, by simpa using h 0 (by simp), hx⟩, cells_GDs r q (off + 1) (fun i hi => ?_) hr⟩
    have := h (i + 1) (by simp; omega)
    rw [show off + 1 + i = off + (i + 1) from by omega, this]
    simp
theorem rowGD {b off n : Nat} {cs : List Value} {ds : List D} (h : w.cells? 0 ⟨b, off, none⟩ n = some cs) (hg : GDl w st ds cs) : GDs w st ds b off := by
  obtain ⟨_, hl, hc⟩ := World.cells?_some h
  exact cells_GDs ds cs off (fun i hi => by rw [← hc i (by omega), add_plain]) hg

theorem rowsGD {α : Type} (sz : Nat) (encA : α → List D) (hlen : ∀ a, (encA a).length = sz) (ok : α → Prop) (size : α → Nat) : ∀ (len : Nat) (Dd : Nat → DataW H) (b off : Nat),
    (∀ i, i < len → ∃ cs, w.cells? 0 ⟨b, off + i * sz, none⟩ sz = some cs ∧ ∃ a, GDl w st (encA a) cs ∧ ok a ∧ size a ≤ Rows.uptoBulk (Dd i)) →
    ∃ l : List α, l.length = len ∧ GDe w st sz (l.map encA) b off ∧ (∀ a ∈ l, ok a) ∧ (l.map size).sum ≤ Rows.uptoBulkAll ((List.range len).map Dd)
  | 0, _, _, _, _ => ⟨[], rfl, by simp [GDe], by simp, by simp⟩
  | n + 1, Dd, b, off, h => by
    obtain ⟨cs, hc, a, ha, ho, hs⟩ := h 0 (by omega)
    obtain ⟨l, h1, h2, h3, h4⟩ := rowsGD sz encA hlen ok size n (fun i => Dd (i + 1)) b (off + sz) (fun i hi => by
      obtain ⟨cs', hc', r⟩ := h (i + 1) (by omega)
      refine ⟨cs', ?_, r⟩
      rw [show off + sz + i * sz = off + (i + 1) * sz from by rw [Nat.add_mul]; omega]
      exact hc')
    refine ⟨a :: l, by simp [h1], ?_, ?_, ?_⟩
    · simp only [List.map_cons, GDe]
      exact ⟨hlen a, rowGD (by simpa using hc) ha, h2⟩
    · intro x hx
      rcases List.mem_cons.1 hx with rfl | hx
      · exact ho
      · exact h3 x hx
    · rw [List.range_succ_eq_map]
      simp only [List.map_cons, List.sum_cons, List.map_map, Rows.uptoBulkAll] at h4 ⊢
      have e : (Dd ∘ Nat.succ) = fun i => Dd (i + 1) := rfl
      rw [e]
      omega
theorem bulkA_mem {l : List (DataW H)} {d : DataW H} (h : d ∈ l) : Rows.uptoBulk d ≤ Rows.uptoBulkAll l := by
  induction l with
  | nil => cases h
  | cons x r ih =>
    simp only [Rows.uptoBulkAll]
    rcases List.mem_cons.1 h with rfl | h
    · omega
    · have := ih h; omega

theorem rdRows {α : Type} (sz : Nat) (hpos : 0 < sz) (encA : α → List D) (hlen : ∀ a, (encA a).length = sz) (ok : α → Prop) (size : α → Nat) {t e : TypeId} (hc : Tryz.prog.cellsOf e = sz) (ht : Tryz.prog.underlying t = some (.slice e))
    (hst : ∀ b off v, w.cell? ⟨b, off, none⟩ = some v → st b) {fuel : Nat} {cs : List Value} {x : DataW H × List MemPlace} (h : DataW.trod enc Tryz.prog w 0 sp hd fuel t cs = some x)
    (ih : ∀ (fuel : Nat) (cs : List Value) (y : DataW H × List MemPlace), Rows.uptoBulk y.1 < Rows.uptoBulk x.1 → DataW.trod enc Tryz.prog w 0 sp hd fuel e cs = some y → ∃ a, GDl w st (encA a) cs ∧ ok a ∧ size a ≤ Rows.uptoBulk y.1) :
    ∃ (c : Value) (l : List α), cs = [c] ∧ GD w st (.rs sz (l.map encA)) c ∧ (∀ a ∈ l, ok a) ∧ (l.map size).sum + 1 ≤ Rows.uptoBulk x.1 := by
  rcases open_slice ht h with ⟨rfl, rfl⟩ | ⟨a, len, cap, m, n, Dd, Pl, rfl, _, hl, _, hm, rfl, hx⟩
  · exact ⟨_, [], rfl, by simp [GD], by simp, by simpa using bulk_one (DataW.nil (H := H))⟩
  · have hlm : len ≤ m := by rw [hm]; split <;> omega
    have hb : Rows.uptoBulkAll ((List.range len).map Dd) + 1 ≤ Rows.uptoBulk (DataW.slice ((List.range len).map Dd) ((List.range (m - len)).map fun j => Dd (len + j))) := by
      simp only [Rows.uptoBulk]
      omega
    rw [hc] at hx
    by_cases h0 : len = 0
    · subst h0
      refine ⟨_, [], rfl, ?_, by simp, ?_⟩
      · simp only [List.map_nil, GD]
        exact .inl ⟨rfl, _, _, rfl⟩
      · simpa using bulk_one _
    obtain ⟨b, off, rfl⟩ : ∃ b off, a = ⟨b, off, none⟩ := by
      obtain ⟨cs', h1, _⟩ := hx 0 (by omega)
      obtain ⟨_, h2, h3⟩ := World.cells?_some h1
      have h4 := h3 0 hpos
      obtain ⟨b, off, s⟩ := a
      have h5 : cs'[0]? = some cs'[0] := List.getElem?_eq_getElem (by omega)
      rw [h5] at h4
      unfold World.cell? at h4
      simp only [Nat.zero_mul, Addr.add, if_true] at h4
      split at h4
      · cases s with
        | none => exact ⟨b, off, rfl⟩
        | some q => simp at h4
      · cases h4
    obtain ⟨l, h1, h2, h3, h4⟩ := rowsGD (w := w) (st := st) sz encA hlen ok size len Dd b off (fun i hi => by
      obtain ⟨cs', hc', hd'⟩ := hx i (by omega)
      rw [add_plain] at hc'
      refine ⟨cs', hc', ih _ _ _ ?_ hd'⟩
      have := bulkA_mem (l := (List.range len).map Dd) (d := Dd i) (List.mem_map.2 ⟨i, List.mem_range.2 hi, rfl⟩)
      show Rows.uptoBulk (Dd i) < Rows.uptoBulk (DataW.slice _ _)
      omega)
    refine ⟨_, l, rfl, ?_, h3, by show _ ≤ Rows.uptoBulk (DataW.slice _ _); omega⟩
    simp only [GD, List.length_map]
    refine .inr ⟨b, off, cap, by rw [h1], by omega, ?_, h2⟩
    obtain ⟨cs', hc', _⟩ := hx 0 (by omega)
    obtain ⟨_, h6, h7⟩ := World.cells?_some hc'
    have h8 := h7 0 hpos
    rw [List.getElem?_eq_getElem (by omega : 0 < cs'.length)] at h8
    simp only [Nat.zero_mul, Addr.add, if_true] at h8
    exact hst b off _ h8

theorem six {α : Type} {l : List α} (h : l.length = 6) : ∃ a b c d e f, l = [a, b, c, d, e, f] := by
  match l, h with
  | [a, b, c, d, e, f], _ => exact ⟨a, b, c, d, e, f, rfl⟩
theorem k41 : Tryz.prog.cellsOf 41 = 1 := by kernel_rfl
theorem k4 : Tryz.prog.cellsOf 4 = 1 := by kernel_rfl
theorem k2 : Tryz.prog.cellsOf 2 = 1 := by kernel_rfl
theorem k9 : Tryz.prog.cellsOf 9 = 1 := by kernel_rfl
theorem k22 : Tryz.prog.cellsOf 22 = 1 := by kernel_rfl
theorem k42 : Tryz.prog.cellsOf 42 = 1 := by kernel_rfl
theorem k43 : Tryz.prog.cellsOf 43 = 1 := by kernel_rfl
theorem k25 : Tryz.prog.cellsOf 25 = 1 := by kernel_rfl
theorem k45 : Tryz.prog.cellsOf 45 = 6 := by kernel_rfl
theorem k70 : Tryz.prog.cellsOf 70 = 7 := by kernel_rfl
theorem k62 : Tryz.prog.cellsOf 62 = 1 := by kernel_rfl
theorem k64 : Tryz.prog.cellsOf 64 = 8 := by kernel_rfl

theorem vStruct {fuel : Nat} {cs : List Value} {x : DataW H × List MemPlace} (h : DataW.trod enc Tryz.prog w 0 sp hd fuel 45 cs = some x) :
    ∃ (c0 c1 c2 c3 c4 c5 : Value) (y0 y1 y2 y3 y4 y5 : DataW H × List MemPlace) (n : Nat), cs = [c0, c1, c2, c3, c4, c5] ∧ x.1 = .agg [y0.1, y1.1, y2.1, y3.1, y4.1, y5.1] ∧
      DataW.trod enc Tryz.prog w 0 sp hd n 41 [c0] = some y0 ∧ DataW.trod enc Tryz.prog w 0 sp hd n 4 [c1] = some y1 ∧ DataW.trod enc Tryz.prog w 0 sp hd n 2 [c2] = some y2 ∧
      DataW.trod enc Tryz.prog w 0 sp hd n 9 [c3] = some y3 ∧ DataW.trod enc Tryz.prog w 0 sp hd n 42 [c4] = some y4 ∧ DataW.trod enc Tryz.prog w 0 sp hd n 43 [c5] = some y5 := by
  obtain ⟨xs, n, _, rfl, hl, hxl, hf⟩ := DataW.trod_struct Tryz.underlying45 h
  obtain ⟨y0, y1, y2, y3, y4, y5, rfl⟩ := six hxl
  obtain ⟨c0, c1, c2, c3, c4, c5, rfl⟩ := six (hl.trans k45)
  exact ⟨c0, c1, c2, c3, c4, c5, y0, y1, y2, y3, y4, y5, n, rfl, by simp, by simpa [k41] using hf 0 _ rfl, by simpa [k4] using hf 1 _ rfl, by simpa [k2] using hf 2 _ rfl, by simpa [k9] using hf 3 _ rfl, by simpa [k42] using hf 4 _ rfl, by simpa [k43] using hf 5 _ rfl⟩
theorem mStruct {fuel : Nat} {cs : List Value} {x : DataW H × List MemPlace} (h : DataW.trod enc Tryz.prog w 0 sp hd fuel 70 cs = some x) :
    ∃ (c0 : Value) (r : List Value) (y0 y1 : DataW H × List MemPlace) (n : Nat), cs = c0 :: r ∧ x.1 = .agg [y0.1, y1.1] ∧
      DataW.trod enc Tryz.prog w 0 sp hd n 9 [c0] = some y0 ∧ DataW.trod enc Tryz.prog w 0 sp hd n 45 r = some y1 := by
  obtain ⟨xs, n, _, rfl, hl, hxl, hf⟩ := DataW.trod_struct Tryz.underlying70 h
  rw [k70] at hl
  match xs, hxl, cs, hl with
  | [y0, y1], _, c0 :: r, hl =>
    have hr : r.length = 6 := by simpa using hl
    refine ⟨c0, r, y0, y1, n, rfl, by simp, by simpa [k9] using hf 0 _ rfl, ?_⟩
    have := hf 1 _ rfl
    simpa [k45, List.take_of_length_le (Nat.le_of_eq hr)] using this
theorem pStruct {fuel : Nat} {cs : List Value} {x : DataW H × List MemPlace} (h : DataW.trod enc Tryz.prog w 0 sp hd fuel 64 cs = some x) :
    ∃ (c0 c1 : Value) (r : List Value) (y0 y1 y2 : DataW H × List MemPlace) (n : Nat), cs = c0 :: c1 :: r ∧ x.1 = .agg [y0.1, y1.1, y2.1] ∧
      DataW.trod enc Tryz.prog w 0 sp hd n 62 [c0] = some y0 ∧ DataW.trod enc Tryz.prog w 0 sp hd n 9 [c1] = some y1 ∧ DataW.trod enc Tryz.prog w 0 sp hd n 45 r = some y2 := by
  obtain ⟨xs, n, _, rfl, hl, hxl, hf⟩ := DataW.trod_struct Tryz.underlying64 h
  rw [k64] at hl
  match xs, hxl, cs, hl with
  | [y0, y1, y2], _, c0 :: c1 :: r, hl =>
    have hr : r.length = 6 := by simpa using hl
    refine ⟨c0, c1, r, y0, y1, y2, n, rfl, by simp, by simpa [k62] using hf 0 _ rfl, by simpa [k9] using hf 1 _ rfl, ?_⟩
    have := hf 2 _ rfl
    simpa [k45, List.take_of_length_le (Nat.le_of_eq hr)] using this

theorem in64_of {n : Int} (h : (Lit.int .i64 n).wf = true) : in64 n := by
  have e1 : IntKind.i64.min = -9223372036854775808 := by decide
  have e2 : IntKind.i64.max = 9223372036854775807 := by decide
  show -9223372036854775808 ≤ n ∧ n ≤ 9223372036854775807
  simpa only [Lit.wf, e1, e2, Bool.and_eq_true, decide_eq_true_eq] using h
theorem oks_of : ∀ {l : List V}, (∀ a ∈ l, a.ok) → V.oks l
  | [], _ => trivial
  | _ :: _, h => ⟨h _ (by simp), oks_of fun a ha => h a (by simp [ha])⟩
theorem moks_of : ∀ {l : List M}, (∀ a ∈ l, M.ok a) → M.oks l
  | [], _ => trivial
  | _ :: _, h => ⟨h _ (by simp), moks_of fun a ha => h a (by simp [ha])⟩
theorem sizes_sum : ∀ l : List V, V.sizes l = (l.map V.size).sum
  | [] => rfl
  | _ :: r => by simp [V.sizes, sizes_sum r]
theorem msizes_sum : ∀ l : List M, M.sizes l = (l.map M.size).sum
  | [] => rfl
  | _ :: r => by simp [M.sizes, msizes_sum r]
theorem encPO_len (v : PO) : (encPO v).length = 8 := by rw [encPO, List.length_cons, List.length_cons, encV_len]
theorem str_GD {s : ByteArray} : Value.string s = sval s.data.toList := by simp [sval]

theorem rdV (hst : ∀ b off v, w.cell? ⟨b, off, none⟩ = some v → st b) : ∀ (N fuel : Nat) (cs : List Value) (x : DataW H × List MemPlace), Rows.uptoBulk x.1 < N → DataW.trod enc Tryz.prog w 0 sp hd fuel 45 cs = some x →
    ∃ v : V, GDl w st (encV v) cs ∧ v.ok ∧ v.size ≤ Rows.uptoBulk x.1
  | 0, _, _, _, h, _ => absurd h (Nat.not_lt_zero _)
  | N + 1, fuel, cs, x, hN, h => by
    obtain ⟨c0, c1, c2, c3, c4, c5, y0, y1, y2, y3, y4, y5, n, rfl, hx, h0, h1, h2, h3, h4, h5⟩ := vStruct h
    have hb : Rows.uptoBulk x.1 = 1 + Rows.uptoBulk y0.1 + Rows.uptoBulk y1.1 + Rows.uptoBulk y2.1 + Rows.uptoBulk y3.1 + Rows.uptoBulk y4.1 + Rows.uptoBulk y5.1 := by
      rw [hx]
      simp only [Rows.uptoBulk, Rows.uptoBulkAll]
      omega
    obtain ⟨z0, e0, rfl, w0⟩ := DataW.trod_int Tryz.underlying41 h0
    obtain ⟨z1, e1, rfl⟩ := DataW.trod_bool Tryz.underlying4 h1
    obtain ⟨z2, e2, rfl, w2⟩ := DataW.trod_int Tryz.underlying2 h2
    obtain ⟨z3, e3, rfl, w3⟩ := DataW.trod_string Tryz.underlying9 h3
    simp only [List.cons.injEq, and_true] at e0 e1 e2 e3
    subst e0 e1 e2 e3
    obtain ⟨d4, l, e4, g4, o4, s4⟩ := rdRows 6 (by decide) encV encV_len V.ok V.size k45 Tryz.underlying42 hst h4 (fun fuel cs y hy hd' => rdV hst N fuel cs y (by omega) hd')
    obtain ⟨d5, o, e5, g5, o5, s5⟩ := rdRows 7 (by decide) encM encM_len M.ok M.size k70 Tryz.underlying43 hst h5 (fun fuel cs y hy hd' => by
      obtain ⟨b0, r, u0, u1, m, rfl, hu, hu0, hu1⟩ := mStruct hd'
      have hub : Rows.uptoBulk y.1 = 1 + Rows.uptoBulk u0.1 + Rows.uptoBulk u1.1 := by
        rw [hu]
        simp only [Rows.uptoBulk, Rows.uptoBulkAll]
        omega
      obtain ⟨q0, eq0, rfl, _⟩ := DataW.trod_string Tryz.underlying9 hu0
      simp only [List.cons.injEq, and_true] at eq0
      subst eq0
      obtain ⟨v, gv, ov, sv⟩ := rdV hst N m r u1 (by omega) hu1
      refine ⟨⟨q0.data.toList, v⟩, ?_, ov, ?_⟩
      · rw [encM_eq]
        simp only [GDl, GD]
        exact ⟨_, _, rfl, str_GD, gv⟩
      · simp only [M.size]
        simp only [Rows.uptoBulk] at hub sv ⊢
        rw [hub]
        omega)
    simp only [List.cons.injEq, and_true] at e4 e5
    subst e4 e5
    refine ⟨.mk z0 z1 z2 z3.data.toList l o, ?_, ⟨in64_of w0, in64_of w2, oks_of o4, moks_of o5⟩, ?_⟩
    · rw [encV_eq]
      simp only [GDl, V.k, V.b, V.n, V.t, V.l, V.o]
      exact ⟨_, _, rfl, by simp only [GD], _, _, rfl, by simp only [GD], _, _, rfl, by simp only [GD], _, _, rfl, by simp only [GD]; exact str_GD, _, _, rfl, g4, _, _, rfl, g5, rfl⟩
    · simp only [V.size, sizes_sum, msizes_sum]
      simp only [Rows.uptoBulk] at hb s4 s5 ⊢
      rw [hb]
      omega
theorem rdPO (hst : ∀ b off v, w.cell? ⟨b, off, none⟩ = some v → st b) (fuel : Nat) (cs : List Value) (x : DataW H × List MemPlace) (h : DataW.trod enc Tryz.prog w 0 sp hd fuel 64 cs = some x) :
    ∃ p : PO, GDl w st (encPO p) cs ∧ p.v.ok ∧ p.v.size + p.key.length ≤ Rows.uptoBulk x.1 := by
  obtain ⟨c0, c1, r, y0, y1, y2, n, rfl, hx, h0, h1, h2⟩ := pStruct h
  have hb : Rows.uptoBulk x.1 = 1 + Rows.uptoBulk y0.1 + Rows.uptoBulk y1.1 + Rows.uptoBulk y2.1 := by
    rw [hx]
    simp only [Rows.uptoBulk, Rows.uptoBulkAll]
    omega
  obtain ⟨z0, e0, rfl, _⟩ := DataW.trod_int Tryz.underlying62 h0
  obtain ⟨z1, e1, rfl, _⟩ := DataW.trod_string Tryz.underlying9 h1
  simp only [List.cons.injEq, and_true] at e0 e1
  subst e0 e1
  obtain ⟨v, gv, ov, sv⟩ := rdV hst _ n r y2 (Nat.lt_succ_self _) h2
  refine ⟨⟨z0, z1.data.toList, v⟩, ?_, ov, ?_⟩
  · simp only [encPO, GDl, GD]
    exact ⟨_, _, rfl, rfl, _, _, rfl, str_GD, gv⟩
  · simp only [Rows.uptoBulk] at hb sv ⊢
    rw [hb]
    omega
theorem rdPOs (hst : ∀ b off v, w.cell? ⟨b, off, none⟩ = some v → st b) {fuel : Nat} {cs : List Value} {x : DataW H × List MemPlace} (h : DataW.trod enc Tryz.prog w 0 sp hd fuel 25 cs = some x) (hb : Rows.uptoBulk x.1 ≤ 1048576) :
    ∃ (c : Value) (l : List PO), cs = [c] ∧ GD w st (.rs 8 (l.map encPO)) c ∧ POs l := by
  obtain ⟨c, l, rfl, hg, ho, hs⟩ := rdRows 8 (by decide) encPO encPO_len (fun p => p.v.ok) (fun p => p.v.size + p.key.length) k64 Tryz.underlying25 hst h (fun fuel cs y _ hy => rdPO hst fuel cs y hy)
  have hmem : ∀ (l : List PO) (p : PO), p ∈ l → p.v.size + p.key.length ≤ (l.map fun p => p.v.size + p.key.length).sum := by
    intro l p hp
    induction l with
    | nil => cases hp
    | cons a r ih =>
      simp only [List.map_cons, List.sum_cons]
      rcases List.mem_cons.1 hp with rfl | hp
      · omega
      · have := ih hp; omega
  have hlen : ∀ l : List PO, l.length ≤ (l.map fun p => p.v.size + p.key.length).sum := by
    intro l
    induction l with
    | nil => simp
    | cons a r ih =>
      simp only [List.map_cons, List.sum_cons, List.length_cons]
      have := V.size_eq a.v
      omega
  refine ⟨c, l, rfl, hg, by have := hlen l; omega, fun p hp => ⟨ho p hp, ?_, ?_⟩⟩ <;> (have := hmem l p hp; omega)
end
end Go.Proofs.YtblejchodicaoaaGreatDoor.Eng

/-
  READINGS: what the listed tables hold, as the engine wants it; a patch's arguments; a world for witnesses. Own work.
-/
namespace Go.Proofs.YtblejchodicaoaaGreatDoor.Eng
open Go Go.RowKit Go.ChangeShapes Go.WideShapes Go.Deep
set_option maxRecDepth 100000
set_option linter.unusedSimpArgs false

/-! ### Tables -/
def lay5 : List (String × DataW Unit) := [("math/bits.deBruijn32tab", Rows.laid_math_bits_deBruijn32tab), ("math/bits.deBruijn64tab", Rows.laid_math_bits_deBruijn64tab), ("internal/strconv.uint64pow10", Rows.laid_internal_strconv_uint64pow10), ("unicode/utf8.acceptRanges", Rows.laid_unicode_utf8_acceptRanges), ("unicode/utf8.first", Rows.laid_unicode_utf8_first)]
def firstZ : List Int := (List.range 256).map fun c => ((Lib.firstT c : Nat) : Int)
def acceptZ : List Int := (List.range 32).map fun j => ((if j % 2 = 0 then Lib.accLo (j / 2) else Lib.accHi (j / 2) : Nat) : Int)
theorem data_first : Rows.laid_unicode_utf8_first = Lib.tabData .u8 firstZ := by kernel_rfl
theorem data_pow : (Rows.laid_internal_strconv_uint64pow10 : DataW Unit) = Lib.tabData .u64 Lib.pow10Tab := by kernel_rfl
theorem data_accept : (Rows.laid_unicode_utf8_acceptRanges : DataW Unit) = .agg ((List.range 16).map fun i => .agg ([((Lib.accLo i : Nat) : Int), ((Lib.accHi i : Nat) : Int)].map fun z => .lit (.int .u8 z))) := by kernel_rfl
theorem n0 : Tryz.prog.globalNamed "unicode/utf8.first" = some 0 := by kernel_rfl
theorem n1 : Tryz.prog.globalNamed "unicode/utf8.acceptRanges" = some 1 := by kernel_rfl
theorem n2 : Tryz.prog.globalNamed "internal/strconv.uint64pow10" = some 2 := by kernel_rfl
theorem ty0 : (Tryz.prog.globals[0]?).map (·.type) = some 226 := by kernel_rfl
theorem ty1 : (Tryz.prog.globals[1]?).map (·.type) = some 229 := by kernel_rfl
theorem ty2 : (Tryz.prog.globals[2]?).map (·.type) = some 234 := by kernel_rfl
theorem k5 : Tryz.prog.cellsOf 5 = 1 := by kernel_rfl
theorem k226 : Tryz.prog.cellsOf 226 = 256 := by kernel_rfl
theorem k228 : Tryz.prog.cellsOf 228 = 2 := by kernel_rfl
theorem k229 : Tryz.prog.cellsOf 229 = 32 := by kernel_rfl
theorem k234 : Tryz.prog.cellsOf 234 = 20 := by kernel_rfl

theorem var_tab {w : World} {n : String} {g : Nat} {t e : TypeId} {m : Nat} {k : IntKind} {zs : List Int} (h : Lib.VarReads Tryz.prog w n (Lib.tabData k zs)) (hg : Tryz.prog.globalNamed n = some g) (hty : (Tryz.prog.globals[g]?).map (·.type) = some t)
    (ht : Tryz.prog.underlying t = some (.array m e)) (he : Tryz.prog.underlying e = some (.int k)) (hce : Tryz.prog.cellsOf e = 1) (hct : Tryz.prog.cellsOf t = m) : w.var? Tryz.prog n = some (zs.map fun z => Value.int k z).toArray := by
  obtain ⟨g', t', cs, fuel, p, hg', ht', hvar, hd⟩ := h
  obtain rfl := Option.some.inj (hg.symm.trans hg')
  obtain rfl := Option.some.inj (hty.symm.trans ht')
  rw [hvar, ← Lib.cells_of_tab ht he hce hct hd]
theorem var_accept {w : World} (h : Lib.VarReads Tryz.prog w "unicode/utf8.acceptRanges" Rows.laid_unicode_utf8_acceptRanges) : w.var? Tryz.prog "unicode/utf8.acceptRanges" = some (acceptZ.map fun z => Value.int .u8 z).toArray := by
  obtain ⟨g', t', cs, fuel, p, hg', ht', hvar, hd⟩ := h
  obtain rfl := Option.some.inj (n1.symm.trans hg')
  obtain rfl := Option.some.inj (ty1.symm.trans ht')
  rw [hvar]
  congr 1
  apply Array.toList_inj.1
  have hl : cs.toList.length = 32 := by
    cases fuel with
    | zero => simp [DataW.trod] at hd
    | succ fuel =>
      simp only [DataW.trod, Tryz.underlying229, k229] at hd
      split at hd
      · assumption
      · cases hd
  rw [data_accept] at hd
  apply List.ext_getElem?
  intro j
  by_cases hj : j < 32
  · obtain ⟨fuel', d, q, hdi, he⟩ := Lib.array_elem Tryz.underlying229 hd (j / 2) (by omega)
    simp only [List.getElem?_map, List.getElem?_range (show j / 2 < 16 from by omega), Option.map_some, Option.some.injEq] at hdi
    subst hdi
    rw [k228] at he
    have hcs := Lib.ints_of_struct Tryz.underlying228 (fun i f hf => by
      match i, hf with
      | 0, hf => simp at hf; subst hf; exact ⟨Tryz.underlying5, rfl, k5⟩
      | 1, hf => simp at hf; subst hf; exact ⟨Tryz.underlying5, rfl, k5⟩
      | i + 2, hf => simp at hf) (by rw [k228]; rfl) he
    have e0 := congrArg (·[0]?) hcs
    have e1 := congrArg (·[1]?) hcs
    simp only [List.getElem?_take, List.getElem?_drop] at e0 e1
    have hr : (acceptZ.map fun z => Value.int .u8 z)[j]? = some (.int .u8 ((if j % 2 = 0 then Lib.accLo (j / 2) else Lib.accHi (j / 2) : Nat) : Int)) := by
      simp only [acceptZ, List.getElem?_map, List.getElem?_range hj, Option.map_some]
    simp only [List.toList_toArray]
    rw [hr]
    rcases Nat.mod_two_eq_zero_or_one j with hm | hm
    · rw [show j / 2 * 2 + 0 = j from by omega] at e0
      rw [if_pos hm]
      simpa using e0
    · rw [show j / 2 * 2 + 1 = j from by omega] at e1
      rw [if_neg (by omega)]
      simpa using e1
  · rw [List.getElem?_eq_none (by omega), List.getElem?_eq_none (by simp [acceptZ]; omega)]

theorem ints_GDs {w : World} {st : Nat → Prop} {g : Nat} {k : IntKind} : ∀ (zs : List Int) (off : Nat), (∀ i, i < zs.length → w.cell? ⟨g, off + i, none⟩ = (zs.map fun z => Value.int k z)[i]?) → GDs w st (zs.map fun z => D.int k z) g off
  | [], _, _ => by simp [GDs]
  | z :: r, off, h => by
    simp only [List.map_cons, GDs]
    refine ⟨⟨.int k z, by simpa using h 0 (by simp), by simp only [GD]⟩, ints_GDs r (off + 1) fun i hi => ?_⟩
    have := h (i + 1) (by simp; omega)
    rw [show off + 1 + i = off + (i + 1) from by omega, this]
    simp
theorem tab_GG {w : World} {n : String} {g : Nat} {k : IntKind} {zs : List Int} (hg : Tryz.prog.globalNamed n = some g) (h : w.var? Tryz.prog n = some (zs.map fun z => Value.int k z).toArray) :
    stOf (fun _ => False) w [] [] g ∧ GDs w (stOf (fun _ => False) w [] []) (zs.map fun z => D.int k z) g 0 ∧ csize w g = (zs.map fun z => D.int k z).length := by
  have h2 := World.var?_cell hg h
  unfold World.var? at h
  rw [hg] at h
  simp only [Option.bind_some] at h
  cases hh : w.heap[g]? with
  | none => rw [hh] at h; simp at h
  | some o =>
    have hlt : g < w.heap.size := (Array.getElem?_eq_some_iff.1 hh).1
    refine ⟨⟨⟨hlt, id⟩, fun i hi => by obtain ⟨o, ho, _⟩ := hi; simp at ho⟩, ints_GDs zs 0 (fun i hi => by rw [h2]; simp), ?_⟩
    rw [hh] at h
    cases o with
    | cells c t fr =>
      simp only [Option.some.injEq] at h
      subst h
      simp [csize, hh]
    | _ => simp at h
theorem gg_of {w : World} (h : laidMetH Tryz.prog lay5 w) : GG w (stOf (fun _ => False) w [] []) GU := by
  have h' : laidMet Tryz.prog lay5 w := h
  have r0 : Lib.VarReads Tryz.prog w "unicode/utf8.first" (Lib.tabData .u8 firstZ) := by
    rw [← data_first]
    exact Lib.laidMet.reads h' (by simp [lay5])
  have r2 : Lib.VarReads Tryz.prog w "internal/strconv.uint64pow10" (Lib.tabData .u64 Lib.pow10Tab) := by
    rw [← data_pow]
    exact Lib.laidMet.reads h' (by simp [lay5])
  have v0 := var_tab r0 n0 ty0 Tryz.underlying226 Tryz.underlying5 k5 k226
  have v2 := var_tab r2 n2 ty2 Tryz.underlying234 Tryz.underlying22 k22 k234
  have v1 := var_accept (Lib.laidMet.reads h' (by simp [lay5]))
  have e0 : firstC = firstZ.map fun z => D.int .u8 z := by simp [firstC, firstZ, Function.comp_def]
  have e1 : acceptC = acceptZ.map fun z => D.int .u8 z := by simp only [acceptC, acceptZ, List.map_map, Function.comp_def]
  have e2 : powC = Lib.pow10Tab.map fun z => D.int .u64 z := rfl
  intro g cs hm
  simp only [GU, List.mem_cons, Prod.mk.injEq, List.mem_nil_iff, or_false] at hm
  rcases hm with ⟨rfl, rfl⟩ | ⟨rfl, rfl⟩ | ⟨rfl, rfl⟩
  · rw [e0]; exact tab_GG n0 v0
  · rw [e1]; exact tab_GG n1 v1
  · rw [e2]; exact tab_GG n2 v2
theorem stable {w : World} : ∀ b off v, w.cell? ⟨b, off, none⟩ = some v → stOf (fun _ => False) w [] [] b := by
  intro b off v h
  unfold World.cell? at h
  simp only at h
  cases hh : w.heap[b]? with
  | none => rw [hh] at h; simp at h
  | some o => exact ⟨⟨(Array.getElem?_eq_some_iff.1 hh).1, id⟩, fun i hi => by obtain ⟨o, ho, _⟩ := hi; simp at ho⟩
/-- Calls leave a world below whose old size nothing has turned. -/
theorem below_of {w w' : World} {σ' : List AObj} {β' : List Nat} (E : Evo (fun _ => False) w [] [] w' σ' β') : Below w.heap.size w w' :=
  ⟨E.os, E.tape, E.output, E.size, fun k hk => E.later.same k ⟨⟨hk, id⟩, fun i hi => by obtain ⟨o, ho, _⟩ := hi; simp at ho⟩⟩

/-! ### Arguments -/
section
variable {H : Type} {enc : TypeId × Value → H} {w : World} {sp : Nat → Bool} {hd : Bool} {base : Nat}
theorem rdRq {v : Value} {d : DataW H} {p : List MemPlace} (hv : Value.okWide Tryz.prog w .any base 24 v) (h : DataW.Trod enc Tryz.prog w 0 sp hd 24 v d p) (st : Nat → Prop) (β : List Nat) : ∃ a, GV w st β (avRq a) v := by
  obtain ⟨v0, v1, y0, y1, n, rfl, _, _, h0, h1⟩ := Go.Joins.open_agg2 Tryz.underlying24 (by kernel_rfl) (by kernel_rfl) hv h
  obtain ⟨z0, e0, _, _⟩ := DataW.trod_int Tryz.underlying22 h0
  obtain ⟨z1, e1, _, _⟩ := DataW.trod_int Tryz.underlying22 h1
  simp only [List.cons.injEq, and_true] at e0 e1
  subst e0 e1
  exact ⟨(z0, z1), by simp only [avRq, GV, GVl, GD]; exact ⟨[_, _], rfl, _, _, rfl, rfl, _, _, rfl, rfl, rfl⟩⟩
theorem five {α : Type} {l : List α} (h : l.length = 5) : ∃ a b c d e, l = [a, b, c, d, e] := by
  match l, h with
  | [a, b, c, d, e], _ => exact ⟨a, b, c, d, e, rfl⟩
theorem k27 : Tryz.prog.cellsOf 27 = 5 := by kernel_rfl
theorem rdRs {v : Value} {d : DataW H} {p : List MemPlace} (hv : Value.okWide Tryz.prog w .any base 27 v) (h : DataW.Trod enc Tryz.prog w 0 sp hd 27 v d p) (hb : Rows.uptoBulk d ≤ 1048576) :
    ∃ r : Rs, GV w (stOf (fun _ => False) w [] []) [] (avRs r) v ∧ POs r.l := by
  obtain ⟨cs, rfl, hsz⟩ := okWide_struct Tryz.underlying27 hv
  obtain ⟨fuel, hf⟩ := h
  have hcl : cs.toList.length = 5 := by rw [Array.length_toList, hsz, k27]
  obtain ⟨c0, c1, c2, c3, c4, hc⟩ := five hcl
  obtain ⟨xs, n, _, hx, _, hxl, hall⟩ := DataW.trod_struct Tryz.underlying27 hf
  obtain ⟨y0, y1, y2, y3, y4, rfl⟩ := five hxl
  obtain rfl : cs = #[c0, c1, c2, c3, c4] := by cases cs; simp at hc; simp [hc]
  simp only [Prod.mk.injEq] at hx
  obtain ⟨rfl, _⟩ := hx
  have h0 : DataW.trod enc Tryz.prog w 0 sp hd n 22 [c0] = some y0 := by simpa [k22, Value.cells] using hall 0 _ rfl
  have h1 : DataW.trod enc Tryz.prog w 0 sp hd n 22 [c1] = some y1 := by simpa [k22, Value.cells] using hall 1 _ rfl
  have h2 : DataW.trod enc Tryz.prog w 0 sp hd n 22 [c2] = some y2 := by simpa [k22, Value.cells] using hall 2 _ rfl
  have h3 : DataW.trod enc Tryz.prog w 0 sp hd n 22 [c3] = some y3 := by simpa [k22, Value.cells] using hall 3 _ rfl
  have h4 : DataW.trod enc Tryz.prog w 0 sp hd n 25 [c4] = some y4 := by simpa [k25, Value.cells] using hall 4 _ rfl
  obtain ⟨z0, e0, _, _⟩ := DataW.trod_int Tryz.underlying22 h0
  obtain ⟨z1, e1, _, _⟩ := DataW.trod_int Tryz.underlying22 h1
  obtain ⟨z2, e2, _, _⟩ := DataW.trod_int Tryz.underlying22 h2
  obtain ⟨z3, e3, _, _⟩ := DataW.trod_int Tryz.underlying22 h3
  simp only [List.cons.injEq, and_true] at e0 e1 e2 e3
  subst e0 e1 e2 e3
  obtain ⟨c, l, e4, g4, p4⟩ := rdPOs stable h4 (by
    simp only [List.map_cons, List.map_nil, Rows.uptoBulk, Rows.uptoBulkAll] at hb
    omega)
  simp only [List.cons.injEq, and_true] at e4
  subst e4
  refine ⟨⟨z0, z1, z2, z3, l⟩, ?_, p4⟩
  simp only [avRs, GV, GVl]
  exact ⟨[_, _, _, _, _], rfl, _, _, rfl, by simp only [GD], _, _, rfl, by simp only [GD], _, _, rfl, by simp only [GD], _, _, rfl, by simp only [GD], _, _, rfl, g4, rfl⟩
end

/-! ### A world for witnesses -/
def tabVals (k : IntKind) (zs : List Int) : Array Value := (zs.map fun z => Value.int k z).toArray
def litVals : List (DataW Unit) → List Value
  | .lit (.int k n) :: r => .int k n :: litVals r
  | _ => []
def aggVals : DataW Unit → Array Value
  | .agg l => (litVals l).toArray
  | _ => #[]
def putTab (g : Nat) (c : Array Value) (h : Array Obj) : Array Obj := h.modify g fun
  | .cells _ t frozen => .cells c t frozen
  | o => o
noncomputable def laidWorld (os : Os) : World :=
  { World.holding Tryz.prog os ⟨#[], #[], []⟩ with heap := putTab 0 (tabVals .u8 firstZ) (putTab 1 (tabVals .u8 acceptZ) (putTab 2 (tabVals .u64 Lib.pow10Tab)
      (putTab 4 (aggVals Rows.laid_math_bits_deBruijn32tab) (putTab 5 (aggVals Rows.laid_math_bits_deBruijn64tab) (World.holding Tryz.prog os ⟨#[], #[], []⟩).heap)))) }
theorem laid_met (os : Os) (args : Array Value) : laidMet Tryz.prog lay5 ((laidWorld os).forCall (fun _ _ => 0) ⟨#[], args, []⟩).memory :=
  laidMet_of_run' 8 (by kernel_rfl) (by kernel_rfl)
end Go.Proofs.YtblejchodicaoaaGreatDoor.Eng

/-
  READINGS: an answer's, with its bulk and its numbers' bounds. Own work.
-/
namespace Go.Proofs.YtblejchodicaoaaGreatDoor.Eng
open Go Go.RowKit Go.ChangeShapes Go.WideShapes Go.Deep
set_option maxRecDepth 100000
set_option linter.unusedSimpArgs false

section
variable {H : Type} {enc : TypeId × Value → H} {w : World} {sp : Nat → Bool} {hd : Bool} {base : Nat}
theorem rdPSum {st : Nat → Prop} (hst : ∀ b off v, w.cell? ⟨b, off, none⟩ = some v → st b) {fuel : Nat} {cs : List Value} {x : DataW H × List MemPlace} (h : DataW.trod enc Tryz.prog w 0 sp hd fuel 25 cs = some x) (hb : Rows.uptoBulk x.1 ≤ 1048576) :
    ∃ (c : Value) (l : List PO), cs = [c] ∧ GD w st (.rs 8 (l.map encPO)) c ∧ PSum l := by
  obtain ⟨c, l, rfl, hg, ho, hs⟩ := rdRows 8 (by decide) encPO encPO_len (fun p => p.v.ok) (fun p => p.v.size + p.key.length) k64 Tryz.underlying25 hst h (fun fuel cs y _ hy => rdPO hst fuel cs y hy)
  exact ⟨c, l, rfl, hg, by omega, ho⟩
theorem u64_of {n : Int} (h : (Lit.int .u64 n).wf = true) : 0 ≤ n := by
  have e1 : IntKind.u64.min = 0 := by decide
  simp only [Lit.wf, e1, Bool.and_eq_true, decide_eq_true_eq] at h
  exact h.1
def Rs.fine (r : Rs) : Prop := PSum r.l ∧ 0 ≤ r.c ∧ 0 ≤ r.b ∧ 0 ≤ r.k ∧ 0 ≤ r.t
theorem rdRsF {v : Value} {d : DataW H} {p : List MemPlace} (hv : Value.okWide Tryz.prog w .any base 27 v) (h : DataW.Trod enc Tryz.prog w 0 sp hd 27 v d p) (hb : Rows.uptoBulk d ≤ 1048576) :
    ∃ r : Rs, GV w (stOf (fun _ => False) w [] []) [] (avRs r) v ∧ r.fine := by
  obtain ⟨cs, rfl, hsz⟩ := okWide_struct Tryz.underlying27 hv
  obtain ⟨fuel, hf⟩ := h
  have hcl : cs.toList.length = 5 := by rw [Array.length_toList, hsz, k27]
  obtain ⟨c0, c1, c2, c3, c4, hc⟩ := five hcl
  obtain ⟨xs, n, _, hx, _, hxl, hall⟩ := DataW.trod_struct Tryz.underlying27 hf
  obtain ⟨y0, y1, y2, y3, y4, rfl⟩ := five hxl
  obtain rfl : cs = #[c0, c1, c2, c3, c4] := by cases cs; simp at hc; simp [hc]
  simp only [Prod.mk.injEq] at hx
  obtain ⟨rfl, _⟩ := hx
  have h0 : DataW.trod enc Tryz.prog w 0 sp hd n 22 [c0] = some y0 := by simpa [k22, Value.cells] using hall 0 _ rfl
  have h1 : DataW.trod enc Tryz.prog w 0 sp hd n 22 [c1] = some y1 := by simpa [k22, Value.cells] using hall 1 _ rfl
  have h2 : DataW.trod enc Tryz.prog w 0 sp hd n 22 [c2] = some y2 := by simpa [k22, Value.cells] using hall 2 _ rfl
  have h3 : DataW.trod enc Tryz.prog w 0 sp hd n 22 [c3] = some y3 := by simpa [k22, Value.cells] using hall 3 _ rfl
  have h4 : DataW.trod enc Tryz.prog w 0 sp hd n 25 [c4] = some y4 := by simpa [k25, Value.cells] using hall 4 _ rfl
  obtain ⟨z0, e0, _, w0⟩ := DataW.trod_int Tryz.underlying22 h0
  obtain ⟨z1, e1, _, w1⟩ := DataW.trod_int Tryz.underlying22 h1
  obtain ⟨z2, e2, _, w2⟩ := DataW.trod_int Tryz.underlying22 h2
  obtain ⟨z3, e3, _, w3⟩ := DataW.trod_int Tryz.underlying22 h3
  simp only [List.cons.injEq, and_true] at e0 e1 e2 e3
  subst e0 e1 e2 e3
  obtain ⟨c, l, e4, g4, p4⟩ := rdPSum stable h4 (by
    simp only [List.map_cons, List.map_nil, Rows.uptoBulk, Rows.uptoBulkAll] at hb
    omega)
  simp only [List.cons.injEq, and_true] at e4
  subst e4
  refine ⟨⟨z0, z1, z2, z3, l⟩, ?_, p4, u64_of w0, u64_of w1, u64_of w2, u64_of w3⟩
  simp only [avRs, GV, GVl]
  exact ⟨[_, _, _, _, _], rfl, _, _, rfl, by simp only [GD], _, _, rfl, by simp only [GD], _, _, rfl, by simp only [GD], _, _, rfl, by simp only [GD], _, _, rfl, g4, rfl⟩
end
end Go.Proofs.YtblejchodicaoaaGreatDoor.Eng

/-
  TIES: an answer's frame, on both sides; PullForms. Own work.
-/
namespace Go.Proofs.YtblejchodicaoaaGreatDoor.Eng
open Go Go.RowKit
set_option maxRecDepth 100000
set_option linter.unusedSimpArgs false

/-! ### An answer's object -/
def Rs.obj (r : Rs) : V := oV (respM r.c r.b r.k r.t (lV (r.l.map opV)))
theorem opV_ok (p : PO) (h : p.v.ok) : (opV p).ok := by
  unfold opV
  split
  · simp [V.ok, V.oks, M.oks, M.ok, in64, oV, tV, h]
  · split <;> simp [V.ok, V.oks, M.oks, M.ok, in64, oV, tV]
theorem opV_size (p : PO) : (opV p).size ≤ 21 * (p.v.size + p.key.length) := by
  have := V.size_eq p.v
  unfold opV
  split
  · simp [oV, M.sizes, M.size, V.size, V.sizes, tV, kKey, kOp, kValue, kPut] <;> omega
  · split
    · simp [oV, M.sizes, M.size, V.size, V.sizes, tV, kKey, kOp, kDel] <;> omega
    · simp [oV, M.sizes, M.size, V.size, V.sizes, tV, kOp, kClear] <;> omega
theorem opVs_size : ∀ l : List PO, V.sizes (l.map opV) ≤ 21 * (l.map fun p => p.v.size + p.key.length).sum
  | [] => by simp [V.sizes]
  | a :: r => by
    have h1 := opVs_size r
    have h2 := opV_size a
    simp only [List.map_cons, List.sum_cons, V.sizes]
    omega
theorem opVs_ok : ∀ l : List PO, (∀ p ∈ l, p.v.ok) → V.oks (l.map opV)
  | [], _ => trivial
  | a :: r, h => ⟨opV_ok a (h a (by simp)), opVs_ok r fun p hp => h p (by simp [hp])⟩
theorem Rs.fits {r : Rs} (h : r.may = 0) : (r.c ≤ 4611686018427387903 ∧ r.b ≤ 4611686018427387903 ∧ r.k ≤ 4611686018427387903 ∧ r.t ≤ 4611686018427387903) ∧ poMayL [] r.l = 0 := by
  unfold Rs.may respMay at h
  split at h
  · cases h
  · rename_i hh
    simp only [mxN] at hh
    exact ⟨by omega, h⟩
theorem Rs.obj_size (r : Rs) (hf : r.fine) : r.obj.size ≤ 22020200 := by
  have h1 := opVs_size r.l
  have h2 := hf.1.1
  simp [Rs.obj, oV, respM, lV, iV, V.size, V.sizes, M.sizes, M.size, kClient, kCookie, kBase, kLast, kPatch]
  omega
theorem Rs.obj_good {r : Rs} (hf : r.fine) (hm : r.may = 0) : r.obj.good := by
  obtain ⟨⟨m1, m2, m3, m4⟩, _⟩ := Rs.fits hm
  obtain ⟨hp, p1, p2, p3, p4⟩ := hf
  refine ⟨?_, by have := Rs.obj_size r ⟨hp, p1, p2, p3, p4⟩; omega⟩
  have h := opVs_ok r.l hp.2
  simp only [Rs.obj, oV, respM, lV, iV, V.ok, V.oks, M.oks, M.ok, in64, and_true, true_and]
  refine ⟨by omega, by omega, ?_⟩
  refine ⟨⟨by omega, by omega⟩, ⟨by omega, by omega⟩, ⟨by omega, by omega⟩, ⟨by omega, by omega⟩, ?_⟩
  exact ⟨by omega, by omega, h⟩
theorem Rs.obj_may {r : Rs} (hm : r.may = 0) : mayTop r.obj = 0 := may_resp (Rs.fits hm).2
theorem Rs.obj_text {r : Rs} (hm : r.may = 0) : textOf r.obj = textV r.obj := by unfold textOf; rw [if_pos (Rs.obj_may hm)]
theorem Rs.obj_len {r : Rs} (hf : r.fine) (hm : r.may = 0) : (textV r.obj).length ≤ 1099511627000 := by
  have h1 := textV_len r.obj (Rs.obj_good hf hm).1
  have h2 := Rs.obj_size r hf
  omega
theorem strict_resG (c b k t : Int) (v : V) : strictM (respM c b k t v) := by
  refine ⟨⟨?_, ?_⟩, ⟨?_, ?_⟩, ⟨?_, ?_⟩, ⟨?_, ?_⟩, trivial⟩
  · show 0 ≤ cmpT kClient kBase; decide
  · show (kClient == kBase) = false; decide
  · show 0 ≤ cmpT kCookie kClient; decide
  · show (kCookie == kClient) = false; decide
  · show 0 ≤ cmpT kLast kCookie; decide
  · show (kLast == kCookie) = false; decide
  · show 0 ≤ cmpT kPatch kLast; decide
  · show (kPatch == kLast) = false; decide
theorem inj_rsF (a b : Rs) (h : nAs [avRs a] = nAs [avRs b]) (g : ([] : List AObj) = []) : a = b := inj_rs a b h g
noncomputable def Rs.enc (r : Rs) : Out := .ret (.tup [.d (if r.may = 0 then .rs 1 (byL (frameM 3 (textV r.obj))) else .nils), .d (.int .i64 r.may)])
noncomputable def cEncResG : CtU := ctI 13 (by decide) Rs.fine (fun r => [avRs r]) (fun _ => []) Rs.enc (fun _ => []) full_rs inj_rs
  fun r hf => by
    have h := mk { wins := [(62, [[], [], [], [], [0], [], [], [0, 3], [], [], [0, 3, 6], [], [0, 3, 6, 9]])] } true (frO_ok (fs := [30]) (octs_ok [cMayResponse, cMember, cPListG, cSend])) (by kernel_rfl) (b_EncodeResponse (frO [30] (octs [cMayResponse, cMember, cPListG, cSend])) r.c r.b r.k r.t r.l hf.2.1 hf.2.2.1 hf.2.2.2.1 hf.2.2.2.2 (.rs 1 (byL (frameM 3 (textOf r.obj)))) 0
      ((frO_other rfl).trans (octs_here (c := cMayResponse) ⟨r, hf.1.pos⟩ rfl rfl rfl))
      (fun k n h0 h1 => (frO_other rfl).trans ((octs_nx rfl).trans (octs_here (c := cMember) ⟨(k, n), h0, h1⟩ rfl rfl rfl)))
      (fun hm => (frO_other rfl).trans ((octs_nx rfl).trans ((octs_nx rfl).trans (octs_here (c := cPListG) ⟨r.l, hf.1, (Rs.fits hm).2⟩ rfl rfl rfl))))
      (fun hm => frO_two rfl (by decide) rfl (fun m => rfl) ((octs_nx rfl).trans ((octs_nx rfl).trans ((octs_nx rfl).trans (octs_here (c := cSend) ⟨(3, respM r.c r.b r.k r.t (lV (r.l.map opV))), ⟨show (3 : UInt8) ≠ 0 from by decide, by simp [respM], by simp [respM], strict_resG _ _ _ _ _⟩, Rs.obj_good hf hm, Rs.obj_may hm, by show (textOf r.obj).length ≤ _; rw [Rs.obj_text hm]; have := Rs.obj_len hf hm; omega⟩ rfl rfl rfl))))))
    by_cases hm : r.may = 0
    · rw [Rs.enc, if_pos hm, hm, ← Rs.obj_text hm]
      have hm' : respMay r.c r.b r.k r.t r.l = 0 := hm
      rw [if_pos hm', if_pos hm'] at h
      exact h
    · rw [Rs.enc, if_neg hm]
      have hm' : ¬ respMay r.c r.b r.k r.t r.l = 0 := hm
      rw [if_neg hm', if_neg hm'] at h
      exact h

/-! ### The reference's -/
theorem slD_n {s : Nat} (es : List (List D)) : nD (slD s es) = nD (.rs s es) := by cases es <;> simp [slD, nD]
abbrev RCopyIH (n : Nat) : Prop := ∀ v : V, v.size < n → v.size ≤ 1099511627776 → Meets Tryz.prog GU 32 [avV v] [] (.ret (avV v)) []
def ctRCopy (n : Nat) (ih : RCopyIH n) : CtU := ctI 32 (by decide) (fun v : V => v.size < n ∧ v.size ≤ 1099511627776) (fun v => [avV v]) (fun _ => []) (fun v => .ret (avV v)) (fun _ => []) full_v inj_v fun v hv => ih v hv.1 hv.2
theorem mRCopy : ∀ n, RCopyIH n
  | 0, v, h, _ => absurd h (Nat.not_lt_zero _)
  | n + 1, v, h, hB => (mk { keep := [(58, [1, 2, 3, 4]), (122, [1, 2, 3, 5])], wins := [(932, [[], [8, 9]]), (1956, [[], [15, 17], [], [15], [], [], [], [15]])], outs := [(58, [1, 2, 3]), (122, [2, 3])] } true (octs_ok [ctRCopy n (mRCopy n)]) (by kernel_rfl) (b_rCopy (octs [ctRCopy n (mRCopy n)]) v hB
      (fun x hx => octs_here (c := ctRCopy n (mRCopy n)) ⟨x, by have := V.size_l hx; omega, by have := V.size_l hx; omega⟩ rfl rfl rfl)
      (fun m hx => octs_here (c := ctRCopy n (mRCopy n)) ⟨m.v, by have := V.size_o hx; omega, by have := V.size_o hx; omega⟩ rfl rfl rfl))).weak (by simp only [nO, nA, nAs, avV, slD_n]) (by simp [fO, fav])
def cRCopy : CtU := ctI 32 (by decide) (fun v : V => v.size ≤ 1099511627776) (fun v => [avV v]) (fun _ => []) (fun v => .ret (avV v)) (fun _ => []) full_v inj_v fun v hv => mRCopy (v.size + 1) v (by omega) hv
def cAnswer : CtU := ctI 14 (by decide) Rs.fine (fun r => [avRs r]) (fun _ => []) (fun r => .ret (avRs r)) (fun _ => []) full_rs inj_rs
  fun r hf => (mk { keep := [(58, [1, 2, 3, 4])], wins := [(932, [[], [], [20], [], [], [], [20], [], [20], [], [], [], [20]])], outs := [(58, [1, 2, 3])] } true (octs_ok [cRCopy]) (by kernel_rfl) (b_answer (octs [cRCopy]) r.c r.b r.k r.t r.l hf.1.pos.1 (fun p hp => octs_here (c := cRCopy) ⟨p.v, (hf.1.pos.2 p hp).2.1⟩ rfl rfl rfl))).weak (by simp only [nO, nA, nAs, avRs, slD_n]) (by have := full_rs r; simpa [fO, fAs] using this)
def cR11Text : CtU := ctI 59 (by decide) (fun _ : List UInt8 => True) (fun s => [.d (.str s)]) (fun _ => []) (fun s => .ret (avT s)) (fun _ => []) (fun _ => rfl) inj_s
  fun s _ => (mk {} true (none_ok _ _) (by kernel_rfl) (b_r11Text none_ s)).weak rfl (by rw [avT_eq]; exact fav _)
def avI (n : Int) : AV := .agg [.d (.int .i64 3), .d (.bool false), .d (.int .i64 n), .d (.str []), .d (.rs 6 []), .d (.rs 7 [])]
def cR11Int : CtU := ctI 47 (by decide) (fun _ : Int => True) (fun n => [.d (.int .i64 n)]) (fun _ => []) (fun n => .ret (avI n)) (fun _ => []) (fun _ => rfl)
  (fun a b h _ => by simpa [nAs, nA, nD] using h)
  fun n _ => (mk {} true (none_ok _ _) (by kernel_rfl) (b_r11Int none_ n)).weak rfl rfl
def cR11List : CtU := ctI 49 (by decide) (fun _ : List V => True) (fun l => [.d (.rs 6 (l.map encV))]) (fun _ => []) (fun l => .ret (avV (lV l))) (fun _ => []) (fun l => by simp [fAs, fA, fLV]) inj_lv
  fun l _ => (mk {} true (none_ok _ _) (by kernel_rfl) (b_r11List none_ l)).weak rfl (by simp [fO, fav])
def cR11Object : CtU := ctI 34 (by decide) (fun _ : List M => True) (fun l => [.d (.rs 7 (l.map encM))]) (fun _ => []) (fun l => .ret (avV (oV l))) (fun _ => []) (fun l => by simp [fAs, fA, fLM]) inj_lm
  fun l _ => (mk {} true (none_ok _ _) (by kernel_rfl) (b_r11Object none_ l)).weak rfl (by simp [fO, fav])
def cR14op : CtU := ctI 60 (by decide) (fun _ : List UInt8 => True) (fun s => [.d (.str s)]) (fun _ => []) (fun s => .ret (amM ⟨kOp, tV s⟩)) (fun _ => []) (fun _ => rfl) inj_s
  fun s _ => mk {} true (octs_ok [cR11Text]) (by kernel_rfl) (b_r14op (octs [cR11Text]) s (fun s => octs_here (c := cR11Text) ⟨s, trivial⟩ rfl rfl rfl))
def cR18num : CtU := ctI 35 (by decide) (fun a : List UInt8 × Int => 0 ≤ a.2 ∧ a.2 ≤ 9223372036854775807) (fun a => [.d (.str a.1), .d (.int .u64 a.2)]) (fun _ => []) (fun a => .ret (amM ⟨a.1, iV a.2⟩)) (fun _ => []) (fun _ => rfl)
  (fun a b h _ => by
    obtain ⟨a1, a2⟩ := a
    obtain ⟨b1, b2⟩ := b
    simp only [nAs, nA, nD, List.cons.injEq, AV.d.injEq, D.str.injEq, D.int.injEq, true_and, and_true] at h
    rw [h.1, h.2])
  fun a ha => mk {} true (octs_ok [cR11Int]) (by kernel_rfl) (b_r18num (octs [cR11Int]) a.1 a.2 ha.1 ha.2 (fun n => octs_here (c := cR11Int) ⟨n, trivial⟩ rfl rfl rfl))
theorem fz_nils : xj [] [.d .nils] = some ([.d .nils], []) := rfl
def cR14Value : CtU := ctI 36 (by decide) (fun l : List PO => l.length ≤ 1099511627776 ∧ ∀ p ∈ l, p.k = 1 ∨ p.k = 2 ∨ p.k = 3) (fun l => [.d (.rs 8 (l.map encPO))]) (fun _ => []) (fun l => .ret (avV (lV (l.map opV)))) (fun _ => []) full_pos inj_pos
  fun l hl => mk { keep := [(58, [0, 2, 3, 4])], wins := [(29850, [[], [3], [], [], [], [], [], [0]]), (119406, [[], [3]])], outs := [(58, [2, 3])] } true (frO_ok (fs := [34, 49]) (octs_ok [cR11Text, cR14op, cR11Object, cR11List])) (by kernel_rfl)
    (b_r14Value (frO [34, 49] (octs [cR11Text, cR14op, cR11Object, cR11List])) l hl.1 hl.2
      (fun s => (frO_other rfl).trans (octs_here (c := cR11Text) ⟨s, trivial⟩ rfl rfl rfl))
      (fun s => (frO_other rfl).trans ((octs_nx rfl).trans (octs_here (c := cR14op) ⟨s, trivial⟩ rfl rfl rfl)))
      (fun m _ => frO_one rfl (by decide) (by simp) (fun m => rfl) ((octs_nx rfl).trans ((octs_nx rfl).trans (octs_here (c := cR11Object) ⟨m, trivial⟩ rfl rfl rfl))))
      (fun m _ => frO_one rfl (by decide) (by simp) (fun m => rfl) ((octs_nx rfl).trans ((octs_nx rfl).trans ((octs_nx rfl).trans (octs_here (c := cR11List) ⟨m, trivial⟩ rfl rfl rfl)))))
      (by
        rw [frO_at rfl (by decide) fz_nils]
        have h : octs [cR11Text, cR14op, cR11Object, cR11List] 49 [.d .nils] [] = some (.ret (avV (lV [])), []) :=
          (octs_nx rfl).trans ((octs_nx rfl).trans ((octs_nx rfl).trans (octs_here (c := cR11List) ⟨[], trivial⟩ rfl rfl rfl)))
        simp [xe, jl, xg, xf, xh, Eng.distinct, wn, Eng.ren, wl, h, jm, pos, Out.ren, avV]))
def cR18Response : CtU := ctI 17 (by decide) (fun r : Rs => r.fine ∧ r.may = 0) (fun r => [avRs r]) (fun _ => []) (fun r => .ret (avV r.obj)) (fun _ => []) full_rs inj_rs
  fun r hr => by
    obtain ⟨⟨m1, m2, m3, m4⟩, hl⟩ := Rs.fits hr.2
    obtain ⟨hp, p1, p2, p3, p4⟩ := hr.1
    exact mk { wins := [(6, [[], [], [], [], [0], [], [], [0, 3], [], [], [0, 3, 6], [], [], [0, 3, 6, 9]])] } true (frO_ok (fs := [34]) (octs_ok [cR18num, cR14Value, cR11Object])) (by kernel_rfl)
      (b_r18Response (frO [34] (octs [cR18num, cR14Value, cR11Object])) r.c r.b r.k r.t r.l ⟨p1, by omega⟩ ⟨p2, by omega⟩ ⟨p3, by omega⟩ ⟨p4, by omega⟩
        (fun s n h0 h1 => (frO_other rfl).trans (octs_here (c := cR18num) ⟨(s, n), h0, h1⟩ rfl rfl rfl))
        ((frO_other rfl).trans ((octs_nx rfl).trans (octs_here (c := cR14Value) ⟨r.l, hp.pos.1, may_k hl⟩ rfl rfl rfl)))
        (fun m _ => frO_one rfl (by decide) (by simp) (fun m => rfl) ((octs_nx rfl).trans ((octs_nx rfl).trans (octs_here (c := cR11Object) ⟨m, trivial⟩ rfl rfl rfl)))))
theorem textV_o (l : List M) : textV (oV l) ≠ [] := by
  obtain ⟨t, ht⟩ : ∃ t, textV (oV l) = 123 :: t := ⟨Lib.join (l.map textM) [44] ++ [125], by simp [oV, textV, textL, textO_map]⟩
  simp [ht]
noncomputable def cR18Frame : CtU := ctI 16 (by decide) (fun a : UInt8 × V => a.1 ≠ 0 ∧ a.2.good ∧ (∃ d, mayV validU a.2 d = 0) ∧ textV a.2 ≠ [] ∧ (textV a.2).length ≤ 1099511627775) (fun a => [.d (.int .u8 a.1.toNat), avV a.2]) (fun _ => []) (fun a => .ret (.d (.rs 1 (byL (frameM a.1 (textV a.2)))))) (fun _ => [])
  (fun a => by simp [fAs, fav, fA, fD])
  (fun a b h _ => by
    obtain ⟨a1, a2⟩ := a
    obtain ⟨b1, b2⟩ := b
    simp only [nAs, List.cons.injEq, and_true] at h
    have e1 : a2 = b2 := nav_inj h.2
    have e2 := h.1
    simp only [nA, nD, AV.d.injEq, D.int.injEq, true_and] at e2
    rw [e1, UInt8.toNat_inj.1 (show a1.toNat = b1.toNat from by omega)])
  fun a ha => mk {} true (octs_ok [cRText, cR16Frame]) (by kernel_rfl) (b_r18Frame (octs [cRText, cR16Frame]) a.1 a.2 (frameM a.1 (textV a.2)) ha.2.2.2.1
    (octs_here (c := cRText) ⟨a.2, ha.2.1, ha.2.2.1⟩ rfl rfl rfl) ((octs_nx rfl).trans (octs_here (c := cR16Frame) ⟨(a.1, textV a.2), ha.1, ha.2.2.2.2⟩ rfl rfl rfl)))

/-! ### PullForms -/
theorem mPullForms (r : Rs) (hf : r.fine) : Meets Tryz.prog GU 4 [avRs r] [] (.ret (.d (.bool true))) [] := by
  by_cases hm : r.may = 0
  · exact mk {} true (octs_ok [cAnswer, cEncResG, cRMayResponse, cR18Response, cR18Frame, cSame, cKnown]) (by kernel_rfl) (b_PullForms (octs [cAnswer, cEncResG, cRMayResponse, cR18Response, cR18Frame, cSame, cKnown]) r.c r.b r.k r.t r.l r.obj (frameM 3 (textV r.obj))
      (octs_here (c := cAnswer) ⟨r, hf⟩ rfl rfl rfl)
      ((octs_nx rfl).trans (octs_here (c := cEncResG) ⟨r, hf⟩ rfl rfl rfl))
      ((octs_nx rfl).trans ((octs_nx rfl).trans (octs_here (c := cRMayResponse) ⟨r, hf.1.pos⟩ rfl rfl rfl)))
      (fun hm => (octs_nx rfl).trans ((octs_nx rfl).trans ((octs_nx rfl).trans (octs_here (c := cR18Response) ⟨r, hf, hm⟩ rfl rfl rfl))))
      (fun hm => (octs_nx rfl).trans ((octs_nx rfl).trans ((octs_nx rfl).trans ((octs_nx rfl).trans (octs_here (c := cR18Frame) ⟨(3, r.obj), show (3 : UInt8) ≠ 0 from by decide, Rs.obj_good hf hm, ⟨1, Rs.obj_may hm⟩, textV_o _, by show (textV r.obj).length ≤ _; have := Rs.obj_len hf hm; omega⟩ rfl rfl rfl)))))
      ((octs_nx rfl).trans ((octs_nx rfl).trans ((octs_nx rfl).trans ((octs_nx rfl).trans ((octs_nx rfl).trans (octs_here (c := cSame) ⟨frameM 3 (textV r.obj), by have := Rs.obj_len hf hm; simp [frameM, sealM, le4]; omega⟩ rfl rfl rfl))))))
      ((octs_nx rfl).trans ((octs_nx rfl).trans ((octs_nx rfl).trans ((octs_nx rfl).trans ((octs_nx rfl).trans ((octs_nx rfl).trans (octs_here (c := cKnown) ⟨(), trivial⟩ rfl rfl rfl))))))))
  · have h0 : cEncResG.out ⟨r, hf⟩ = .ret (.tup [.d (if respMay r.c r.b r.k r.t r.l = 0 then .rs 1 (byL []) else .nils), .d (.int .i64 (respMay r.c r.b r.k r.t r.l))]) := by
      show Rs.enc r = _
      have hm' : ¬ respMay r.c r.b r.k r.t r.l = 0 := hm
      rw [Rs.enc, if_neg hm, if_neg hm']
      rfl
    exact mk {} true (octs_ok [cAnswer, cEncResG, cRMayResponse, cSame, cKnown]) (by kernel_rfl) (b_PullForms (octs [cAnswer, cEncResG, cRMayResponse, cSame, cKnown]) r.c r.b r.k r.t r.l r.obj []
      (octs_here (c := cAnswer) ⟨r, hf⟩ rfl rfl rfl)
      ((octs_nx rfl).trans (h0 ▸ octs_here (c := cEncResG) ⟨r, hf⟩ rfl rfl rfl))
      ((octs_nx rfl).trans ((octs_nx rfl).trans (octs_here (c := cRMayResponse) ⟨r, hf.1.pos⟩ rfl rfl rfl)))
      (fun h => absurd h hm) (fun h => absurd h hm)
      ((octs_nx rfl).trans ((octs_nx rfl).trans ((octs_nx rfl).trans (octs_here (c := cSame) ⟨[], by simp⟩ rfl rfl rfl))))
      ((octs_nx rfl).trans ((octs_nx rfl).trans ((octs_nx rfl).trans ((octs_nx rfl).trans (octs_here (c := cKnown) ⟨(), trivial⟩ rfl rfl rfl))))))
end Go.Proofs.YtblejchodicaoaaGreatDoor.Eng

/-
  PROVED HERE: for every answer, PullForms returns true, and the answer reads behind the call as it read before.
  Conditions: the answer is of bulk at most 1048576 (the second form), the listed tables hold what the row lists, and the card ties those to the program's text. No other hypothesis. Own work.
-/
namespace Go.Proofs.YtblejchodicaoaaGreatDoor.PullForms
open Go Go.RowKit Go.ChangeShapes Go.WideShapes Go.ChangeAt Eng
set_option maxRecDepth 100000
set_option linter.unusedSimpArgs false

theorem own : ownKnob Tryz.prog.godebug = none := by kernel_rfl
theorem laidOut : laidOutB Tryz.prog = true := by kernel_rfl

theorem contract (H : Type) (enc : TypeId × Value → H) (F : Stop.Interp) (W : World) (base : Nat) (args : Array Value) (ds gs : List (DataW H)) (before : List MemPlace)
    (hval : ∀ (j : Nat) t v, Tryz.f4.params[j]? = some t → args[j]? = some v → Value.okWide Tryz.prog W .any base t v)
    (hW : DataW.Whole enc Tryz.prog Tryz.f4.params.toList Rows.pullFormsSpec.vars false W args.toList ds gs before)
    (hk : Rows.uptoSmall H (ds ++ gs) = true) (hL : laidMetH Tryz.prog lay5 W) :
    Calls Tryz.prog 4 args W fun e W' => ∃ v, e = .returned v ∧ ((Rows.OpenSpec.upto Rows.pullFormsSpec).at F).post enc Tryz.prog Tryz.f4 false true false false W args v W' := by
  have hW' := hW
  obtain ⟨p, q, hA0, hV, rfl, hfz, hnd⟩ := hW
  have hA : DataW.TrodAll enc Tryz.prog W 0 (fun _ => true) true Tryz.f4.params.toList args.toList ds p := hA0
  rw [Tryz.params4] at hA hval
  obtain ⟨v0, d0, rfl, rfl, h0⟩ := trodAll_one hA
  obtain ⟨rfl, rfl⟩ := trodVars_none hV
  clear hA0
  simp only [List.append_nil] at hW'
  have hlt0 : ∀ x ∈ p, x.block < W.heap.size := fun x hx => by simpa using hW'.lt x (by simp [hx])
  have hb := of_decide_eq_true hk
  simp only [List.append_nil, Rows.uptoBulkAll] at hb
  obtain ⟨r, gr, pr⟩ := rdRsF (hval 0 27 v0 rfl rfl) h0 (by omega)
  have hm := mPullForms r pr (fun _ => False) W [] [v0] (Inv.nil W (fun _ h => h.elim)) (gg_of hL) (by simp only [GVl]; exact ⟨_, _, rfl, gr, rfl⟩)
  refine Calls.mono hm fun e W' he => ?_
  obtain ⟨β', _, E, hout⟩ := he
  have hbelow := below_of E
  cases e with
  | returned v =>
    simp only [GOut, GV, GD] at hout
    subst hout
    refine ⟨_, rfl, _, _, _, [] ++ [], p, [], hW', ?_, ?_, rfl, hbelow.frame _, fun h => by cases h⟩
    · exact trodAll_cons_mk (shut_bool Tryz.underlying4 _) trodAll_mk0
    · exact trodAll_mk1 (Below.trod laidOut (by kernel_rfl) (of_decide_eq_true (by kernel_rfl)) h0 hbelow hlt0)
  | panicked c => exact hout.elim
  | outgrown => exact hout.elim

def zArgs : Array Value := #[.agg #[.int .u64 0, .int .u64 0, .int .u64 0, .int .u64 0, .slice none 0 0]]
theorem reads (os : Os) {H : Type} (enc : TypeId × Value → H) : ∃ places, DataW.whole enc Tryz.prog ((laidWorld os).forCall (fun _ _ => 0) ⟨#[], zArgs, []⟩).memory Tryz.f4.params.toList Rows.pullFormsSpec.vars false zArgs.toList 8 =
    some ([.agg [.lit (.int .u64 0), .lit (.int .u64 0), .lit (.int .u64 0), .lit (.int .u64 0), .nil]], [], places) :=
  ⟨[], by kernel_rfl⟩

theorem liftedUpto (os : Os) (started : os.Started) (H : Type) (enc : TypeId × Value → H) (F : Stop.Interp) :
    ReturnsInHanded {} Tryz.checked os 4 .any ((Rows.OpenSpec.upto Rows.pullFormsSpec).preRow enc Tryz.prog Tryz.f4 Rows.pullFormsUptoRow.domain false Rows.pullFormsUptoRow.laid) (((Rows.OpenSpec.upto Rows.pullFormsSpec).at F).post enc Tryz.prog Tryz.f4 false true false false) := by
  obtain ⟨places, hx⟩ := reads os enc
  refine returnsInHanded_of_row (C := Tryz.checked) (s := Rows.OpenSpec.upto Rows.pullFormsSpec) own started (by kernel_rfl) Tryz.func4
    (witness_row_at (enc := enc) (C := Tryz.checked) false (laidWorld os) zArgs rfl (by kernel_rfl) (by kernel_rfl) (by kernel_rfl)
      (OpenSpec.preRow_of_cond 8 hx (by kernel_rfl) (fun k hk => by cases hk; kernel_rfl) (by kernel_rfl) (laid_met os zArgs))) ?_
  intro W base args ds gs before hval hW _ hcond _ hL _ _
  exact contract H enc F W base args ds gs before hval hW (hcond _ rfl) hL

theorem saidUpto : Rows.PullFormsUptoSaid :=
  OpenClaim.holds_of_cond 4 Tryz.f4 rfl rfl rfl rfl rfl rfl rfl ⟨rfl, rfl, rfl, rfl, rfl⟩ rfl rfl rfl rfl rfl (by kernel_rfl) Tryz.func4 (by kernel_rfl)
    (of_decide_eq_true (by kernel_rfl)) (by unfold Func.isWrapper; first | (rw [if_pos (by decide +kernel)]; kernel_rfl) | (rw [if_neg (by decide +kernel)]; exact ⟨rfl, rfl⟩))
    (fun os started H enc _ F => by rw [OpenClaim.pre_eq_preRow]; exact liftedUpto os started H enc F)

theorem plain (f : FuncId) (fn : Func) (hf : Tryz.pinned.checked.prog.funcNamed "commonplace/commonplacelaw18.PullForms" = some f) (hfn : Tryz.pinned.checked.prog.funcs[f]? = some fn) :
    true = Tryz.pinned.checked.prog.looks [] ∧ ∀ (j : Nat) t, fn.params[j]? = some t → Tryz.pinned.checked.prog.wantsStandIn t = false := by
  obtain rfl : f = 4 := Option.some.inj ((show Tryz.prog.funcNamed "commonplace/commonplacelaw18.PullForms" = some 4 by kernel_rfl).symm.trans hf) |>.symm
  obtain rfl : fn = Tryz.f4 := (Option.some.inj (Tryz.func4.symm.trans hfn)).symm
  refine ⟨by kernel_rfl, fun j t ht => ?_⟩
  rw [Tryz.params4] at ht
  obtain rfl : t = 27 := by simpa using Array.mem_of_getElem? ht
  exact (show Tryz.prog.wantsStandIn 27 = false by kernel_rfl)

/-- THE SECOND FORM's CARD. -/
theorem cardUpto : Rows.PullFormsUptoCardSaid :=
  Claim7.holds_tied_plain_at .later [] _ _ _ _ saidUpto (fun _ h => by cases h) (by kernel_rfl) (fun _ h => by cases h) pullFormsUpto_row_tie rfl ⟨rfl, rfl⟩ (by kernel_rfl) rfl plain (by kernel_rfl)
end Go.Proofs.YtblejchodicaoaaGreatDoor.PullForms
#print axioms Go.Proofs.YtblejchodicaoaaGreatDoor.PullForms.cardUpto
