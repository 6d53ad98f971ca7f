/-
  CONTRACTS: the reference's Within, Deep, Fits, May of patches and answers. Own work.
-/
import Derived.Test.YtblejchodicaoaaGreatDoorJ5
import Derived.Lib.ValidLaws
set_option linter.unusedVariables false
set_option linter.unusedSimpArgs false
namespace Go.Proofs.YtblejchodicaoaaGreatDoor.Eng
open Go Go.RowKit
set_option maxRecDepth 100000
set_option linter.unusedSimpArgs false
set_option maxHeartbeats 2000000

theorem b_rEqualZ (C : Oracle) (v : V) :
    abody Tryz.prog [] C (mach Tryz.prog C { keep := [(58, [2, 3, 5]), (122, [2, 3, 6])], outs := [(58, [2, 3, 4]), (122, [4])] }) true 52 [avV v, zeroAV] [] = R (.bool (blankV v)) := by
  unfold abody
  rw [Tryz.func52]
  simp only [Tryz.f52]
  by_cases hb : blankV v = true
  rotate_left
  · have hb' : blankV v = false := by simpa using hb
    rw [hb']
    by_cases hk : v.k = 0
    rotate_left
    · simp -implicitDefEqProofs [R, avV, zeroAV, intbne, intbeq, strbeq, lenz, hk, IntWalk.i64_in,IntWalk.u64_in,IntWalk.u8_in,IntWalk.i32_in,IntWalk.u32_in,ye,zk,zm,qj,qk,qm,qn,zb,zc,zn,zp,zq,qo,zd,ze,zr,zt,zu,j3,x7,zw,zf,za,zx,qp,zy,zg,zz,z6,qq,zh,yf,qr,aop,yq,j4,j5,x8,x9,jd,j6,j7,wb,je,j8,yr,j9,wg,jf,jg,xa,xb,z7,jh,z8,ji,jj,yt,yu,xc,AV.one,wh,wi,aun,jk,xd,yw,afn,xe,Out.ren,xf,xg,jl,wj,xh,wl,jm,Eng.distinct,pos,wn,Eng.ren,wo,xi,wp,jo,wq,yg,xj,ws,wu,jp,frz,yx,yz,wv,List.lookup_cons,jq,zi,jr,js,List.range_succ,jt,xk,ju,xm,↓yh,↓yi,↓qt,↓y6,↓qu,↓qa,↓yj,↓yk,↓qv,↓qw,↓qx,↓qy,↓qb,↓qz,qc,ww,xn,jv,jw,yl,qd,qe,zj,wx,y7,jx,xp,xq,keq,y8,wy,qf,y9,ym,xr,jy,jz,xt,j0,wz,ja,j1,xu,xv,xw,jb,q5,q6,yn,q7,j2,Option.map_some,yo,qg,q8,q9,qh,ya,xx,yb,yp,yc,xy,w5,xz,x5,w6,jc,x6,Op.operands,Call.operands,yd,qi,w7,AObj.live]
    by_cases hbb : v.b = false
    rotate_left
    · simp -implicitDefEqProofs [R, avV, zeroAV, intbne, intbeq, strbeq, lenz, hk, hbb, IntWalk.i64_in,IntWalk.u64_in,IntWalk.u8_in,IntWalk.i32_in,IntWalk.u32_in,ye,zk,zm,qj,qk,qm,qn,zb,zc,zn,zp,zq,qo,zd,ze,zr,zt,zu,j3,x7,zw,zf,za,zx,qp,zy,zg,zz,z6,qq,zh,yf,qr,aop,yq,j4,j5,x8,x9,jd,j6,j7,wb,je,j8,yr,j9,wg,jf,jg,xa,xb,z7,jh,z8,ji,jj,yt,yu,xc,AV.one,wh,wi,aun,jk,xd,yw,afn,xe,Out.ren,xf,xg,jl,wj,xh,wl,jm,Eng.distinct,pos,wn,Eng.ren,wo,xi,wp,jo,wq,yg,xj,ws,wu,jp,frz,yx,yz,wv,List.lookup_cons,jq,zi,jr,js,List.range_succ,jt,xk,ju,xm,↓yh,↓yi,↓qt,↓y6,↓qu,↓qa,↓yj,↓yk,↓qv,↓qw,↓qx,↓qy,↓qb,↓qz,qc,ww,xn,jv,jw,yl,qd,qe,zj,wx,y7,jx,xp,xq,keq,y8,wy,qf,y9,ym,xr,jy,jz,xt,j0,wz,ja,j1,xu,xv,xw,jb,q5,q6,yn,q7,j2,Option.map_some,yo,qg,q8,q9,qh,ya,xx,yb,yp,yc,xy,w5,xz,x5,w6,jc,x6,Op.operands,Call.operands,yd,qi,w7,AObj.live]
    by_cases hn : v.n = 0
    rotate_left
    · simp -implicitDefEqProofs [R, avV, zeroAV, intbne, intbeq, strbeq, lenz, hk, hbb, hn, IntWalk.i64_in,IntWalk.u64_in,IntWalk.u8_in,IntWalk.i32_in,IntWalk.u32_in,ye,zk,zm,qj,qk,qm,qn,zb,zc,zn,zp,zq,qo,zd,ze,zr,zt,zu,j3,x7,zw,zf,za,zx,qp,zy,zg,zz,z6,qq,zh,yf,qr,aop,yq,j4,j5,x8,x9,jd,j6,j7,wb,je,j8,yr,j9,wg,jf,jg,xa,xb,z7,jh,z8,ji,jj,yt,yu,xc,AV.one,wh,wi,aun,jk,xd,yw,afn,xe,Out.ren,xf,xg,jl,wj,xh,wl,jm,Eng.distinct,pos,wn,Eng.ren,wo,xi,wp,jo,wq,yg,xj,ws,wu,jp,frz,yx,yz,wv,List.lookup_cons,jq,zi,jr,js,List.range_succ,jt,xk,ju,xm,↓yh,↓yi,↓qt,↓y6,↓qu,↓qa,↓yj,↓yk,↓qv,↓qw,↓qx,↓qy,↓qb,↓qz,qc,ww,xn,jv,jw,yl,qd,qe,zj,wx,y7,jx,xp,xq,keq,y8,wy,qf,y9,ym,xr,jy,jz,xt,j0,wz,ja,j1,xu,xv,xw,jb,q5,q6,yn,q7,j2,Option.map_some,yo,qg,q8,q9,qh,ya,xx,yb,yp,yc,xy,w5,xz,x5,w6,jc,x6,Op.operands,Call.operands,yd,qi,w7,AObj.live]
    by_cases ht : v.t = []
    rotate_left
    · simp -implicitDefEqProofs [R, avV, zeroAV, intbne, intbeq, strbeq, lenz, hk, hbb, hn, ht, IntWalk.i64_in,IntWalk.u64_in,IntWalk.u8_in,IntWalk.i32_in,IntWalk.u32_in,ye,zk,zm,qj,qk,qm,qn,zb,zc,zn,zp,zq,qo,zd,ze,zr,zt,zu,j3,x7,zw,zf,za,zx,qp,zy,zg,zz,z6,qq,zh,yf,qr,aop,yq,j4,j5,x8,x9,jd,j6,j7,wb,je,j8,yr,j9,wg,jf,jg,xa,xb,z7,jh,z8,ji,jj,yt,yu,xc,AV.one,wh,wi,aun,jk,xd,yw,afn,xe,Out.ren,xf,xg,jl,wj,xh,wl,jm,Eng.distinct,pos,wn,Eng.ren,wo,xi,wp,jo,wq,yg,xj,ws,wu,jp,frz,yx,yz,wv,List.lookup_cons,jq,zi,jr,js,List.range_succ,jt,xk,ju,xm,↓yh,↓yi,↓qt,↓y6,↓qu,↓qa,↓yj,↓yk,↓qv,↓qw,↓qx,↓qy,↓qb,↓qz,qc,ww,xn,jv,jw,yl,qd,qe,zj,wx,y7,jx,xp,xq,keq,y8,wy,qf,y9,ym,xr,jy,jz,xt,j0,wz,ja,j1,xu,xv,xw,jb,q5,q6,yn,q7,j2,Option.map_some,yo,qg,q8,q9,qh,ya,xx,yb,yp,yc,xy,w5,xz,x5,w6,jc,x6,Op.operands,Call.operands,yd,qi,w7,AObj.live]
    by_cases hl : v.l = []
    rotate_left
    · simp -implicitDefEqProofs [R, avV, zeroAV, intbne, intbeq, strbeq, lenz, hk, hbb, hn, ht, hl, IntWalk.i64_in,IntWalk.u64_in,IntWalk.u8_in,IntWalk.i32_in,IntWalk.u32_in,ye,zk,zm,qj,qk,qm,qn,zb,zc,zn,zp,zq,qo,zd,ze,zr,zt,zu,j3,x7,zw,zf,za,zx,qp,zy,zg,zz,z6,qq,zh,yf,qr,aop,yq,j4,j5,x8,x9,jd,j6,j7,wb,je,j8,yr,j9,wg,jf,jg,xa,xb,z7,jh,z8,ji,jj,yt,yu,xc,AV.one,wh,wi,aun,jk,xd,yw,afn,xe,Out.ren,xf,xg,jl,wj,xh,wl,jm,Eng.distinct,pos,wn,Eng.ren,wo,xi,wp,jo,wq,yg,xj,ws,wu,jp,frz,yx,yz,wv,List.lookup_cons,jq,zi,jr,js,List.range_succ,jt,xk,ju,xm,↓yh,↓yi,↓qt,↓y6,↓qu,↓qa,↓yj,↓yk,↓qv,↓qw,↓qx,↓qy,↓qb,↓qz,qc,ww,xn,jv,jw,yl,qd,qe,zj,wx,y7,jx,xp,xq,keq,y8,wy,qf,y9,ym,xr,jy,jz,xt,j0,wz,ja,j1,xu,xv,xw,jb,q5,q6,yn,q7,j2,Option.map_some,yo,qg,q8,q9,qh,ya,xx,yb,yp,yc,xy,w5,xz,x5,w6,jc,x6,Op.operands,Call.operands,yd,qi,w7,AObj.live]
    by_cases ho : v.o = []
    rotate_left
    · simp -implicitDefEqProofs [R, avV, zeroAV, intbne, intbeq, strbeq, lenz, hk, hbb, hn, ht, hl, ho, IntWalk.i64_in,IntWalk.u64_in,IntWalk.u8_in,IntWalk.i32_in,IntWalk.u32_in,ye,zk,zm,qj,qk,qm,qn,zb,zc,zn,zp,zq,qo,zd,ze,zr,zt,zu,j3,x7,zw,zf,za,zx,qp,zy,zg,zz,z6,qq,zh,yf,qr,aop,yq,j4,j5,x8,x9,jd,j6,j7,wb,je,j8,yr,j9,wg,jf,jg,xa,xb,z7,jh,z8,ji,jj,yt,yu,xc,AV.one,wh,wi,aun,jk,xd,yw,afn,xe,Out.ren,xf,xg,jl,wj,xh,wl,jm,Eng.distinct,pos,wn,Eng.ren,wo,xi,wp,jo,wq,yg,xj,ws,wu,jp,frz,yx,yz,wv,List.lookup_cons,jq,zi,jr,js,List.range_succ,jt,xk,ju,xm,↓yh,↓yi,↓qt,↓y6,↓qu,↓qa,↓yj,↓yk,↓qv,↓qw,↓qx,↓qy,↓qb,↓qz,qc,ww,xn,jv,jw,yl,qd,qe,zj,wx,y7,jx,xp,xq,keq,y8,wy,qf,y9,ym,xr,jy,jz,xt,j0,wz,ja,j1,xu,xv,xw,jb,q5,q6,yn,q7,j2,Option.map_some,yo,qg,q8,q9,qh,ya,xx,yb,yp,yc,xy,w5,xz,x5,w6,jc,x6,Op.operands,Call.operands,yd,qi,w7,AObj.live]
    exact absurd (by simp [blankV, hk, hbb, hn, ht, hl, ho]) hb
  have hh := hb
  simp only [blankV, decide_eq_true_eq] at hh
  obtain ⟨hk, hbb, hn, ht, hl, ho⟩ := hh
  rw [hb]
  simp -implicitDefEqProofs [R, avV, zeroAV, mach_loop, hk, hbb, hn, ht, hl, ho, IntWalk.i64_in,IntWalk.u64_in,IntWalk.u8_in,IntWalk.i32_in,IntWalk.u32_in,ye,zk,zm,qj,qk,qm,qn,zb,zc,zn,zp,zq,qo,zd,ze,zr,zt,zu,j3,x7,zw,zf,za,zx,qp,zy,zg,zz,z6,qq,zh,yf,qr,aop,yq,j4,j5,x8,x9,jd,j6,j7,wb,je,j8,yr,j9,wg,jf,jg,xa,xb,z7,jh,z8,ji,jj,yt,yu,xc,AV.one,wh,wi,aun,jk,xd,yw,afn,xe,Out.ren,xf,xg,jl,wj,xh,wl,jm,Eng.distinct,pos,wn,Eng.ren,wo,xi,wp,jo,wq,yg,xj,ws,wu,jp,frz,yx,yz,wv,List.lookup_cons,jq,zi,jr,js,List.range_succ,jt,xk,ju,xm,↓yh,↓yi,↓qt,↓y6,↓qu,↓qa,↓yj,↓yk,↓qv,↓qw,↓qx,↓qy,↓qb,↓qz,qc,ww,xn,jv,jw,yl,qd,qe,zj,wx,y7,jx,xp,xq,keq,y8,wy,qf,y9,ym,xr,jy,jz,xt,j0,wz,ja,j1,xu,xv,xw,jb,q5,q6,yn,q7,j2,Option.map_some,yo,qg,q8,q9,qh,ya,xx,yb,yp,yc,xy,w5,xz,x5,w6,jc,x6,Op.operands,Call.operands,yd,qi,w7,AObj.live]
  rw [aloop_round]
  simp -implicitDefEqProofs [R, avV, zeroAV, mach_loop, hk, hbb, hn, ht, hl, ho, IntWalk.i64_in,IntWalk.u64_in,IntWalk.u8_in,IntWalk.i32_in,IntWalk.u32_in,ye,zk,zm,qj,qk,qm,qn,zb,zc,zn,zp,zq,qo,zd,ze,zr,zt,zu,j3,x7,zw,zf,za,zx,qp,zy,zg,zz,z6,qq,zh,yf,qr,aop,yq,j4,j5,x8,x9,jd,j6,j7,wb,je,j8,yr,j9,wg,jf,jg,xa,xb,z7,jh,z8,ji,jj,yt,yu,xc,AV.one,wh,wi,aun,jk,xd,yw,afn,xe,Out.ren,xf,xg,jl,wj,xh,wl,jm,Eng.distinct,pos,wn,Eng.ren,wo,xi,wp,jo,wq,yg,xj,ws,wu,jp,frz,yx,yz,wv,List.lookup_cons,jq,zi,jr,js,List.range_succ,jt,xk,ju,xm,↓yh,↓yi,↓qt,↓y6,↓qu,↓qa,↓yj,↓yk,↓qv,↓qw,↓qx,↓qy,↓qb,↓qz,qc,ww,xn,jv,jw,yl,qd,qe,zj,wx,y7,jx,xp,xq,keq,y8,wy,qf,y9,ym,xr,jy,jz,xt,j0,wz,ja,j1,xu,xv,xw,jb,q5,q6,yn,q7,j2,Option.map_some,yo,qg,q8,q9,qh,ya,xx,yb,yp,yc,xy,w5,xz,x5,w6,jc,x6,Op.operands,Call.operands,yd,qi,w7,AObj.live]
  rw [aloop_round]
  simp -implicitDefEqProofs [R, avV, zeroAV, mach_loop, hk, hbb, hn, ht, hl, ho, IntWalk.i64_in,IntWalk.u64_in,IntWalk.u8_in,IntWalk.i32_in,IntWalk.u32_in,ye,zk,zm,qj,qk,qm,qn,zb,zc,zn,zp,zq,qo,zd,ze,zr,zt,zu,j3,x7,zw,zf,za,zx,qp,zy,zg,zz,z6,qq,zh,yf,qr,aop,yq,j4,j5,x8,x9,jd,j6,j7,wb,je,j8,yr,j9,wg,jf,jg,xa,xb,z7,jh,z8,ji,jj,yt,yu,xc,AV.one,wh,wi,aun,jk,xd,yw,afn,xe,Out.ren,xf,xg,jl,wj,xh,wl,jm,Eng.distinct,pos,wn,Eng.ren,wo,xi,wp,jo,wq,yg,xj,ws,wu,jp,frz,yx,yz,wv,List.lookup_cons,jq,zi,jr,js,List.range_succ,jt,xk,ju,xm,↓yh,↓yi,↓qt,↓y6,↓qu,↓qa,↓yj,↓yk,↓qv,↓qw,↓qx,↓qy,↓qb,↓qz,qc,ww,xn,jv,jw,yl,qd,qe,zj,wx,y7,jx,xp,xq,keq,y8,wy,qf,y9,ym,xr,jy,jz,xt,j0,wz,ja,j1,xu,xv,xw,jb,q5,q6,yn,q7,j2,Option.map_some,yo,qg,q8,q9,qh,ya,xx,yb,yp,yc,xy,w5,xz,x5,w6,jc,x6,Op.operands,Call.operands,yd,qi,w7,AObj.live]

theorem b_rWithin (C : Oracle) (v : V) (hsz : v.size ≤ 1099511627776) :
    abody Tryz.prog [] C (mach Tryz.prog C { keep := [(490, [1, 3, 4])], outs := [(490, [2, 3])] }) true 116 [avV v] [] = R (slD 6 ((withinV v).map encV)) := by
  unfold abody
  rw [Tryz.func116]
  simp only [Tryz.f116]
  have hl1 := V.l_len v
  have ho1 := V.o_len v
  by_cases h6 : v.k = 6
  rotate_left
  · by_cases h5 : v.k = 5
    · by_cases hl : v.l = []
      · simp -implicitDefEqProofs [R, avV, slD, withinV, h6, h5, hl, IntWalk.i64_in,IntWalk.u64_in,IntWalk.u8_in,IntWalk.i32_in,IntWalk.u32_in,ye,zk,zm,qj,qk,qm,qn,zb,zc,zn,zp,zq,qo,zd,ze,zr,zt,zu,j3,x7,zw,zf,za,zx,qp,zy,zg,zz,z6,qq,zh,yf,qr,aop,yq,j4,j5,x8,x9,jd,j6,j7,wb,je,j8,yr,j9,wg,jf,jg,xa,xb,z7,jh,z8,ji,jj,yt,yu,xc,AV.one,wh,wi,aun,jk,xd,yw,afn,xe,Out.ren,xf,xg,jl,wj,xh,wl,jm,Eng.distinct,pos,wn,Eng.ren,wo,xi,wp,jo,wq,yg,xj,ws,wu,jp,frz,yx,yz,wv,List.lookup_cons,jq,zi,jr,js,List.range_succ,jt,xk,ju,xm,↓yh,↓yi,↓qt,↓y6,↓qu,↓qa,↓yj,↓yk,↓qv,↓qw,↓qx,↓qy,↓qb,↓qz,qc,ww,xn,jv,jw,yl,qd,qe,zj,wx,y7,jx,xp,xq,keq,y8,wy,qf,y9,ym,xr,jy,jz,xt,j0,wz,ja,j1,xu,xv,xw,jb,q5,q6,yn,q7,j2,Option.map_some,yo,qg,q8,q9,qh,ya,xx,yb,yp,yc,xy,w5,xz,x5,w6,jc,x6,Op.operands,Call.operands,yd,qi,w7,AObj.live]
      · have hl2 : ¬ v.l.length = 0 := by simpa using hl
        have hl3 : v.l.length * 88 ≤ 140737488355328 := by omega
        have hl4 : v.l.length ≤ 140737488355328 := by omega
        simp -implicitDefEqProofs [R, avV, slD, withinV, h6, h5, hl, hl2, hl3, hl4, take_map_len, IntWalk.i64_in,IntWalk.u64_in,IntWalk.u8_in,IntWalk.i32_in,IntWalk.u32_in,ye,zk,zm,qj,qk,qm,qn,zb,zc,zn,zp,zq,qo,zd,ze,zr,zt,zu,j3,x7,zw,zf,za,zx,qp,zy,zg,zz,z6,qq,zh,yf,qr,aop,yq,j4,j5,x8,x9,jd,j6,j7,wb,je,j8,yr,j9,wg,jf,jg,xa,xb,z7,jh,z8,ji,jj,yt,yu,xc,AV.one,wh,wi,aun,jk,xd,yw,afn,xe,Out.ren,xf,xg,jl,wj,xh,wl,jm,Eng.distinct,pos,wn,Eng.ren,wo,xi,wp,jo,wq,yg,xj,ws,wu,jp,frz,yx,yz,wv,List.lookup_cons,jq,zi,jr,js,List.range_succ,jt,xk,ju,xm,↓yh,↓yi,↓qt,↓y6,↓qu,↓qa,↓yj,↓yk,↓qv,↓qw,↓qx,↓qy,↓qb,↓qz,qc,ww,xn,jv,jw,yl,qd,qe,zj,wx,y7,jx,xp,xq,keq,y8,wy,qf,y9,ym,xr,jy,jz,xt,j0,wz,ja,j1,xu,xv,xw,jb,q5,q6,yn,q7,j2,Option.map_some,yo,qg,q8,q9,qh,ya,xx,yb,yp,yc,xy,w5,xz,x5,w6,jc,x6,Op.operands,Call.operands,yd,qi,w7,AObj.live]
    · simp -implicitDefEqProofs [R, avV, slD, withinV, h6, h5, IntWalk.i64_in,IntWalk.u64_in,IntWalk.u8_in,IntWalk.i32_in,IntWalk.u32_in,ye,zk,zm,qj,qk,qm,qn,zb,zc,zn,zp,zq,qo,zd,ze,zr,zt,zu,j3,x7,zw,zf,za,zx,qp,zy,zg,zz,z6,qq,zh,yf,qr,aop,yq,j4,j5,x8,x9,jd,j6,j7,wb,je,j8,yr,j9,wg,jf,jg,xa,xb,z7,jh,z8,ji,jj,yt,yu,xc,AV.one,wh,wi,aun,jk,xd,yw,afn,xe,Out.ren,xf,xg,jl,wj,xh,wl,jm,Eng.distinct,pos,wn,Eng.ren,wo,xi,wp,jo,wq,yg,xj,ws,wu,jp,frz,yx,yz,wv,List.lookup_cons,jq,zi,jr,js,List.range_succ,jt,xk,ju,xm,↓yh,↓yi,↓qt,↓y6,↓qu,↓qa,↓yj,↓yk,↓qv,↓qw,↓qx,↓qy,↓qb,↓qz,qc,ww,xn,jv,jw,yl,qd,qe,zj,wx,y7,jx,xp,xq,keq,y8,wy,qf,y9,ym,xr,jy,jz,xt,j0,wz,ja,j1,xu,xv,xw,jb,q5,q6,yn,q7,j2,Option.map_some,yo,qg,q8,q9,qh,ya,xx,yb,yp,yc,xy,w5,xz,x5,w6,jc,x6,Op.operands,Call.operands,yd,qi,w7,AObj.live]
  simp -implicitDefEqProofs [R, avV, h6, mach_loop, IntWalk.i64_in,IntWalk.u64_in,IntWalk.u8_in,IntWalk.i32_in,IntWalk.u32_in,ye,zk,zm,qj,qk,qm,qn,zb,zc,zn,zp,zq,qo,zd,ze,zr,zt,zu,j3,x7,zw,zf,za,zx,qp,zy,zg,zz,z6,qq,zh,yf,qr,aop,yq,j4,j5,x8,x9,jd,j6,j7,wb,je,j8,yr,j9,wg,jf,jg,xa,xb,z7,jh,z8,ji,jj,yt,yu,xc,AV.one,wh,wi,aun,jk,xd,yw,afn,xe,Out.ren,xf,xg,jl,wj,xh,wl,jm,Eng.distinct,pos,wn,Eng.ren,wo,xi,wp,jo,wq,yg,xj,ws,wu,jp,frz,yx,yz,wv,List.lookup_cons,jq,zi,jr,js,List.range_succ,jt,xk,ju,xm,↓yh,↓yi,↓qt,↓y6,↓qu,↓qa,↓yj,↓yk,↓qv,↓qw,↓qx,↓qy,↓qb,↓qz,qc,ww,xn,jv,jw,yl,qd,qe,zj,wx,y7,jx,xp,xq,keq,y8,wy,qf,y9,ym,xr,jy,jz,xt,j0,wz,ja,j1,xu,xv,xw,jb,q5,q6,yn,q7,j2,Option.map_some,yo,qg,q8,q9,qh,ya,xx,yb,yp,yc,xy,w5,xz,x5,w6,jc,x6,Op.operands,Call.operands,yd,qi,w7,AObj.live]
  rw [aloop_list (l := v.o)
    (S := fun pre suf => { env := [(1, .ptr 0 0), (3, if pre = [] then .d .nils else .sl 1 6 0 pre.length), (4, .d (.int .i64 (pre.length : Nat)))], σ := .box [.d (.int .i64 6), .d (.bool v.b), .d (.int .i64 v.n), .d (.str v.t), .d (.rs 6 (v.l.map encV)), .d (.rs 7 ((pre ++ suf).map encM))] 45 :: (if pre = [] then [] else [.drow (pre.map fun m => encV m.v) 45 6]), dfs := [] })
    (R := fun pre suf => some (.exit 0, { env := [(3, if pre ++ suf = [] then .d .nils else .sl 0 6 0 (pre ++ suf).length)], σ := (if pre ++ suf = [] then [] else [.drow ((pre ++ suf).map fun m => encV m.v) 45 6]), dfs := [] }))
    (hs := ?_) (h0 := ?_) (h1 := ?_)]
  rotate_left
  · simp -implicitDefEqProofs [IntWalk.i64_in,IntWalk.u64_in,IntWalk.u8_in,IntWalk.i32_in,IntWalk.u32_in,ye,zk,zm,qj,qk,qm,qn,zb,zc,zn,zp,zq,qo,zd,ze,zr,zt,zu,j3,x7,zw,zf,za,zx,qp,zy,zg,zz,z6,qq,zh,yf,qr,aop,yq,j4,j5,x8,x9,jd,j6,j7,wb,je,j8,yr,j9,wg,jf,jg,xa,xb,z7,jh,z8,ji,jj,yt,yu,xc,AV.one,wh,wi,aun,jk,xd,yw,afn,xe,Out.ren,xf,xg,jl,wj,xh,wl,jm,Eng.distinct,pos,wn,Eng.ren,wo,xi,wp,jo,wq,yg,xj,ws,wu,jp,frz,yx,yz,wv,List.lookup_cons,jq,zi,jr,js,List.range_succ,jt,xk,ju,xm,↓yh,↓yi,↓qt,↓y6,↓qu,↓qa,↓yj,↓yk,↓qv,↓qw,↓qx,↓qy,↓qb,↓qz,qc,ww,xn,jv,jw,yl,qd,qe,zj,wx,y7,jx,xp,xq,keq,y8,wy,qf,y9,ym,xr,jy,jz,xt,j0,wz,ja,j1,xu,xv,xw,jb,q5,q6,yn,q7,j2,Option.map_some,yo,qg,q8,q9,qh,ya,xx,yb,yp,yc,xy,w5,xz,x5,w6,jc,x6,Op.operands,Call.operands,yd,qi,w7,AObj.live]
  · intro pre hp
    by_cases hpe : pre = []
    · simp -implicitDefEqProofs [mach_loop, hpe, IntWalk.i64_in,IntWalk.u64_in,IntWalk.u8_in,IntWalk.i32_in,IntWalk.u32_in,ye,zk,zm,qj,qk,qm,qn,zb,zc,zn,zp,zq,qo,zd,ze,zr,zt,zu,j3,x7,zw,zf,za,zx,qp,zy,zg,zz,z6,qq,zh,yf,qr,aop,yq,j4,j5,x8,x9,jd,j6,j7,wb,je,j8,yr,j9,wg,jf,jg,xa,xb,z7,jh,z8,ji,jj,yt,yu,xc,AV.one,wh,wi,aun,jk,xd,yw,afn,xe,Out.ren,xf,xg,jl,wj,xh,wl,jm,Eng.distinct,pos,wn,Eng.ren,wo,xi,wp,jo,wq,yg,xj,ws,wu,jp,frz,yx,yz,wv,List.lookup_cons,jq,zi,jr,js,List.range_succ,jt,xk,ju,xm,↓yh,↓yi,↓qt,↓y6,↓qu,↓qa,↓yj,↓yk,↓qv,↓qw,↓qx,↓qy,↓qb,↓qz,qc,ww,xn,jv,jw,yl,qd,qe,zj,wx,y7,jx,xp,xq,keq,y8,wy,qf,y9,ym,xr,jy,jz,xt,j0,wz,ja,j1,xu,xv,xw,jb,q5,q6,yn,q7,j2,Option.map_some,yo,qg,q8,q9,qh,ya,xx,yb,yp,yc,xy,w5,xz,x5,w6,jc,x6,Op.operands,Call.operands,yd,qi,w7,AObj.live]
    · simp -implicitDefEqProofs [mach_loop, hpe, IntWalk.i64_in,IntWalk.u64_in,IntWalk.u8_in,IntWalk.i32_in,IntWalk.u32_in,ye,zk,zm,qj,qk,qm,qn,zb,zc,zn,zp,zq,qo,zd,ze,zr,zt,zu,j3,x7,zw,zf,za,zx,qp,zy,zg,zz,z6,qq,zh,yf,qr,aop,yq,j4,j5,x8,x9,jd,j6,j7,wb,je,j8,yr,j9,wg,jf,jg,xa,xb,z7,jh,z8,ji,jj,yt,yu,xc,AV.one,wh,wi,aun,jk,xd,yw,afn,xe,Out.ren,xf,xg,jl,wj,xh,wl,jm,Eng.distinct,pos,wn,Eng.ren,wo,xi,wp,jo,wq,yg,xj,ws,wu,jp,frz,yx,yz,wv,List.lookup_cons,jq,zi,jr,js,List.range_succ,jt,xk,ju,xm,↓yh,↓yi,↓qt,↓y6,↓qu,↓qa,↓yj,↓yk,↓qv,↓qw,↓qx,↓qy,↓qb,↓qz,qc,ww,xn,jv,jw,yl,qd,qe,zj,wx,y7,jx,xp,xq,keq,y8,wy,qf,y9,ym,xr,jy,jz,xt,j0,wz,ja,j1,xu,xv,xw,jb,q5,q6,yn,q7,j2,Option.map_some,yo,qg,q8,q9,qh,ya,xx,yb,yp,yc,xy,w5,xz,x5,w6,jc,x6,Op.operands,Call.operands,yd,qi,w7,AObj.live]
  · intro pre m suf hp ih
    have hll : pre.length < v.o.length := by rw [← hp]; simp
    have hw2 : IntKind.i64.wrap ((pre.length : Nat) + 1) = (pre.length : Nat) + 1 := wrap64 (by omega) (by omega)
    have hl3 : (pre.length + 1) * 88 ≤ 140737488355328 := by omega
    have hl4 : pre.length + 1 ≤ 140737488355328 := by omega
    by_cases hpe : pre = []
    · subst hpe
      simp -implicitDefEqProofs [mach_loop, hw2, encM_eq, encV_eq, mid_lt, IntWalk.i64_in,IntWalk.u64_in,IntWalk.u8_in,IntWalk.i32_in,IntWalk.u32_in,ye,zk,zm,qj,qk,qm,qn,zb,zc,zn,zp,zq,qo,zd,ze,zr,zt,zu,j3,x7,zw,zf,za,zx,qp,zy,zg,zz,z6,qq,zh,yf,qr,aop,yq,j4,j5,x8,x9,jd,j6,j7,wb,je,j8,yr,j9,wg,jf,jg,xa,xb,z7,jh,z8,ji,jj,yt,yu,xc,AV.one,wh,wi,aun,jk,xd,yw,afn,xe,Out.ren,xf,xg,jl,wj,xh,wl,jm,Eng.distinct,pos,wn,Eng.ren,wo,xi,wp,jo,wq,yg,xj,ws,wu,jp,frz,yx,yz,wv,List.lookup_cons,jq,zi,jr,js,List.range_succ,jt,xk,ju,xm,↓yh,↓yi,↓qt,↓y6,↓qu,↓qa,↓yj,↓yk,↓qv,↓qw,↓qx,↓qy,↓qb,↓qz,qc,ww,xn,jv,jw,yl,qd,qe,zj,wx,y7,jx,xp,xq,keq,y8,wy,qf,y9,ym,xr,jy,jz,xt,j0,wz,ja,j1,xu,xv,xw,jb,q5,q6,yn,q7,j2,Option.map_some,yo,qg,q8,q9,qh,ya,xx,yb,yp,yc,xy,w5,xz,x5,w6,jc,x6,Op.operands,Call.operands,yd,qi,w7,AObj.live]
      rw [ih _ (by simp -implicitDefEqProofs [encM_eq, encV_eq, IntWalk.i64_in,IntWalk.u64_in,IntWalk.u8_in,IntWalk.i32_in,IntWalk.u32_in,ye,zk,zm,qj,qk,qm,qn,zb,zc,zn,zp,zq,qo,zd,ze,zr,zt,zu,j3,x7,zw,zf,za,zx,qp,zy,zg,zz,z6,qq,zh,yf,qr,aop,yq,j4,j5,x8,x9,jd,j6,j7,wb,je,j8,yr,j9,wg,jf,jg,xa,xb,z7,jh,z8,ji,jj,yt,yu,xc,AV.one,wh,wi,aun,jk,xd,yw,afn,xe,Out.ren,xf,xg,jl,wj,xh,wl,jm,Eng.distinct,pos,wn,Eng.ren,wo,xi,wp,jo,wq,yg,xj,ws,wu,jp,frz,yx,yz,wv,List.lookup_cons,jq,zi,jr,js,List.range_succ,jt,xk,ju,xm,↓yh,↓yi,↓qt,↓y6,↓qu,↓qa,↓yj,↓yk,↓qv,↓qw,↓qx,↓qy,↓qb,↓qz,qc,ww,xn,jv,jw,yl,qd,qe,zj,wx,y7,jx,xp,xq,keq,y8,wy,qf,y9,ym,xr,jy,jz,xt,j0,wz,ja,j1,xu,xv,xw,jb,q5,q6,yn,q7,j2,Option.map_some,yo,qg,q8,q9,qh,ya,xx,yb,yp,yc,xy,w5,xz,x5,w6,jc,x6,Op.operands,Call.operands,yd,qi,w7,AObj.live] <;> omega)]
      simp -implicitDefEqProofs [encM_eq, encV_eq, IntWalk.i64_in,IntWalk.u64_in,IntWalk.u8_in,IntWalk.i32_in,IntWalk.u32_in,ye,zk,zm,qj,qk,qm,qn,zb,zc,zn,zp,zq,qo,zd,ze,zr,zt,zu,j3,x7,zw,zf,za,zx,qp,zy,zg,zz,z6,qq,zh,yf,qr,aop,yq,j4,j5,x8,x9,jd,j6,j7,wb,je,j8,yr,j9,wg,jf,jg,xa,xb,z7,jh,z8,ji,jj,yt,yu,xc,AV.one,wh,wi,aun,jk,xd,yw,afn,xe,Out.ren,xf,xg,jl,wj,xh,wl,jm,Eng.distinct,pos,wn,Eng.ren,wo,xi,wp,jo,wq,yg,xj,ws,wu,jp,frz,yx,yz,wv,List.lookup_cons,jq,zi,jr,js,List.range_succ,jt,xk,ju,xm,↓yh,↓yi,↓qt,↓y6,↓qu,↓qa,↓yj,↓yk,↓qv,↓qw,↓qx,↓qy,↓qb,↓qz,qc,ww,xn,jv,jw,yl,qd,qe,zj,wx,y7,jx,xp,xq,keq,y8,wy,qf,y9,ym,xr,jy,jz,xt,j0,wz,ja,j1,xu,xv,xw,jb,q5,q6,yn,q7,j2,Option.map_some,yo,qg,q8,q9,qh,ya,xx,yb,yp,yc,xy,w5,xz,x5,w6,jc,x6,Op.operands,Call.operands,yd,qi,w7,AObj.live]
    · simp -implicitDefEqProofs [mach_loop, hpe, hw2, hl3, hl4, encM_eq, encV_eq, mid_lt, IntWalk.i64_in,IntWalk.u64_in,IntWalk.u8_in,IntWalk.i32_in,IntWalk.u32_in,ye,zk,zm,qj,qk,qm,qn,zb,zc,zn,zp,zq,qo,zd,ze,zr,zt,zu,j3,x7,zw,zf,za,zx,qp,zy,zg,zz,z6,qq,zh,yf,qr,aop,yq,j4,j5,x8,x9,jd,j6,j7,wb,je,j8,yr,j9,wg,jf,jg,xa,xb,z7,jh,z8,ji,jj,yt,yu,xc,AV.one,wh,wi,aun,jk,xd,yw,afn,xe,Out.ren,xf,xg,jl,wj,xh,wl,jm,Eng.distinct,pos,wn,Eng.ren,wo,xi,wp,jo,wq,yg,xj,ws,wu,jp,frz,yx,yz,wv,List.lookup_cons,jq,zi,jr,js,List.range_succ,jt,xk,ju,xm,↓yh,↓yi,↓qt,↓y6,↓qu,↓qa,↓yj,↓yk,↓qv,↓qw,↓qx,↓qy,↓qb,↓qz,qc,ww,xn,jv,jw,yl,qd,qe,zj,wx,y7,jx,xp,xq,keq,y8,wy,qf,y9,ym,xr,jy,jz,xt,j0,wz,ja,j1,xu,xv,xw,jb,q5,q6,yn,q7,j2,Option.map_some,yo,qg,q8,q9,qh,ya,xx,yb,yp,yc,xy,w5,xz,x5,w6,jc,x6,Op.operands,Call.operands,yd,qi,w7,AObj.live]
      rw [ih _ (by simp -implicitDefEqProofs [hpe, encM_eq, encV_eq, IntWalk.i64_in,IntWalk.u64_in,IntWalk.u8_in,IntWalk.i32_in,IntWalk.u32_in,ye,zk,zm,qj,qk,qm,qn,zb,zc,zn,zp,zq,qo,zd,ze,zr,zt,zu,j3,x7,zw,zf,za,zx,qp,zy,zg,zz,z6,qq,zh,yf,qr,aop,yq,j4,j5,x8,x9,jd,j6,j7,wb,je,j8,yr,j9,wg,jf,jg,xa,xb,z7,jh,z8,ji,jj,yt,yu,xc,AV.one,wh,wi,aun,jk,xd,yw,afn,xe,Out.ren,xf,xg,jl,wj,xh,wl,jm,Eng.distinct,pos,wn,Eng.ren,wo,xi,wp,jo,wq,yg,xj,ws,wu,jp,frz,yx,yz,wv,List.lookup_cons,jq,zi,jr,js,List.range_succ,jt,xk,ju,xm,↓yh,↓yi,↓qt,↓y6,↓qu,↓qa,↓yj,↓yk,↓qv,↓qw,↓qx,↓qy,↓qb,↓qz,qc,ww,xn,jv,jw,yl,qd,qe,zj,wx,y7,jx,xp,xq,keq,y8,wy,qf,y9,ym,xr,jy,jz,xt,j0,wz,ja,j1,xu,xv,xw,jb,q5,q6,yn,q7,j2,Option.map_some,yo,qg,q8,q9,qh,ya,xx,yb,yp,yc,xy,w5,xz,x5,w6,jc,x6,Op.operands,Call.operands,yd,qi,w7,AObj.live] <;> omega)]
      simp -implicitDefEqProofs [hpe, encM_eq, encV_eq, IntWalk.i64_in,IntWalk.u64_in,IntWalk.u8_in,IntWalk.i32_in,IntWalk.u32_in,ye,zk,zm,qj,qk,qm,qn,zb,zc,zn,zp,zq,qo,zd,ze,zr,zt,zu,j3,x7,zw,zf,za,zx,qp,zy,zg,zz,z6,qq,zh,yf,qr,aop,yq,j4,j5,x8,x9,jd,j6,j7,wb,je,j8,yr,j9,wg,jf,jg,xa,xb,z7,jh,z8,ji,jj,yt,yu,xc,AV.one,wh,wi,aun,jk,xd,yw,afn,xe,Out.ren,xf,xg,jl,wj,xh,wl,jm,Eng.distinct,pos,wn,Eng.ren,wo,xi,wp,jo,wq,yg,xj,ws,wu,jp,frz,yx,yz,wv,List.lookup_cons,jq,zi,jr,js,List.range_succ,jt,xk,ju,xm,↓yh,↓yi,↓qt,↓y6,↓qu,↓qa,↓yj,↓yk,↓qv,↓qw,↓qx,↓qy,↓qb,↓qz,qc,ww,xn,jv,jw,yl,qd,qe,zj,wx,y7,jx,xp,xq,keq,y8,wy,qf,y9,ym,xr,jy,jz,xt,j0,wz,ja,j1,xu,xv,xw,jb,q5,q6,yn,q7,j2,Option.map_some,yo,qg,q8,q9,qh,ya,xx,yb,yp,yc,xy,w5,xz,x5,w6,jc,x6,Op.operands,Call.operands,yd,qi,w7,AObj.live]
  by_cases hoe : v.o = []
  · simp -implicitDefEqProofs [R, slD, withinV, h6, hoe, mach_loop, IntWalk.i64_in,IntWalk.u64_in,IntWalk.u8_in,IntWalk.i32_in,IntWalk.u32_in,ye,zk,zm,qj,qk,qm,qn,zb,zc,zn,zp,zq,qo,zd,ze,zr,zt,zu,j3,x7,zw,zf,za,zx,qp,zy,zg,zz,z6,qq,zh,yf,qr,aop,yq,j4,j5,x8,x9,jd,j6,j7,wb,je,j8,yr,j9,wg,jf,jg,xa,xb,z7,jh,z8,ji,jj,yt,yu,xc,AV.one,wh,wi,aun,jk,xd,yw,afn,xe,Out.ren,xf,xg,jl,wj,xh,wl,jm,Eng.distinct,pos,wn,Eng.ren,wo,xi,wp,jo,wq,yg,xj,ws,wu,jp,frz,yx,yz,wv,List.lookup_cons,jq,zi,jr,js,List.range_succ,jt,xk,ju,xm,↓yh,↓yi,↓qt,↓y6,↓qu,↓qa,↓yj,↓yk,↓qv,↓qw,↓qx,↓qy,↓qb,↓qz,qc,ww,xn,jv,jw,yl,qd,qe,zj,wx,y7,jx,xp,xq,keq,y8,wy,qf,y9,ym,xr,jy,jz,xt,j0,wz,ja,j1,xu,xv,xw,jb,q5,q6,yn,q7,j2,Option.map_some,yo,qg,q8,q9,qh,ya,xx,yb,yp,yc,xy,w5,xz,x5,w6,jc,x6,Op.operands,Call.operands,yd,qi,w7,AObj.live]
  · simp -implicitDefEqProofs [R, slD, withinV, h6, hoe, mach_loop, take_map_len, Function.comp_def, IntWalk.i64_in,IntWalk.u64_in,IntWalk.u8_in,IntWalk.i32_in,IntWalk.u32_in,ye,zk,zm,qj,qk,qm,qn,zb,zc,zn,zp,zq,qo,zd,ze,zr,zt,zu,j3,x7,zw,zf,za,zx,qp,zy,zg,zz,z6,qq,zh,yf,qr,aop,yq,j4,j5,x8,x9,jd,j6,j7,wb,je,j8,yr,j9,wg,jf,jg,xa,xb,z7,jh,z8,ji,jj,yt,yu,xc,AV.one,wh,wi,aun,jk,xd,yw,afn,xe,Out.ren,xf,xg,jl,wj,xh,wl,jm,Eng.distinct,pos,wn,Eng.ren,wo,xi,wp,jo,wq,yg,xj,ws,wu,jp,frz,yx,yz,wv,List.lookup_cons,jq,zi,jr,js,List.range_succ,jt,xk,ju,xm,↓yh,↓yi,↓qt,↓y6,↓qu,↓qa,↓yj,↓yk,↓qv,↓qw,↓qx,↓qy,↓qb,↓qz,qc,ww,xn,jv,jw,yl,qd,qe,zj,wx,y7,jx,xp,xq,keq,y8,wy,qf,y9,ym,xr,jy,jz,xt,j0,wz,ja,j1,xu,xv,xw,jb,q5,q6,yn,q7,j2,Option.map_some,yo,qg,q8,q9,qh,ya,xx,yb,yp,yc,xy,w5,xz,x5,w6,jc,x6,Op.operands,Call.operands,yd,qi,w7,AObj.live]

theorem b_rDeep (C : Oracle) (v : V) (hsz : v.size ≤ 1099511627776) (h1 : C 116 [avV v] [] = R (slD 6 ((withinV v).map encV))) (h2 : ∀ x, x.size < v.size → C 83 [avV x] [] = R (.int .i64 (deepV x))) :
    abody Tryz.prog [] C (mach Tryz.prog C { keep := [(122, [3, 4, 5])], outs := [(122, [2, 3])] }) true 83 [avV v] [] = R (.int .i64 (deepV v)) := by
  have hd := deepV_eq v
  have hle := deepV_le v
  have hll := withinV_len v
  have hn := deepL_nonneg (withinV v)
  have hw : IntKind.i64.wrap (deepL (withinV v) + 1) = deepL (withinV v) + 1 := wrap64 (by omega) (by omega)
  simp only [R, avV] at h1 h2
  unfold abody
  rw [Tryz.func83]
  simp only [Tryz.f83]
  by_cases hwe : withinV v = []
  · simp [hwe, slD] at h1
    simp -implicitDefEqProofs [R, avV, h1, mach_loop, IntWalk.i64_in,IntWalk.u64_in,IntWalk.u8_in,IntWalk.i32_in,IntWalk.u32_in,ye,zk,zm,qj,qk,qm,qn,zb,zc,zn,zp,zq,qo,zd,ze,zr,zt,zu,j3,x7,zw,zf,za,zx,qp,zy,zg,zz,z6,qq,zh,yf,qr,aop,yq,j4,j5,x8,x9,jd,j6,j7,wb,je,j8,yr,j9,wg,jf,jg,xa,xb,z7,jh,z8,ji,jj,yt,yu,xc,AV.one,wh,wi,aun,jk,xd,yw,afn,xe,Out.ren,xf,xg,jl,wj,xh,wl,jm,Eng.distinct,pos,wn,Eng.ren,wo,xi,wp,jo,wq,yg,xj,ws,wu,jp,frz,yx,yz,wv,List.lookup_cons,jq,zi,jr,js,List.range_succ,jt,xk,ju,xm,↓yh,↓yi,↓qt,↓y6,↓qu,↓qa,↓yj,↓yk,↓qv,↓qw,↓qx,↓qy,↓qb,↓qz,qc,ww,xn,jv,jw,yl,qd,qe,zj,wx,y7,jx,xp,xq,keq,y8,wy,qf,y9,ym,xr,jy,jz,xt,j0,wz,ja,j1,xu,xv,xw,jb,q5,q6,yn,q7,j2,Option.map_some,yo,qg,q8,q9,qh,ya,xx,yb,yp,yc,xy,w5,xz,x5,w6,jc,x6,Op.operands,Call.operands,yd,qi,w7,AObj.live]
    rw [aloop_round]
    simp -implicitDefEqProofs [R, avV, hd, hwe, deepL, mach_loop, IntWalk.i64_in,IntWalk.u64_in,IntWalk.u8_in,IntWalk.i32_in,IntWalk.u32_in,ye,zk,zm,qj,qk,qm,qn,zb,zc,zn,zp,zq,qo,zd,ze,zr,zt,zu,j3,x7,zw,zf,za,zx,qp,zy,zg,zz,z6,qq,zh,yf,qr,aop,yq,j4,j5,x8,x9,jd,j6,j7,wb,je,j8,yr,j9,wg,jf,jg,xa,xb,z7,jh,z8,ji,jj,yt,yu,xc,AV.one,wh,wi,aun,jk,xd,yw,afn,xe,Out.ren,xf,xg,jl,wj,xh,wl,jm,Eng.distinct,pos,wn,Eng.ren,wo,xi,wp,jo,wq,yg,xj,ws,wu,jp,frz,yx,yz,wv,List.lookup_cons,jq,zi,jr,js,List.range_succ,jt,xk,ju,xm,↓yh,↓yi,↓qt,↓y6,↓qu,↓qa,↓yj,↓yk,↓qv,↓qw,↓qx,↓qy,↓qb,↓qz,qc,ww,xn,jv,jw,yl,qd,qe,zj,wx,y7,jx,xp,xq,keq,y8,wy,qf,y9,ym,xr,jy,jz,xt,j0,wz,ja,j1,xu,xv,xw,jb,q5,q6,yn,q7,j2,Option.map_some,yo,qg,q8,q9,qh,ya,xx,yb,yp,yc,xy,w5,xz,x5,w6,jc,x6,Op.operands,Call.operands,yd,qi,w7,AObj.live]
  have hse : slD 6 ((withinV v).map encV) = .rs 6 ((withinV v).map encV) := by simp [slD, hwe]
  rw [hse] at h1
  simp -implicitDefEqProofs [R, avV, h1, mach_loop, IntWalk.i64_in,IntWalk.u64_in,IntWalk.u8_in,IntWalk.i32_in,IntWalk.u32_in,ye,zk,zm,qj,qk,qm,qn,zb,zc,zn,zp,zq,qo,zd,ze,zr,zt,zu,j3,x7,zw,zf,za,zx,qp,zy,zg,zz,z6,qq,zh,yf,qr,aop,yq,j4,j5,x8,x9,jd,j6,j7,wb,je,j8,yr,j9,wg,jf,jg,xa,xb,z7,jh,z8,ji,jj,yt,yu,xc,AV.one,wh,wi,aun,jk,xd,yw,afn,xe,Out.ren,xf,xg,jl,wj,xh,wl,jm,Eng.distinct,pos,wn,Eng.ren,wo,xi,wp,jo,wq,yg,xj,ws,wu,jp,frz,yx,yz,wv,List.lookup_cons,jq,zi,jr,js,List.range_succ,jt,xk,ju,xm,↓yh,↓yi,↓qt,↓y6,↓qu,↓qa,↓yj,↓yk,↓qv,↓qw,↓qx,↓qy,↓qb,↓qz,qc,ww,xn,jv,jw,yl,qd,qe,zj,wx,y7,jx,xp,xq,keq,y8,wy,qf,y9,ym,xr,jy,jz,xt,j0,wz,ja,j1,xu,xv,xw,jb,q5,q6,yn,q7,j2,Option.map_some,yo,qg,q8,q9,qh,ya,xx,yb,yp,yc,xy,w5,xz,x5,w6,jc,x6,Op.operands,Call.operands,yd,qi,w7,AObj.live]
  rw [aloop_list (l := withinV v)
    (S := fun pre suf => { env := [(3, .d (.int .i64 (deepL pre))), (4, .d (.rs 6 ((pre ++ suf).map encV))), (5, .d (.int .i64 (pre.length : Nat)))], σ := [], dfs := [] })
    (R := fun pre suf => some (.exit 0, { env := [(3, .d (.int .i64 (deepL (pre ++ suf))))], σ := [], dfs := [] }))
    (hs := ?_) (h0 := ?_) (h1 := ?_)]
  rotate_left
  · simp -implicitDefEqProofs [deepL, IntWalk.i64_in,IntWalk.u64_in,IntWalk.u8_in,IntWalk.i32_in,IntWalk.u32_in,ye,zk,zm,qj,qk,qm,qn,zb,zc,zn,zp,zq,qo,zd,ze,zr,zt,zu,j3,x7,zw,zf,za,zx,qp,zy,zg,zz,z6,qq,zh,yf,qr,aop,yq,j4,j5,x8,x9,jd,j6,j7,wb,je,j8,yr,j9,wg,jf,jg,xa,xb,z7,jh,z8,ji,jj,yt,yu,xc,AV.one,wh,wi,aun,jk,xd,yw,afn,xe,Out.ren,xf,xg,jl,wj,xh,wl,jm,Eng.distinct,pos,wn,Eng.ren,wo,xi,wp,jo,wq,yg,xj,ws,wu,jp,frz,yx,yz,wv,List.lookup_cons,jq,zi,jr,js,List.range_succ,jt,xk,ju,xm,↓yh,↓yi,↓qt,↓y6,↓qu,↓qa,↓yj,↓yk,↓qv,↓qw,↓qx,↓qy,↓qb,↓qz,qc,ww,xn,jv,jw,yl,qd,qe,zj,wx,y7,jx,xp,xq,keq,y8,wy,qf,y9,ym,xr,jy,jz,xt,j0,wz,ja,j1,xu,xv,xw,jb,q5,q6,yn,q7,j2,Option.map_some,yo,qg,q8,q9,qh,ya,xx,yb,yp,yc,xy,w5,xz,x5,w6,jc,x6,Op.operands,Call.operands,yd,qi,w7,AObj.live]
  · intro pre hp
    simp -implicitDefEqProofs [mach_loop, IntWalk.i64_in,IntWalk.u64_in,IntWalk.u8_in,IntWalk.i32_in,IntWalk.u32_in,ye,zk,zm,qj,qk,qm,qn,zb,zc,zn,zp,zq,qo,zd,ze,zr,zt,zu,j3,x7,zw,zf,za,zx,qp,zy,zg,zz,z6,qq,zh,yf,qr,aop,yq,j4,j5,x8,x9,jd,j6,j7,wb,je,j8,yr,j9,wg,jf,jg,xa,xb,z7,jh,z8,ji,jj,yt,yu,xc,AV.one,wh,wi,aun,jk,xd,yw,afn,xe,Out.ren,xf,xg,jl,wj,xh,wl,jm,Eng.distinct,pos,wn,Eng.ren,wo,xi,wp,jo,wq,yg,xj,ws,wu,jp,frz,yx,yz,wv,List.lookup_cons,jq,zi,jr,js,List.range_succ,jt,xk,ju,xm,↓yh,↓yi,↓qt,↓y6,↓qu,↓qa,↓yj,↓yk,↓qv,↓qw,↓qx,↓qy,↓qb,↓qz,qc,ww,xn,jv,jw,yl,qd,qe,zj,wx,y7,jx,xp,xq,keq,y8,wy,qf,y9,ym,xr,jy,jz,xt,j0,wz,ja,j1,xu,xv,xw,jb,q5,q6,yn,q7,j2,Option.map_some,yo,qg,q8,q9,qh,ya,xx,yb,yp,yc,xy,w5,xz,x5,w6,jc,x6,Op.operands,Call.operands,yd,qi,w7,AObj.live]
  · intro pre x suf hp ih
    have hx : x.size < v.size := withinV_size (by rw [← hp]; simp)
    have h3 := h2 x hx
    have hlp : pre.length < (withinV v).length := by rw [← hp]; simp
    have hw2 : IntKind.i64.wrap ((pre.length : Nat) + 1) = (pre.length : Nat) + 1 := wrap64 (by omega) (by omega)
    have hsn := deepL_snoc x pre (by have := deepV_pos x; omega)
    by_cases hlt : deepL pre < deepV x
    · simp -implicitDefEqProofs [mach_loop, hw2, h3, hlt, encV_eq, mid_lt, IntWalk.i64_in,IntWalk.u64_in,IntWalk.u8_in,IntWalk.i32_in,IntWalk.u32_in,ye,zk,zm,qj,qk,qm,qn,zb,zc,zn,zp,zq,qo,zd,ze,zr,zt,zu,j3,x7,zw,zf,za,zx,qp,zy,zg,zz,z6,qq,zh,yf,qr,aop,yq,j4,j5,x8,x9,jd,j6,j7,wb,je,j8,yr,j9,wg,jf,jg,xa,xb,z7,jh,z8,ji,jj,yt,yu,xc,AV.one,wh,wi,aun,jk,xd,yw,afn,xe,Out.ren,xf,xg,jl,wj,xh,wl,jm,Eng.distinct,pos,wn,Eng.ren,wo,xi,wp,jo,wq,yg,xj,ws,wu,jp,frz,yx,yz,wv,List.lookup_cons,jq,zi,jr,js,List.range_succ,jt,xk,ju,xm,↓yh,↓yi,↓qt,↓y6,↓qu,↓qa,↓yj,↓yk,↓qv,↓qw,↓qx,↓qy,↓qb,↓qz,qc,ww,xn,jv,jw,yl,qd,qe,zj,wx,y7,jx,xp,xq,keq,y8,wy,qf,y9,ym,xr,jy,jz,xt,j0,wz,ja,j1,xu,xv,xw,jb,q5,q6,yn,q7,j2,Option.map_some,yo,qg,q8,q9,qh,ya,xx,yb,yp,yc,xy,w5,xz,x5,w6,jc,x6,Op.operands,Call.operands,yd,qi,w7,AObj.live]
      rw [ih _ (by simp -implicitDefEqProofs [hsn, hlt, encV_eq, IntWalk.i64_in,IntWalk.u64_in,IntWalk.u8_in,IntWalk.i32_in,IntWalk.u32_in,ye,zk,zm,qj,qk,qm,qn,zb,zc,zn,zp,zq,qo,zd,ze,zr,zt,zu,j3,x7,zw,zf,za,zx,qp,zy,zg,zz,z6,qq,zh,yf,qr,aop,yq,j4,j5,x8,x9,jd,j6,j7,wb,je,j8,yr,j9,wg,jf,jg,xa,xb,z7,jh,z8,ji,jj,yt,yu,xc,AV.one,wh,wi,aun,jk,xd,yw,afn,xe,Out.ren,xf,xg,jl,wj,xh,wl,jm,Eng.distinct,pos,wn,Eng.ren,wo,xi,wp,jo,wq,yg,xj,ws,wu,jp,frz,yx,yz,wv,List.lookup_cons,jq,zi,jr,js,List.range_succ,jt,xk,ju,xm,↓yh,↓yi,↓qt,↓y6,↓qu,↓qa,↓yj,↓yk,↓qv,↓qw,↓qx,↓qy,↓qb,↓qz,qc,ww,xn,jv,jw,yl,qd,qe,zj,wx,y7,jx,xp,xq,keq,y8,wy,qf,y9,ym,xr,jy,jz,xt,j0,wz,ja,j1,xu,xv,xw,jb,q5,q6,yn,q7,j2,Option.map_some,yo,qg,q8,q9,qh,ya,xx,yb,yp,yc,xy,w5,xz,x5,w6,jc,x6,Op.operands,Call.operands,yd,qi,w7,AObj.live] <;> omega)]
      simp
    · simp -implicitDefEqProofs [mach_loop, hw2, h3, hlt, encV_eq, mid_lt, IntWalk.i64_in,IntWalk.u64_in,IntWalk.u8_in,IntWalk.i32_in,IntWalk.u32_in,ye,zk,zm,qj,qk,qm,qn,zb,zc,zn,zp,zq,qo,zd,ze,zr,zt,zu,j3,x7,zw,zf,za,zx,qp,zy,zg,zz,z6,qq,zh,yf,qr,aop,yq,j4,j5,x8,x9,jd,j6,j7,wb,je,j8,yr,j9,wg,jf,jg,xa,xb,z7,jh,z8,ji,jj,yt,yu,xc,AV.one,wh,wi,aun,jk,xd,yw,afn,xe,Out.ren,xf,xg,jl,wj,xh,wl,jm,Eng.distinct,pos,wn,Eng.ren,wo,xi,wp,jo,wq,yg,xj,ws,wu,jp,frz,yx,yz,wv,List.lookup_cons,jq,zi,jr,js,List.range_succ,jt,xk,ju,xm,↓yh,↓yi,↓qt,↓y6,↓qu,↓qa,↓yj,↓yk,↓qv,↓qw,↓qx,↓qy,↓qb,↓qz,qc,ww,xn,jv,jw,yl,qd,qe,zj,wx,y7,jx,xp,xq,keq,y8,wy,qf,y9,ym,xr,jy,jz,xt,j0,wz,ja,j1,xu,xv,xw,jb,q5,q6,yn,q7,j2,Option.map_some,yo,qg,q8,q9,qh,ya,xx,yb,yp,yc,xy,w5,xz,x5,w6,jc,x6,Op.operands,Call.operands,yd,qi,w7,AObj.live]
      rw [ih _ (by simp -implicitDefEqProofs [hsn, hlt, encV_eq, IntWalk.i64_in,IntWalk.u64_in,IntWalk.u8_in,IntWalk.i32_in,IntWalk.u32_in,ye,zk,zm,qj,qk,qm,qn,zb,zc,zn,zp,zq,qo,zd,ze,zr,zt,zu,j3,x7,zw,zf,za,zx,qp,zy,zg,zz,z6,qq,zh,yf,qr,aop,yq,j4,j5,x8,x9,jd,j6,j7,wb,je,j8,yr,j9,wg,jf,jg,xa,xb,z7,jh,z8,ji,jj,yt,yu,xc,AV.one,wh,wi,aun,jk,xd,yw,afn,xe,Out.ren,xf,xg,jl,wj,xh,wl,jm,Eng.distinct,pos,wn,Eng.ren,wo,xi,wp,jo,wq,yg,xj,ws,wu,jp,frz,yx,yz,wv,List.lookup_cons,jq,zi,jr,js,List.range_succ,jt,xk,ju,xm,↓yh,↓yi,↓qt,↓y6,↓qu,↓qa,↓yj,↓yk,↓qv,↓qw,↓qx,↓qy,↓qb,↓qz,qc,ww,xn,jv,jw,yl,qd,qe,zj,wx,y7,jx,xp,xq,keq,y8,wy,qf,y9,ym,xr,jy,jz,xt,j0,wz,ja,j1,xu,xv,xw,jb,q5,q6,yn,q7,j2,Option.map_some,yo,qg,q8,q9,qh,ya,xx,yb,yp,yc,xy,w5,xz,x5,w6,jc,x6,Op.operands,Call.operands,yd,qi,w7,AObj.live] <;> omega)]
      simp
  simp -implicitDefEqProofs [R, hw, hd, mach_loop, IntWalk.i64_in,IntWalk.u64_in,IntWalk.u8_in,IntWalk.i32_in,IntWalk.u32_in,ye,zk,zm,qj,qk,qm,qn,zb,zc,zn,zp,zq,qo,zd,ze,zr,zt,zu,j3,x7,zw,zf,za,zx,qp,zy,zg,zz,z6,qq,zh,yf,qr,aop,yq,j4,j5,x8,x9,jd,j6,j7,wb,je,j8,yr,j9,wg,jf,jg,xa,xb,z7,jh,z8,ji,jj,yt,yu,xc,AV.one,wh,wi,aun,jk,xd,yw,afn,xe,Out.ren,xf,xg,jl,wj,xh,wl,jm,Eng.distinct,pos,wn,Eng.ren,wo,xi,wp,jo,wq,yg,xj,ws,wu,jp,frz,yx,yz,wv,List.lookup_cons,jq,zi,jr,js,List.range_succ,jt,xk,ju,xm,↓yh,↓yi,↓qt,↓y6,↓qu,↓qa,↓yj,↓yk,↓qv,↓qw,↓qx,↓qy,↓qb,↓qz,qc,ww,xn,jv,jw,yl,qd,qe,zj,wx,y7,jx,xp,xq,keq,y8,wy,qf,y9,ym,xr,jy,jz,xt,j0,wz,ja,j1,xu,xv,xw,jb,q5,q6,yn,q7,j2,Option.map_some,yo,qg,q8,q9,qh,ya,xx,yb,yp,yc,xy,w5,xz,x5,w6,jc,x6,Op.operands,Call.operands,yd,qi,w7,AObj.live]

mutual
theorem mayV_ne6 (valid : List UInt8 → Bool) : ∀ (v : V) (d : Int), mayV valid v d ≠ 6
  | .mk k b n t l o, d => by
    have h1 := mayL_ne6 valid l (d + 1)
    have h2 := mayO_ne6 valid none o (d + 1)
    simp only [mayV]
    split
    · omega
    split
    · omega
    split
    · omega
    split
    · exact h2
    · exact h1
theorem mayM_ne6 (valid : List UInt8 → Bool) : ∀ (m : M) (d : Int), mayM valid m d ≠ 6
  | .mk k v, d => by simp only [mayM]; exact mayV_ne6 valid v d
theorem mayL_ne6 (valid : List UInt8 → Bool) : ∀ (l : List V) (d : Int), mayL valid l d ≠ 6
  | [], d => by simp [mayL]
  | x :: r, d => by
    have h1 := mayV_ne6 valid x d
    have h2 := mayL_ne6 valid r d
    simp only [mayL]
    split
    · exact h2
    · exact h1
theorem mayO_ne6 (valid : List UInt8 → Bool) : ∀ (p : Option (List UInt8)) (l : List M) (d : Int), mayO valid p l d ≠ 6
  | p, [], d => by simp [mayO]
  | p, m :: r, d => by
    have h1 := mayM_ne6 valid m d
    have h2 := mayO_ne6 valid (some m.key) r d
    simp only [mayO]
    repeat' split
    all_goals first | exact h2 | exact h1 | omega
end
theorem b_rFits (C : Oracle) (v : V) (h1 : C 82 [avV v] [] = R (.int .i64 (mayTop v))) (h2 : C 83 [avV v] [] = R (.int .i64 (deepV v))) (h3 : mayTop v = 0 → C 33 [avV v] [] = R (.str (textV v))) :
    abody Tryz.prog [] C (mach Tryz.prog C {}) true 54 [avV v] [] = R (.int .i64 (fitsV v)) := by
  have h6 : mayTop v ≠ 6 := mayV_ne6 _ _ _
  simp only [R, avV] at h1 h2 h3
  unfold abody
  rw [Tryz.func54]
  simp only [Tryz.f54]
  by_cases e : mayTop v = 0
  rotate_left
  · have e2 : fitsV v = mayTop v := by simp [fitsV, shortV, e, h6]
    simp -implicitDefEqProofs [R, avV, h1, e, e2, intbne, intbeq, IntWalk.i64_in,IntWalk.u64_in,IntWalk.u8_in,IntWalk.i32_in,IntWalk.u32_in,ye,zk,zm,qj,qk,qm,qn,zb,zc,zn,zp,zq,qo,zd,ze,zr,zt,zu,j3,x7,zw,zf,za,zx,qp,zy,zg,zz,z6,qq,zh,yf,qr,aop,yq,j4,j5,x8,x9,jd,j6,j7,wb,je,j8,yr,j9,wg,jf,jg,xa,xb,z7,jh,z8,ji,jj,yt,yu,xc,AV.one,wh,wi,aun,jk,xd,yw,afn,xe,Out.ren,xf,xg,jl,wj,xh,wl,jm,Eng.distinct,pos,wn,Eng.ren,wo,xi,wp,jo,wq,yg,xj,ws,wu,jp,frz,yx,yz,wv,List.lookup_cons,jq,zi,jr,js,List.range_succ,jt,xk,ju,xm,↓yh,↓yi,↓qt,↓y6,↓qu,↓qa,↓yj,↓yk,↓qv,↓qw,↓qx,↓qy,↓qb,↓qz,qc,ww,xn,jv,jw,yl,qd,qe,zj,wx,y7,jx,xp,xq,keq,y8,wy,qf,y9,ym,xr,jy,jz,xt,j0,wz,ja,j1,xu,xv,xw,jb,q5,q6,yn,q7,j2,Option.map_some,yo,qg,q8,q9,qh,ya,xx,yb,yp,yc,xy,w5,xz,x5,w6,jc,x6,Op.operands,Call.operands,yd,qi,w7,AObj.live]
  have h4 := h3 e
  by_cases e3 : 16 < deepV v
  · have e2 : fitsV v = 5 := by
      simp only [fitsV, shortV, e, e3]
      by_cases h : (1024 : Int) < (textV v).length <;> simp [h]
    simp -implicitDefEqProofs [R, avV, h1, h2, e, e2, e3, intbne, intbeq, IntWalk.i64_in,IntWalk.u64_in,IntWalk.u8_in,IntWalk.i32_in,IntWalk.u32_in,ye,zk,zm,qj,qk,qm,qn,zb,zc,zn,zp,zq,qo,zd,ze,zr,zt,zu,j3,x7,zw,zf,za,zx,qp,zy,zg,zz,z6,qq,zh,yf,qr,aop,yq,j4,j5,x8,x9,jd,j6,j7,wb,je,j8,yr,j9,wg,jf,jg,xa,xb,z7,jh,z8,ji,jj,yt,yu,xc,AV.one,wh,wi,aun,jk,xd,yw,afn,xe,Out.ren,xf,xg,jl,wj,xh,wl,jm,Eng.distinct,pos,wn,Eng.ren,wo,xi,wp,jo,wq,yg,xj,ws,wu,jp,frz,yx,yz,wv,List.lookup_cons,jq,zi,jr,js,List.range_succ,jt,xk,ju,xm,↓yh,↓yi,↓qt,↓y6,↓qu,↓qa,↓yj,↓yk,↓qv,↓qw,↓qx,↓qy,↓qb,↓qz,qc,ww,xn,jv,jw,yl,qd,qe,zj,wx,y7,jx,xp,xq,keq,y8,wy,qf,y9,ym,xr,jy,jz,xt,j0,wz,ja,j1,xu,xv,xw,jb,q5,q6,yn,q7,j2,Option.map_some,yo,qg,q8,q9,qh,ya,xx,yb,yp,yc,xy,w5,xz,x5,w6,jc,x6,Op.operands,Call.operands,yd,qi,w7,AObj.live]
  by_cases e4 : (1024 : Int) < (textV v).length
  · have e2 : fitsV v = 6 := by simp [fitsV, shortV, e, e3, e4]
    simp -implicitDefEqProofs [R, avV, h1, h2, h4, e, e2, e3, e4, intbne, intbeq, IntWalk.i64_in,IntWalk.u64_in,IntWalk.u8_in,IntWalk.i32_in,IntWalk.u32_in,ye,zk,zm,qj,qk,qm,qn,zb,zc,zn,zp,zq,qo,zd,ze,zr,zt,zu,j3,x7,zw,zf,za,zx,qp,zy,zg,zz,z6,qq,zh,yf,qr,aop,yq,j4,j5,x8,x9,jd,j6,j7,wb,je,j8,yr,j9,wg,jf,jg,xa,xb,z7,jh,z8,ji,jj,yt,yu,xc,AV.one,wh,wi,aun,jk,xd,yw,afn,xe,Out.ren,xf,xg,jl,wj,xh,wl,jm,Eng.distinct,pos,wn,Eng.ren,wo,xi,wp,jo,wq,yg,xj,ws,wu,jp,frz,yx,yz,wv,List.lookup_cons,jq,zi,jr,js,List.range_succ,jt,xk,ju,xm,↓yh,↓yi,↓qt,↓y6,↓qu,↓qa,↓yj,↓yk,↓qv,↓qw,↓qx,↓qy,↓qb,↓qz,qc,ww,xn,jv,jw,yl,qd,qe,zj,wx,y7,jx,xp,xq,keq,y8,wy,qf,y9,ym,xr,jy,jz,xt,j0,wz,ja,j1,xu,xv,xw,jb,q5,q6,yn,q7,j2,Option.map_some,yo,qg,q8,q9,qh,ya,xx,yb,yp,yc,xy,w5,xz,x5,w6,jc,x6,Op.operands,Call.operands,yd,qi,w7,AObj.live]
  · have e2 : fitsV v = 0 := by simp [fitsV, shortV, e, e3, e4]
    simp -implicitDefEqProofs [R, avV, h1, h2, h4, e, e2, e3, e4, intbne, intbeq, IntWalk.i64_in,IntWalk.u64_in,IntWalk.u8_in,IntWalk.i32_in,IntWalk.u32_in,ye,zk,zm,qj,qk,qm,qn,zb,zc,zn,zp,zq,qo,zd,ze,zr,zt,zu,j3,x7,zw,zf,za,zx,qp,zy,zg,zz,z6,qq,zh,yf,qr,aop,yq,j4,j5,x8,x9,jd,j6,j7,wb,je,j8,yr,j9,wg,jf,jg,xa,xb,z7,jh,z8,ji,jj,yt,yu,xc,AV.one,wh,wi,aun,jk,xd,yw,afn,xe,Out.ren,xf,xg,jl,wj,xh,wl,jm,Eng.distinct,pos,wn,Eng.ren,wo,xi,wp,jo,wq,yg,xj,ws,wu,jp,frz,yx,yz,wv,List.lookup_cons,jq,zi,jr,js,List.range_succ,jt,xk,ju,xm,↓yh,↓yi,↓qt,↓y6,↓qu,↓qa,↓yj,↓yk,↓qv,↓qw,↓qx,↓qy,↓qb,↓qz,qc,ww,xn,jv,jw,yl,qd,qe,zj,wx,y7,jx,xp,xq,keq,y8,wy,qf,y9,ym,xr,jy,jz,xt,j0,wz,ja,j1,xu,xv,xw,jb,q5,q6,yn,q7,j2,Option.map_some,yo,qg,q8,q9,qh,ya,xx,yb,yp,yc,xy,w5,xz,x5,w6,jc,x6,Op.operands,Call.operands,yd,qi,w7,AObj.live]
end Go.Proofs.YtblejchodicaoaaGreatDoor.Eng

/-
  CONTRACTS: the reference's At: a rune of a text. Own work.
-/
namespace Go.Proofs.YtblejchodicaoaaGreatDoor.Eng
open Go Go.RowKit
set_option maxRecDepth 100000
set_option linter.unusedSimpArgs false
set_option maxHeartbeats 2000000

/-- A rune that was put together, held against what may be. -/
def atF (v min n : Int) : Int × Int := if v < min ∨ 1114111 < v ∨ (55296 ≤ v ∧ v < 57344) then (0, 0) else (v, n)
def atA (len : Nat) (b0 b1 b2 b3 : Int) : Int × Int :=
  if b0 < 128 then (b0, 1)
  else if b0 < 192 then (0, 0)
  else if b0 < 224 then (if len < 2 then (0, 0) else if b1 < 128 ∨ 192 ≤ b1 then (0, 0) else atF (64 * (b0 - 192) + b1 - 128) 128 2)
  else if b0 < 240 then (if len < 3 then (0, 0) else if b1 < 128 ∨ 192 ≤ b1 then (0, 0) else if b2 < 128 ∨ 192 ≤ b2 then (0, 0) else atF (64 * (64 * (b0 - 224) + b1 - 128) + b2 - 128) 2048 3)
  else if b0 < 248 then (if len < 4 then (0, 0) else if b1 < 128 ∨ 192 ≤ b1 then (0, 0) else if b2 < 128 ∨ 192 ≤ b2 then (0, 0) else if b3 < 128 ∨ 192 ≤ b3 then (0, 0)
    else atF (64 * (64 * (64 * (b0 - 240) + b1 - 128) + b2 - 128) + b3 - 128) 65536 4)
  else (0, 0)
def atS (s : List UInt8) (i : Nat) : Int × Int := atA (s.length - i) (s.getD i 0).toNat (s.getD (i + 1) 0).toNat (s.getD (i + 2) 0).toNat (s.getD (i + 3) 0).toNat
abbrev R2 (p : Int × Int) : Option (Out × List AObj) := some (.ret (.tup [.d (.int .i64 p.1), .d (.int .i64 p.2)]), [])

theorem get_of (s : List UInt8) (i : Nat) (h : i < s.length) : s[i]? = some (s.getD i 0) := by
  simp [List.getD, h]
theorem byte_lt (b : UInt8) : ((b.toNat : Nat) : Int) < 256 := by have := b.toNat_lt; omega

theorem b_At (C : Oracle) (s : List UInt8) (i : Nat) (hi : i < s.length) (hs : s.length ≤ 1152921504606846976) :
    abody Tryz.prog [] C (mach Tryz.prog C { keep := [(1018, [0, 1, 7, 8, 9, 10])], outs := [(1018, [4, 5, 7, 8, 9])] }) true 114 [.d (.str s), .d (.int .i64 i)] [] = R2 (atS s i) := by
  have g0 := get_of s i hi
  unfold atS
  have l0 := byte_lt (s.getD i 0)
  have l1 := byte_lt (s.getD (i + 1) 0)
  have l2 := byte_lt (s.getD (i + 2) 0)
  have l3 := byte_lt (s.getD (i + 3) 0)
  have n0 := Int.natCast_nonneg (s.getD i 0).toNat
  have n1 := Int.natCast_nonneg (s.getD (i + 1) 0).toNat
  have n2 := Int.natCast_nonneg (s.getD (i + 2) 0).toNat
  have n3 := Int.natCast_nonneg (s.getD (i + 3) 0).toNat
  have q1 := get_of s (i + 1)
  have q2 := get_of s (i + 2)
  have q3 := get_of s (i + 3)
  revert g0 q1 q2 q3 l0 l1 l2 l3 n0 n1 n2 n3
  generalize s.getD i 0 = c0
  generalize s.getD (i + 1) 0 = c1
  generalize s.getD (i + 2) 0 = c2
  generalize s.getD (i + 3) 0 = c3
  intro g0 l0 l1 l2 l3 n0 n1 n2 n3 q1 q2 q3
  have t1 : ((i : Int) + 1).toNat = i + 1 := by omega
  have t2 : ((i : Int) + 2).toNat = i + 2 := by omega
  have t3 : ((i : Int) + 3).toNat = i + 3 := by omega
  have w1 : IntKind.i64.wrap ((i : Int) + 1) = (i : Int) + 1 := wrap64 (by omega) (by omega)
  have w2 : IntKind.i64.wrap ((i : Int) + 2) = (i : Int) + 2 := wrap64 (by omega) (by omega)
  have w3 : IntKind.i64.wrap ((i : Int) + 3) = (i : Int) + 3 := wrap64 (by omega) (by omega)
  have w4 : IntKind.i64.wrap ((i : Int) + 4) = (i : Int) + 4 := wrap64 (by omega) (by omega)
  have wc0 : IntKind.i64.wrap (c0.toNat : Int) = (c0.toNat : Int) := wrap64 (by omega) (by omega)
  have wc1 : IntKind.i64.wrap (c1.toNat : Int) = (c1.toNat : Int) := wrap64 (by omega) (by omega)
  have wc2 : IntKind.i64.wrap (c2.toNat : Int) = (c2.toNat : Int) := wrap64 (by omega) (by omega)
  have wc3 : IntKind.i64.wrap (c3.toNat : Int) = (c3.toNat : Int) := wrap64 (by omega) (by omega)
  have p1 : ((0 : Int) ≤ (i : Int) + 1) = True := by simp; omega
  have p2 : ((0 : Int) ≤ (i : Int) + 2) = True := by simp; omega
  have p3 : ((0 : Int) ≤ (i : Int) + 3) = True := by simp; omega
  have hi0 : ¬ (s.length : Int) ≤ i := by omega
  generalize hL : s.length - i = L
  unfold abody
  rw [Tryz.func114]
  simp only [Tryz.f114]
  by_cases h128 : (c0.toNat : Int) < 128
  · simp -implicitDefEqProofs [R2, atA, g0, wc0, hi0, h128, IntWalk.i64_in,IntWalk.u64_in,IntWalk.u8_in,IntWalk.i32_in,IntWalk.u32_in,ye,zk,zm,qj,qk,qm,qn,zb,zc,zn,zp,zq,qo,zd,ze,zr,zt,zu,j3,x7,zw,zf,za,zx,qp,zy,zg,zz,z6,qq,zh,yf,qr,aop,yq,j4,j5,x8,x9,jd,j6,j7,wb,je,j8,yr,j9,wg,jf,jg,xa,xb,z7,jh,z8,ji,jj,yt,yu,xc,AV.one,wh,wi,aun,jk,xd,yw,afn,xe,Out.ren,xf,xg,jl,wj,xh,wl,jm,Eng.distinct,pos,wn,Eng.ren,wo,xi,wp,jo,wq,yg,xj,ws,wu,jp,frz,yx,yz,wv,List.lookup_cons,jq,zi,jr,js,List.range_succ,jt,xk,ju,xm,↓yh,↓yi,↓qt,↓y6,↓qu,↓qa,↓yj,↓yk,↓qv,↓qw,↓qx,↓qy,↓qb,↓qz,qc,ww,xn,jv,jw,yl,qd,qe,zj,wx,y7,jx,xp,xq,keq,y8,wy,qf,y9,ym,xr,jy,jz,xt,j0,wz,ja,j1,xu,xv,xw,jb,q5,q6,yn,q7,j2,Option.map_some,yo,qg,q8,q9,qh,ya,xx,yb,yp,yc,xy,w5,xz,x5,w6,jc,x6,Op.operands,Call.operands,yd,qi,w7,AObj.live]
  by_cases h192 : (c0.toNat : Int) < 192
  · have z1 : ¬ (192 : Int) ≤ c0.toNat := by omega
    have z2 : ¬ (224 : Int) ≤ c0.toNat := by omega
    have z3 : ¬ (240 : Int) ≤ c0.toNat := by omega
    simp -implicitDefEqProofs [R2, atA, g0, wc0, hi0, h128, h192, z1, z2, z3, IntWalk.i64_in,IntWalk.u64_in,IntWalk.u8_in,IntWalk.i32_in,IntWalk.u32_in,ye,zk,zm,qj,qk,qm,qn,zb,zc,zn,zp,zq,qo,zd,ze,zr,zt,zu,j3,x7,zw,zf,za,zx,qp,zy,zg,zz,z6,qq,zh,yf,qr,aop,yq,j4,j5,x8,x9,jd,j6,j7,wb,je,j8,yr,j9,wg,jf,jg,xa,xb,z7,jh,z8,ji,jj,yt,yu,xc,AV.one,wh,wi,aun,jk,xd,yw,afn,xe,Out.ren,xf,xg,jl,wj,xh,wl,jm,Eng.distinct,pos,wn,Eng.ren,wo,xi,wp,jo,wq,yg,xj,ws,wu,jp,frz,yx,yz,wv,List.lookup_cons,jq,zi,jr,js,List.range_succ,jt,xk,ju,xm,↓yh,↓yi,↓qt,↓y6,↓qu,↓qa,↓yj,↓yk,↓qv,↓qw,↓qx,↓qy,↓qb,↓qz,qc,ww,xn,jv,jw,yl,qd,qe,zj,wx,y7,jx,xp,xq,keq,y8,wy,qf,y9,ym,xr,jy,jz,xt,j0,wz,ja,j1,xu,xv,xw,jb,q5,q6,yn,q7,j2,Option.map_some,yo,qg,q8,q9,qh,ya,xx,yb,yp,yc,xy,w5,xz,x5,w6,jc,x6,Op.operands,Call.operands,yd,qi,w7,AObj.live]
  have z1 : (192 : Int) ≤ c0.toNat := by omega
  by_cases h224 : (c0.toNat : Int) < 224
  · have wa : IntKind.i64.wrap ((c0.toNat : Int) - 192) = (c0.toNat : Int) - 192 := wrap64 (by omega) (by omega)
    by_cases hl : (s.length : Int) < (i : Int) + 2
    · have hl' : L < 2 := by omega
      simp -implicitDefEqProofs [R2, atA, atF, g0, wc0, hi0, h128, h192, h224, z1, wa, w2, hl, hl', mach_loop, IntWalk.i64_in,IntWalk.u64_in,IntWalk.u8_in,IntWalk.i32_in,IntWalk.u32_in,ye,zk,zm,qj,qk,qm,qn,zb,zc,zn,zp,zq,qo,zd,ze,zr,zt,zu,j3,x7,zw,zf,za,zx,qp,zy,zg,zz,z6,qq,zh,yf,qr,aop,yq,j4,j5,x8,x9,jd,j6,j7,wb,je,j8,yr,j9,wg,jf,jg,xa,xb,z7,jh,z8,ji,jj,yt,yu,xc,AV.one,wh,wi,aun,jk,xd,yw,afn,xe,Out.ren,xf,xg,jl,wj,xh,wl,jm,Eng.distinct,pos,wn,Eng.ren,wo,xi,wp,jo,wq,yg,xj,ws,wu,jp,frz,yx,yz,wv,List.lookup_cons,jq,zi,jr,js,List.range_succ,jt,xk,ju,xm,↓yh,↓yi,↓qt,↓y6,↓qu,↓qa,↓yj,↓yk,↓qv,↓qw,↓qx,↓qy,↓qb,↓qz,qc,ww,xn,jv,jw,yl,qd,qe,zj,wx,y7,jx,xp,xq,keq,y8,wy,qf,y9,ym,xr,jy,jz,xt,j0,wz,ja,j1,xu,xv,xw,jb,q5,q6,yn,q7,j2,Option.map_some,yo,qg,q8,q9,qh,ya,xx,yb,yp,yc,xy,w5,xz,x5,w6,jc,x6,Op.operands,Call.operands,yd,qi,w7,AObj.live]
    have hl' : ¬ L < 2 := by omega
    have g1 := q1 (by omega)
    simp -implicitDefEqProofs [R2, atA, atF, g0, wc0, hi0, h128, h192, h224, z1, wa, w2, hl, hl', mach_loop, IntWalk.i64_in,IntWalk.u64_in,IntWalk.u8_in,IntWalk.i32_in,IntWalk.u32_in,ye,zk,zm,qj,qk,qm,qn,zb,zc,zn,zp,zq,qo,zd,ze,zr,zt,zu,j3,x7,zw,zf,za,zx,qp,zy,zg,zz,z6,qq,zh,yf,qr,aop,yq,j4,j5,x8,x9,jd,j6,j7,wb,je,j8,yr,j9,wg,jf,jg,xa,xb,z7,jh,z8,ji,jj,yt,yu,xc,AV.one,wh,wi,aun,jk,xd,yw,afn,xe,Out.ren,xf,xg,jl,wj,xh,wl,jm,Eng.distinct,pos,wn,Eng.ren,wo,xi,wp,jo,wq,yg,xj,ws,wu,jp,frz,yx,yz,wv,List.lookup_cons,jq,zi,jr,js,List.range_succ,jt,xk,ju,xm,↓yh,↓yi,↓qt,↓y6,↓qu,↓qa,↓yj,↓yk,↓qv,↓qw,↓qx,↓qy,↓qb,↓qz,qc,ww,xn,jv,jw,yl,qd,qe,zj,wx,y7,jx,xp,xq,keq,y8,wy,qf,y9,ym,xr,jy,jz,xt,j0,wz,ja,j1,xu,xv,xw,jb,q5,q6,yn,q7,j2,Option.map_some,yo,qg,q8,q9,qh,ya,xx,yb,yp,yc,xy,w5,xz,x5,w6,jc,x6,Op.operands,Call.operands,yd,qi,w7,AObj.live]
    rw [aloop_round]
    by_cases a1 : (c1.toNat : Int) < 128
    · simp -implicitDefEqProofs [R2, atF, g1, t1, p1, w1, wc1, hl', mach_loop, a1, IntWalk.i64_in,IntWalk.u64_in,IntWalk.u8_in,IntWalk.i32_in,IntWalk.u32_in,ye,zk,zm,qj,qk,qm,qn,zb,zc,zn,zp,zq,qo,zd,ze,zr,zt,zu,j3,x7,zw,zf,za,zx,qp,zy,zg,zz,z6,qq,zh,yf,qr,aop,yq,j4,j5,x8,x9,jd,j6,j7,wb,je,j8,yr,j9,wg,jf,jg,xa,xb,z7,jh,z8,ji,jj,yt,yu,xc,AV.one,wh,wi,aun,jk,xd,yw,afn,xe,Out.ren,xf,xg,jl,wj,xh,wl,jm,Eng.distinct,pos,wn,Eng.ren,wo,xi,wp,jo,wq,yg,xj,ws,wu,jp,frz,yx,yz,wv,List.lookup_cons,jq,zi,jr,js,List.range_succ,jt,xk,ju,xm,↓yh,↓yi,↓qt,↓y6,↓qu,↓qa,↓yj,↓yk,↓qv,↓qw,↓qx,↓qy,↓qb,↓qz,qc,ww,xn,jv,jw,yl,qd,qe,zj,wx,y7,jx,xp,xq,keq,y8,wy,qf,y9,ym,xr,jy,jz,xt,j0,wz,ja,j1,xu,xv,xw,jb,q5,q6,yn,q7,j2,Option.map_some,yo,qg,q8,q9,qh,ya,xx,yb,yp,yc,xy,w5,xz,x5,w6,jc,x6,Op.operands,Call.operands,yd,qi,w7,AObj.live]
    by_cases b1 : (192 : Int) ≤ c1.toNat
    · simp -implicitDefEqProofs [R2, atF, g1, t1, p1, w1, wc1, hl', mach_loop, a1, b1, IntWalk.i64_in,IntWalk.u64_in,IntWalk.u8_in,IntWalk.i32_in,IntWalk.u32_in,ye,zk,zm,qj,qk,qm,qn,zb,zc,zn,zp,zq,qo,zd,ze,zr,zt,zu,j3,x7,zw,zf,za,zx,qp,zy,zg,zz,z6,qq,zh,yf,qr,aop,yq,j4,j5,x8,x9,jd,j6,j7,wb,je,j8,yr,j9,wg,jf,jg,xa,xb,z7,jh,z8,ji,jj,yt,yu,xc,AV.one,wh,wi,aun,jk,xd,yw,afn,xe,Out.ren,xf,xg,jl,wj,xh,wl,jm,Eng.distinct,pos,wn,Eng.ren,wo,xi,wp,jo,wq,yg,xj,ws,wu,jp,frz,yx,yz,wv,List.lookup_cons,jq,zi,jr,js,List.range_succ,jt,xk,ju,xm,↓yh,↓yi,↓qt,↓y6,↓qu,↓qa,↓yj,↓yk,↓qv,↓qw,↓qx,↓qy,↓qb,↓qz,qc,ww,xn,jv,jw,yl,qd,qe,zj,wx,y7,jx,xp,xq,keq,y8,wy,qf,y9,ym,xr,jy,jz,xt,j0,wz,ja,j1,xu,xv,xw,jb,q5,q6,yn,q7,j2,Option.map_some,yo,qg,q8,q9,qh,ya,xx,yb,yp,yc,xy,w5,xz,x5,w6,jc,x6,Op.operands,Call.operands,yd,qi,w7,AObj.live]
    have x1 : IntKind.i64.wrap (64 * ((c0.toNat : Int) - 192)) = 64 * ((c0.toNat : Int) - 192) := wrap64 (by omega) (by omega)
    have y1 : IntKind.i64.wrap (64 * ((c0.toNat : Int) - 192) + (c1.toNat : Int)) = 64 * ((c0.toNat : Int) - 192) + (c1.toNat : Int) := wrap64 (by omega) (by omega)
    have z1' : IntKind.i64.wrap (64 * ((c0.toNat : Int) - 192) + (c1.toNat : Int) - 128) = 64 * ((c0.toNat : Int) - 192) + (c1.toNat : Int) - 128 := wrap64 (by omega) (by omega)
    simp -implicitDefEqProofs [R2, atF, g1, t1, p1, w1, wc1, hl', mach_loop, a1, b1, x1, y1, z1', IntWalk.i64_in,IntWalk.u64_in,IntWalk.u8_in,IntWalk.i32_in,IntWalk.u32_in,ye,zk,zm,qj,qk,qm,qn,zb,zc,zn,zp,zq,qo,zd,ze,zr,zt,zu,j3,x7,zw,zf,za,zx,qp,zy,zg,zz,z6,qq,zh,yf,qr,aop,yq,j4,j5,x8,x9,jd,j6,j7,wb,je,j8,yr,j9,wg,jf,jg,xa,xb,z7,jh,z8,ji,jj,yt,yu,xc,AV.one,wh,wi,aun,jk,xd,yw,afn,xe,Out.ren,xf,xg,jl,wj,xh,wl,jm,Eng.distinct,pos,wn,Eng.ren,wo,xi,wp,jo,wq,yg,xj,ws,wu,jp,frz,yx,yz,wv,List.lookup_cons,jq,zi,jr,js,List.range_succ,jt,xk,ju,xm,↓yh,↓yi,↓qt,↓y6,↓qu,↓qa,↓yj,↓yk,↓qv,↓qw,↓qx,↓qy,↓qb,↓qz,qc,ww,xn,jv,jw,yl,qd,qe,zj,wx,y7,jx,xp,xq,keq,y8,wy,qf,y9,ym,xr,jy,jz,xt,j0,wz,ja,j1,xu,xv,xw,jb,q5,q6,yn,q7,j2,Option.map_some,yo,qg,q8,q9,qh,ya,xx,yb,yp,yc,xy,w5,xz,x5,w6,jc,x6,Op.operands,Call.operands,yd,qi,w7,AObj.live]
    rw [aloop_round]
    simp -implicitDefEqProofs [R2, atF, mach_loop, IntWalk.i64_in,IntWalk.u64_in,IntWalk.u8_in,IntWalk.i32_in,IntWalk.u32_in,ye,zk,zm,qj,qk,qm,qn,zb,zc,zn,zp,zq,qo,zd,ze,zr,zt,zu,j3,x7,zw,zf,za,zx,qp,zy,zg,zz,z6,qq,zh,yf,qr,aop,yq,j4,j5,x8,x9,jd,j6,j7,wb,je,j8,yr,j9,wg,jf,jg,xa,xb,z7,jh,z8,ji,jj,yt,yu,xc,AV.one,wh,wi,aun,jk,xd,yw,afn,xe,Out.ren,xf,xg,jl,wj,xh,wl,jm,Eng.distinct,pos,wn,Eng.ren,wo,xi,wp,jo,wq,yg,xj,ws,wu,jp,frz,yx,yz,wv,List.lookup_cons,jq,zi,jr,js,List.range_succ,jt,xk,ju,xm,↓yh,↓yi,↓qt,↓y6,↓qu,↓qa,↓yj,↓yk,↓qv,↓qw,↓qx,↓qy,↓qb,↓qz,qc,ww,xn,jv,jw,yl,qd,qe,zj,wx,y7,jx,xp,xq,keq,y8,wy,qf,y9,ym,xr,jy,jz,xt,j0,wz,ja,j1,xu,xv,xw,jb,q5,q6,yn,q7,j2,Option.map_some,yo,qg,q8,q9,qh,ya,xx,yb,yp,yc,xy,w5,xz,x5,w6,jc,x6,Op.operands,Call.operands,yd,qi,w7,AObj.live]
    by_cases hf : (64 * ((c0.toNat : Int) - 192) + (c1.toNat : Int) - 128) < 128 ∨ 1114111 < (64 * ((c0.toNat : Int) - 192) + (c1.toNat : Int) - 128) ∨ (55296 ≤ (64 * ((c0.toNat : Int) - 192) + (c1.toNat : Int) - 128) ∧ (64 * ((c0.toNat : Int) - 192) + (c1.toNat : Int) - 128) < 57344)
    · simp [hf] <;> omega
    · simp [hf] <;> omega
  have z2 : (224 : Int) ≤ c0.toNat := by omega
  by_cases h240 : (c0.toNat : Int) < 240
  · have wa : IntKind.i64.wrap ((c0.toNat : Int) - 224) = (c0.toNat : Int) - 224 := wrap64 (by omega) (by omega)
    by_cases hl : (s.length : Int) < (i : Int) + 3
    · have hl' : L < 3 := by omega
      simp -implicitDefEqProofs [R2, atA, atF, g0, wc0, hi0, h128, h192, h224, h240, z1, z2, wa, w3, hl, hl', mach_loop, IntWalk.i64_in,IntWalk.u64_in,IntWalk.u8_in,IntWalk.i32_in,IntWalk.u32_in,ye,zk,zm,qj,qk,qm,qn,zb,zc,zn,zp,zq,qo,zd,ze,zr,zt,zu,j3,x7,zw,zf,za,zx,qp,zy,zg,zz,z6,qq,zh,yf,qr,aop,yq,j4,j5,x8,x9,jd,j6,j7,wb,je,j8,yr,j9,wg,jf,jg,xa,xb,z7,jh,z8,ji,jj,yt,yu,xc,AV.one,wh,wi,aun,jk,xd,yw,afn,xe,Out.ren,xf,xg,jl,wj,xh,wl,jm,Eng.distinct,pos,wn,Eng.ren,wo,xi,wp,jo,wq,yg,xj,ws,wu,jp,frz,yx,yz,wv,List.lookup_cons,jq,zi,jr,js,List.range_succ,jt,xk,ju,xm,↓yh,↓yi,↓qt,↓y6,↓qu,↓qa,↓yj,↓yk,↓qv,↓qw,↓qx,↓qy,↓qb,↓qz,qc,ww,xn,jv,jw,yl,qd,qe,zj,wx,y7,jx,xp,xq,keq,y8,wy,qf,y9,ym,xr,jy,jz,xt,j0,wz,ja,j1,xu,xv,xw,jb,q5,q6,yn,q7,j2,Option.map_some,yo,qg,q8,q9,qh,ya,xx,yb,yp,yc,xy,w5,xz,x5,w6,jc,x6,Op.operands,Call.operands,yd,qi,w7,AObj.live]
    have hl' : ¬ L < 3 := by omega
    have g1 := q1 (by omega)
    have g2 := q2 (by omega)
    simp -implicitDefEqProofs [R2, atA, atF, g0, wc0, hi0, h128, h192, h224, h240, z1, z2, wa, w3, hl, hl', mach_loop, IntWalk.i64_in,IntWalk.u64_in,IntWalk.u8_in,IntWalk.i32_in,IntWalk.u32_in,ye,zk,zm,qj,qk,qm,qn,zb,zc,zn,zp,zq,qo,zd,ze,zr,zt,zu,j3,x7,zw,zf,za,zx,qp,zy,zg,zz,z6,qq,zh,yf,qr,aop,yq,j4,j5,x8,x9,jd,j6,j7,wb,je,j8,yr,j9,wg,jf,jg,xa,xb,z7,jh,z8,ji,jj,yt,yu,xc,AV.one,wh,wi,aun,jk,xd,yw,afn,xe,Out.ren,xf,xg,jl,wj,xh,wl,jm,Eng.distinct,pos,wn,Eng.ren,wo,xi,wp,jo,wq,yg,xj,ws,wu,jp,frz,yx,yz,wv,List.lookup_cons,jq,zi,jr,js,List.range_succ,jt,xk,ju,xm,↓yh,↓yi,↓qt,↓y6,↓qu,↓qa,↓yj,↓yk,↓qv,↓qw,↓qx,↓qy,↓qb,↓qz,qc,ww,xn,jv,jw,yl,qd,qe,zj,wx,y7,jx,xp,xq,keq,y8,wy,qf,y9,ym,xr,jy,jz,xt,j0,wz,ja,j1,xu,xv,xw,jb,q5,q6,yn,q7,j2,Option.map_some,yo,qg,q8,q9,qh,ya,xx,yb,yp,yc,xy,w5,xz,x5,w6,jc,x6,Op.operands,Call.operands,yd,qi,w7,AObj.live]
    rw [aloop_round]
    by_cases a1 : (c1.toNat : Int) < 128
    · simp -implicitDefEqProofs [R2, atF, g1, t1, p1, w1, wc1, hl', mach_loop, a1, IntWalk.i64_in,IntWalk.u64_in,IntWalk.u8_in,IntWalk.i32_in,IntWalk.u32_in,ye,zk,zm,qj,qk,qm,qn,zb,zc,zn,zp,zq,qo,zd,ze,zr,zt,zu,j3,x7,zw,zf,za,zx,qp,zy,zg,zz,z6,qq,zh,yf,qr,aop,yq,j4,j5,x8,x9,jd,j6,j7,wb,je,j8,yr,j9,wg,jf,jg,xa,xb,z7,jh,z8,ji,jj,yt,yu,xc,AV.one,wh,wi,aun,jk,xd,yw,afn,xe,Out.ren,xf,xg,jl,wj,xh,wl,jm,Eng.distinct,pos,wn,Eng.ren,wo,xi,wp,jo,wq,yg,xj,ws,wu,jp,frz,yx,yz,wv,List.lookup_cons,jq,zi,jr,js,List.range_succ,jt,xk,ju,xm,↓yh,↓yi,↓qt,↓y6,↓qu,↓qa,↓yj,↓yk,↓qv,↓qw,↓qx,↓qy,↓qb,↓qz,qc,ww,xn,jv,jw,yl,qd,qe,zj,wx,y7,jx,xp,xq,keq,y8,wy,qf,y9,ym,xr,jy,jz,xt,j0,wz,ja,j1,xu,xv,xw,jb,q5,q6,yn,q7,j2,Option.map_some,yo,qg,q8,q9,qh,ya,xx,yb,yp,yc,xy,w5,xz,x5,w6,jc,x6,Op.operands,Call.operands,yd,qi,w7,AObj.live]
    by_cases b1 : (192 : Int) ≤ c1.toNat
    · simp -implicitDefEqProofs [R2, atF, g1, t1, p1, w1, wc1, hl', mach_loop, a1, b1, IntWalk.i64_in,IntWalk.u64_in,IntWalk.u8_in,IntWalk.i32_in,IntWalk.u32_in,ye,zk,zm,qj,qk,qm,qn,zb,zc,zn,zp,zq,qo,zd,ze,zr,zt,zu,j3,x7,zw,zf,za,zx,qp,zy,zg,zz,z6,qq,zh,yf,qr,aop,yq,j4,j5,x8,x9,jd,j6,j7,wb,je,j8,yr,j9,wg,jf,jg,xa,xb,z7,jh,z8,ji,jj,yt,yu,xc,AV.one,wh,wi,aun,jk,xd,yw,afn,xe,Out.ren,xf,xg,jl,wj,xh,wl,jm,Eng.distinct,pos,wn,Eng.ren,wo,xi,wp,jo,wq,yg,xj,ws,wu,jp,frz,yx,yz,wv,List.lookup_cons,jq,zi,jr,js,List.range_succ,jt,xk,ju,xm,↓yh,↓yi,↓qt,↓y6,↓qu,↓qa,↓yj,↓yk,↓qv,↓qw,↓qx,↓qy,↓qb,↓qz,qc,ww,xn,jv,jw,yl,qd,qe,zj,wx,y7,jx,xp,xq,keq,y8,wy,qf,y9,ym,xr,jy,jz,xt,j0,wz,ja,j1,xu,xv,xw,jb,q5,q6,yn,q7,j2,Option.map_some,yo,qg,q8,q9,qh,ya,xx,yb,yp,yc,xy,w5,xz,x5,w6,jc,x6,Op.operands,Call.operands,yd,qi,w7,AObj.live]
    have x1 : IntKind.i64.wrap (64 * ((c0.toNat : Int) - 224)) = 64 * ((c0.toNat : Int) - 224) := wrap64 (by omega) (by omega)
    have y1 : IntKind.i64.wrap (64 * ((c0.toNat : Int) - 224) + (c1.toNat : Int)) = 64 * ((c0.toNat : Int) - 224) + (c1.toNat : Int) := wrap64 (by omega) (by omega)
    have z1' : IntKind.i64.wrap (64 * ((c0.toNat : Int) - 224) + (c1.toNat : Int) - 128) = 64 * ((c0.toNat : Int) - 224) + (c1.toNat : Int) - 128 := wrap64 (by omega) (by omega)
    simp -implicitDefEqProofs [R2, atF, g1, t1, p1, w1, wc1, hl', mach_loop, a1, b1, x1, y1, z1', IntWalk.i64_in,IntWalk.u64_in,IntWalk.u8_in,IntWalk.i32_in,IntWalk.u32_in,ye,zk,zm,qj,qk,qm,qn,zb,zc,zn,zp,zq,qo,zd,ze,zr,zt,zu,j3,x7,zw,zf,za,zx,qp,zy,zg,zz,z6,qq,zh,yf,qr,aop,yq,j4,j5,x8,x9,jd,j6,j7,wb,je,j8,yr,j9,wg,jf,jg,xa,xb,z7,jh,z8,ji,jj,yt,yu,xc,AV.one,wh,wi,aun,jk,xd,yw,afn,xe,Out.ren,xf,xg,jl,wj,xh,wl,jm,Eng.distinct,pos,wn,Eng.ren,wo,xi,wp,jo,wq,yg,xj,ws,wu,jp,frz,yx,yz,wv,List.lookup_cons,jq,zi,jr,js,List.range_succ,jt,xk,ju,xm,↓yh,↓yi,↓qt,↓y6,↓qu,↓qa,↓yj,↓yk,↓qv,↓qw,↓qx,↓qy,↓qb,↓qz,qc,ww,xn,jv,jw,yl,qd,qe,zj,wx,y7,jx,xp,xq,keq,y8,wy,qf,y9,ym,xr,jy,jz,xt,j0,wz,ja,j1,xu,xv,xw,jb,q5,q6,yn,q7,j2,Option.map_some,yo,qg,q8,q9,qh,ya,xx,yb,yp,yc,xy,w5,xz,x5,w6,jc,x6,Op.operands,Call.operands,yd,qi,w7,AObj.live]
    rw [aloop_round]
    by_cases a2 : (c2.toNat : Int) < 128
    · simp -implicitDefEqProofs [R2, atF, g2, t2, p2, w2, wc2, hl', mach_loop, a2, IntWalk.i64_in,IntWalk.u64_in,IntWalk.u8_in,IntWalk.i32_in,IntWalk.u32_in,ye,zk,zm,qj,qk,qm,qn,zb,zc,zn,zp,zq,qo,zd,ze,zr,zt,zu,j3,x7,zw,zf,za,zx,qp,zy,zg,zz,z6,qq,zh,yf,qr,aop,yq,j4,j5,x8,x9,jd,j6,j7,wb,je,j8,yr,j9,wg,jf,jg,xa,xb,z7,jh,z8,ji,jj,yt,yu,xc,AV.one,wh,wi,aun,jk,xd,yw,afn,xe,Out.ren,xf,xg,jl,wj,xh,wl,jm,Eng.distinct,pos,wn,Eng.ren,wo,xi,wp,jo,wq,yg,xj,ws,wu,jp,frz,yx,yz,wv,List.lookup_cons,jq,zi,jr,js,List.range_succ,jt,xk,ju,xm,↓yh,↓yi,↓qt,↓y6,↓qu,↓qa,↓yj,↓yk,↓qv,↓qw,↓qx,↓qy,↓qb,↓qz,qc,ww,xn,jv,jw,yl,qd,qe,zj,wx,y7,jx,xp,xq,keq,y8,wy,qf,y9,ym,xr,jy,jz,xt,j0,wz,ja,j1,xu,xv,xw,jb,q5,q6,yn,q7,j2,Option.map_some,yo,qg,q8,q9,qh,ya,xx,yb,yp,yc,xy,w5,xz,x5,w6,jc,x6,Op.operands,Call.operands,yd,qi,w7,AObj.live]
    by_cases b2 : (192 : Int) ≤ c2.toNat
    · simp -implicitDefEqProofs [R2, atF, g2, t2, p2, w2, wc2, hl', mach_loop, a2, b2, IntWalk.i64_in,IntWalk.u64_in,IntWalk.u8_in,IntWalk.i32_in,IntWalk.u32_in,ye,zk,zm,qj,qk,qm,qn,zb,zc,zn,zp,zq,qo,zd,ze,zr,zt,zu,j3,x7,zw,zf,za,zx,qp,zy,zg,zz,z6,qq,zh,yf,qr,aop,yq,j4,j5,x8,x9,jd,j6,j7,wb,je,j8,yr,j9,wg,jf,jg,xa,xb,z7,jh,z8,ji,jj,yt,yu,xc,AV.one,wh,wi,aun,jk,xd,yw,afn,xe,Out.ren,xf,xg,jl,wj,xh,wl,jm,Eng.distinct,pos,wn,Eng.ren,wo,xi,wp,jo,wq,yg,xj,ws,wu,jp,frz,yx,yz,wv,List.lookup_cons,jq,zi,jr,js,List.range_succ,jt,xk,ju,xm,↓yh,↓yi,↓qt,↓y6,↓qu,↓qa,↓yj,↓yk,↓qv,↓qw,↓qx,↓qy,↓qb,↓qz,qc,ww,xn,jv,jw,yl,qd,qe,zj,wx,y7,jx,xp,xq,keq,y8,wy,qf,y9,ym,xr,jy,jz,xt,j0,wz,ja,j1,xu,xv,xw,jb,q5,q6,yn,q7,j2,Option.map_some,yo,qg,q8,q9,qh,ya,xx,yb,yp,yc,xy,w5,xz,x5,w6,jc,x6,Op.operands,Call.operands,yd,qi,w7,AObj.live]
    have x2 : IntKind.i64.wrap (64 * (64 * ((c0.toNat : Int) - 224) + (c1.toNat : Int) - 128)) = 64 * (64 * ((c0.toNat : Int) - 224) + (c1.toNat : Int) - 128) := wrap64 (by omega) (by omega)
    have y2 : IntKind.i64.wrap (64 * (64 * ((c0.toNat : Int) - 224) + (c1.toNat : Int) - 128) + (c2.toNat : Int)) = 64 * (64 * ((c0.toNat : Int) - 224) + (c1.toNat : Int) - 128) + (c2.toNat : Int) := wrap64 (by omega) (by omega)
    have z2' : IntKind.i64.wrap (64 * (64 * ((c0.toNat : Int) - 224) + (c1.toNat : Int) - 128) + (c2.toNat : Int) - 128) = 64 * (64 * ((c0.toNat : Int) - 224) + (c1.toNat : Int) - 128) + (c2.toNat : Int) - 128 := wrap64 (by omega) (by omega)
    simp -implicitDefEqProofs [R2, atF, g2, t2, p2, w2, wc2, hl', mach_loop, a2, b2, x2, y2, z2', IntWalk.i64_in,IntWalk.u64_in,IntWalk.u8_in,IntWalk.i32_in,IntWalk.u32_in,ye,zk,zm,qj,qk,qm,qn,zb,zc,zn,zp,zq,qo,zd,ze,zr,zt,zu,j3,x7,zw,zf,za,zx,qp,zy,zg,zz,z6,qq,zh,yf,qr,aop,yq,j4,j5,x8,x9,jd,j6,j7,wb,je,j8,yr,j9,wg,jf,jg,xa,xb,z7,jh,z8,ji,jj,yt,yu,xc,AV.one,wh,wi,aun,jk,xd,yw,afn,xe,Out.ren,xf,xg,jl,wj,xh,wl,jm,Eng.distinct,pos,wn,Eng.ren,wo,xi,wp,jo,wq,yg,xj,ws,wu,jp,frz,yx,yz,wv,List.lookup_cons,jq,zi,jr,js,List.range_succ,jt,xk,ju,xm,↓yh,↓yi,↓qt,↓y6,↓qu,↓qa,↓yj,↓yk,↓qv,↓qw,↓qx,↓qy,↓qb,↓qz,qc,ww,xn,jv,jw,yl,qd,qe,zj,wx,y7,jx,xp,xq,keq,y8,wy,qf,y9,ym,xr,jy,jz,xt,j0,wz,ja,j1,xu,xv,xw,jb,q5,q6,yn,q7,j2,Option.map_some,yo,qg,q8,q9,qh,ya,xx,yb,yp,yc,xy,w5,xz,x5,w6,jc,x6,Op.operands,Call.operands,yd,qi,w7,AObj.live]
    rw [aloop_round]
    simp -implicitDefEqProofs [R2, atF, mach_loop, IntWalk.i64_in,IntWalk.u64_in,IntWalk.u8_in,IntWalk.i32_in,IntWalk.u32_in,ye,zk,zm,qj,qk,qm,qn,zb,zc,zn,zp,zq,qo,zd,ze,zr,zt,zu,j3,x7,zw,zf,za,zx,qp,zy,zg,zz,z6,qq,zh,yf,qr,aop,yq,j4,j5,x8,x9,jd,j6,j7,wb,je,j8,yr,j9,wg,jf,jg,xa,xb,z7,jh,z8,ji,jj,yt,yu,xc,AV.one,wh,wi,aun,jk,xd,yw,afn,xe,Out.ren,xf,xg,jl,wj,xh,wl,jm,Eng.distinct,pos,wn,Eng.ren,wo,xi,wp,jo,wq,yg,xj,ws,wu,jp,frz,yx,yz,wv,List.lookup_cons,jq,zi,jr,js,List.range_succ,jt,xk,ju,xm,↓yh,↓yi,↓qt,↓y6,↓qu,↓qa,↓yj,↓yk,↓qv,↓qw,↓qx,↓qy,↓qb,↓qz,qc,ww,xn,jv,jw,yl,qd,qe,zj,wx,y7,jx,xp,xq,keq,y8,wy,qf,y9,ym,xr,jy,jz,xt,j0,wz,ja,j1,xu,xv,xw,jb,q5,q6,yn,q7,j2,Option.map_some,yo,qg,q8,q9,qh,ya,xx,yb,yp,yc,xy,w5,xz,x5,w6,jc,x6,Op.operands,Call.operands,yd,qi,w7,AObj.live]
    by_cases hf : (64 * (64 * ((c0.toNat : Int) - 224) + (c1.toNat : Int) - 128) + (c2.toNat : Int) - 128) < 2048 ∨ 1114111 < (64 * (64 * ((c0.toNat : Int) - 224) + (c1.toNat : Int) - 128) + (c2.toNat : Int) - 128) ∨ (55296 ≤ (64 * (64 * ((c0.toNat : Int) - 224) + (c1.toNat : Int) - 128) + (c2.toNat : Int) - 128) ∧ (64 * (64 * ((c0.toNat : Int) - 224) + (c1.toNat : Int) - 128) + (c2.toNat : Int) - 128) < 57344)
    · simp [hf] <;> omega
    · simp [hf] <;> omega
  have z3 : (240 : Int) ≤ c0.toNat := by omega
  by_cases h248 : (c0.toNat : Int) < 248
  · have wa : IntKind.i64.wrap ((c0.toNat : Int) - 240) = (c0.toNat : Int) - 240 := wrap64 (by omega) (by omega)
    by_cases hl : (s.length : Int) < (i : Int) + 4
    · have hl' : L < 4 := by omega
      simp -implicitDefEqProofs [R2, atA, atF, g0, wc0, hi0, h128, h192, h224, h240, h248, z1, z2, z3, wa, w4, hl, hl', mach_loop, IntWalk.i64_in,IntWalk.u64_in,IntWalk.u8_in,IntWalk.i32_in,IntWalk.u32_in,ye,zk,zm,qj,qk,qm,qn,zb,zc,zn,zp,zq,qo,zd,ze,zr,zt,zu,j3,x7,zw,zf,za,zx,qp,zy,zg,zz,z6,qq,zh,yf,qr,aop,yq,j4,j5,x8,x9,jd,j6,j7,wb,je,j8,yr,j9,wg,jf,jg,xa,xb,z7,jh,z8,ji,jj,yt,yu,xc,AV.one,wh,wi,aun,jk,xd,yw,afn,xe,Out.ren,xf,xg,jl,wj,xh,wl,jm,Eng.distinct,pos,wn,Eng.ren,wo,xi,wp,jo,wq,yg,xj,ws,wu,jp,frz,yx,yz,wv,List.lookup_cons,jq,zi,jr,js,List.range_succ,jt,xk,ju,xm,↓yh,↓yi,↓qt,↓y6,↓qu,↓qa,↓yj,↓yk,↓qv,↓qw,↓qx,↓qy,↓qb,↓qz,qc,ww,xn,jv,jw,yl,qd,qe,zj,wx,y7,jx,xp,xq,keq,y8,wy,qf,y9,ym,xr,jy,jz,xt,j0,wz,ja,j1,xu,xv,xw,jb,q5,q6,yn,q7,j2,Option.map_some,yo,qg,q8,q9,qh,ya,xx,yb,yp,yc,xy,w5,xz,x5,w6,jc,x6,Op.operands,Call.operands,yd,qi,w7,AObj.live]
    have hl' : ¬ L < 4 := by omega
    have g1 := q1 (by omega)
    have g2 := q2 (by omega)
    have g3 := q3 (by omega)
    simp -implicitDefEqProofs [R2, atA, atF, g0, wc0, hi0, h128, h192, h224, h240, h248, z1, z2, z3, wa, w4, hl, hl', mach_loop, IntWalk.i64_in,IntWalk.u64_in,IntWalk.u8_in,IntWalk.i32_in,IntWalk.u32_in,ye,zk,zm,qj,qk,qm,qn,zb,zc,zn,zp,zq,qo,zd,ze,zr,zt,zu,j3,x7,zw,zf,za,zx,qp,zy,zg,zz,z6,qq,zh,yf,qr,aop,yq,j4,j5,x8,x9,jd,j6,j7,wb,je,j8,yr,j9,wg,jf,jg,xa,xb,z7,jh,z8,ji,jj,yt,yu,xc,AV.one,wh,wi,aun,jk,xd,yw,afn,xe,Out.ren,xf,xg,jl,wj,xh,wl,jm,Eng.distinct,pos,wn,Eng.ren,wo,xi,wp,jo,wq,yg,xj,ws,wu,jp,frz,yx,yz,wv,List.lookup_cons,jq,zi,jr,js,List.range_succ,jt,xk,ju,xm,↓yh,↓yi,↓qt,↓y6,↓qu,↓qa,↓yj,↓yk,↓qv,↓qw,↓qx,↓qy,↓qb,↓qz,qc,ww,xn,jv,jw,yl,qd,qe,zj,wx,y7,jx,xp,xq,keq,y8,wy,qf,y9,ym,xr,jy,jz,xt,j0,wz,ja,j1,xu,xv,xw,jb,q5,q6,yn,q7,j2,Option.map_some,yo,qg,q8,q9,qh,ya,xx,yb,yp,yc,xy,w5,xz,x5,w6,jc,x6,Op.operands,Call.operands,yd,qi,w7,AObj.live]
    rw [aloop_round]
    by_cases a1 : (c1.toNat : Int) < 128
    · simp -implicitDefEqProofs [R2, atF, g1, t1, p1, w1, wc1, hl', mach_loop, a1, IntWalk.i64_in,IntWalk.u64_in,IntWalk.u8_in,IntWalk.i32_in,IntWalk.u32_in,ye,zk,zm,qj,qk,qm,qn,zb,zc,zn,zp,zq,qo,zd,ze,zr,zt,zu,j3,x7,zw,zf,za,zx,qp,zy,zg,zz,z6,qq,zh,yf,qr,aop,yq,j4,j5,x8,x9,jd,j6,j7,wb,je,j8,yr,j9,wg,jf,jg,xa,xb,z7,jh,z8,ji,jj,yt,yu,xc,AV.one,wh,wi,aun,jk,xd,yw,afn,xe,Out.ren,xf,xg,jl,wj,xh,wl,jm,Eng.distinct,pos,wn,Eng.ren,wo,xi,wp,jo,wq,yg,xj,ws,wu,jp,frz,yx,yz,wv,List.lookup_cons,jq,zi,jr,js,List.range_succ,jt,xk,ju,xm,↓yh,↓yi,↓qt,↓y6,↓qu,↓qa,↓yj,↓yk,↓qv,↓qw,↓qx,↓qy,↓qb,↓qz,qc,ww,xn,jv,jw,yl,qd,qe,zj,wx,y7,jx,xp,xq,keq,y8,wy,qf,y9,ym,xr,jy,jz,xt,j0,wz,ja,j1,xu,xv,xw,jb,q5,q6,yn,q7,j2,Option.map_some,yo,qg,q8,q9,qh,ya,xx,yb,yp,yc,xy,w5,xz,x5,w6,jc,x6,Op.operands,Call.operands,yd,qi,w7,AObj.live]
    by_cases b1 : (192 : Int) ≤ c1.toNat
    · simp -implicitDefEqProofs [R2, atF, g1, t1, p1, w1, wc1, hl', mach_loop, a1, b1, IntWalk.i64_in,IntWalk.u64_in,IntWalk.u8_in,IntWalk.i32_in,IntWalk.u32_in,ye,zk,zm,qj,qk,qm,qn,zb,zc,zn,zp,zq,qo,zd,ze,zr,zt,zu,j3,x7,zw,zf,za,zx,qp,zy,zg,zz,z6,qq,zh,yf,qr,aop,yq,j4,j5,x8,x9,jd,j6,j7,wb,je,j8,yr,j9,wg,jf,jg,xa,xb,z7,jh,z8,ji,jj,yt,yu,xc,AV.one,wh,wi,aun,jk,xd,yw,afn,xe,Out.ren,xf,xg,jl,wj,xh,wl,jm,Eng.distinct,pos,wn,Eng.ren,wo,xi,wp,jo,wq,yg,xj,ws,wu,jp,frz,yx,yz,wv,List.lookup_cons,jq,zi,jr,js,List.range_succ,jt,xk,ju,xm,↓yh,↓yi,↓qt,↓y6,↓qu,↓qa,↓yj,↓yk,↓qv,↓qw,↓qx,↓qy,↓qb,↓qz,qc,ww,xn,jv,jw,yl,qd,qe,zj,wx,y7,jx,xp,xq,keq,y8,wy,qf,y9,ym,xr,jy,jz,xt,j0,wz,ja,j1,xu,xv,xw,jb,q5,q6,yn,q7,j2,Option.map_some,yo,qg,q8,q9,qh,ya,xx,yb,yp,yc,xy,w5,xz,x5,w6,jc,x6,Op.operands,Call.operands,yd,qi,w7,AObj.live]
    have x1 : IntKind.i64.wrap (64 * ((c0.toNat : Int) - 240)) = 64 * ((c0.toNat : Int) - 240) := wrap64 (by omega) (by omega)
    have y1 : IntKind.i64.wrap (64 * ((c0.toNat : Int) - 240) + (c1.toNat : Int)) = 64 * ((c0.toNat : Int) - 240) + (c1.toNat : Int) := wrap64 (by omega) (by omega)
    have z1' : IntKind.i64.wrap (64 * ((c0.toNat : Int) - 240) + (c1.toNat : Int) - 128) = 64 * ((c0.toNat : Int) - 240) + (c1.toNat : Int) - 128 := wrap64 (by omega) (by omega)
    simp -implicitDefEqProofs [R2, atF, g1, t1, p1, w1, wc1, hl', mach_loop, a1, b1, x1, y1, z1', IntWalk.i64_in,IntWalk.u64_in,IntWalk.u8_in,IntWalk.i32_in,IntWalk.u32_in,ye,zk,zm,qj,qk,qm,qn,zb,zc,zn,zp,zq,qo,zd,ze,zr,zt,zu,j3,x7,zw,zf,za,zx,qp,zy,zg,zz,z6,qq,zh,yf,qr,aop,yq,j4,j5,x8,x9,jd,j6,j7,wb,je,j8,yr,j9,wg,jf,jg,xa,xb,z7,jh,z8,ji,jj,yt,yu,xc,AV.one,wh,wi,aun,jk,xd,yw,afn,xe,Out.ren,xf,xg,jl,wj,xh,wl,jm,Eng.distinct,pos,wn,Eng.ren,wo,xi,wp,jo,wq,yg,xj,ws,wu,jp,frz,yx,yz,wv,List.lookup_cons,jq,zi,jr,js,List.range_succ,jt,xk,ju,xm,↓yh,↓yi,↓qt,↓y6,↓qu,↓qa,↓yj,↓yk,↓qv,↓qw,↓qx,↓qy,↓qb,↓qz,qc,ww,xn,jv,jw,yl,qd,qe,zj,wx,y7,jx,xp,xq,keq,y8,wy,qf,y9,ym,xr,jy,jz,xt,j0,wz,ja,j1,xu,xv,xw,jb,q5,q6,yn,q7,j2,Option.map_some,yo,qg,q8,q9,qh,ya,xx,yb,yp,yc,xy,w5,xz,x5,w6,jc,x6,Op.operands,Call.operands,yd,qi,w7,AObj.live]
    rw [aloop_round]
    by_cases a2 : (c2.toNat : Int) < 128
    · simp -implicitDefEqProofs [R2, atF, g2, t2, p2, w2, wc2, hl', mach_loop, a2, IntWalk.i64_in,IntWalk.u64_in,IntWalk.u8_in,IntWalk.i32_in,IntWalk.u32_in,ye,zk,zm,qj,qk,qm,qn,zb,zc,zn,zp,zq,qo,zd,ze,zr,zt,zu,j3,x7,zw,zf,za,zx,qp,zy,zg,zz,z6,qq,zh,yf,qr,aop,yq,j4,j5,x8,x9,jd,j6,j7,wb,je,j8,yr,j9,wg,jf,jg,xa,xb,z7,jh,z8,ji,jj,yt,yu,xc,AV.one,wh,wi,aun,jk,xd,yw,afn,xe,Out.ren,xf,xg,jl,wj,xh,wl,jm,Eng.distinct,pos,wn,Eng.ren,wo,xi,wp,jo,wq,yg,xj,ws,wu,jp,frz,yx,yz,wv,List.lookup_cons,jq,zi,jr,js,List.range_succ,jt,xk,ju,xm,↓yh,↓yi,↓qt,↓y6,↓qu,↓qa,↓yj,↓yk,↓qv,↓qw,↓qx,↓qy,↓qb,↓qz,qc,ww,xn,jv,jw,yl,qd,qe,zj,wx,y7,jx,xp,xq,keq,y8,wy,qf,y9,ym,xr,jy,jz,xt,j0,wz,ja,j1,xu,xv,xw,jb,q5,q6,yn,q7,j2,Option.map_some,yo,qg,q8,q9,qh,ya,xx,yb,yp,yc,xy,w5,xz,x5,w6,jc,x6,Op.operands,Call.operands,yd,qi,w7,AObj.live]
    by_cases b2 : (192 : Int) ≤ c2.toNat
    · simp -implicitDefEqProofs [R2, atF, g2, t2, p2, w2, wc2, hl', mach_loop, a2, b2, IntWalk.i64_in,IntWalk.u64_in,IntWalk.u8_in,IntWalk.i32_in,IntWalk.u32_in,ye,zk,zm,qj,qk,qm,qn,zb,zc,zn,zp,zq,qo,zd,ze,zr,zt,zu,j3,x7,zw,zf,za,zx,qp,zy,zg,zz,z6,qq,zh,yf,qr,aop,yq,j4,j5,x8,x9,jd,j6,j7,wb,je,j8,yr,j9,wg,jf,jg,xa,xb,z7,jh,z8,ji,jj,yt,yu,xc,AV.one,wh,wi,aun,jk,xd,yw,afn,xe,Out.ren,xf,xg,jl,wj,xh,wl,jm,Eng.distinct,pos,wn,Eng.ren,wo,xi,wp,jo,wq,yg,xj,ws,wu,jp,frz,yx,yz,wv,List.lookup_cons,jq,zi,jr,js,List.range_succ,jt,xk,ju,xm,↓yh,↓yi,↓qt,↓y6,↓qu,↓qa,↓yj,↓yk,↓qv,↓qw,↓qx,↓qy,↓qb,↓qz,qc,ww,xn,jv,jw,yl,qd,qe,zj,wx,y7,jx,xp,xq,keq,y8,wy,qf,y9,ym,xr,jy,jz,xt,j0,wz,ja,j1,xu,xv,xw,jb,q5,q6,yn,q7,j2,Option.map_some,yo,qg,q8,q9,qh,ya,xx,yb,yp,yc,xy,w5,xz,x5,w6,jc,x6,Op.operands,Call.operands,yd,qi,w7,AObj.live]
    have x2 : IntKind.i64.wrap (64 * (64 * ((c0.toNat : Int) - 240) + (c1.toNat : Int) - 128)) = 64 * (64 * ((c0.toNat : Int) - 240) + (c1.toNat : Int) - 128) := wrap64 (by omega) (by omega)
    have y2 : IntKind.i64.wrap (64 * (64 * ((c0.toNat : Int) - 240) + (c1.toNat : Int) - 128) + (c2.toNat : Int)) = 64 * (64 * ((c0.toNat : Int) - 240) + (c1.toNat : Int) - 128) + (c2.toNat : Int) := wrap64 (by omega) (by omega)
    have z2' : IntKind.i64.wrap (64 * (64 * ((c0.toNat : Int) - 240) + (c1.toNat : Int) - 128) + (c2.toNat : Int) - 128) = 64 * (64 * ((c0.toNat : Int) - 240) + (c1.toNat : Int) - 128) + (c2.toNat : Int) - 128 := wrap64 (by omega) (by omega)
    simp -implicitDefEqProofs [R2, atF, g2, t2, p2, w2, wc2, hl', mach_loop, a2, b2, x2, y2, z2', IntWalk.i64_in,IntWalk.u64_in,IntWalk.u8_in,IntWalk.i32_in,IntWalk.u32_in,ye,zk,zm,qj,qk,qm,qn,zb,zc,zn,zp,zq,qo,zd,ze,zr,zt,zu,j3,x7,zw,zf,za,zx,qp,zy,zg,zz,z6,qq,zh,yf,qr,aop,yq,j4,j5,x8,x9,jd,j6,j7,wb,je,j8,yr,j9,wg,jf,jg,xa,xb,z7,jh,z8,ji,jj,yt,yu,xc,AV.one,wh,wi,aun,jk,xd,yw,afn,xe,Out.ren,xf,xg,jl,wj,xh,wl,jm,Eng.distinct,pos,wn,Eng.ren,wo,xi,wp,jo,wq,yg,xj,ws,wu,jp,frz,yx,yz,wv,List.lookup_cons,jq,zi,jr,js,List.range_succ,jt,xk,ju,xm,↓yh,↓yi,↓qt,↓y6,↓qu,↓qa,↓yj,↓yk,↓qv,↓qw,↓qx,↓qy,↓qb,↓qz,qc,ww,xn,jv,jw,yl,qd,qe,zj,wx,y7,jx,xp,xq,keq,y8,wy,qf,y9,ym,xr,jy,jz,xt,j0,wz,ja,j1,xu,xv,xw,jb,q5,q6,yn,q7,j2,Option.map_some,yo,qg,q8,q9,qh,ya,xx,yb,yp,yc,xy,w5,xz,x5,w6,jc,x6,Op.operands,Call.operands,yd,qi,w7,AObj.live]
    rw [aloop_round]
    by_cases a3 : (c3.toNat : Int) < 128
    · simp -implicitDefEqProofs [R2, atF, g3, t3, p3, w3, wc3, hl', mach_loop, a3, IntWalk.i64_in,IntWalk.u64_in,IntWalk.u8_in,IntWalk.i32_in,IntWalk.u32_in,ye,zk,zm,qj,qk,qm,qn,zb,zc,zn,zp,zq,qo,zd,ze,zr,zt,zu,j3,x7,zw,zf,za,zx,qp,zy,zg,zz,z6,qq,zh,yf,qr,aop,yq,j4,j5,x8,x9,jd,j6,j7,wb,je,j8,yr,j9,wg,jf,jg,xa,xb,z7,jh,z8,ji,jj,yt,yu,xc,AV.one,wh,wi,aun,jk,xd,yw,afn,xe,Out.ren,xf,xg,jl,wj,xh,wl,jm,Eng.distinct,pos,wn,Eng.ren,wo,xi,wp,jo,wq,yg,xj,ws,wu,jp,frz,yx,yz,wv,List.lookup_cons,jq,zi,jr,js,List.range_succ,jt,xk,ju,xm,↓yh,↓yi,↓qt,↓y6,↓qu,↓qa,↓yj,↓yk,↓qv,↓qw,↓qx,↓qy,↓qb,↓qz,qc,ww,xn,jv,jw,yl,qd,qe,zj,wx,y7,jx,xp,xq,keq,y8,wy,qf,y9,ym,xr,jy,jz,xt,j0,wz,ja,j1,xu,xv,xw,jb,q5,q6,yn,q7,j2,Option.map_some,yo,qg,q8,q9,qh,ya,xx,yb,yp,yc,xy,w5,xz,x5,w6,jc,x6,Op.operands,Call.operands,yd,qi,w7,AObj.live]
    by_cases b3 : (192 : Int) ≤ c3.toNat
    · simp -implicitDefEqProofs [R2, atF, g3, t3, p3, w3, wc3, hl', mach_loop, a3, b3, IntWalk.i64_in,IntWalk.u64_in,IntWalk.u8_in,IntWalk.i32_in,IntWalk.u32_in,ye,zk,zm,qj,qk,qm,qn,zb,zc,zn,zp,zq,qo,zd,ze,zr,zt,zu,j3,x7,zw,zf,za,zx,qp,zy,zg,zz,z6,qq,zh,yf,qr,aop,yq,j4,j5,x8,x9,jd,j6,j7,wb,je,j8,yr,j9,wg,jf,jg,xa,xb,z7,jh,z8,ji,jj,yt,yu,xc,AV.one,wh,wi,aun,jk,xd,yw,afn,xe,Out.ren,xf,xg,jl,wj,xh,wl,jm,Eng.distinct,pos,wn,Eng.ren,wo,xi,wp,jo,wq,yg,xj,ws,wu,jp,frz,yx,yz,wv,List.lookup_cons,jq,zi,jr,js,List.range_succ,jt,xk,ju,xm,↓yh,↓yi,↓qt,↓y6,↓qu,↓qa,↓yj,↓yk,↓qv,↓qw,↓qx,↓qy,↓qb,↓qz,qc,ww,xn,jv,jw,yl,qd,qe,zj,wx,y7,jx,xp,xq,keq,y8,wy,qf,y9,ym,xr,jy,jz,xt,j0,wz,ja,j1,xu,xv,xw,jb,q5,q6,yn,q7,j2,Option.map_some,yo,qg,q8,q9,qh,ya,xx,yb,yp,yc,xy,w5,xz,x5,w6,jc,x6,Op.operands,Call.operands,yd,qi,w7,AObj.live]
    have x3 : IntKind.i64.wrap (64 * (64 * (64 * ((c0.toNat : Int) - 240) + (c1.toNat : Int) - 128) + (c2.toNat : Int) - 128)) = 64 * (64 * (64 * ((c0.toNat : Int) - 240) + (c1.toNat : Int) - 128) + (c2.toNat : Int) - 128) := wrap64 (by omega) (by omega)
    have y3 : IntKind.i64.wrap (64 * (64 * (64 * ((c0.toNat : Int) - 240) + (c1.toNat : Int) - 128) + (c2.toNat : Int) - 128) + (c3.toNat : Int)) = 64 * (64 * (64 * ((c0.toNat : Int) - 240) + (c1.toNat : Int) - 128) + (c2.toNat : Int) - 128) + (c3.toNat : Int) := wrap64 (by omega) (by omega)
    have z3' : IntKind.i64.wrap (64 * (64 * (64 * ((c0.toNat : Int) - 240) + (c1.toNat : Int) - 128) + (c2.toNat : Int) - 128) + (c3.toNat : Int) - 128) = 64 * (64 * (64 * ((c0.toNat : Int) - 240) + (c1.toNat : Int) - 128) + (c2.toNat : Int) - 128) + (c3.toNat : Int) - 128 := wrap64 (by omega) (by omega)
    simp -implicitDefEqProofs [R2, atF, g3, t3, p3, w3, wc3, hl', mach_loop, a3, b3, x3, y3, z3', IntWalk.i64_in,IntWalk.u64_in,IntWalk.u8_in,IntWalk.i32_in,IntWalk.u32_in,ye,zk,zm,qj,qk,qm,qn,zb,zc,zn,zp,zq,qo,zd,ze,zr,zt,zu,j3,x7,zw,zf,za,zx,qp,zy,zg,zz,z6,qq,zh,yf,qr,aop,yq,j4,j5,x8,x9,jd,j6,j7,wb,je,j8,yr,j9,wg,jf,jg,xa,xb,z7,jh,z8,ji,jj,yt,yu,xc,AV.one,wh,wi,aun,jk,xd,yw,afn,xe,Out.ren,xf,xg,jl,wj,xh,wl,jm,Eng.distinct,pos,wn,Eng.ren,wo,xi,wp,jo,wq,yg,xj,ws,wu,jp,frz,yx,yz,wv,List.lookup_cons,jq,zi,jr,js,List.range_succ,jt,xk,ju,xm,↓yh,↓yi,↓qt,↓y6,↓qu,↓qa,↓yj,↓yk,↓qv,↓qw,↓qx,↓qy,↓qb,↓qz,qc,ww,xn,jv,jw,yl,qd,qe,zj,wx,y7,jx,xp,xq,keq,y8,wy,qf,y9,ym,xr,jy,jz,xt,j0,wz,ja,j1,xu,xv,xw,jb,q5,q6,yn,q7,j2,Option.map_some,yo,qg,q8,q9,qh,ya,xx,yb,yp,yc,xy,w5,xz,x5,w6,jc,x6,Op.operands,Call.operands,yd,qi,w7,AObj.live]
    rw [aloop_round]
    simp -implicitDefEqProofs [R2, atF, mach_loop, IntWalk.i64_in,IntWalk.u64_in,IntWalk.u8_in,IntWalk.i32_in,IntWalk.u32_in,ye,zk,zm,qj,qk,qm,qn,zb,zc,zn,zp,zq,qo,zd,ze,zr,zt,zu,j3,x7,zw,zf,za,zx,qp,zy,zg,zz,z6,qq,zh,yf,qr,aop,yq,j4,j5,x8,x9,jd,j6,j7,wb,je,j8,yr,j9,wg,jf,jg,xa,xb,z7,jh,z8,ji,jj,yt,yu,xc,AV.one,wh,wi,aun,jk,xd,yw,afn,xe,Out.ren,xf,xg,jl,wj,xh,wl,jm,Eng.distinct,pos,wn,Eng.ren,wo,xi,wp,jo,wq,yg,xj,ws,wu,jp,frz,yx,yz,wv,List.lookup_cons,jq,zi,jr,js,List.range_succ,jt,xk,ju,xm,↓yh,↓yi,↓qt,↓y6,↓qu,↓qa,↓yj,↓yk,↓qv,↓qw,↓qx,↓qy,↓qb,↓qz,qc,ww,xn,jv,jw,yl,qd,qe,zj,wx,y7,jx,xp,xq,keq,y8,wy,qf,y9,ym,xr,jy,jz,xt,j0,wz,ja,j1,xu,xv,xw,jb,q5,q6,yn,q7,j2,Option.map_some,yo,qg,q8,q9,qh,ya,xx,yb,yp,yc,xy,w5,xz,x5,w6,jc,x6,Op.operands,Call.operands,yd,qi,w7,AObj.live]
    by_cases hf : (64 * (64 * (64 * ((c0.toNat : Int) - 240) + (c1.toNat : Int) - 128) + (c2.toNat : Int) - 128) + (c3.toNat : Int) - 128) < 65536 ∨ 1114111 < (64 * (64 * (64 * ((c0.toNat : Int) - 240) + (c1.toNat : Int) - 128) + (c2.toNat : Int) - 128) + (c3.toNat : Int) - 128) ∨ (55296 ≤ (64 * (64 * (64 * ((c0.toNat : Int) - 240) + (c1.toNat : Int) - 128) + (c2.toNat : Int) - 128) + (c3.toNat : Int) - 128) ∧ (64 * (64 * (64 * ((c0.toNat : Int) - 240) + (c1.toNat : Int) - 128) + (c2.toNat : Int) - 128) + (c3.toNat : Int) - 128) < 57344)
    · simp [hf] <;> omega
    · simp [hf] <;> omega
  simp -implicitDefEqProofs [R2, atA, g0, wc0, hi0, h128, h192, h224, h240, h248, z1, z2, z3, IntWalk.i64_in,IntWalk.u64_in,IntWalk.u8_in,IntWalk.i32_in,IntWalk.u32_in,ye,zk,zm,qj,qk,qm,qn,zb,zc,zn,zp,zq,qo,zd,ze,zr,zt,zu,j3,x7,zw,zf,za,zx,qp,zy,zg,zz,z6,qq,zh,yf,qr,aop,yq,j4,j5,x8,x9,jd,j6,j7,wb,je,j8,yr,j9,wg,jf,jg,xa,xb,z7,jh,z8,ji,jj,yt,yu,xc,AV.one,wh,wi,aun,jk,xd,yw,afn,xe,Out.ren,xf,xg,jl,wj,xh,wl,jm,Eng.distinct,pos,wn,Eng.ren,wo,xi,wp,jo,wq,yg,xj,ws,wu,jp,frz,yx,yz,wv,List.lookup_cons,jq,zi,jr,js,List.range_succ,jt,xk,ju,xm,↓yh,↓yi,↓qt,↓y6,↓qu,↓qa,↓yj,↓yk,↓qv,↓qw,↓qx,↓qy,↓qb,↓qz,qc,ww,xn,jv,jw,yl,qd,qe,zj,wx,y7,jx,xp,xq,keq,y8,wy,qf,y9,ym,xr,jy,jz,xt,j0,wz,ja,j1,xu,xv,xw,jb,q5,q6,yn,q7,j2,Option.map_some,yo,qg,q8,q9,qh,ya,xx,yb,yp,yc,xy,w5,xz,x5,w6,jc,x6,Op.operands,Call.operands,yd,qi,w7,AObj.live]
end Go.Proofs.YtblejchodicaoaaGreatDoor.Eng

/-
  PLAIN LAW: the reference's At is a step of the decoder; contracts of Valid, Runes. Own work.
-/
namespace Go.Proofs.YtblejchodicaoaaGreatDoor.Eng
open Go Go.RowKit
set_option maxRecDepth 100000
set_option linter.unusedSimpArgs false
set_option maxHeartbeats 2000000

def okD (d : Nat × Nat) : Int × Int := if d.1 = 65533 ∧ d.2 = 1 then (0, 0) else ((d.1 : Int), (d.2 : Int))
theorem atF_ok (m : Nat) (v min n : Int) (mn : Nat) (k : Nat) (hv : v = m) (hm : min = mn) (hn : n = k) (hk : 2 ≤ k) : atF v min n = okD (if mn ≤ m ∧ (m < 55296 ∨ (57344 ≤ m ∧ m ≤ 1114111)) then (m, k) else (65533, 1)) := by
  subst hv hm hn
  unfold atF okD
  by_cases h : mn ≤ m ∧ (m < 55296 ∨ (57344 ≤ m ∧ m ≤ 1114111))
  · have h1 : ¬ ((m : Int) < mn ∨ 1114111 < (m : Int) ∨ (55296 ≤ (m : Int) ∧ (m : Int) < 57344)) := by omega
    have h2 : ¬ (m = 65533 ∧ k = 1) := by omega
    rw [if_neg h1, if_pos h]
    show _ = if m = 65533 ∧ k = 1 then _ else _
    rw [if_neg h2]
  · have h1 : ((m : Int) < mn ∨ 1114111 < (m : Int) ∨ (55296 ≤ (m : Int) ∧ (m : Int) < 57344)) := by omega
    rw [if_pos h1, if_neg h]
    rfl
theorem atA_eq (n b0 b1 b2 b3 : Nat) (h0 : b0 < 256) (h1 : b1 < 256) (h2 : b2 < 256) (h3 : b3 < 256) : atA n b0 b1 b2 b3 = okD (Lib.decodeN n b0 b1 b2 b3) := by
  have bad : okD (65533, 1) = (0, 0) := by simp [okD]
  unfold atA
  by_cases c1 : b0 < 128
  · have e : Lib.decodeN n b0 b1 b2 b3 = (b0, 1) := by unfold Lib.decodeN; rw [if_pos c1]
    rw [e, if_pos (by omega)]
    unfold okD
    rw [if_neg (by show ¬ (b0 = 65533 ∧ _); omega)]
    rfl
  rw [if_neg (by omega)]
  by_cases c2 : b0 < 192
  · have e : Lib.decodeN n b0 b1 b2 b3 = (65533, 1) := by
      unfold Lib.decodeN
      rw [if_neg c1, if_neg (by omega), if_neg (by omega), if_neg (by omega)]
    rw [e, if_pos (by omega), bad]
  rw [if_neg (by omega)]
  by_cases c3 : b0 < 224
  · rw [if_pos (by omega)]
    by_cases d : 1 < n ∧ b1 / 64 = 2
    · have e : Lib.decodeN n b0 b1 b2 b3 = if 128 ≤ (b0 % 32 * 64 + b1 % 64) ∧ ((b0 % 32 * 64 + b1 % 64) < 55296 ∨ (57344 ≤ (b0 % 32 * 64 + b1 % 64) ∧ (b0 % 32 * 64 + b1 % 64) ≤ 1114111)) then (b0 % 32 * 64 + b1 % 64, 2) else (65533, 1) := by
        unfold Lib.decodeN
        rw [if_neg c1, if_pos ⟨by omega, d⟩]
        by_cases g : 128 ≤ b0 % 32 * 64 + b1 % 64
        · rw [if_pos g, if_pos (by omega)]
        · rw [if_neg g, if_neg (by omega)]
      rw [e, if_neg (by omega), if_neg (by omega)]
      exact atF_ok _ _ _ _ _ _ (by omega) (by omega) (by omega) (by omega)
    · have e : Lib.decodeN n b0 b1 b2 b3 = (65533, 1) := by
        unfold Lib.decodeN
        rw [if_neg c1, if_neg (by omega), if_neg (by omega), if_neg (by omega)]
      rw [e, bad]
      by_cases g : n < 2
      · rw [if_pos g]
      · rw [if_neg g, if_pos (by omega)]
  rw [if_neg (by omega)]
  by_cases c4 : b0 < 240
  · rw [if_pos (by omega)]
    by_cases d : (1 < n ∧ b1 / 64 = 2) ∧ (2 < n ∧ b2 / 64 = 2)
    · have e : Lib.decodeN n b0 b1 b2 b3 = if 2048 ≤ (b0 % 16 * 4096 + b1 % 64 * 64 + b2 % 64) ∧ ((b0 % 16 * 4096 + b1 % 64 * 64 + b2 % 64) < 55296 ∨ (57344 ≤ (b0 % 16 * 4096 + b1 % 64 * 64 + b2 % 64) ∧ (b0 % 16 * 4096 + b1 % 64 * 64 + b2 % 64) ≤ 1114111)) then (b0 % 16 * 4096 + b1 % 64 * 64 + b2 % 64, 3) else (65533, 1) := by
        unfold Lib.decodeN
        rw [if_neg c1, if_neg (by omega), if_pos ⟨by omega, d⟩]
      rw [e, if_neg (by omega), if_neg (by omega), if_neg (by omega)]
      exact atF_ok _ _ _ _ _ _ (by omega) (by omega) (by omega) (by omega)
    · have e : Lib.decodeN n b0 b1 b2 b3 = (65533, 1) := by
        unfold Lib.decodeN
        rw [if_neg c1, if_neg (by omega), if_neg (by omega), if_neg (by omega)]
      rw [e, bad]
      by_cases g : n < 3
      · rw [if_pos g]
      · rw [if_neg g]
        by_cases g1 : (b1 : Int) < 128 ∨ 192 ≤ (b1 : Int)
        · rw [if_pos g1]
        · rw [if_neg g1, if_pos (by omega)]
  rw [if_neg (by omega)]
  by_cases c5 : b0 < 248
  · rw [if_pos (by omega)]
    by_cases d : (1 < n ∧ b1 / 64 = 2) ∧ (2 < n ∧ b2 / 64 = 2) ∧ (3 < n ∧ b3 / 64 = 2)
    · have e : Lib.decodeN n b0 b1 b2 b3 = if 65536 ≤ (b0 % 8 * 262144 + b1 % 64 * 4096 + b2 % 64 * 64 + b3 % 64) ∧ ((b0 % 8 * 262144 + b1 % 64 * 4096 + b2 % 64 * 64 + b3 % 64) < 55296 ∨ (57344 ≤ (b0 % 8 * 262144 + b1 % 64 * 4096 + b2 % 64 * 64 + b3 % 64) ∧ (b0 % 8 * 262144 + b1 % 64 * 4096 + b2 % 64 * 64 + b3 % 64) ≤ 1114111)) then (b0 % 8 * 262144 + b1 % 64 * 4096 + b2 % 64 * 64 + b3 % 64, 4) else (65533, 1) := by
        unfold Lib.decodeN
        rw [if_neg c1, if_neg (by omega), if_neg (by omega), if_pos ⟨by omega, d⟩]
      rw [e, if_neg (by omega), if_neg (by omega), if_neg (by omega), if_neg (by omega)]
      exact atF_ok _ _ _ _ _ _ (by omega) (by omega) (by omega) (by omega)
    · have e : Lib.decodeN n b0 b1 b2 b3 = (65533, 1) := by
        unfold Lib.decodeN
        rw [if_neg c1, if_neg (by omega), if_neg (by omega), if_neg (by omega)]
      rw [e, bad]
      by_cases g : n < 4
      · rw [if_pos g]
      · rw [if_neg g]
        by_cases g1 : (b1 : Int) < 128 ∨ 192 ≤ (b1 : Int)
        · rw [if_pos g1]
        · rw [if_neg g1]
          by_cases g2 : (b2 : Int) < 128 ∨ 192 ≤ (b2 : Int)
          · rw [if_pos g2]
          · rw [if_neg g2, if_pos (by omega)]
  have e : Lib.decodeN n b0 b1 b2 b3 = (65533, 1) := by
    unfold Lib.decodeN
    rw [if_neg c1, if_neg (by omega), if_neg (by omega), if_neg (by omega)]
  rw [if_neg (by omega), e, bad]

theorem atS_eq (s : List UInt8) (i : Nat) : atS s i = okD (decU (s.drop i)) := by
  unfold atS decU
  rw [Lib.decodeL_N, atA_eq _ _ _ _ _ (UInt8.toNat_lt _) (UInt8.toNat_lt _) (UInt8.toNat_lt _) (UInt8.toNat_lt _), List.length_drop, Lib.getD_dropU, Lib.getD_dropU, Lib.getD_dropU, Lib.getD_dropU]
  rfl

/-- A loop by a measure. -/
theorem aloop_meas {α : Type} {k : Nat} {keep : List Nat} {out : Option (List Nat)} {step : St → Option (AEx × St)} (S : α → St) (R : α → Option (AEx × St)) (P : α → Prop) (m : α → Nat)
    (h : ∀ a, P a → (∀ b s, P b → m b < m a → xk k keep s = xk k keep (S b) → aloop k keep out step s = R b) → bindL k out (step (xk k keep (S a))) (aloop k keep out step) = R a) :
    ∀ a s, P a → xk k keep s = xk k keep (S a) → aloop k keep out step s = R a := by
  have key : ∀ (n : Nat) a s, m a < n → P a → xk k keep s = xk k keep (S a) → aloop k keep out step s = R a := by
    intro n
    induction n with
    | zero => intro a s h1 _ _; omega
    | succ n ih =>
      intro a s h1 h2 h3
      rw [aloop_round, h3]
      exact h a h2 (fun b s hb hm hs => ih b s (by omega) hb hs)
  exact fun a s => key (m a + 1) a s (by omega)

theorem okD_bad {d : Nat × Nat} (h : d.1 = 65533 ∧ d.2 = 1) : okD d = (0, 0) := by simp [okD, h]
theorem okD_ok {d : Nat × Nat} (h : ¬ (d.1 = 65533 ∧ d.2 = 1)) : okD d = ((d.1 : Int), (d.2 : Int)) := by simp only [okD, h, if_false]

theorem b_r01Valid (C : Oracle) (s : List UInt8) (hs : s.length ≤ 1152921504606846976) (h : ∀ i, i < s.length → C 114 [.d (.str s), .d (.int .i64 i)] [] = R2 (okD (decU (s.drop i)))) :
    abody Tryz.prog [] C (mach Tryz.prog C { keep := [(26, [0, 3])], outs := [(26, [2])] }) true 81 [.d (.str s)] [] = R (.bool (validU s)) := by
  simp only [R2] at h
  unfold abody
  rw [Tryz.func81]
  simp only [Tryz.f81]
  simp -implicitDefEqProofs [R, mach_loop, IntWalk.i64_in,IntWalk.u64_in,IntWalk.u8_in,IntWalk.i32_in,IntWalk.u32_in,ye,zk,zm,qj,qk,qm,qn,zb,zc,zn,zp,zq,qo,zd,ze,zr,zt,zu,j3,x7,zw,zf,za,zx,qp,zy,zg,zz,z6,qq,zh,yf,qr,aop,yq,j4,j5,x8,x9,jd,j6,j7,wb,je,j8,yr,j9,wg,jf,jg,xa,xb,z7,jh,z8,ji,jj,yt,yu,xc,AV.one,wh,wi,aun,jk,xd,yw,afn,xe,Out.ren,xf,xg,jl,wj,xh,wl,jm,Eng.distinct,pos,wn,Eng.ren,wo,xi,wp,jo,wq,yg,xj,ws,wu,jp,frz,yx,yz,wv,List.lookup_cons,jq,zi,jr,js,List.range_succ,jt,xk,ju,xm,↓yh,↓yi,↓qt,↓y6,↓qu,↓qa,↓yj,↓yk,↓qv,↓qw,↓qx,↓qy,↓qb,↓qz,qc,ww,xn,jv,jw,yl,qd,qe,zj,wx,y7,jx,xp,xq,keq,y8,wy,qf,y9,ym,xr,jy,jz,xt,j0,wz,ja,j1,xu,xv,xw,jb,q5,q6,yn,q7,j2,Option.map_some,yo,qg,q8,q9,qh,ya,xx,yb,yp,yc,xy,w5,xz,x5,w6,jc,x6,Op.operands,Call.operands,yd,qi,w7,AObj.live]
  rw [aloop_meas (S := fun i : Nat => { env := [(0, .d (.str s)), (3, .d (.int .i64 i))], σ := [], dfs := [] })
    (R := fun i => if validU (s.drop i) = true then some (.exit 0, { env := [], σ := [], dfs := [] }) else some (.ret, { env := [(2, .d (.bool false))], σ := [], dfs := [] }))
    (P := fun i => i ≤ s.length) (m := fun i => s.length - i) ?_ 0 _ (by omega) ?_]
  rotate_left
  · intro i hi ih
    by_cases he : i = s.length
    · subst he
      have hv : validU ([] : List UInt8) = true := rfl
      simp -implicitDefEqProofs [mach_loop, hv, IntWalk.i64_in,IntWalk.u64_in,IntWalk.u8_in,IntWalk.i32_in,IntWalk.u32_in,ye,zk,zm,qj,qk,qm,qn,zb,zc,zn,zp,zq,qo,zd,ze,zr,zt,zu,j3,x7,zw,zf,za,zx,qp,zy,zg,zz,z6,qq,zh,yf,qr,aop,yq,j4,j5,x8,x9,jd,j6,j7,wb,je,j8,yr,j9,wg,jf,jg,xa,xb,z7,jh,z8,ji,jj,yt,yu,xc,AV.one,wh,wi,aun,jk,xd,yw,afn,xe,Out.ren,xf,xg,jl,wj,xh,wl,jm,Eng.distinct,pos,wn,Eng.ren,wo,xi,wp,jo,wq,yg,xj,ws,wu,jp,frz,yx,yz,wv,List.lookup_cons,jq,zi,jr,js,List.range_succ,jt,xk,ju,xm,↓yh,↓yi,↓qt,↓y6,↓qu,↓qa,↓yj,↓yk,↓qv,↓qw,↓qx,↓qy,↓qb,↓qz,qc,ww,xn,jv,jw,yl,qd,qe,zj,wx,y7,jx,xp,xq,keq,y8,wy,qf,y9,ym,xr,jy,jz,xt,j0,wz,ja,j1,xu,xv,xw,jb,q5,q6,yn,q7,j2,Option.map_some,yo,qg,q8,q9,qh,ya,xx,yb,yp,yc,xy,w5,xz,x5,w6,jc,x6,Op.operands,Call.operands,yd,qi,w7,AObj.live]
    have hlt : i < s.length := by omega
    have hlt' : (i : Int) < s.length := by omega
    have hne : s.drop i ≠ [] := by
      intro h0
      have := congrArg List.length h0
      simp at this
      omega
    have h1 := h i hlt
    have hstep : validU (s.drop i) = _ := Lib.validD_step _ hne
    by_cases hb : (decU (s.drop i)).1 = 65533 ∧ (decU (s.drop i)).2 = 1
    · have e := okD_bad hb
      rw [e] at h1
      have hv : validU (s.drop i) = false := by rw [hstep]; exact if_pos hb
      simp -implicitDefEqProofs [mach_loop, h1, hv, hlt', IntWalk.i64_in,IntWalk.u64_in,IntWalk.u8_in,IntWalk.i32_in,IntWalk.u32_in,ye,zk,zm,qj,qk,qm,qn,zb,zc,zn,zp,zq,qo,zd,ze,zr,zt,zu,j3,x7,zw,zf,za,zx,qp,zy,zg,zz,z6,qq,zh,yf,qr,aop,yq,j4,j5,x8,x9,jd,j6,j7,wb,je,j8,yr,j9,wg,jf,jg,xa,xb,z7,jh,z8,ji,jj,yt,yu,xc,AV.one,wh,wi,aun,jk,xd,yw,afn,xe,Out.ren,xf,xg,jl,wj,xh,wl,jm,Eng.distinct,pos,wn,Eng.ren,wo,xi,wp,jo,wq,yg,xj,ws,wu,jp,frz,yx,yz,wv,List.lookup_cons,jq,zi,jr,js,List.range_succ,jt,xk,ju,xm,↓yh,↓yi,↓qt,↓y6,↓qu,↓qa,↓yj,↓yk,↓qv,↓qw,↓qx,↓qy,↓qb,↓qz,qc,ww,xn,jv,jw,yl,qd,qe,zj,wx,y7,jx,xp,xq,keq,y8,wy,qf,y9,ym,xr,jy,jz,xt,j0,wz,ja,j1,xu,xv,xw,jb,q5,q6,yn,q7,j2,Option.map_some,yo,qg,q8,q9,qh,ya,xx,yb,yp,yc,xy,w5,xz,x5,w6,jc,x6,Op.operands,Call.operands,yd,qi,w7,AObj.live]
    · have e := okD_ok hb
      rw [e] at h1
      have hw := Lib.decodeL_width (s.drop i)
      have hle := Lib.decodeL_le _ hne
      rw [List.length_drop] at hle
      have hn : ¬ (decU (s.drop i)).2 = 0 := by unfold decU; omega
      have hv : validU (s.drop i) = validU (s.drop (i + (decU (s.drop i)).2)) := by rw [hstep]; rw [← List.drop_drop]; exact if_neg hb
      have hle' : i + (decU (s.drop i)).2 ≤ s.length := by unfold decU; omega
      have hw2 : IntKind.i64.wrap ((i : Int) + ((decU (s.drop i)).2 : Int)) = ((i + (decU (s.drop i)).2 : Nat) : Int) := by rw [wrap64 (by omega) (by omega)]; simp
      rw [hv]
      generalize (decU (s.drop i)).2 = n at *
      generalize (decU (s.drop i)).1 = r at *
      simp -implicitDefEqProofs [mach_loop, h1, hlt', hn, hw2, IntWalk.i64_in,IntWalk.u64_in,IntWalk.u8_in,IntWalk.i32_in,IntWalk.u32_in,ye,zk,zm,qj,qk,qm,qn,zb,zc,zn,zp,zq,qo,zd,ze,zr,zt,zu,j3,x7,zw,zf,za,zx,qp,zy,zg,zz,z6,qq,zh,yf,qr,aop,yq,j4,j5,x8,x9,jd,j6,j7,wb,je,j8,yr,j9,wg,jf,jg,xa,xb,z7,jh,z8,ji,jj,yt,yu,xc,AV.one,wh,wi,aun,jk,xd,yw,afn,xe,Out.ren,xf,xg,jl,wj,xh,wl,jm,Eng.distinct,pos,wn,Eng.ren,wo,xi,wp,jo,wq,yg,xj,ws,wu,jp,frz,yx,yz,wv,List.lookup_cons,jq,zi,jr,js,List.range_succ,jt,xk,ju,xm,↓yh,↓yi,↓qt,↓y6,↓qu,↓qa,↓yj,↓yk,↓qv,↓qw,↓qx,↓qy,↓qb,↓qz,qc,ww,xn,jv,jw,yl,qd,qe,zj,wx,y7,jx,xp,xq,keq,y8,wy,qf,y9,ym,xr,jy,jz,xt,j0,wz,ja,j1,xu,xv,xw,jb,q5,q6,yn,q7,j2,Option.map_some,yo,qg,q8,q9,qh,ya,xx,yb,yp,yc,xy,w5,xz,x5,w6,jc,x6,Op.operands,Call.operands,yd,qi,w7,AObj.live]
      rw [ih (i + n) _ hle' (by omega) (by simp -implicitDefEqProofs [IntWalk.i64_in,IntWalk.u64_in,IntWalk.u8_in,IntWalk.i32_in,IntWalk.u32_in,ye,zk,zm,qj,qk,qm,qn,zb,zc,zn,zp,zq,qo,zd,ze,zr,zt,zu,j3,x7,zw,zf,za,zx,qp,zy,zg,zz,z6,qq,zh,yf,qr,aop,yq,j4,j5,x8,x9,jd,j6,j7,wb,je,j8,yr,j9,wg,jf,jg,xa,xb,z7,jh,z8,ji,jj,yt,yu,xc,AV.one,wh,wi,aun,jk,xd,yw,afn,xe,Out.ren,xf,xg,jl,wj,xh,wl,jm,Eng.distinct,pos,wn,Eng.ren,wo,xi,wp,jo,wq,yg,xj,ws,wu,jp,frz,yx,yz,wv,List.lookup_cons,jq,zi,jr,js,List.range_succ,jt,xk,ju,xm,↓yh,↓yi,↓qt,↓y6,↓qu,↓qa,↓yj,↓yk,↓qv,↓qw,↓qx,↓qy,↓qb,↓qz,qc,ww,xn,jv,jw,yl,qd,qe,zj,wx,y7,jx,xp,xq,keq,y8,wy,qf,y9,ym,xr,jy,jz,xt,j0,wz,ja,j1,xu,xv,xw,jb,q5,q6,yn,q7,j2,Option.map_some,yo,qg,q8,q9,qh,ya,xx,yb,yp,yc,xy,w5,xz,x5,w6,jc,x6,Op.operands,Call.operands,yd,qi,w7,AObj.live] <;> omega)]
  · simp -implicitDefEqProofs [IntWalk.i64_in,IntWalk.u64_in,IntWalk.u8_in,IntWalk.i32_in,IntWalk.u32_in,ye,zk,zm,qj,qk,qm,qn,zb,zc,zn,zp,zq,qo,zd,ze,zr,zt,zu,j3,x7,zw,zf,za,zx,qp,zy,zg,zz,z6,qq,zh,yf,qr,aop,yq,j4,j5,x8,x9,jd,j6,j7,wb,je,j8,yr,j9,wg,jf,jg,xa,xb,z7,jh,z8,ji,jj,yt,yu,xc,AV.one,wh,wi,aun,jk,xd,yw,afn,xe,Out.ren,xf,xg,jl,wj,xh,wl,jm,Eng.distinct,pos,wn,Eng.ren,wo,xi,wp,jo,wq,yg,xj,ws,wu,jp,frz,yx,yz,wv,List.lookup_cons,jq,zi,jr,js,List.range_succ,jt,xk,ju,xm,↓yh,↓yi,↓qt,↓y6,↓qu,↓qa,↓yj,↓yk,↓qv,↓qw,↓qx,↓qy,↓qb,↓qz,qc,ww,xn,jv,jw,yl,qd,qe,zj,wx,y7,jx,xp,xq,keq,y8,wy,qf,y9,ym,xr,jy,jz,xt,j0,wz,ja,j1,xu,xv,xw,jb,q5,q6,yn,q7,j2,Option.map_some,yo,qg,q8,q9,qh,ya,xx,yb,yp,yc,xy,w5,xz,x5,w6,jc,x6,Op.operands,Call.operands,yd,qi,w7,AObj.live]
  by_cases hv : validU s = true
  · simp -implicitDefEqProofs [R, hv, mach_loop, IntWalk.i64_in,IntWalk.u64_in,IntWalk.u8_in,IntWalk.i32_in,IntWalk.u32_in,ye,zk,zm,qj,qk,qm,qn,zb,zc,zn,zp,zq,qo,zd,ze,zr,zt,zu,j3,x7,zw,zf,za,zx,qp,zy,zg,zz,z6,qq,zh,yf,qr,aop,yq,j4,j5,x8,x9,jd,j6,j7,wb,je,j8,yr,j9,wg,jf,jg,xa,xb,z7,jh,z8,ji,jj,yt,yu,xc,AV.one,wh,wi,aun,jk,xd,yw,afn,xe,Out.ren,xf,xg,jl,wj,xh,wl,jm,Eng.distinct,pos,wn,Eng.ren,wo,xi,wp,jo,wq,yg,xj,ws,wu,jp,frz,yx,yz,wv,List.lookup_cons,jq,zi,jr,js,List.range_succ,jt,xk,ju,xm,↓yh,↓yi,↓qt,↓y6,↓qu,↓qa,↓yj,↓yk,↓qv,↓qw,↓qx,↓qy,↓qb,↓qz,qc,ww,xn,jv,jw,yl,qd,qe,zj,wx,y7,jx,xp,xq,keq,y8,wy,qf,y9,ym,xr,jy,jz,xt,j0,wz,ja,j1,xu,xv,xw,jb,q5,q6,yn,q7,j2,Option.map_some,yo,qg,q8,q9,qh,ya,xx,yb,yp,yc,xy,w5,xz,x5,w6,jc,x6,Op.operands,Call.operands,yd,qi,w7,AObj.live]
  · simp -implicitDefEqProofs [R, hv, mach_loop, IntWalk.i64_in,IntWalk.u64_in,IntWalk.u8_in,IntWalk.i32_in,IntWalk.u32_in,ye,zk,zm,qj,qk,qm,qn,zb,zc,zn,zp,zq,qo,zd,ze,zr,zt,zu,j3,x7,zw,zf,za,zx,qp,zy,zg,zz,z6,qq,zh,yf,qr,aop,yq,j4,j5,x8,x9,jd,j6,j7,wb,je,j8,yr,j9,wg,jf,jg,xa,xb,z7,jh,z8,ji,jj,yt,yu,xc,AV.one,wh,wi,aun,jk,xd,yw,afn,xe,Out.ren,xf,xg,jl,wj,xh,wl,jm,Eng.distinct,pos,wn,Eng.ren,wo,xi,wp,jo,wq,yg,xj,ws,wu,jp,frz,yx,yz,wv,List.lookup_cons,jq,zi,jr,js,List.range_succ,jt,xk,ju,xm,↓yh,↓yi,↓qt,↓y6,↓qu,↓qa,↓yj,↓yk,↓qv,↓qw,↓qx,↓qy,↓qb,↓qz,qc,ww,xn,jv,jw,yl,qd,qe,zj,wx,y7,jx,xp,xq,keq,y8,wy,qf,y9,ym,xr,jy,jz,xt,j0,wz,ja,j1,xu,xv,xw,jb,q5,q6,yn,q7,j2,Option.map_some,yo,qg,q8,q9,qh,ya,xx,yb,yp,yc,xy,w5,xz,x5,w6,jc,x6,Op.operands,Call.operands,yd,qi,w7,AObj.live]
end Go.Proofs.YtblejchodicaoaaGreatDoor.Eng

/-
  CONTRACTS: the reference's Runes, Code, Bytes. Own work.
-/
namespace Go.Proofs.YtblejchodicaoaaGreatDoor.Eng
open Go Go.RowKit
set_option maxRecDepth 100000
set_option linter.unusedSimpArgs false
set_option maxHeartbeats 2000000

theorem runesU_fuel : ∀ (f g i : Nat) (s : List UInt8), s.length ≤ f → s.length ≤ g → runesU f i s = runesU g i s
  | 0, 0, i, s, _, _ => rfl
  | 0, g + 1, i, s, h, _ => by
    have : s = [] := List.eq_nil_of_length_eq_zero (by omega)
    subst this; simp [runesU]
  | f + 1, 0, i, s, _, h => by
    have : s = [] := List.eq_nil_of_length_eq_zero (by omega)
    subst this; simp [runesU]
  | f + 1, g + 1, i, s, h1, h2 => by
    unfold runesU
    by_cases hs : s = []
    · rw [if_pos hs, if_pos hs]
    · have hw := Lib.decodeL_width s
      have hl : 0 < s.length := List.length_pos_iff.2 hs
      have := runesU_fuel f g (i + (decU s).2) (s.drop (decU s).2) (by rw [List.length_drop]; unfold decU; omega) (by rw [List.length_drop]; unfold decU; omega)
      rw [if_neg hs, if_neg hs, this]
/-- The runes from a place on. -/
def runesAt (i : Nat) (s : List UInt8) : List (Nat × Nat) := runesU (s.drop i).length i (s.drop i)
theorem runesAt_end (s : List UInt8) : runesAt s.length s = [] := by simp [runesAt, runesU]
theorem runesAt_bad (i : Nat) (s : List UInt8) (hi : i < s.length) (h : (decU (s.drop i)).1 = 65533 ∧ (decU (s.drop i)).2 = 1) : runesAt i s = [] := by
  unfold runesAt
  have hl : (s.drop i).length = (s.length - i - 1) + 1 := by rw [List.length_drop]; omega
  rw [hl]
  unfold runesU
  by_cases he : s.drop i = []
  · rw [if_pos he]
  · rw [if_neg he, if_pos ⟨h.1, by omega⟩]
theorem runesAt_ok (i : Nat) (s : List UInt8) (hi : i < s.length) (h : ¬ ((decU (s.drop i)).1 = 65533 ∧ (decU (s.drop i)).2 = 1)) : runesAt i s = (i, (decU (s.drop i)).1) :: runesAt (i + (decU (s.drop i)).2) s := by
  have hw := Lib.decodeL_width (s.drop i)
  have hl : (s.drop i).length = (s.length - i - 1) + 1 := by rw [List.length_drop]; omega
  have hne : s.drop i ≠ [] := by intro h0; rw [h0] at hl; simp at hl
  unfold runesAt
  rw [hl]
  conv => lhs; unfold runesU
  rw [if_neg hne, if_neg (by unfold decU at h ⊢; omega), List.drop_drop]
  rw [runesU_fuel _ _ _ _ (by rw [List.length_drop]; unfold decU; omega) (Nat.le_refl _)]
def rsI (l : List Nat) : D := slD 1 (l.map fun r : Nat => [.int .i64 (r : Int)])

theorem b_r01Runes (C : Oracle) (s : List UInt8) (hs : s.length ≤ 1099511627776) (h : ∀ i, i < s.length → C 114 [.d (.str s), .d (.int .i64 i)] [] = R2 (okD (decU (s.drop i)))) :
    abody Tryz.prog [] C (mach Tryz.prog C { keep := [(58, [0, 4, 5, 6])], outs := [(58, [2, 3, 4, 5])] }) true 89 [.d (.str s)] [] = some (.ret (.tup [.d (rsI ((runesAt 0 s).map Prod.snd)), .d (rsI ((runesAt 0 s).map Prod.fst))]), []) := by
  simp only [R2] at h
  unfold abody
  rw [Tryz.func89]
  simp only [Tryz.f89]
  simp -implicitDefEqProofs [mach_loop, IntWalk.i64_in,IntWalk.u64_in,IntWalk.u8_in,IntWalk.i32_in,IntWalk.u32_in,ye,zk,zm,qj,qk,qm,qn,zb,zc,zn,zp,zq,qo,zd,ze,zr,zt,zu,j3,x7,zw,zf,za,zx,qp,zy,zg,zz,z6,qq,zh,yf,qr,aop,yq,j4,j5,x8,x9,jd,j6,j7,wb,je,j8,yr,j9,wg,jf,jg,xa,xb,z7,jh,z8,ji,jj,yt,yu,xc,AV.one,wh,wi,aun,jk,xd,yw,afn,xe,Out.ren,xf,xg,jl,wj,xh,wl,jm,Eng.distinct,pos,wn,Eng.ren,wo,xi,wp,jo,wq,yg,xj,ws,wu,jp,frz,yx,yz,wv,List.lookup_cons,jq,zi,jr,js,List.range_succ,jt,xk,ju,xm,↓yh,↓yi,↓qt,↓y6,↓qu,↓qa,↓yj,↓yk,↓qv,↓qw,↓qx,↓qy,↓qb,↓qz,qc,ww,xn,jv,jw,yl,qd,qe,zj,wx,y7,jx,xp,xq,keq,y8,wy,qf,y9,ym,xr,jy,jz,xt,j0,wz,ja,j1,xu,xv,xw,jb,q5,q6,yn,q7,j2,Option.map_some,yo,qg,q8,q9,qh,ya,xx,yb,yp,yc,xy,w5,xz,x5,w6,jc,x6,Op.operands,Call.operands,yd,qi,w7,AObj.live]
  rw [aloop_meas (α := Nat × List (Nat × Nat)) (S := fun a => { env := [(0, .d (.str s)), (4, if a.2 = [] then .d .nils else .sl 0 1 0 a.2.length), (5, if a.2 = [] then .d .nils else .sl 1 1 0 a.2.length), (6, .d (.int .i64 a.1))], σ := if a.2 = [] then [] else [.drow (a.2.map fun p => [.int .i64 p.2]) 3 1, .drow (a.2.map fun p => [.int .i64 p.1]) 3 1], dfs := [] })
    (R := fun a => some (.exit 0, { env := [(4, if a.2 ++ runesAt a.1 s = [] then .d .nils else .sl 0 1 0 (a.2 ++ runesAt a.1 s).length), (5, if a.2 ++ runesAt a.1 s = [] then .d .nils else .sl 1 1 0 (a.2 ++ runesAt a.1 s).length)], σ := if a.2 ++ runesAt a.1 s = [] then [] else [.drow ((a.2 ++ runesAt a.1 s).map fun p => [.int .i64 p.2]) 3 1, .drow ((a.2 ++ runesAt a.1 s).map fun p => [.int .i64 p.1]) 3 1], dfs := [] }))
    (P := fun a => a.1 ≤ s.length ∧ a.2.length ≤ a.1) (m := fun a => s.length - a.1) ?_ (0, []) _ ⟨by omega, by simp⟩ ?_]
  rotate_left
  · rintro ⟨i, acc⟩ ⟨hi, ha⟩ ih
    simp only at hi ha ih ⊢
    by_cases he : i = s.length
    · subst he
      by_cases hac : acc = []
      · simp -implicitDefEqProofs [mach_loop, runesAt_end, hac, IntWalk.i64_in,IntWalk.u64_in,IntWalk.u8_in,IntWalk.i32_in,IntWalk.u32_in,ye,zk,zm,qj,qk,qm,qn,zb,zc,zn,zp,zq,qo,zd,ze,zr,zt,zu,j3,x7,zw,zf,za,zx,qp,zy,zg,zz,z6,qq,zh,yf,qr,aop,yq,j4,j5,x8,x9,jd,j6,j7,wb,je,j8,yr,j9,wg,jf,jg,xa,xb,z7,jh,z8,ji,jj,yt,yu,xc,AV.one,wh,wi,aun,jk,xd,yw,afn,xe,Out.ren,xf,xg,jl,wj,xh,wl,jm,Eng.distinct,pos,wn,Eng.ren,wo,xi,wp,jo,wq,yg,xj,ws,wu,jp,frz,yx,yz,wv,List.lookup_cons,jq,zi,jr,js,List.range_succ,jt,xk,ju,xm,↓yh,↓yi,↓qt,↓y6,↓qu,↓qa,↓yj,↓yk,↓qv,↓qw,↓qx,↓qy,↓qb,↓qz,qc,ww,xn,jv,jw,yl,qd,qe,zj,wx,y7,jx,xp,xq,keq,y8,wy,qf,y9,ym,xr,jy,jz,xt,j0,wz,ja,j1,xu,xv,xw,jb,q5,q6,yn,q7,j2,Option.map_some,yo,qg,q8,q9,qh,ya,xx,yb,yp,yc,xy,w5,xz,x5,w6,jc,x6,Op.operands,Call.operands,yd,qi,w7,AObj.live]
      · simp -implicitDefEqProofs [mach_loop, runesAt_end, hac, IntWalk.i64_in,IntWalk.u64_in,IntWalk.u8_in,IntWalk.i32_in,IntWalk.u32_in,ye,zk,zm,qj,qk,qm,qn,zb,zc,zn,zp,zq,qo,zd,ze,zr,zt,zu,j3,x7,zw,zf,za,zx,qp,zy,zg,zz,z6,qq,zh,yf,qr,aop,yq,j4,j5,x8,x9,jd,j6,j7,wb,je,j8,yr,j9,wg,jf,jg,xa,xb,z7,jh,z8,ji,jj,yt,yu,xc,AV.one,wh,wi,aun,jk,xd,yw,afn,xe,Out.ren,xf,xg,jl,wj,xh,wl,jm,Eng.distinct,pos,wn,Eng.ren,wo,xi,wp,jo,wq,yg,xj,ws,wu,jp,frz,yx,yz,wv,List.lookup_cons,jq,zi,jr,js,List.range_succ,jt,xk,ju,xm,↓yh,↓yi,↓qt,↓y6,↓qu,↓qa,↓yj,↓yk,↓qv,↓qw,↓qx,↓qy,↓qb,↓qz,qc,ww,xn,jv,jw,yl,qd,qe,zj,wx,y7,jx,xp,xq,keq,y8,wy,qf,y9,ym,xr,jy,jz,xt,j0,wz,ja,j1,xu,xv,xw,jb,q5,q6,yn,q7,j2,Option.map_some,yo,qg,q8,q9,qh,ya,xx,yb,yp,yc,xy,w5,xz,x5,w6,jc,x6,Op.operands,Call.operands,yd,qi,w7,AObj.live]
    have hlt : i < s.length := by omega
    have hlt' : (i : Int) < s.length := by omega
    have hne : s.drop i ≠ [] := by
      intro h0
      have := congrArg List.length h0
      simp at this
      omega
    have h1 := h i hlt
    by_cases hb : (decU (s.drop i)).1 = 65533 ∧ (decU (s.drop i)).2 = 1
    · have e := okD_bad hb
      rw [e] at h1
      have hr := runesAt_bad i s hlt hb
      by_cases hac : acc = []
      · simp -implicitDefEqProofs [mach_loop, h1, hr, hlt', hac, IntWalk.i64_in,IntWalk.u64_in,IntWalk.u8_in,IntWalk.i32_in,IntWalk.u32_in,ye,zk,zm,qj,qk,qm,qn,zb,zc,zn,zp,zq,qo,zd,ze,zr,zt,zu,j3,x7,zw,zf,za,zx,qp,zy,zg,zz,z6,qq,zh,yf,qr,aop,yq,j4,j5,x8,x9,jd,j6,j7,wb,je,j8,yr,j9,wg,jf,jg,xa,xb,z7,jh,z8,ji,jj,yt,yu,xc,AV.one,wh,wi,aun,jk,xd,yw,afn,xe,Out.ren,xf,xg,jl,wj,xh,wl,jm,Eng.distinct,pos,wn,Eng.ren,wo,xi,wp,jo,wq,yg,xj,ws,wu,jp,frz,yx,yz,wv,List.lookup_cons,jq,zi,jr,js,List.range_succ,jt,xk,ju,xm,↓yh,↓yi,↓qt,↓y6,↓qu,↓qa,↓yj,↓yk,↓qv,↓qw,↓qx,↓qy,↓qb,↓qz,qc,ww,xn,jv,jw,yl,qd,qe,zj,wx,y7,jx,xp,xq,keq,y8,wy,qf,y9,ym,xr,jy,jz,xt,j0,wz,ja,j1,xu,xv,xw,jb,q5,q6,yn,q7,j2,Option.map_some,yo,qg,q8,q9,qh,ya,xx,yb,yp,yc,xy,w5,xz,x5,w6,jc,x6,Op.operands,Call.operands,yd,qi,w7,AObj.live]
      · simp -implicitDefEqProofs [mach_loop, h1, hr, hlt', hac, IntWalk.i64_in,IntWalk.u64_in,IntWalk.u8_in,IntWalk.i32_in,IntWalk.u32_in,ye,zk,zm,qj,qk,qm,qn,zb,zc,zn,zp,zq,qo,zd,ze,zr,zt,zu,j3,x7,zw,zf,za,zx,qp,zy,zg,zz,z6,qq,zh,yf,qr,aop,yq,j4,j5,x8,x9,jd,j6,j7,wb,je,j8,yr,j9,wg,jf,jg,xa,xb,z7,jh,z8,ji,jj,yt,yu,xc,AV.one,wh,wi,aun,jk,xd,yw,afn,xe,Out.ren,xf,xg,jl,wj,xh,wl,jm,Eng.distinct,pos,wn,Eng.ren,wo,xi,wp,jo,wq,yg,xj,ws,wu,jp,frz,yx,yz,wv,List.lookup_cons,jq,zi,jr,js,List.range_succ,jt,xk,ju,xm,↓yh,↓yi,↓qt,↓y6,↓qu,↓qa,↓yj,↓yk,↓qv,↓qw,↓qx,↓qy,↓qb,↓qz,qc,ww,xn,jv,jw,yl,qd,qe,zj,wx,y7,jx,xp,xq,keq,y8,wy,qf,y9,ym,xr,jy,jz,xt,j0,wz,ja,j1,xu,xv,xw,jb,q5,q6,yn,q7,j2,Option.map_some,yo,qg,q8,q9,qh,ya,xx,yb,yp,yc,xy,w5,xz,x5,w6,jc,x6,Op.operands,Call.operands,yd,qi,w7,AObj.live]
    · have e := okD_ok hb
      rw [e] at h1
      have hw := Lib.decodeL_width (s.drop i)
      have hle := Lib.decodeL_le _ hne
      rw [List.length_drop] at hle
      have hn : ¬ (decU (s.drop i)).2 = 0 := by unfold decU; omega
      have hr := runesAt_ok i s hlt hb
      have hle' : i + (decU (s.drop i)).2 ≤ s.length := by unfold decU; omega
      have hw2 : IntKind.i64.wrap ((i : Int) + ((decU (s.drop i)).2 : Int)) = ((i + (decU (s.drop i)).2 : Nat) : Int) := by rw [wrap64 (by omega) (by omega)]; simp
      rw [hr]
      generalize (decU (s.drop i)).2 = n at *
      generalize (decU (s.drop i)).1 = r at *
      have hl3 : (acc.length + 1) * 8 ≤ 140737488355328 := by omega
      have hl4 : acc.length + 1 ≤ 140737488355328 := by omega
      have ih2 := ih (i + n, acc ++ [(i, r)])
      by_cases hac : acc = []
      · subst hac
        simp -implicitDefEqProofs [mach_loop, h1, hlt', hn, hw2, IntWalk.i64_in,IntWalk.u64_in,IntWalk.u8_in,IntWalk.i32_in,IntWalk.u32_in,ye,zk,zm,qj,qk,qm,qn,zb,zc,zn,zp,zq,qo,zd,ze,zr,zt,zu,j3,x7,zw,zf,za,zx,qp,zy,zg,zz,z6,qq,zh,yf,qr,aop,yq,j4,j5,x8,x9,jd,j6,j7,wb,je,j8,yr,j9,wg,jf,jg,xa,xb,z7,jh,z8,ji,jj,yt,yu,xc,AV.one,wh,wi,aun,jk,xd,yw,afn,xe,Out.ren,xf,xg,jl,wj,xh,wl,jm,Eng.distinct,pos,wn,Eng.ren,wo,xi,wp,jo,wq,yg,xj,ws,wu,jp,frz,yx,yz,wv,List.lookup_cons,jq,zi,jr,js,List.range_succ,jt,xk,ju,xm,↓yh,↓yi,↓qt,↓y6,↓qu,↓qa,↓yj,↓yk,↓qv,↓qw,↓qx,↓qy,↓qb,↓qz,qc,ww,xn,jv,jw,yl,qd,qe,zj,wx,y7,jx,xp,xq,keq,y8,wy,qf,y9,ym,xr,jy,jz,xt,j0,wz,ja,j1,xu,xv,xw,jb,q5,q6,yn,q7,j2,Option.map_some,yo,qg,q8,q9,qh,ya,xx,yb,yp,yc,xy,w5,xz,x5,w6,jc,x6,Op.operands,Call.operands,yd,qi,w7,AObj.live]
        rw [ih2 _ ⟨hle', by simp; omega⟩ (by simp only; omega) (by simp -implicitDefEqProofs [IntWalk.i64_in,IntWalk.u64_in,IntWalk.u8_in,IntWalk.i32_in,IntWalk.u32_in,ye,zk,zm,qj,qk,qm,qn,zb,zc,zn,zp,zq,qo,zd,ze,zr,zt,zu,j3,x7,zw,zf,za,zx,qp,zy,zg,zz,z6,qq,zh,yf,qr,aop,yq,j4,j5,x8,x9,jd,j6,j7,wb,je,j8,yr,j9,wg,jf,jg,xa,xb,z7,jh,z8,ji,jj,yt,yu,xc,AV.one,wh,wi,aun,jk,xd,yw,afn,xe,Out.ren,xf,xg,jl,wj,xh,wl,jm,Eng.distinct,pos,wn,Eng.ren,wo,xi,wp,jo,wq,yg,xj,ws,wu,jp,frz,yx,yz,wv,List.lookup_cons,jq,zi,jr,js,List.range_succ,jt,xk,ju,xm,↓yh,↓yi,↓qt,↓y6,↓qu,↓qa,↓yj,↓yk,↓qv,↓qw,↓qx,↓qy,↓qb,↓qz,qc,ww,xn,jv,jw,yl,qd,qe,zj,wx,y7,jx,xp,xq,keq,y8,wy,qf,y9,ym,xr,jy,jz,xt,j0,wz,ja,j1,xu,xv,xw,jb,q5,q6,yn,q7,j2,Option.map_some,yo,qg,q8,q9,qh,ya,xx,yb,yp,yc,xy,w5,xz,x5,w6,jc,x6,Op.operands,Call.operands,yd,qi,w7,AObj.live] <;> omega)]
        simp
      · simp -implicitDefEqProofs [mach_loop, h1, hlt', hn, hw2, hac, hl3, hl4, IntWalk.i64_in,IntWalk.u64_in,IntWalk.u8_in,IntWalk.i32_in,IntWalk.u32_in,ye,zk,zm,qj,qk,qm,qn,zb,zc,zn,zp,zq,qo,zd,ze,zr,zt,zu,j3,x7,zw,zf,za,zx,qp,zy,zg,zz,z6,qq,zh,yf,qr,aop,yq,j4,j5,x8,x9,jd,j6,j7,wb,je,j8,yr,j9,wg,jf,jg,xa,xb,z7,jh,z8,ji,jj,yt,yu,xc,AV.one,wh,wi,aun,jk,xd,yw,afn,xe,Out.ren,xf,xg,jl,wj,xh,wl,jm,Eng.distinct,pos,wn,Eng.ren,wo,xi,wp,jo,wq,yg,xj,ws,wu,jp,frz,yx,yz,wv,List.lookup_cons,jq,zi,jr,js,List.range_succ,jt,xk,ju,xm,↓yh,↓yi,↓qt,↓y6,↓qu,↓qa,↓yj,↓yk,↓qv,↓qw,↓qx,↓qy,↓qb,↓qz,qc,ww,xn,jv,jw,yl,qd,qe,zj,wx,y7,jx,xp,xq,keq,y8,wy,qf,y9,ym,xr,jy,jz,xt,j0,wz,ja,j1,xu,xv,xw,jb,q5,q6,yn,q7,j2,Option.map_some,yo,qg,q8,q9,qh,ya,xx,yb,yp,yc,xy,w5,xz,x5,w6,jc,x6,Op.operands,Call.operands,yd,qi,w7,AObj.live]
        rw [ih2 _ ⟨hle', by simp; omega⟩ (by simp only; omega) (by simp -implicitDefEqProofs [hac, IntWalk.i64_in,IntWalk.u64_in,IntWalk.u8_in,IntWalk.i32_in,IntWalk.u32_in,ye,zk,zm,qj,qk,qm,qn,zb,zc,zn,zp,zq,qo,zd,ze,zr,zt,zu,j3,x7,zw,zf,za,zx,qp,zy,zg,zz,z6,qq,zh,yf,qr,aop,yq,j4,j5,x8,x9,jd,j6,j7,wb,je,j8,yr,j9,wg,jf,jg,xa,xb,z7,jh,z8,ji,jj,yt,yu,xc,AV.one,wh,wi,aun,jk,xd,yw,afn,xe,Out.ren,xf,xg,jl,wj,xh,wl,jm,Eng.distinct,pos,wn,Eng.ren,wo,xi,wp,jo,wq,yg,xj,ws,wu,jp,frz,yx,yz,wv,List.lookup_cons,jq,zi,jr,js,List.range_succ,jt,xk,ju,xm,↓yh,↓yi,↓qt,↓y6,↓qu,↓qa,↓yj,↓yk,↓qv,↓qw,↓qx,↓qy,↓qb,↓qz,qc,ww,xn,jv,jw,yl,qd,qe,zj,wx,y7,jx,xp,xq,keq,y8,wy,qf,y9,ym,xr,jy,jz,xt,j0,wz,ja,j1,xu,xv,xw,jb,q5,q6,yn,q7,j2,Option.map_some,yo,qg,q8,q9,qh,ya,xx,yb,yp,yc,xy,w5,xz,x5,w6,jc,x6,Op.operands,Call.operands,yd,qi,w7,AObj.live] <;> omega)]
        simp
  · simp -implicitDefEqProofs [IntWalk.i64_in,IntWalk.u64_in,IntWalk.u8_in,IntWalk.i32_in,IntWalk.u32_in,ye,zk,zm,qj,qk,qm,qn,zb,zc,zn,zp,zq,qo,zd,ze,zr,zt,zu,j3,x7,zw,zf,za,zx,qp,zy,zg,zz,z6,qq,zh,yf,qr,aop,yq,j4,j5,x8,x9,jd,j6,j7,wb,je,j8,yr,j9,wg,jf,jg,xa,xb,z7,jh,z8,ji,jj,yt,yu,xc,AV.one,wh,wi,aun,jk,xd,yw,afn,xe,Out.ren,xf,xg,jl,wj,xh,wl,jm,Eng.distinct,pos,wn,Eng.ren,wo,xi,wp,jo,wq,yg,xj,ws,wu,jp,frz,yx,yz,wv,List.lookup_cons,jq,zi,jr,js,List.range_succ,jt,xk,ju,xm,↓yh,↓yi,↓qt,↓y6,↓qu,↓qa,↓yj,↓yk,↓qv,↓qw,↓qx,↓qy,↓qb,↓qz,qc,ww,xn,jv,jw,yl,qd,qe,zj,wx,y7,jx,xp,xq,keq,y8,wy,qf,y9,ym,xr,jy,jz,xt,j0,wz,ja,j1,xu,xv,xw,jb,q5,q6,yn,q7,j2,Option.map_some,yo,qg,q8,q9,qh,ya,xx,yb,yp,yc,xy,w5,xz,x5,w6,jc,x6,Op.operands,Call.operands,yd,qi,w7,AObj.live]
  by_cases hr : runesAt 0 s = []
  · simp -implicitDefEqProofs [rsI, slD, hr, mach_loop, IntWalk.i64_in,IntWalk.u64_in,IntWalk.u8_in,IntWalk.i32_in,IntWalk.u32_in,ye,zk,zm,qj,qk,qm,qn,zb,zc,zn,zp,zq,qo,zd,ze,zr,zt,zu,j3,x7,zw,zf,za,zx,qp,zy,zg,zz,z6,qq,zh,yf,qr,aop,yq,j4,j5,x8,x9,jd,j6,j7,wb,je,j8,yr,j9,wg,jf,jg,xa,xb,z7,jh,z8,ji,jj,yt,yu,xc,AV.one,wh,wi,aun,jk,xd,yw,afn,xe,Out.ren,xf,xg,jl,wj,xh,wl,jm,Eng.distinct,pos,wn,Eng.ren,wo,xi,wp,jo,wq,yg,xj,ws,wu,jp,frz,yx,yz,wv,List.lookup_cons,jq,zi,jr,js,List.range_succ,jt,xk,ju,xm,↓yh,↓yi,↓qt,↓y6,↓qu,↓qa,↓yj,↓yk,↓qv,↓qw,↓qx,↓qy,↓qb,↓qz,qc,ww,xn,jv,jw,yl,qd,qe,zj,wx,y7,jx,xp,xq,keq,y8,wy,qf,y9,ym,xr,jy,jz,xt,j0,wz,ja,j1,xu,xv,xw,jb,q5,q6,yn,q7,j2,Option.map_some,yo,qg,q8,q9,qh,ya,xx,yb,yp,yc,xy,w5,xz,x5,w6,jc,x6,Op.operands,Call.operands,yd,qi,w7,AObj.live]
  · simp -implicitDefEqProofs [rsI, slD, hr, mach_loop, take_map_len, Function.comp_def, IntWalk.i64_in,IntWalk.u64_in,IntWalk.u8_in,IntWalk.i32_in,IntWalk.u32_in,ye,zk,zm,qj,qk,qm,qn,zb,zc,zn,zp,zq,qo,zd,ze,zr,zt,zu,j3,x7,zw,zf,za,zx,qp,zy,zg,zz,z6,qq,zh,yf,qr,aop,yq,j4,j5,x8,x9,jd,j6,j7,wb,je,j8,yr,j9,wg,jf,jg,xa,xb,z7,jh,z8,ji,jj,yt,yu,xc,AV.one,wh,wi,aun,jk,xd,yw,afn,xe,Out.ren,xf,xg,jl,wj,xh,wl,jm,Eng.distinct,pos,wn,Eng.ren,wo,xi,wp,jo,wq,yg,xj,ws,wu,jp,frz,yx,yz,wv,List.lookup_cons,jq,zi,jr,js,List.range_succ,jt,xk,ju,xm,↓yh,↓yi,↓qt,↓y6,↓qu,↓qa,↓yj,↓yk,↓qv,↓qw,↓qx,↓qy,↓qb,↓qz,qc,ww,xn,jv,jw,yl,qd,qe,zj,wx,y7,jx,xp,xq,keq,y8,wy,qf,y9,ym,xr,jy,jz,xt,j0,wz,ja,j1,xu,xv,xw,jb,q5,q6,yn,q7,j2,Option.map_some,yo,qg,q8,q9,qh,ya,xx,yb,yp,yc,xy,w5,xz,x5,w6,jc,x6,Op.operands,Call.operands,yd,qi,w7,AObj.live]
theorem b_r01Code (C : Oracle) (i : Nat) (hi : i < 8) :
    abody Tryz.prog [] C (mach Tryz.prog C {}) true 90 [.d (.int .i64 i)] [] = R (.int .i64 (([34, 92, 47, 8, 12, 10, 13, 9] : List Int).getD i 0)) := by
  unfold abody
  rw [Tryz.func90]
  simp only [Tryz.f90]
  obtain rfl | rfl | rfl | rfl | rfl | rfl | rfl | rfl : i = 0 ∨ i = 1 ∨ i = 2 ∨ i = 3 ∨ i = 4 ∨ i = 5 ∨ i = 6 ∨ i = 7 := by omega
  all_goals simp -implicitDefEqProofs [R, IntWalk.i64_in,IntWalk.u64_in,IntWalk.u8_in,IntWalk.i32_in,IntWalk.u32_in,ye,zk,zm,qj,qk,qm,qn,zb,zc,zn,zp,zq,qo,zd,ze,zr,zt,zu,j3,x7,zw,zf,za,zx,qp,zy,zg,zz,z6,qq,zh,yf,qr,aop,yq,j4,j5,x8,x9,jd,j6,j7,wb,je,j8,yr,j9,wg,jf,jg,xa,xb,z7,jh,z8,ji,jj,yt,yu,xc,AV.one,wh,wi,aun,jk,xd,yw,afn,xe,Out.ren,xf,xg,jl,wj,xh,wl,jm,Eng.distinct,pos,wn,Eng.ren,wo,xi,wp,jo,wq,yg,xj,ws,wu,jp,frz,yx,yz,wv,List.lookup_cons,jq,zi,jr,js,List.range_succ,jt,xk,ju,xm,↓yh,↓yi,↓qt,↓y6,↓qu,↓qa,↓yj,↓yk,↓qv,↓qw,↓qx,↓qy,↓qb,↓qz,qc,ww,xn,jv,jw,yl,qd,qe,zj,wx,y7,jx,xp,xq,keq,y8,wy,qf,y9,ym,xr,jy,jz,xt,j0,wz,ja,j1,xu,xv,xw,jb,q5,q6,yn,q7,j2,Option.map_some,yo,qg,q8,q9,qh,ya,xx,yb,yp,yc,xy,w5,xz,x5,w6,jc,x6,Op.operands,Call.operands,yd,qi,w7,AObj.live]
end Go.Proofs.YtblejchodicaoaaGreatDoor.Eng

/-
  CONTRACTS: the reference's Bytes, Quote. Own work.
-/
namespace Go.Proofs.YtblejchodicaoaaGreatDoor.Eng
open Go Go.RowKit
set_option maxRecDepth 100000
set_option linter.unusedSimpArgs false
set_option maxHeartbeats 2000000

theorem b_r01Bytes (C : Oracle) (r : Nat) (hr : r < 55296 ∨ (57344 ≤ r ∧ r ≤ 1114111)) :
    abody Tryz.prog [] C (mach Tryz.prog C {}) true 91 [.d (.int .i64 r)] [] = R (.str (Lib.encodeRune r)) := by
  unfold abody
  rw [Tryz.func91]
  simp only [Tryz.f91]
  have d64 : (r : Int).tdiv 64 = (r : Int) / 64 := Int.tdiv_eq_ediv_of_nonneg (by omega)
  have wd64 : IntKind.i64.wrap ((r : Int) / 64) = (r : Int) / 64 := wrap64 (by omega) (by omega)
  have d4096 : (r : Int).tdiv 4096 = (r : Int) / 4096 := Int.tdiv_eq_ediv_of_nonneg (by omega)
  have wd4096 : IntKind.i64.wrap ((r : Int) / 4096) = (r : Int) / 4096 := wrap64 (by omega) (by omega)
  have d262144 : (r : Int).tdiv 262144 = (r : Int) / 262144 := Int.tdiv_eq_ediv_of_nonneg (by omega)
  have wd262144 : IntKind.i64.wrap ((r : Int) / 262144) = (r : Int) / 262144 := wrap64 (by omega) (by omega)
  have m0 : (r : Int).tmod 64 = (r : Int) % 64 := Int.tmod_eq_emod_of_nonneg (by omega)
  have m64 : ((r : Int) / 64).tmod 64 = (r : Int) / 64 % 64 := Int.tmod_eq_emod_of_nonneg (by omega)
  have m4096 : ((r : Int) / 4096).tmod 64 = (r : Int) / 4096 % 64 := Int.tmod_eq_emod_of_nonneg (by omega)
  have wm0 : IntKind.i64.wrap ((r : Int) % 64) = (r : Int) % 64 := wrap64 (by omega) (by omega)
  have am0 : IntKind.i64.wrap (128 + (r : Int) % 64) = 128 + (r : Int) % 64 := wrap64 (by omega) (by omega)
  have bm0 : IntKind.u8.wrap (128 + (r : Int) % 64) = 128 + (r : Int) % 64 := IntWalk.u8_in _ (by omega)
  have wm64 : IntKind.i64.wrap ((r : Int) / 64 % 64) = (r : Int) / 64 % 64 := wrap64 (by omega) (by omega)
  have am64 : IntKind.i64.wrap (128 + (r : Int) / 64 % 64) = 128 + (r : Int) / 64 % 64 := wrap64 (by omega) (by omega)
  have bm64 : IntKind.u8.wrap (128 + (r : Int) / 64 % 64) = 128 + (r : Int) / 64 % 64 := IntWalk.u8_in _ (by omega)
  have wm4096 : IntKind.i64.wrap ((r : Int) / 4096 % 64) = (r : Int) / 4096 % 64 := wrap64 (by omega) (by omega)
  have am4096 : IntKind.i64.wrap (128 + (r : Int) / 4096 % 64) = 128 + (r : Int) / 4096 % 64 := wrap64 (by omega) (by omega)
  have bm4096 : IntKind.u8.wrap (128 + (r : Int) / 4096 % 64) = 128 + (r : Int) / 4096 % 64 := IntWalk.u8_in _ (by omega)
  by_cases h1 : (r : Int) < 128
  · have e : Lib.encodeRune (r : Int) = [(r : Int)].map fun x => x.toNat.toUInt8 := by unfold Lib.encodeRune; rw [Lib.encodeRuneZ_one (by omega) (by omega)]
    have w : IntKind.u8.wrap (r : Int) = r := IntWalk.u8_in _ (by omega)
    rw [e]
    simp -implicitDefEqProofs [R, bytesOfE, byteOf1, byteStr, h1, w, IntWalk.i64_in,IntWalk.u64_in,IntWalk.u8_in,IntWalk.i32_in,IntWalk.u32_in,ye,zk,zm,qj,qk,qm,qn,zb,zc,zn,zp,zq,qo,zd,ze,zr,zt,zu,j3,x7,zw,zf,za,zx,qp,zy,zg,zz,z6,qq,zh,yf,qr,aop,yq,j4,j5,x8,x9,jd,j6,j7,wb,je,j8,yr,j9,wg,jf,jg,xa,xb,z7,jh,z8,ji,jj,yt,yu,xc,AV.one,wh,wi,aun,jk,xd,yw,afn,xe,Out.ren,xf,xg,jl,wj,xh,wl,jm,Eng.distinct,pos,wn,Eng.ren,wo,xi,wp,jo,wq,yg,xj,ws,wu,jp,frz,yx,yz,wv,List.lookup_cons,jq,zi,jr,js,List.range_succ,jt,xk,ju,xm,↓yh,↓yi,↓qt,↓y6,↓qu,↓qa,↓yj,↓yk,↓qv,↓qw,↓qx,↓qy,↓qb,↓qz,qc,ww,xn,jv,jw,yl,qd,qe,zj,wx,y7,jx,xp,xq,keq,y8,wy,qf,y9,ym,xr,jy,jz,xt,j0,wz,ja,j1,xu,xv,xw,jb,q5,q6,yn,q7,j2,Option.map_some,yo,qg,q8,q9,qh,ya,xx,yb,yp,yc,xy,w5,xz,x5,w6,jc,x6,Op.operands,Call.operands,yd,qi,w7,AObj.live]
  by_cases h2 : (r : Int) < 2048
  · have e : Lib.encodeRune (r : Int) = ([192 + (r : Int) / 64, 128 + (r : Int) % 64]).map fun x => x.toNat.toUInt8 := by unfold Lib.encodeRune; rw [Lib.encodeRuneZ_two (by omega) (by omega)]
    have la : IntKind.i64.wrap (192 + (r : Int) / 64) = 192 + (r : Int) / 64 := wrap64 (by omega) (by omega)
    have lb : IntKind.u8.wrap (192 + (r : Int) / 64) = 192 + (r : Int) / 64 := IntWalk.u8_in _ (by omega)
    rw [e]
    simp -implicitDefEqProofs [R, bytesOfE, byteOf1, byteStr, h1, h2, la, lb, d64, wd64, d4096, wd4096, d262144, wd262144, m0, m64, m4096, wm0, wm64, wm4096, am0, am64, am4096, bm0, bm64, bm4096, IntWalk.i64_in,IntWalk.u64_in,IntWalk.u8_in,IntWalk.i32_in,IntWalk.u32_in,ye,zk,zm,qj,qk,qm,qn,zb,zc,zn,zp,zq,qo,zd,ze,zr,zt,zu,j3,x7,zw,zf,za,zx,qp,zy,zg,zz,z6,qq,zh,yf,qr,aop,yq,j4,j5,x8,x9,jd,j6,j7,wb,je,j8,yr,j9,wg,jf,jg,xa,xb,z7,jh,z8,ji,jj,yt,yu,xc,AV.one,wh,wi,aun,jk,xd,yw,afn,xe,Out.ren,xf,xg,jl,wj,xh,wl,jm,Eng.distinct,pos,wn,Eng.ren,wo,xi,wp,jo,wq,yg,xj,ws,wu,jp,frz,yx,yz,wv,List.lookup_cons,jq,zi,jr,js,List.range_succ,jt,xk,ju,xm,↓yh,↓yi,↓qt,↓y6,↓qu,↓qa,↓yj,↓yk,↓qv,↓qw,↓qx,↓qy,↓qb,↓qz,qc,ww,xn,jv,jw,yl,qd,qe,zj,wx,y7,jx,xp,xq,keq,y8,wy,qf,y9,ym,xr,jy,jz,xt,j0,wz,ja,j1,xu,xv,xw,jb,q5,q6,yn,q7,j2,Option.map_some,yo,qg,q8,q9,qh,ya,xx,yb,yp,yc,xy,w5,xz,x5,w6,jc,x6,Op.operands,Call.operands,yd,qi,w7,AObj.live]
  by_cases h3 : (r : Int) < 65536
  · have e : Lib.encodeRune (r : Int) = ([224 + (r : Int) / 4096, 128 + (r : Int) / 64 % 64, 128 + (r : Int) % 64]).map fun x => x.toNat.toUInt8 := by unfold Lib.encodeRune; rw [Lib.encodeRuneZ_three (by omega)]
    have la : IntKind.i64.wrap (224 + (r : Int) / 4096) = 224 + (r : Int) / 4096 := wrap64 (by omega) (by omega)
    have lb : IntKind.u8.wrap (224 + (r : Int) / 4096) = 224 + (r : Int) / 4096 := IntWalk.u8_in _ (by omega)
    rw [e]
    simp -implicitDefEqProofs [R, bytesOfE, byteOf1, byteStr, h1, h2, h3, la, lb, d64, wd64, d4096, wd4096, d262144, wd262144, m0, m64, m4096, wm0, wm64, wm4096, am0, am64, am4096, bm0, bm64, bm4096, IntWalk.i64_in,IntWalk.u64_in,IntWalk.u8_in,IntWalk.i32_in,IntWalk.u32_in,ye,zk,zm,qj,qk,qm,qn,zb,zc,zn,zp,zq,qo,zd,ze,zr,zt,zu,j3,x7,zw,zf,za,zx,qp,zy,zg,zz,z6,qq,zh,yf,qr,aop,yq,j4,j5,x8,x9,jd,j6,j7,wb,je,j8,yr,j9,wg,jf,jg,xa,xb,z7,jh,z8,ji,jj,yt,yu,xc,AV.one,wh,wi,aun,jk,xd,yw,afn,xe,Out.ren,xf,xg,jl,wj,xh,wl,jm,Eng.distinct,pos,wn,Eng.ren,wo,xi,wp,jo,wq,yg,xj,ws,wu,jp,frz,yx,yz,wv,List.lookup_cons,jq,zi,jr,js,List.range_succ,jt,xk,ju,xm,↓yh,↓yi,↓qt,↓y6,↓qu,↓qa,↓yj,↓yk,↓qv,↓qw,↓qx,↓qy,↓qb,↓qz,qc,ww,xn,jv,jw,yl,qd,qe,zj,wx,y7,jx,xp,xq,keq,y8,wy,qf,y9,ym,xr,jy,jz,xt,j0,wz,ja,j1,xu,xv,xw,jb,q5,q6,yn,q7,j2,Option.map_some,yo,qg,q8,q9,qh,ya,xx,yb,yp,yc,xy,w5,xz,x5,w6,jc,x6,Op.operands,Call.operands,yd,qi,w7,AObj.live]
  have e : Lib.encodeRune (r : Int) = ([240 + (r : Int) / 262144, 128 + (r : Int) / 4096 % 64, 128 + (r : Int) / 64 % 64, 128 + (r : Int) % 64]).map fun x => x.toNat.toUInt8 := by unfold Lib.encodeRune; rw [Lib.encodeRuneZ_four (by omega) (by omega)]
  have la : IntKind.i64.wrap (240 + (r : Int) / 262144) = 240 + (r : Int) / 262144 := wrap64 (by omega) (by omega)
  have lb : IntKind.u8.wrap (240 + (r : Int) / 262144) = 240 + (r : Int) / 262144 := IntWalk.u8_in _ (by omega)
  rw [e]
  simp -implicitDefEqProofs [R, bytesOfE, byteOf1, byteStr, h1, h2, h3, la, lb, d64, wd64, d4096, wd4096, d262144, wd262144, m0, m64, m4096, wm0, wm64, wm4096, am0, am64, am4096, bm0, bm64, bm4096, IntWalk.i64_in,IntWalk.u64_in,IntWalk.u8_in,IntWalk.i32_in,IntWalk.u32_in,ye,zk,zm,qj,qk,qm,qn,zb,zc,zn,zp,zq,qo,zd,ze,zr,zt,zu,j3,x7,zw,zf,za,zx,qp,zy,zg,zz,z6,qq,zh,yf,qr,aop,yq,j4,j5,x8,x9,jd,j6,j7,wb,je,j8,yr,j9,wg,jf,jg,xa,xb,z7,jh,z8,ji,jj,yt,yu,xc,AV.one,wh,wi,aun,jk,xd,yw,afn,xe,Out.ren,xf,xg,jl,wj,xh,wl,jm,Eng.distinct,pos,wn,Eng.ren,wo,xi,wp,jo,wq,yg,xj,ws,wu,jp,frz,yx,yz,wv,List.lookup_cons,jq,zi,jr,js,List.range_succ,jt,xk,ju,xm,↓yh,↓yi,↓qt,↓y6,↓qu,↓qa,↓yj,↓yk,↓qv,↓qw,↓qx,↓qy,↓qb,↓qz,qc,ww,xn,jv,jw,yl,qd,qe,zj,wx,y7,jx,xp,xq,keq,y8,wy,qf,y9,ym,xr,jy,jz,xt,j0,wz,ja,j1,xu,xv,xw,jb,q5,q6,yn,q7,j2,Option.map_some,yo,qg,q8,q9,qh,ya,xx,yb,yp,yc,xy,w5,xz,x5,w6,jc,x6,Op.operands,Call.operands,yd,qi,w7,AObj.live]
end Go.Proofs.YtblejchodicaoaaGreatDoor.Eng
