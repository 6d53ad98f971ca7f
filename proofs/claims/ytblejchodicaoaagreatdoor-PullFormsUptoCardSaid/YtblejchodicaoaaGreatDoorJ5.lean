/-
  CONTRACTS: slices.AppendSeq over the parts of a value; encode.parts. Own work.
-/
import Derived.Test.YtblejchodicaoaaGreatDoorJ4
import Derived.Test.YtblejchodicaoaaGreatDoorJ3
import Derived.Shelf.Strings.OnBuilder
import Derived.Shelf.LaysM
import Derived.Shelf.Strconv.Itoa4
import Derived.Shelf.Unicode.DecodeAny
import Derived.Shelf.Unicode.ValidAny
import Derived.Test.YtblejchodicaoaaGreatDoorProg
import Derived.Lib.LaidU8T
import Derived.Lib.Builder
import Derived.WalkSmall
import Derived.Laws.Externs
set_option linter.unusedVariables false
set_option linter.unusedSimpArgs false
namespace Go.Proofs.YtblejchodicaoaaGreatDoor.Eng
open Go Go.RowKit
set_option maxRecDepth 100000
set_option linter.unusedSimpArgs false
set_option maxHeartbeats 2000000

/-- The loop of slices.AppendSeq over a function. -/
noncomputable def appL (d : D) : AObj := .loop [(2, .ptr 2 0), (4, .d .nils), (6, .d d)] 13 (rfPs (codeAt [true, false, true, false] (Tryz.f130.body.getD .skip))) (rfA (codeAt [true, false, true, false] (Tryz.f130.body.getD .skip))) (rfB (codeAt [true, false, true, false] (Tryz.f130.body.getD .skip))) .ready none 1
/-- What it has collected. -/
def appB (l : List (List UInt8)) : List AObj := if l = [] then [.box [.d .nils] 142] else [.box [.sl 3 1 0 l.length] 142, prow l]
noncomputable def appSt (d : D) (l : List (List UInt8)) : List AObj := appL d :: .dfr :: appB l
/-- The same, as what is told at the end. -/
noncomputable def appEd (d : D) (l : List (List UInt8)) : List AObj := appSt d l
noncomputable def appNx (d : D) (l : List (List UInt8)) (x : List UInt8) : List AObj := appL d :: .dfr :: (if l = [] then [.box [.sl 3 1 0 1] 142, prow [x]] else [.box [.sl 4 1 0 (l.length + 1)] 142, .gone, prow (l ++ [x])])

theorem r_app (C : Oracle) (d : D) (l : List (List UInt8)) (x : List UInt8) (hl : l.length ≤ 1099511627776) :
    rounds Tryz.prog C {} 26 [.yld 0, .d (.str x)] (appSt d l) = some (.ret (.d (.bool true)), appNx d l x) := by
  by_cases h : l = []
  · subst h
    simp -implicitDefEqProofs [appSt, appL, appB, appNx, prow, rounds, around, codeAt, rfPs, rfA, rfB, Tryz.f130, gcode, machR, IntWalk.i64_in,IntWalk.u64_in,IntWalk.u8_in,IntWalk.i32_in,IntWalk.u32_in,ye,zk,zm,qj,qk,qm,qn,zb,zc,zn,zp,zq,qo,zd,ze,zr,zt,zu,j3,x7,zw,zf,za,zx,qp,zy,zg,zz,z6,qq,zh,yf,qr,aop,yq,j4,j5,x8,x9,jd,j6,j7,wb,je,j8,yr,j9,wg,jf,jg,xa,xb,z7,jh,z8,ji,jj,yt,yu,xc,AV.one,wh,wi,aun,jk,xd,yw,afn,xe,Out.ren,xf,xg,jl,wj,xh,wl,jm,Eng.distinct,pos,wn,Eng.ren,wo,xi,wp,jo,wq,yg,xj,ws,wu,jp,frz,yx,yz,wv,List.lookup_cons,jq,zi,jr,js,List.range_succ,jt,xk,ju,xm,↓yh,↓yi,↓qt,↓y6,↓qu,↓qa,↓yj,↓yk,↓qv,↓qw,↓qx,↓qy,↓qb,↓qz,qc,ww,xn,jv,jw,yl,qd,qe,zj,wx,y7,jx,xp,xq,keq,y8,wy,qf,y9,ym,xr,jy,jz,xt,j0,wz,ja,j1,xu,xv,xw,jb,q5,q6,yn,q7,j2,Option.map_some,yo,qg,q8,q9,qh,ya,xx,yb,yp,yc,xy,w5,xz,x5,w6,jc,x6,Op.operands,Call.operands,yd,qi,w7,AObj.live]
  · have h1 : (l.length + 1) * 16 ≤ 140737488355328 := by omega
    have h2 : l.length + 1 ≤ 140737488355328 := by omega
    simp -implicitDefEqProofs [appSt, appL, appB, appNx, prow, h, h1, h2, rounds, around, codeAt, rfPs, rfA, rfB, Tryz.f130, gcode, machR, IntWalk.i64_in,IntWalk.u64_in,IntWalk.u8_in,IntWalk.i32_in,IntWalk.u32_in,ye,zk,zm,qj,qk,qm,qn,zb,zc,zn,zp,zq,qo,zd,ze,zr,zt,zu,j3,x7,zw,zf,za,zx,qp,zy,zg,zz,z6,qq,zh,yf,qr,aop,yq,j4,j5,x8,x9,jd,j6,j7,wb,je,j8,yr,j9,wg,jf,jg,xa,xb,z7,jh,z8,ji,jj,yt,yu,xc,AV.one,wh,wi,aun,jk,xd,yw,afn,xe,Out.ren,xf,xg,jl,wj,xh,wl,jm,Eng.distinct,pos,wn,Eng.ren,wo,xi,wp,jo,wq,yg,xj,ws,wu,jp,frz,yx,yz,wv,List.lookup_cons,jq,zi,jr,js,List.range_succ,jt,xk,ju,xm,↓yh,↓yi,↓qt,↓y6,↓qu,↓qa,↓yj,↓yk,↓qv,↓qw,↓qx,↓qy,↓qb,↓qz,qc,ww,xn,jv,jw,yl,qd,qe,zj,wx,y7,jx,xp,xq,keq,y8,wy,qf,y9,ym,xr,jy,jz,xt,j0,wz,ja,j1,xu,xv,xw,jb,q5,q6,yn,q7,j2,Option.map_some,yo,qg,q8,q9,qh,ya,xx,yb,yp,yc,xy,w5,xz,x5,w6,jc,x6,Op.operands,Call.operands,yd,qi,w7,AObj.live]

def partsV (v : V) : List (List UInt8) := v.l.map textV ++ v.o.map textM
theorem textM_eq (m : M) : textM m = quoteU m.key ++ [58] ++ textV m.v := by obtain ⟨k, v⟩ := m; simp [textM, M.key, M.v]

theorem b_parts1 (C : Oracle) (d : D) (v : V) (hsz : v.size ≤ 1099511627776) (hlen : ∀ m ∈ v.o, (textM m).length ≤ 140737488355328)
    (hY : ∀ (l : List (List UInt8)) (x : List UInt8), l.length ≤ 1099511627776 → C yId [.yld 0, .d (.str x)] (appSt d l) = some (.ret (.d (.bool true)), appNx d l x))
    (hT : ∀ x ∈ v.l, C 71 [avV x] [] = R (.str (textV x))) (hTo : ∀ m ∈ v.o, C 71 [avV m.v] [] = R (.str (textV m.v)))
    (hQ : ∀ s : List UInt8, s.length ≤ 1099511627776 → C 106 [.d (.str s)] [] = some (.ret (.tup [.d (.str (quoteU s)), .d (.int .i64 (if validU s = true then 0 else 3))]), [])) :
    abody Tryz.prog [] C (mach Tryz.prog C { keep := [(10, [0, 1, 10, 11, 12]), (14, [0, 23, 24, 25])], outs := [(10, [0, 1]), (14, [])] }) false 131 [.yld 0, .d (.rp (encV v))] (appSt d []) = some (.ret (.tup []), appEd d (partsV v)) := by
  have hl1 := V.l_len v
  have ho1 := V.o_len v
  simp only [R, avV] at hT hTo
  unfold abody
  rw [Tryz.func131]
  simp only [Tryz.f131]
  simp -implicitDefEqProofs [appSt, appL, appB, encV_eq v, mach_loop, IntWalk.i64_in,IntWalk.u64_in,IntWalk.u8_in,IntWalk.i32_in,IntWalk.u32_in,ye,zk,zm,qj,qk,qm,qn,zb,zc,zn,zp,zq,qo,zd,ze,zr,zt,zu,j3,x7,zw,zf,za,zx,qp,zy,zg,zz,z6,qq,zh,yf,qr,aop,yq,j4,j5,x8,x9,jd,j6,j7,wb,je,j8,yr,j9,wg,jf,jg,xa,xb,z7,jh,z8,ji,jj,yt,yu,xc,AV.one,wh,wi,aun,jk,xd,yw,afn,xe,Out.ren,xf,xg,jl,wj,xh,wl,jm,Eng.distinct,pos,wn,Eng.ren,wo,xi,wp,jo,wq,yg,xj,ws,wu,jp,frz,yx,yz,wv,List.lookup_cons,jq,zi,jr,js,List.range_succ,jt,xk,ju,xm,↓yh,↓yi,↓qt,↓y6,↓qu,↓qa,↓yj,↓yk,↓qv,↓qw,↓qx,↓qy,↓qb,↓qz,qc,ww,xn,jv,jw,yl,qd,qe,zj,wx,y7,jx,xp,xq,keq,y8,wy,qf,y9,ym,xr,jy,jz,xt,j0,wz,ja,j1,xu,xv,xw,jb,q5,q6,yn,q7,j2,Option.map_some,yo,qg,q8,q9,qh,ya,xx,yb,yp,yc,xy,w5,xz,x5,w6,jc,x6,Op.operands,Call.operands,yd,qi,w7,AObj.live]
  rw [aloop_list (l := v.l)
    (S := fun pre suf => { env := [(0, .yld 0), (1, .d (.rp (encV v))), (10, .d (.rs 6 ((pre ++ suf).map encV))), (11, .d (.int .i64 ((pre ++ suf).length : Nat))), (12, .d (.int .i64 (pre.length : Nat)))], σ := appSt d (pre.map textV), dfs := [] })
    (R := fun pre suf => some (.exit 0, { env := [(0, .yld 0), (1, .d (.rp (encV v)))], σ := appEd d ((pre ++ suf).map textV), dfs := [] }))
    (hs := ?_) (h0 := ?_) (h1 := ?_)]
  rotate_left
  · simp -implicitDefEqProofs [appSt, appL, appB, encV_eq v, IntWalk.i64_in,IntWalk.u64_in,IntWalk.u8_in,IntWalk.i32_in,IntWalk.u32_in,ye,zk,zm,qj,qk,qm,qn,zb,zc,zn,zp,zq,qo,zd,ze,zr,zt,zu,j3,x7,zw,zf,za,zx,qp,zy,zg,zz,z6,qq,zh,yf,qr,aop,yq,j4,j5,x8,x9,jd,j6,j7,wb,je,j8,yr,j9,wg,jf,jg,xa,xb,z7,jh,z8,ji,jj,yt,yu,xc,AV.one,wh,wi,aun,jk,xd,yw,afn,xe,Out.ren,xf,xg,jl,wj,xh,wl,jm,Eng.distinct,pos,wn,Eng.ren,wo,xi,wp,jo,wq,yg,xj,ws,wu,jp,frz,yx,yz,wv,List.lookup_cons,jq,zi,jr,js,List.range_succ,jt,xk,ju,xm,↓yh,↓yi,↓qt,↓y6,↓qu,↓qa,↓yj,↓yk,↓qv,↓qw,↓qx,↓qy,↓qb,↓qz,qc,ww,xn,jv,jw,yl,qd,qe,zj,wx,y7,jx,xp,xq,keq,y8,wy,qf,y9,ym,xr,jy,jz,xt,j0,wz,ja,j1,xu,xv,xw,jb,q5,q6,yn,q7,j2,Option.map_some,yo,qg,q8,q9,qh,ya,xx,yb,yp,yc,xy,w5,xz,x5,w6,jc,x6,Op.operands,Call.operands,yd,qi,w7,AObj.live]
  · intro pre hp
    by_cases he : pre = []
    · simp -implicitDefEqProofs [appEd, appSt, appL, appB, prow, he, mach_loop, IntWalk.i64_in,IntWalk.u64_in,IntWalk.u8_in,IntWalk.i32_in,IntWalk.u32_in,ye,zk,zm,qj,qk,qm,qn,zb,zc,zn,zp,zq,qo,zd,ze,zr,zt,zu,j3,x7,zw,zf,za,zx,qp,zy,zg,zz,z6,qq,zh,yf,qr,aop,yq,j4,j5,x8,x9,jd,j6,j7,wb,je,j8,yr,j9,wg,jf,jg,xa,xb,z7,jh,z8,ji,jj,yt,yu,xc,AV.one,wh,wi,aun,jk,xd,yw,afn,xe,Out.ren,xf,xg,jl,wj,xh,wl,jm,Eng.distinct,pos,wn,Eng.ren,wo,xi,wp,jo,wq,yg,xj,ws,wu,jp,frz,yx,yz,wv,List.lookup_cons,jq,zi,jr,js,List.range_succ,jt,xk,ju,xm,↓yh,↓yi,↓qt,↓y6,↓qu,↓qa,↓yj,↓yk,↓qv,↓qw,↓qx,↓qy,↓qb,↓qz,qc,ww,xn,jv,jw,yl,qd,qe,zj,wx,y7,jx,xp,xq,keq,y8,wy,qf,y9,ym,xr,jy,jz,xt,j0,wz,ja,j1,xu,xv,xw,jb,q5,q6,yn,q7,j2,Option.map_some,yo,qg,q8,q9,qh,ya,xx,yb,yp,yc,xy,w5,xz,x5,w6,jc,x6,Op.operands,Call.operands,yd,qi,w7,AObj.live]
    · simp -implicitDefEqProofs [appEd, appSt, appL, appB, prow, he, mach_loop, IntWalk.i64_in,IntWalk.u64_in,IntWalk.u8_in,IntWalk.i32_in,IntWalk.u32_in,ye,zk,zm,qj,qk,qm,qn,zb,zc,zn,zp,zq,qo,zd,ze,zr,zt,zu,j3,x7,zw,zf,za,zx,qp,zy,zg,zz,z6,qq,zh,yf,qr,aop,yq,j4,j5,x8,x9,jd,j6,j7,wb,je,j8,yr,j9,wg,jf,jg,xa,xb,z7,jh,z8,ji,jj,yt,yu,xc,AV.one,wh,wi,aun,jk,xd,yw,afn,xe,Out.ren,xf,xg,jl,wj,xh,wl,jm,Eng.distinct,pos,wn,Eng.ren,wo,xi,wp,jo,wq,yg,xj,ws,wu,jp,frz,yx,yz,wv,List.lookup_cons,jq,zi,jr,js,List.range_succ,jt,xk,ju,xm,↓yh,↓yi,↓qt,↓y6,↓qu,↓qa,↓yj,↓yk,↓qv,↓qw,↓qx,↓qy,↓qb,↓qz,qc,ww,xn,jv,jw,yl,qd,qe,zj,wx,y7,jx,xp,xq,keq,y8,wy,qf,y9,ym,xr,jy,jz,xt,j0,wz,ja,j1,xu,xv,xw,jb,q5,q6,yn,q7,j2,Option.map_some,yo,qg,q8,q9,qh,ya,xx,yb,yp,yc,xy,w5,xz,x5,w6,jc,x6,Op.operands,Call.operands,yd,qi,w7,AObj.live]
  · intro pre x suf hp ih
    have hx := hT x (by rw [← hp]; simp)
    have hll : pre.length < v.l.length := by rw [← hp]; simp
    have hw2 : IntKind.i64.wrap ((pre.length : Nat) + 1) = (pre.length : Nat) + 1 := wrap64 (by omega) (by omega)
    have hy := hY (pre.map textV) (textV x) (by simp; omega)
    by_cases he : pre = []
    · subst he
      simp [appSt, appB, appNx, appL, prow] at hy
      simp -implicitDefEqProofs [appSt, appL, appB, prow, hx, hy, hw2, encV_eq x, mid_lt, pos1, mach_loop, IntWalk.i64_in,IntWalk.u64_in,IntWalk.u8_in,IntWalk.i32_in,IntWalk.u32_in,ye,zk,zm,qj,qk,qm,qn,zb,zc,zn,zp,zq,qo,zd,ze,zr,zt,zu,j3,x7,zw,zf,za,zx,qp,zy,zg,zz,z6,qq,zh,yf,qr,aop,yq,j4,j5,x8,x9,jd,j6,j7,wb,je,j8,yr,j9,wg,jf,jg,xa,xb,z7,jh,z8,ji,jj,yt,yu,xc,AV.one,wh,wi,aun,jk,xd,yw,afn,xe,Out.ren,xf,xg,jl,wj,xh,wl,jm,Eng.distinct,pos,wn,Eng.ren,wo,xi,wp,jo,wq,yg,xj,ws,wu,jp,frz,yx,yz,wv,List.lookup_cons,jq,zi,jr,js,List.range_succ,jt,xk,ju,xm,↓yh,↓yi,↓qt,↓y6,↓qu,↓qa,↓yj,↓yk,↓qv,↓qw,↓qx,↓qy,↓qb,↓qz,qc,ww,xn,jv,jw,yl,qd,qe,zj,wx,y7,jx,xp,xq,keq,y8,wy,qf,y9,ym,xr,jy,jz,xt,j0,wz,ja,j1,xu,xv,xw,jb,q5,q6,yn,q7,j2,Option.map_some,yo,qg,q8,q9,qh,ya,xx,yb,yp,yc,xy,w5,xz,x5,w6,jc,x6,Op.operands,Call.operands,yd,qi,w7,AObj.live]
      rw [ih _ (by simp -implicitDefEqProofs [appSt, appL, appB, prow, encV_eq x, IntWalk.i64_in,IntWalk.u64_in,IntWalk.u8_in,IntWalk.i32_in,IntWalk.u32_in,ye,zk,zm,qj,qk,qm,qn,zb,zc,zn,zp,zq,qo,zd,ze,zr,zt,zu,j3,x7,zw,zf,za,zx,qp,zy,zg,zz,z6,qq,zh,yf,qr,aop,yq,j4,j5,x8,x9,jd,j6,j7,wb,je,j8,yr,j9,wg,jf,jg,xa,xb,z7,jh,z8,ji,jj,yt,yu,xc,AV.one,wh,wi,aun,jk,xd,yw,afn,xe,Out.ren,xf,xg,jl,wj,xh,wl,jm,Eng.distinct,pos,wn,Eng.ren,wo,xi,wp,jo,wq,yg,xj,ws,wu,jp,frz,yx,yz,wv,List.lookup_cons,jq,zi,jr,js,List.range_succ,jt,xk,ju,xm,↓yh,↓yi,↓qt,↓y6,↓qu,↓qa,↓yj,↓yk,↓qv,↓qw,↓qx,↓qy,↓qb,↓qz,qc,ww,xn,jv,jw,yl,qd,qe,zj,wx,y7,jx,xp,xq,keq,y8,wy,qf,y9,ym,xr,jy,jz,xt,j0,wz,ja,j1,xu,xv,xw,jb,q5,q6,yn,q7,j2,Option.map_some,yo,qg,q8,q9,qh,ya,xx,yb,yp,yc,xy,w5,xz,x5,w6,jc,x6,Op.operands,Call.operands,yd,qi,w7,AObj.live])]
      simp
    · simp [appSt, appB, appNx, appL, prow, he] at hy
      simp -implicitDefEqProofs [appSt, appL, appB, prow, he, hx, hy, hw2, encV_eq x, mid_lt, pos1, mach_loop, IntWalk.i64_in,IntWalk.u64_in,IntWalk.u8_in,IntWalk.i32_in,IntWalk.u32_in,ye,zk,zm,qj,qk,qm,qn,zb,zc,zn,zp,zq,qo,zd,ze,zr,zt,zu,j3,x7,zw,zf,za,zx,qp,zy,zg,zz,z6,qq,zh,yf,qr,aop,yq,j4,j5,x8,x9,jd,j6,j7,wb,je,j8,yr,j9,wg,jf,jg,xa,xb,z7,jh,z8,ji,jj,yt,yu,xc,AV.one,wh,wi,aun,jk,xd,yw,afn,xe,Out.ren,xf,xg,jl,wj,xh,wl,jm,Eng.distinct,pos,wn,Eng.ren,wo,xi,wp,jo,wq,yg,xj,ws,wu,jp,frz,yx,yz,wv,List.lookup_cons,jq,zi,jr,js,List.range_succ,jt,xk,ju,xm,↓yh,↓yi,↓qt,↓y6,↓qu,↓qa,↓yj,↓yk,↓qv,↓qw,↓qx,↓qy,↓qb,↓qz,qc,ww,xn,jv,jw,yl,qd,qe,zj,wx,y7,jx,xp,xq,keq,y8,wy,qf,y9,ym,xr,jy,jz,xt,j0,wz,ja,j1,xu,xv,xw,jb,q5,q6,yn,q7,j2,Option.map_some,yo,qg,q8,q9,qh,ya,xx,yb,yp,yc,xy,w5,xz,x5,w6,jc,x6,Op.operands,Call.operands,yd,qi,w7,AObj.live]
      rw [ih _ (by simp -implicitDefEqProofs [appSt, appL, appB, prow, he, encV_eq x, IntWalk.i64_in,IntWalk.u64_in,IntWalk.u8_in,IntWalk.i32_in,IntWalk.u32_in,ye,zk,zm,qj,qk,qm,qn,zb,zc,zn,zp,zq,qo,zd,ze,zr,zt,zu,j3,x7,zw,zf,za,zx,qp,zy,zg,zz,z6,qq,zh,yf,qr,aop,yq,j4,j5,x8,x9,jd,j6,j7,wb,je,j8,yr,j9,wg,jf,jg,xa,xb,z7,jh,z8,ji,jj,yt,yu,xc,AV.one,wh,wi,aun,jk,xd,yw,afn,xe,Out.ren,xf,xg,jl,wj,xh,wl,jm,Eng.distinct,pos,wn,Eng.ren,wo,xi,wp,jo,wq,yg,xj,ws,wu,jp,frz,yx,yz,wv,List.lookup_cons,jq,zi,jr,js,List.range_succ,jt,xk,ju,xm,↓yh,↓yi,↓qt,↓y6,↓qu,↓qa,↓yj,↓yk,↓qv,↓qw,↓qx,↓qy,↓qb,↓qz,qc,ww,xn,jv,jw,yl,qd,qe,zj,wx,y7,jx,xp,xq,keq,y8,wy,qf,y9,ym,xr,jy,jz,xt,j0,wz,ja,j1,xu,xv,xw,jb,q5,q6,yn,q7,j2,Option.map_some,yo,qg,q8,q9,qh,ya,xx,yb,yp,yc,xy,w5,xz,x5,w6,jc,x6,Op.operands,Call.operands,yd,qi,w7,AObj.live])]
      simp
  have hsum : v.l.length + v.o.length < v.size := by
    have h1 := V.len_le v.l
    have h2 := M.len_le v.o
    rw [V.size_eq v]; omega
  have hpv : partsV v = v.l.map textV ++ v.o.map textM := rfl
  have hBl : (v.l.map textV).length = v.l.length := by simp
  have hBe : appEd d (v.l.map textV) = appSt d (v.l.map textV) := rfl
  rw [hpv]
  simp only [List.nil_append]
  rw [hBe]
  generalize v.l.map textV = B at *
  simp -implicitDefEqProofs [mach_loop, IntWalk.i64_in,IntWalk.u64_in,IntWalk.u8_in,IntWalk.i32_in,IntWalk.u32_in,ye,zk,zm,qj,qk,qm,qn,zb,zc,zn,zp,zq,qo,zd,ze,zr,zt,zu,j3,x7,zw,zf,za,zx,qp,zy,zg,zz,z6,qq,zh,yf,qr,aop,yq,j4,j5,x8,x9,jd,j6,j7,wb,je,j8,yr,j9,wg,jf,jg,xa,xb,z7,jh,z8,ji,jj,yt,yu,xc,AV.one,wh,wi,aun,jk,xd,yw,afn,xe,Out.ren,xf,xg,jl,wj,xh,wl,jm,Eng.distinct,pos,wn,Eng.ren,wo,xi,wp,jo,wq,yg,xj,ws,wu,jp,frz,yx,yz,wv,List.lookup_cons,jq,zi,jr,js,List.range_succ,jt,xk,ju,xm,↓yh,↓yi,↓qt,↓y6,↓qu,↓qa,↓yj,↓yk,↓qv,↓qw,↓qx,↓qy,↓qb,↓qz,qc,ww,xn,jv,jw,yl,qd,qe,zj,wx,y7,jx,xp,xq,keq,y8,wy,qf,y9,ym,xr,jy,jz,xt,j0,wz,ja,j1,xu,xv,xw,jb,q5,q6,yn,q7,j2,Option.map_some,yo,qg,q8,q9,qh,ya,xx,yb,yp,yc,xy,w5,xz,x5,w6,jc,x6,Op.operands,Call.operands,yd,qi,w7,AObj.live]
  rcases Decidable.em (B = []) with hB | hB <;> (
    simp -implicitDefEqProofs [appSt, appL, appB, prow, hB, encV_eq v, mach_loop, IntWalk.i64_in,IntWalk.u64_in,IntWalk.u8_in,IntWalk.i32_in,IntWalk.u32_in,ye,zk,zm,qj,qk,qm,qn,zb,zc,zn,zp,zq,qo,zd,ze,zr,zt,zu,j3,x7,zw,zf,za,zx,qp,zy,zg,zz,z6,qq,zh,yf,qr,aop,yq,j4,j5,x8,x9,jd,j6,j7,wb,je,j8,yr,j9,wg,jf,jg,xa,xb,z7,jh,z8,ji,jj,yt,yu,xc,AV.one,wh,wi,aun,jk,xd,yw,afn,xe,Out.ren,xf,xg,jl,wj,xh,wl,jm,Eng.distinct,pos,wn,Eng.ren,wo,xi,wp,jo,wq,yg,xj,ws,wu,jp,frz,yx,yz,wv,List.lookup_cons,jq,zi,jr,js,List.range_succ,jt,xk,ju,xm,↓yh,↓yi,↓qt,↓y6,↓qu,↓qa,↓yj,↓yk,↓qv,↓qw,↓qx,↓qy,↓qb,↓qz,qc,ww,xn,jv,jw,yl,qd,qe,zj,wx,y7,jx,xp,xq,keq,y8,wy,qf,y9,ym,xr,jy,jz,xt,j0,wz,ja,j1,xu,xv,xw,jb,q5,q6,yn,q7,j2,Option.map_some,yo,qg,q8,q9,qh,ya,xx,yb,yp,yc,xy,w5,xz,x5,w6,jc,x6,Op.operands,Call.operands,yd,qi,w7,AObj.live]
    rw [aloop_list (l := v.o)
      (S := fun pre suf => { env := [(0, .yld 0), (23, .d (.rs 7 ((pre ++ suf).map encM))), (24, .d (.int .i64 ((pre ++ suf).length : Nat))), (25, .d (.int .i64 (pre.length : Nat)))], σ := appSt d (B ++ pre.map textM), dfs := [] })
      (R := fun pre suf => some (.exit 2, { env := [], σ := appEd d (B ++ (pre ++ suf).map textM), dfs := [] }))
      (hs := ?_) (h0 := ?_) (h1 := ?_)]
    rotate_left
    · simp -implicitDefEqProofs [appSt, appL, appB, prow, hB, IntWalk.i64_in,IntWalk.u64_in,IntWalk.u8_in,IntWalk.i32_in,IntWalk.u32_in,ye,zk,zm,qj,qk,qm,qn,zb,zc,zn,zp,zq,qo,zd,ze,zr,zt,zu,j3,x7,zw,zf,za,zx,qp,zy,zg,zz,z6,qq,zh,yf,qr,aop,yq,j4,j5,x8,x9,jd,j6,j7,wb,je,j8,yr,j9,wg,jf,jg,xa,xb,z7,jh,z8,ji,jj,yt,yu,xc,AV.one,wh,wi,aun,jk,xd,yw,afn,xe,Out.ren,xf,xg,jl,wj,xh,wl,jm,Eng.distinct,pos,wn,Eng.ren,wo,xi,wp,jo,wq,yg,xj,ws,wu,jp,frz,yx,yz,wv,List.lookup_cons,jq,zi,jr,js,List.range_succ,jt,xk,ju,xm,↓yh,↓yi,↓qt,↓y6,↓qu,↓qa,↓yj,↓yk,↓qv,↓qw,↓qx,↓qy,↓qb,↓qz,qc,ww,xn,jv,jw,yl,qd,qe,zj,wx,y7,jx,xp,xq,keq,y8,wy,qf,y9,ym,xr,jy,jz,xt,j0,wz,ja,j1,xu,xv,xw,jb,q5,q6,yn,q7,j2,Option.map_some,yo,qg,q8,q9,qh,ya,xx,yb,yp,yc,xy,w5,xz,x5,w6,jc,x6,Op.operands,Call.operands,yd,qi,w7,AObj.live]
    · intro pre hp
      by_cases he : pre = []
      · simp -implicitDefEqProofs [appEd, appSt, appL, appB, prow, hB, he, mach_loop, IntWalk.i64_in,IntWalk.u64_in,IntWalk.u8_in,IntWalk.i32_in,IntWalk.u32_in,ye,zk,zm,qj,qk,qm,qn,zb,zc,zn,zp,zq,qo,zd,ze,zr,zt,zu,j3,x7,zw,zf,za,zx,qp,zy,zg,zz,z6,qq,zh,yf,qr,aop,yq,j4,j5,x8,x9,jd,j6,j7,wb,je,j8,yr,j9,wg,jf,jg,xa,xb,z7,jh,z8,ji,jj,yt,yu,xc,AV.one,wh,wi,aun,jk,xd,yw,afn,xe,Out.ren,xf,xg,jl,wj,xh,wl,jm,Eng.distinct,pos,wn,Eng.ren,wo,xi,wp,jo,wq,yg,xj,ws,wu,jp,frz,yx,yz,wv,List.lookup_cons,jq,zi,jr,js,List.range_succ,jt,xk,ju,xm,↓yh,↓yi,↓qt,↓y6,↓qu,↓qa,↓yj,↓yk,↓qv,↓qw,↓qx,↓qy,↓qb,↓qz,qc,ww,xn,jv,jw,yl,qd,qe,zj,wx,y7,jx,xp,xq,keq,y8,wy,qf,y9,ym,xr,jy,jz,xt,j0,wz,ja,j1,xu,xv,xw,jb,q5,q6,yn,q7,j2,Option.map_some,yo,qg,q8,q9,qh,ya,xx,yb,yp,yc,xy,w5,xz,x5,w6,jc,x6,Op.operands,Call.operands,yd,qi,w7,AObj.live]
      · simp -implicitDefEqProofs [appEd, appSt, appL, appB, prow, hB, he, mach_loop, IntWalk.i64_in,IntWalk.u64_in,IntWalk.u8_in,IntWalk.i32_in,IntWalk.u32_in,ye,zk,zm,qj,qk,qm,qn,zb,zc,zn,zp,zq,qo,zd,ze,zr,zt,zu,j3,x7,zw,zf,za,zx,qp,zy,zg,zz,z6,qq,zh,yf,qr,aop,yq,j4,j5,x8,x9,jd,j6,j7,wb,je,j8,yr,j9,wg,jf,jg,xa,xb,z7,jh,z8,ji,jj,yt,yu,xc,AV.one,wh,wi,aun,jk,xd,yw,afn,xe,Out.ren,xf,xg,jl,wj,xh,wl,jm,Eng.distinct,pos,wn,Eng.ren,wo,xi,wp,jo,wq,yg,xj,ws,wu,jp,frz,yx,yz,wv,List.lookup_cons,jq,zi,jr,js,List.range_succ,jt,xk,ju,xm,↓yh,↓yi,↓qt,↓y6,↓qu,↓qa,↓yj,↓yk,↓qv,↓qw,↓qx,↓qy,↓qb,↓qz,qc,ww,xn,jv,jw,yl,qd,qe,zj,wx,y7,jx,xp,xq,keq,y8,wy,qf,y9,ym,xr,jy,jz,xt,j0,wz,ja,j1,xu,xv,xw,jb,q5,q6,yn,q7,j2,Option.map_some,yo,qg,q8,q9,qh,ya,xx,yb,yp,yc,xy,w5,xz,x5,w6,jc,x6,Op.operands,Call.operands,yd,qi,w7,AObj.live]
    · intro pre m suf hp ih
      have hx := hTo m (by rw [← hp]; simp)
      have hq := hQ m.key (by have := V.key_len (v := v) (m := m) (by rw [← hp]; simp); omega)
      have hll : pre.length < v.o.length := by rw [← hp]; simp
      have hw2 : IntKind.i64.wrap ((pre.length : Nat) + 1) = (pre.length : Nat) + 1 := wrap64 (by omega) (by omega)
      have hy := hY (B ++ pre.map textM) (textM m) (by simp; omega)
      have hm := textM_eq m
      have hml := hlen m (by rw [← hp]; simp)
      rw [hm] at hml
      simp only [List.length_append, List.length_cons, List.length_nil] at hml
      have hK1 : ∀ K : Nat, 140737488355328 ≤ K → ((quoteU m.key).length + 1 ≤ K) = True := by intro K hK; simp; omega
      have hK2 : ∀ K : Nat, 140737488355328 ≤ K → ((quoteU m.key).length + 1 + (textV m.v).length ≤ K) = True := by intro K hK; simp; omega
      have hK3 : ∀ K : Nat, 140737488355328 ≤ K → ((quoteU m.key).length + (1 + (textV m.v).length) ≤ K) = True := by intro K hK; simp; omega
      have hK4 : ∀ K : Nat, 140737488355328 ≤ K → ((quoteU m.key).length + ((textV m.v).length + 1) ≤ K) = True := by intro K hK; simp; omega
      rcases Decidable.em (pre = []) with he | he <;> (
        simp [appSt, appL, appB, appNx, prow, hB, he, hm] at hy
        simp -implicitDefEqProofs [appSt, appL, appB, prow, hB, he, hx, hy, hq, hw2, hK1, hK2, hK3, hK4, encM_eq m, encV_eq m.v, mid_lt, pos1, mach_loop, IntWalk.i64_in,IntWalk.u64_in,IntWalk.u8_in,IntWalk.i32_in,IntWalk.u32_in,ye,zk,zm,qj,qk,qm,qn,zb,zc,zn,zp,zq,qo,zd,ze,zr,zt,zu,j3,x7,zw,zf,za,zx,qp,zy,zg,zz,z6,qq,zh,yf,qr,aop,yq,j4,j5,x8,x9,jd,j6,j7,wb,je,j8,yr,j9,wg,jf,jg,xa,xb,z7,jh,z8,ji,jj,yt,yu,xc,AV.one,wh,wi,aun,jk,xd,yw,afn,xe,Out.ren,xf,xg,jl,wj,xh,wl,jm,Eng.distinct,pos,wn,Eng.ren,wo,xi,wp,jo,wq,yg,xj,ws,wu,jp,frz,yx,yz,wv,List.lookup_cons,jq,zi,jr,js,List.range_succ,jt,xk,ju,xm,↓yh,↓yi,↓qt,↓y6,↓qu,↓qa,↓yj,↓yk,↓qv,↓qw,↓qx,↓qy,↓qb,↓qz,qc,ww,xn,jv,jw,yl,qd,qe,zj,wx,y7,jx,xp,xq,keq,y8,wy,qf,y9,ym,xr,jy,jz,xt,j0,wz,ja,j1,xu,xv,xw,jb,q5,q6,yn,q7,j2,Option.map_some,yo,qg,q8,q9,qh,ya,xx,yb,yp,yc,xy,w5,xz,x5,w6,jc,x6,Op.operands,Call.operands,yd,qi,w7,AObj.live]
        rw [ih _ (by simp -implicitDefEqProofs [appSt, appL, appB, prow, hB, he, hm, encM_eq m, encV_eq m.v, IntWalk.i64_in,IntWalk.u64_in,IntWalk.u8_in,IntWalk.i32_in,IntWalk.u32_in,ye,zk,zm,qj,qk,qm,qn,zb,zc,zn,zp,zq,qo,zd,ze,zr,zt,zu,j3,x7,zw,zf,za,zx,qp,zy,zg,zz,z6,qq,zh,yf,qr,aop,yq,j4,j5,x8,x9,jd,j6,j7,wb,je,j8,yr,j9,wg,jf,jg,xa,xb,z7,jh,z8,ji,jj,yt,yu,xc,AV.one,wh,wi,aun,jk,xd,yw,afn,xe,Out.ren,xf,xg,jl,wj,xh,wl,jm,Eng.distinct,pos,wn,Eng.ren,wo,xi,wp,jo,wq,yg,xj,ws,wu,jp,frz,yx,yz,wv,List.lookup_cons,jq,zi,jr,js,List.range_succ,jt,xk,ju,xm,↓yh,↓yi,↓qt,↓y6,↓qu,↓qa,↓yj,↓yk,↓qv,↓qw,↓qx,↓qy,↓qb,↓qz,qc,ww,xn,jv,jw,yl,qd,qe,zj,wx,y7,jx,xp,xq,keq,y8,wy,qf,y9,ym,xr,jy,jz,xt,j0,wz,ja,j1,xu,xv,xw,jb,q5,q6,yn,q7,j2,Option.map_some,yo,qg,q8,q9,qh,ya,xx,yb,yp,yc,xy,w5,xz,x5,w6,jc,x6,Op.operands,Call.operands,yd,qi,w7,AObj.live] <;> omega)]
        simp [hB, he])
    rcases Decidable.em (v.o = []) with hO | hO <;> (
      simp -implicitDefEqProofs [appEd, appSt, appL, appB, prow, hB, hO, mach_loop, IntWalk.i64_in,IntWalk.u64_in,IntWalk.u8_in,IntWalk.i32_in,IntWalk.u32_in,ye,zk,zm,qj,qk,qm,qn,zb,zc,zn,zp,zq,qo,zd,ze,zr,zt,zu,j3,x7,zw,zf,za,zx,qp,zy,zg,zz,z6,qq,zh,yf,qr,aop,yq,j4,j5,x8,x9,jd,j6,j7,wb,je,j8,yr,j9,wg,jf,jg,xa,xb,z7,jh,z8,ji,jj,yt,yu,xc,AV.one,wh,wi,aun,jk,xd,yw,afn,xe,Out.ren,xf,xg,jl,wj,xh,wl,jm,Eng.distinct,pos,wn,Eng.ren,wo,xi,wp,jo,wq,yg,xj,ws,wu,jp,frz,yx,yz,wv,List.lookup_cons,jq,zi,jr,js,List.range_succ,jt,xk,ju,xm,↓yh,↓yi,↓qt,↓y6,↓qu,↓qa,↓yj,↓yk,↓qv,↓qw,↓qx,↓qy,↓qb,↓qz,qc,ww,xn,jv,jw,yl,qd,qe,zj,wx,y7,jx,xp,xq,keq,y8,wy,qf,y9,ym,xr,jy,jz,xt,j0,wz,ja,j1,xu,xv,xw,jb,q5,q6,yn,q7,j2,Option.map_some,yo,qg,q8,q9,qh,ya,xx,yb,yp,yc,xy,w5,xz,x5,w6,jc,x6,Op.operands,Call.operands,yd,qi,w7,AObj.live]))

theorem b_parts (C : Oracle) (v : V) : abody Tryz.prog [] C (mach Tryz.prog C {}) true 103 [avV v] [] = R (.fn (.func 131) [] [.rp (encV v)]) := by
  unfold abody
  rw [Tryz.func103]
  simp only [Tryz.f103]
  simp -implicitDefEqProofs [R, avV, encV_eq v, IntWalk.i64_in,IntWalk.u64_in,IntWalk.u8_in,IntWalk.i32_in,IntWalk.u32_in,ye,zk,zm,qj,qk,qm,qn,zb,zc,zn,zp,zq,qo,zd,ze,zr,zt,zu,j3,x7,zw,zf,za,zx,qp,zy,zg,zz,z6,qq,zh,yf,qr,aop,yq,j4,j5,x8,x9,jd,j6,j7,wb,je,j8,yr,j9,wg,jf,jg,xa,xb,z7,jh,z8,ji,jj,yt,yu,xc,AV.one,wh,wi,aun,jk,xd,yw,afn,xe,Out.ren,xf,xg,jl,wj,xh,wl,jm,Eng.distinct,pos,wn,Eng.ren,wo,xi,wp,jo,wq,yg,xj,ws,wu,jp,frz,yx,yz,wv,List.lookup_cons,jq,zi,jr,js,List.range_succ,jt,xk,ju,xm,↓yh,↓yi,↓qt,↓y6,↓qu,↓qa,↓yj,↓yk,↓qv,↓qw,↓qx,↓qy,↓qb,↓qz,qc,ww,xn,jv,jw,yl,qd,qe,zj,wx,y7,jx,xp,xq,keq,y8,wy,qf,y9,ym,xr,jy,jz,xt,j0,wz,ja,j1,xu,xv,xw,jb,q5,q6,yn,q7,j2,Option.map_some,yo,qg,q8,q9,qh,ya,xx,yb,yp,yc,xy,w5,xz,x5,w6,jc,x6,Op.operands,Call.operands,yd,qi,w7,AObj.live]
def partsD (v : V) : D := .fn (.func 131) [] [.rp (encV v)]
theorem b_AppendSeq (C : Oracle) (v : V) (h : C 131 [.yld 0, .d (.rp (encV v))] (appSt (partsD v) []) = some (.ret (.tup []), appEd (partsD v) (partsV v))) :
    abody Tryz.prog [] C (mach Tryz.prog C { keep := [(26, [2, 4, 6, 7])] }) true 130 [.d .nils, .d (partsD v)] [] = R (slD 1 ((partsV v).map fun s => [.str s])) := by
  simp only [appSt, appL, appB, if_true, partsD, rfPs, rfA, rfB, codeAt, Tryz.f130, Option.getD_some] at h
  unfold abody
  rw [Tryz.func130]
  simp only [Tryz.f130]
  simp -implicitDefEqProofs [R, partsD, h, IntWalk.i64_in,IntWalk.u64_in,IntWalk.u8_in,IntWalk.i32_in,IntWalk.u32_in,ye,zk,zm,qj,qk,qm,qn,zb,zc,zn,zp,zq,qo,zd,ze,zr,zt,zu,j3,x7,zw,zf,za,zx,qp,zy,zg,zz,z6,qq,zh,yf,qr,aop,yq,j4,j5,x8,x9,jd,j6,j7,wb,je,j8,yr,j9,wg,jf,jg,xa,xb,z7,jh,z8,ji,jj,yt,yu,xc,AV.one,wh,wi,aun,jk,xd,yw,afn,xe,Out.ren,xf,xg,jl,wj,xh,wl,jm,Eng.distinct,pos,wn,Eng.ren,wo,xi,wp,jo,wq,yg,xj,ws,wu,jp,frz,yx,yz,wv,List.lookup_cons,jq,zi,jr,js,List.range_succ,jt,xk,ju,xm,↓yh,↓yi,↓qt,↓y6,↓qu,↓qa,↓yj,↓yk,↓qv,↓qw,↓qx,↓qy,↓qb,↓qz,qc,ww,xn,jv,jw,yl,qd,qe,zj,wx,y7,jx,xp,xq,keq,y8,wy,qf,y9,ym,xr,jy,jz,xt,j0,wz,ja,j1,xu,xv,xw,jb,q5,q6,yn,q7,j2,Option.map_some,yo,qg,q8,q9,qh,ya,xx,yb,yp,yc,xy,w5,xz,x5,w6,jc,x6,Op.operands,Call.operands,yd,qi,w7,AObj.live]
  by_cases hp : partsV v = []
  · simp -implicitDefEqProofs [appEd, appSt, appL, appB, hp, slD, IntWalk.i64_in,IntWalk.u64_in,IntWalk.u8_in,IntWalk.i32_in,IntWalk.u32_in,ye,zk,zm,qj,qk,qm,qn,zb,zc,zn,zp,zq,qo,zd,ze,zr,zt,zu,j3,x7,zw,zf,za,zx,qp,zy,zg,zz,z6,qq,zh,yf,qr,aop,yq,j4,j5,x8,x9,jd,j6,j7,wb,je,j8,yr,j9,wg,jf,jg,xa,xb,z7,jh,z8,ji,jj,yt,yu,xc,AV.one,wh,wi,aun,jk,xd,yw,afn,xe,Out.ren,xf,xg,jl,wj,xh,wl,jm,Eng.distinct,pos,wn,Eng.ren,wo,xi,wp,jo,wq,yg,xj,ws,wu,jp,frz,yx,yz,wv,List.lookup_cons,jq,zi,jr,js,List.range_succ,jt,xk,ju,xm,↓yh,↓yi,↓qt,↓y6,↓qu,↓qa,↓yj,↓yk,↓qv,↓qw,↓qx,↓qy,↓qb,↓qz,qc,ww,xn,jv,jw,yl,qd,qe,zj,wx,y7,jx,xp,xq,keq,y8,wy,qf,y9,ym,xr,jy,jz,xt,j0,wz,ja,j1,xu,xv,xw,jb,q5,q6,yn,q7,j2,Option.map_some,yo,qg,q8,q9,qh,ya,xx,yb,yp,yc,xy,w5,xz,x5,w6,jc,x6,Op.operands,Call.operands,yd,qi,w7,AObj.live]
  · simp -implicitDefEqProofs [appEd, appSt, appL, appB, hp, slD, prow, take_map_len, IntWalk.i64_in,IntWalk.u64_in,IntWalk.u8_in,IntWalk.i32_in,IntWalk.u32_in,ye,zk,zm,qj,qk,qm,qn,zb,zc,zn,zp,zq,qo,zd,ze,zr,zt,zu,j3,x7,zw,zf,za,zx,qp,zy,zg,zz,z6,qq,zh,yf,qr,aop,yq,j4,j5,x8,x9,jd,j6,j7,wb,je,j8,yr,j9,wg,jf,jg,xa,xb,z7,jh,z8,ji,jj,yt,yu,xc,AV.one,wh,wi,aun,jk,xd,yw,afn,xe,Out.ren,xf,xg,jl,wj,xh,wl,jm,Eng.distinct,pos,wn,Eng.ren,wo,xi,wp,jo,wq,yg,xj,ws,wu,jp,frz,yx,yz,wv,List.lookup_cons,jq,zi,jr,js,List.range_succ,jt,xk,ju,xm,↓yh,↓yi,↓qt,↓y6,↓qu,↓qa,↓yj,↓yk,↓qv,↓qw,↓qx,↓qy,↓qb,↓qz,qc,ww,xn,jv,jw,yl,qd,qe,zj,wx,y7,jx,xp,xq,keq,y8,wy,qf,y9,ym,xr,jy,jz,xt,j0,wz,ja,j1,xu,xv,xw,jb,q5,q6,yn,q7,j2,Option.map_some,yo,qg,q8,q9,qh,ya,xx,yb,yp,yc,xy,w5,xz,x5,w6,jc,x6,Op.operands,Call.operands,yd,qi,w7,AObj.live]
theorem b_Collect (C : Oracle) (v : V) (h : C 130 [.d .nils, .d (partsD v)] [] = R (slD 1 ((partsV v).map fun s => [.str s]))) :
    abody Tryz.prog [] C (mach Tryz.prog C {}) true 102 [.d (partsD v)] [] = R (slD 1 ((partsV v).map fun s => [.str s])) := by
  simp only [R] at h
  unfold abody
  rw [Tryz.func102]
  simp only [Tryz.f102]
  simp -implicitDefEqProofs [R, h, IntWalk.i64_in,IntWalk.u64_in,IntWalk.u8_in,IntWalk.i32_in,IntWalk.u32_in,ye,zk,zm,qj,qk,qm,qn,zb,zc,zn,zp,zq,qo,zd,ze,zr,zt,zu,j3,x7,zw,zf,za,zx,qp,zy,zg,zz,z6,qq,zh,yf,qr,aop,yq,j4,j5,x8,x9,jd,j6,j7,wb,je,j8,yr,j9,wg,jf,jg,xa,xb,z7,jh,z8,ji,jj,yt,yu,xc,AV.one,wh,wi,aun,jk,xd,yw,afn,xe,Out.ren,xf,xg,jl,wj,xh,wl,jm,Eng.distinct,pos,wn,Eng.ren,wo,xi,wp,jo,wq,yg,xj,ws,wu,jp,frz,yx,yz,wv,List.lookup_cons,jq,zi,jr,js,List.range_succ,jt,xk,ju,xm,↓yh,↓yi,↓qt,↓y6,↓qu,↓qa,↓yj,↓yk,↓qv,↓qw,↓qx,↓qy,↓qb,↓qz,qc,ww,xn,jv,jw,yl,qd,qe,zj,wx,y7,jx,xp,xq,keq,y8,wy,qf,y9,ym,xr,jy,jz,xt,j0,wz,ja,j1,xu,xv,xw,jb,q5,q6,yn,q7,j2,Option.map_some,yo,qg,q8,q9,qh,ya,xx,yb,yp,yc,xy,w5,xz,x5,w6,jc,x6,Op.operands,Call.operands,yd,qi,w7,AObj.live]
end Go.Proofs.YtblejchodicaoaaGreatDoor.Eng

/-
  DERIVED: THE SHELF's CONTRACTS AT THIS DUMP, IN PLAIN WORDS (tools/lay-plain.mjs out of 'YtblejchodicaoaaGreatDoorShelf.lean', which tools/lay-shelf.mjs wrote): THE SAME DECLARATIONS UNDER THE SAME NAMES: 'import', 'namespace', 'open', 'def', 'theorem' AND NOTHING ELSE: no command of the shelf's: FOR A HAND-IN. Each laying: the table of numbers ('.._ren') and one theorem, a field a fact of the dump's own or the kernel's comparison; each contract: ONE APPLICATION.
-/
namespace Go.Proofs
open Go.Shelf
def Tryz.lays156_ren : Go.Shelf.Ren := ⟨fun | 156 => 101 | 165 => 129 | 166 => 128 | 169 => 107 | 240 => 160 | 241 => 161 | 276 => 190 | 277 => 191 | n => n, fun | 31 => 142 | 9 => 9 | 3 => 3 | 4 => 4 | 0 => 0 | 20 => 20 | 72 => 139 | 76 => 182 | 70 => 137 | 37 => 35 | 75 => 181 | 127 => 194 | 164 => 230 | 5 => 5 | 80 => 151 | n => n, fun | n => n⟩
theorem Tryz.lays156 : Go.Proofs.Lays.n156 Tryz.prog Tryz.lays156_ren := {
  mixed := by kernel_rfl
  f156 := Tryz.func101.trans (congrArg some (by kernel_rfl))
  f165 := Tryz.func129.trans (congrArg some (by kernel_rfl))
  f166 := Tryz.func128.trans (congrArg some (by kernel_rfl))
  f169 := Tryz.func107.trans (congrArg some (by kernel_rfl))
  f240 := Tryz.func160.trans (congrArg some (by kernel_rfl))
  f241 := Tryz.func161.trans (congrArg some (by kernel_rfl))
  f276 := Tryz.func190.trans (congrArg some (by kernel_rfl))
  f277 := Tryz.func191.trans (congrArg some (by kernel_rfl))
  t0 := Tryz.underlying0
  a0 := Tryz.isAgg0
  z0 := Tryz.sizeOf0
  v0 := Tryz.zeroValue0
  t3 := Tryz.underlying3
  a3 := Tryz.isAgg3
  z3 := Tryz.sizeOf3
  v3 := Tryz.zeroValue3
  t4 := Tryz.underlying4
  a4 := Tryz.isAgg4
  z4 := Tryz.sizeOf4
  v4 := Tryz.zeroValue4
  t9 := Tryz.underlying9
  a9 := Tryz.isAgg9
  z9 := Tryz.sizeOf9
  v9 := Tryz.zeroValue9
  t20 := Tryz.underlying20
  a20 := Tryz.isAgg20
  z20 := Tryz.sizeOf20
  v20 := Tryz.zeroValue20
  t31 := Tryz.underlying142
  a31 := Tryz.isAgg142
  z31 := Tryz.sizeOf142
  v31 := Tryz.zeroValue142
  t37 := Tryz.underlying35
  a37 := Tryz.isAgg35
  z37 := Tryz.sizeOf35
  v37 := Tryz.zeroValue35
  t70 := Tryz.underlying137
  a70 := Tryz.isAgg137
  z70 := Tryz.sizeOf137
  v70 := Tryz.zeroValue137
  t72 := Tryz.underlying139
  a72 := Tryz.isAgg139
  z72 := Tryz.sizeOf139
  v72 := Tryz.zeroValue139
  t75 := Tryz.underlying181
  a75 := Tryz.isAgg181
  z75 := Tryz.sizeOf181
  v75 := Tryz.zeroValue181
  t76 := Tryz.underlying182
  a76 := Tryz.isAgg182
  z76 := Tryz.sizeOf182
  v76 := Tryz.zeroValue182
  t127 := Tryz.underlying194
  a127 := Tryz.isAgg194
  z127 := Tryz.sizeOf194
  v127 := Tryz.zeroValue194
  t164 := Tryz.underlying230
  a164 := Tryz.isAgg230
  z164 := Tryz.sizeOf230
  v164 := Tryz.zeroValue230 }
theorem Tryz.Builder_Extra_156 : Builder.Extra Tryz.prog Tryz.lays156_ren := {
  sizeBuilder := by kernel_rfl
  liesBuilder := by kernel_rfl
  t5 := Tryz.underlying5
  a5 := Tryz.isAgg5
  z5 := Tryz.sizeOf5
  v5 := Tryz.zeroValue5
  infoByte := by kernel_rfl
  cellsByte := by kernel_rfl
  sizeByte := by kernel_rfl
  neB5 := by decide }
open Go.RowKit in
/-- No element: the empty string; the world is as it was. (Whatever the slice's address and capacity: a nil slice too.) (LAID: no walk: one application.) -/
theorem Tryz.strings_Join_none (a : Option Addr) (c : Nat) (sep : ByteArray) (w : World) :
    Calls Tryz.prog 101 #[.slice a 0 c, .string sep] w fun e w' => e = .returned (.string ⟨#[]⟩) ∧ w' = w := Any.strings_Join_none Tryz.lays156 Tryz.Builder_Extra_156 a c sep w
open Go.RowKit in
/-- strings.Join: "Join concatenates the elements of its first argument to create a single string. The separator string sep is placed between elements in the resulting string.": HOWEVER MANY ELEMENTS. Below the heap's end the world is as it was. (LAID: no walk: one application.) -/
theorem Tryz.strings_Join (bk o c : Nat) (xs : List ByteArray) (sep : ByteArray) (w : World) (hcells : ∀ (j : Nat) x, xs[j]? = some x → w.cell? ⟨bk, o + j, none⟩ = some (.string x)) (hbk : bk < w.heap.size) (hN : xs.length ≤ 140737488355328) (hcap : xs.length ≤ c) (hlen : (Lib.join (xs.map (·.data.toList)) sep.data.toList).length ≤ 140737488355328) :
    Calls Tryz.prog 101 #[.slice (some ⟨bk, o, none⟩) xs.length c, .string sep] w fun e w' => e = .returned (.string ⟨(Lib.join (xs.map (·.data.toList)) sep.data.toList).toArray⟩) ∧ Below w.heap.size w w' := Any.strings_Join Tryz.lays156 Tryz.Builder_Extra_156 bk o c xs sep w hcells hbk hN hcap hlen
def Tryz.laysM173_ren : Go.Shelf.Ren := ⟨fun | 173 => 105 | 246 => 133 | 283 => 162 | 284 => 163 | 285 => 164 | 286 => 165 | 129 => 193 | 317 => 192 | 318 => 194 | 319 => 195 | 320 => 196 | 337 => 203 | 338 => 204 | n => n, fun | 2 => 2 | 3 => 3 | 9 => 9 | 4 => 4 | 171 => 206 | 0 => 0 | 53 => 22 | 37 => 35 | 5 => 5 | 173 => 209 | 212 => 234 | 51 => 119 | 20 => 20 | 213 => 235 | 46 => 152 | 232 => 244 | 233 => 245 | n => n, fun | 17 => 2 | 18 => 4 | 19 => 5 | n => n⟩
theorem Tryz.laysM173 : Go.Proofs.LaysM.n173 Tryz.prog Tryz.laysM173_ren := {
  mixed := by kernel_rfl
  f129 := Tryz.func193.trans (congrArg some (by kernel_rfl))
  f173 := Tryz.func105.trans (congrArg some (by kernel_rfl))
  f246 := Tryz.func133.trans (congrArg some (by kernel_rfl))
  f283 := Tryz.func162.trans (congrArg some (by kernel_rfl))
  f284 := Tryz.func163.trans (congrArg some (by kernel_rfl))
  f285 := Tryz.func164.trans (congrArg some (by kernel_rfl))
  f286 := Tryz.func165.trans (congrArg some (by kernel_rfl))
  f317 := Tryz.func192.trans (congrArg some (by kernel_rfl))
  f318 := Tryz.func194.trans (congrArg some (by kernel_rfl))
  f319 := Tryz.func195.trans (congrArg some (by kernel_rfl))
  f320 := Tryz.func196.trans (congrArg some (by kernel_rfl))
  f337 := Tryz.func203.trans (congrArg some (by kernel_rfl))
  f338 := Tryz.func204.trans (congrArg some (by kernel_rfl))
  t0 := Tryz.underlying0
  a0 := Tryz.isAgg0
  z0 := Tryz.sizeOf0
  v0 := Tryz.zeroValue0
  t2 := Tryz.underlying2
  a2 := Tryz.isAgg2
  z2 := Tryz.sizeOf2
  v2 := Tryz.zeroValue2
  t3 := Tryz.underlying3
  a3 := Tryz.isAgg3
  z3 := Tryz.sizeOf3
  v3 := Tryz.zeroValue3
  t4 := Tryz.underlying4
  a4 := Tryz.isAgg4
  z4 := Tryz.sizeOf4
  v4 := Tryz.zeroValue4
  t5 := Tryz.underlying5
  a5 := Tryz.isAgg5
  z5 := Tryz.sizeOf5
  v5 := Tryz.zeroValue5
  t9 := Tryz.underlying9
  a9 := Tryz.isAgg9
  z9 := Tryz.sizeOf9
  v9 := Tryz.zeroValue9
  t20 := Tryz.underlying20
  a20 := Tryz.isAgg20
  z20 := Tryz.sizeOf20
  v20 := Tryz.zeroValue20
  t37 := Tryz.underlying35
  a37 := Tryz.isAgg35
  z37 := Tryz.sizeOf35
  v37 := Tryz.zeroValue35
  t46 := Tryz.underlying152
  a46 := Tryz.isAgg152
  z46 := Tryz.sizeOf152
  v46 := Tryz.zeroValue152
  t51 := Tryz.underlying119
  a51 := Tryz.isAgg119
  z51 := Tryz.sizeOf119
  v51 := Tryz.zeroValue119
  t53 := Tryz.underlying22
  a53 := Tryz.isAgg22
  z53 := Tryz.sizeOf22
  v53 := Tryz.zeroValue22
  t171 := Tryz.underlying206
  a171 := Tryz.isAgg206
  z171 := Tryz.sizeOf206
  v171 := Tryz.zeroValue206
  t173 := Tryz.underlying209
  a173 := Tryz.isAgg209
  z173 := Tryz.sizeOf209
  v173 := Tryz.zeroValue209
  t212 := Tryz.underlying234
  a212 := Tryz.isAgg234
  z212 := Tryz.sizeOf234
  v212 := Tryz.zeroValue234
  t213 := Tryz.underlying235
  a213 := Tryz.isAgg235
  z213 := Tryz.sizeOf235
  t232 := Tryz.underlying244
  a232 := Tryz.isAgg244
  z232 := Tryz.sizeOf244
  v232 := Tryz.zeroValue244
  t233 := Tryz.underlying245
  a233 := Tryz.isAgg245
  z233 := Tryz.sizeOf245
  v233 := Tryz.zeroValue245
  g17 := by kernel_rfl
  g18 := by kernel_rfl
  g19 := by kernel_rfl
  i0 := by kernel_rfl
  i2 := by kernel_rfl
  i3 := by kernel_rfl
  i4 := by kernel_rfl
  i5 := by kernel_rfl
  i9 := by kernel_rfl
  i20 := by kernel_rfl
  i37 := by kernel_rfl
  i46 := by kernel_rfl
  i51 := by kernel_rfl
  i53 := by kernel_rfl
  i171 := by kernel_rfl
  i173 := by kernel_rfl
  i212 := by kernel_rfl
  i232 := by kernel_rfl
  i233 := by kernel_rfl
  m17 := by kernel_rfl
  m18 := by kernel_rfl
  m19 := by kernel_rfl }
open Go.RowKit Go.Sort Go.Lib in
/-- strconv.FormatInt: "FormatInt returns the string representation of i in the given base": AT BASE 10: i's decimal numeral, for every int64. (LAID: no walk: one application.) -/
theorem Tryz.strconv_FormatInt_10 (n : Int) (h0 : -9223372036854775808 ≤ n) (h1 : n ≤ 9223372036854775807) (w : World) (htab : Lib.TabIs Tryz.prog w "internal/strconv.uint64pow10" .u64 Lib.pow10Tab) :
    Calls Tryz.prog 105 #[.int .i64 n, .int .i64 10] w fun e w' => e = .returned (.string ⟨(Lib.itoa n).toArray⟩) ∧ ∃ k os, w' = grow (w.drewN k) os := Any.strconv_FormatInt_10 Tryz.laysM173 n h0 h1 w htab
def Tryz.lays197_ren : Go.Shelf.Ren := ⟨fun | 197 => 167 | 260 => 197 | n => n, fun | 9 => 9 | 21 => 21 | 3 => 3 | 4 => 4 | 5 => 5 | 105 => 212 | 119 => 226 | 0 => 0 | 46 => 152 | 139 => 229 | 138 => 228 | n => n, fun | 3 => 0 | 4 => 1 | n => n⟩
theorem Tryz.lays197 : Go.Proofs.Lays.n197 Tryz.prog Tryz.lays197_ren := {
  mixed := by kernel_rfl
  f197 := Tryz.func167.trans (congrArg some (by kernel_rfl))
  f260 := Tryz.func197.trans (congrArg some (by kernel_rfl))
  t0 := Tryz.underlying0
  a0 := Tryz.isAgg0
  z0 := Tryz.sizeOf0
  v0 := Tryz.zeroValue0
  t3 := Tryz.underlying3
  a3 := Tryz.isAgg3
  z3 := Tryz.sizeOf3
  v3 := Tryz.zeroValue3
  t4 := Tryz.underlying4
  a4 := Tryz.isAgg4
  z4 := Tryz.sizeOf4
  v4 := Tryz.zeroValue4
  t5 := Tryz.underlying5
  a5 := Tryz.isAgg5
  z5 := Tryz.sizeOf5
  v5 := Tryz.zeroValue5
  t9 := Tryz.underlying9
  a9 := Tryz.isAgg9
  z9 := Tryz.sizeOf9
  v9 := Tryz.zeroValue9
  t21 := Tryz.underlying21
  a21 := Tryz.isAgg21
  z21 := Tryz.sizeOf21
  v21 := Tryz.zeroValue21
  t46 := Tryz.underlying152
  a46 := Tryz.isAgg152
  z46 := Tryz.sizeOf152
  v46 := Tryz.zeroValue152
  t105 := Tryz.underlying212
  a105 := Tryz.isAgg212
  z105 := Tryz.sizeOf212
  v105 := Tryz.zeroValue212
  t119 := Tryz.underlying226
  a119 := Tryz.isAgg226
  z119 := Tryz.sizeOf226
  t138 := Tryz.underlying228
  a138 := Tryz.isAgg228
  z138 := Tryz.sizeOf228
  v138 := Tryz.zeroValue228
  t139 := Tryz.underlying229
  a139 := Tryz.isAgg229
  z139 := Tryz.sizeOf229
  v139 := Tryz.zeroValue229
  g3 := by kernel_rfl
  g4 := by kernel_rfl }
open Go.RowKit Go.Lib in
/-- **unicode/utf8.DecodeRuneInString AT EVERY STRING.** (LAID: no walk: one application.) -/
theorem Tryz.utf8_DecodeRuneInString (s : ByteArray) (w : World) (hT : Lib.Utf8Tabs 0 1 w) :
    Calls Tryz.prog 167 #[.string s] w fun e w' => e = .returned (.tuple #[.int .i32 (Lib.decodeGo s).1, .int .i64 (Lib.decodeGo s).2]) ∧ Below w.heap.size w w' := Any.utf8_DecodeRuneInString Tryz.lays197 s w hT
def Tryz.lays196_ren : Go.Shelf.Ren := ⟨fun | 196 => 159 | 259 => 189 | n => n, fun | 9 => 9 | 4 => 4 | 3 => 3 | 5 => 5 | 12 => 12 | 119 => 226 | 0 => 0 | 46 => 152 | 139 => 229 | 138 => 228 | 53 => 22 | n => n, fun | 3 => 0 | 4 => 1 | n => n⟩
theorem Tryz.lays196 : Go.Proofs.Lays.n196 Tryz.prog Tryz.lays196_ren := {
  mixed := by kernel_rfl
  f196 := Tryz.func159.trans (congrArg some (by kernel_rfl))
  f259 := Tryz.func189.trans (congrArg some (by kernel_rfl))
  t0 := Tryz.underlying0
  a0 := Tryz.isAgg0
  z0 := Tryz.sizeOf0
  v0 := Tryz.zeroValue0
  t3 := Tryz.underlying3
  a3 := Tryz.isAgg3
  z3 := Tryz.sizeOf3
  v3 := Tryz.zeroValue3
  t4 := Tryz.underlying4
  a4 := Tryz.isAgg4
  z4 := Tryz.sizeOf4
  v4 := Tryz.zeroValue4
  t5 := Tryz.underlying5
  a5 := Tryz.isAgg5
  z5 := Tryz.sizeOf5
  v5 := Tryz.zeroValue5
  t9 := Tryz.underlying9
  a9 := Tryz.isAgg9
  z9 := Tryz.sizeOf9
  v9 := Tryz.zeroValue9
  t12 := Tryz.underlying12
  a12 := Tryz.isAgg12
  z12 := Tryz.sizeOf12
  v12 := Tryz.zeroValue12
  t46 := Tryz.underlying152
  a46 := Tryz.isAgg152
  z46 := Tryz.sizeOf152
  v46 := Tryz.zeroValue152
  t53 := Tryz.underlying22
  a53 := Tryz.isAgg22
  z53 := Tryz.sizeOf22
  v53 := Tryz.zeroValue22
  t119 := Tryz.underlying226
  a119 := Tryz.isAgg226
  z119 := Tryz.sizeOf226
  t138 := Tryz.underlying228
  a138 := Tryz.isAgg228
  z138 := Tryz.sizeOf228
  v138 := Tryz.zeroValue228
  t139 := Tryz.underlying229
  a139 := Tryz.isAgg229
  z139 := Tryz.sizeOf229
  v139 := Tryz.zeroValue229
  g3 := by kernel_rfl
  g4 := by kernel_rfl }
open Go.RowKit Go.Lib in
theorem Tryz.utf8_ValidString (s : ByteArray) (w : World) (hs : s.size ≤ 9223372036854775807) (hT : Lib.Utf8Tabs 0 1 w) :
    Calls Tryz.prog 159 #[.string s] w fun e w' => e = .returned (.bool (Lib.validD s.data.toList)) ∧ Below w.heap.size w w' := Any.utf8_ValidString Tryz.lays196 s w hs hT
end Go.Proofs

/-
  TIES: what the package's variables hold; contracts of Go's library taken in; how a contract is made. Own work.
-/
namespace Go.Proofs.YtblejchodicaoaaGreatDoor.Eng
open Go Go.RowKit
set_option maxRecDepth 100000
set_option linter.unusedSimpArgs false

def firstC : List D := (List.range 256).map fun c => .int .u8 (Lib.firstT c : Nat)
def acceptC : List D := (List.range 32).map fun j => .int .u8 ((if j % 2 = 0 then Lib.accLo (j / 2) else Lib.accHi (j / 2) : Nat) : Int)
def powC : List D := Lib.pow10Tab.map fun z => .int .u64 z
def GU : Globs := [(0, firstC), (1, acceptC), (2, powC)]

theorem tabs_of {w : World} {st : Nat → Prop} (h : GG w st GU) : Lib.Utf8Tabs 0 1 w := by
  constructor
  · intro c hc
    obtain ⟨_, hg, _⟩ := h 0 firstC (by simp [GU])
    obtain ⟨u, hu, hd⟩ := GDs.get (i := c) (x := .int .u8 (Lib.firstT c : Nat)) hg (by simp [firstC, hc])
    simp only [GD] at hd
    subst hd
    simpa using hu
  · intro i hi
    obtain ⟨_, hg, _⟩ := h 1 acceptC (by simp [GU])
    have e1 : 2 * i % 2 = 0 := by omega
    have e2 : 2 * i / 2 = i := by omega
    have e3 : ¬ (2 * i + 1) % 2 = 0 := by omega
    have e4 : (2 * i + 1) / 2 = i := by omega
    have a1 : acceptC[2 * i]? = some (.int .u8 (Lib.accLo i : Nat)) := by
      rw [acceptC, List.getElem?_map, List.getElem?_range (by omega)]
      simp only [Option.map_some, e1, e2, if_true]
    have a2 : acceptC[2 * i + 1]? = some (.int .u8 (Lib.accHi i : Nat)) := by
      rw [acceptC, List.getElem?_map, List.getElem?_range (by omega)]
      simp only [Option.map_some, e3, e4, if_false]
    obtain ⟨u, hu, hd⟩ := GDs.get (i := 2 * i) hg a1
    obtain ⟨u2, hu2, hd2⟩ := GDs.get (i := 2 * i + 1) hg a2
    simp only [GD] at hd hd2
    subst hd hd2
    exact ⟨by simpa using hu, by simpa using hu2⟩
theorem pow_of {w : World} {st : Nat → Prop} (h : GG w st GU) : Lib.TabIs Tryz.prog w "internal/strconv.uint64pow10" .u64 Lib.pow10Tab := by
  obtain ⟨_, hg, hc⟩ := h 2 powC (by simp [GU])
  have hn : Tryz.prog.globalNamed "internal/strconv.uint64pow10" = some 2 := by kernel_rfl
  have hcell : ∀ (i : Nat) (z : Int), Lib.pow10Tab[i]? = some z → w.cell? ⟨2, i, none⟩ = some (.int .u64 z) := by
    intro i z hz
    obtain ⟨u, hu, hd⟩ := GDs.get (i := i) (x := .int .u64 z) hg (by simp [powC, hz])
    simp only [GD] at hd
    subst hd
    simpa using hu
  have h0 := hcell 0 1 (by decide)
  unfold csize at hc
  unfold World.cell? at h0 hcell
  unfold Lib.TabIs World.var?
  rw [hn]
  simp only [Option.bind_some]
  cases hh : w.heap[2]? with
  | none => rw [hh] at h0; simp at h0
  | some o =>
    cases o with
    | cells c t fr =>
      simp only [hh] at hc hcell ⊢
      congr 1
      apply Array.toList_inj.1
      apply List.ext_getElem?
      intro i
      have hlen : powC.length = Lib.pow10Tab.length := by simp [powC]
      by_cases hi : i < Lib.pow10Tab.length
      · have h1 := hcell i Lib.pow10Tab[i] (by simp [hi])
        simp only [Array.getElem?_toList, List.getElem?_map, List.getElem?_eq_getElem hi, Option.map_some]
        simpa using h1
      · rw [List.getElem?_eq_none (by simp; omega), List.getElem?_eq_none (by simp; omega)]
    | _ => rw [hh] at h0; simp at h0

/-- A walk of the engine's, as a fact on calls. -/
theorem mk {f : FuncId} {args : List AV} {σ σ' : List AObj} {out : Out} (tbl : Tbl) (fz : Bool) {C : Oracle} (hC : COk Tryz.prog GU C) (hg : gfun Tryz.prog (tchk tbl) f = true) (h : abody Tryz.prog [] C (mach Tryz.prog C tbl) fz f args σ = some (out, σ')) : Meets Tryz.prog GU f args σ out σ' :=
  body_meets (by kernel_rfl) (fun _ _ h => by cases h) hC tbl fz hg h

/-- A contract whose arguments tell what it is a call of. -/
def ctI {P : Program} {G : Globs} (f : FuncId) (lt : f < yId) {T : Type} (Q : T → Prop) (args : T → List AV) (σ : T → List AObj) (out : T → Out) (σ' : T → List AObj) (full : ∀ a, fAs (args a) = true)
    (inj : ∀ a b, nAs (args a) = nAs (args b) → σ a = σ b → a = b) (meets : ∀ a, Q a → Meets P G f (args a) (σ a) (out a) (σ' a)) : Ct P G where
  f := f
  lt := lt
  α := { a : T // Q a }
  args := fun a => args a.1
  σ := fun a => σ a.1
  out := fun a => out a.1
  σ' := fun a => σ' a.1
  full := fun a => full a.1
  det := fun a b h1 h2 => by
    obtain rfl : a = b := Subtype.ext (inj a.1 b.1 h1 h2)
    exact ⟨rfl, rfl⟩
  meets := fun a => meets a.1 a.2
theorem octs_nx {P : Program} {G : Globs} {c : Ct P G} {r : List (Ct P G)} {f : FuncId} {args : List AV} {σ : List AObj} (hf : Nat.beq f c.f = false) : octs (c :: r) f args σ = octs r f args σ := octs_next (Nat.ne_of_beq_eq_false hf)
theorem orcs_nx {P : Program} {G : Globs} {c : Ctr P G} {r : List (Ctr P G)} {f : FuncId} {args : List AV} {σ : List AObj} (hf : Nat.beq f c.f = false) : orcs (c :: r) f args σ = orcs r f args σ := orcs_next c r (Nat.ne_of_beq_eq_false hf)
abbrev CtU := Ct Tryz.prog GU
theorem inj_s (a b : List UInt8) (h : nAs [.d (.str a)] = nAs [.d (.str b)]) (_ : ([] : List AObj) = []) : a = b := by simpa [nAs, nA, nD] using h
theorem inj_v (a b : V) (h : nAs [avV a] = nAs [avV b]) (_ : ([] : List AObj) = []) : a = b := by
  simp only [nAs, List.cons.injEq, and_true] at h
  exact nav_inj h
theorem full_v (a : V) : fAs [avV a] = true := by simp [fAs, fav]

theorem dec_eq (s : List UInt8) (h : s ≠ []) : Lib.decodeGo ⟨s.toArray⟩ = decU s := by
  unfold Lib.decodeGo decU Lib.decodeL
  rw [if_neg (by simpa [ByteArray.size] using h)]

def cValidString : CtU := ctI 159 (by decide) (fun s : List UInt8 => s.length ≤ 1152921504606846976) (fun s => [.d (.str s)]) (fun _ => []) (fun s => .ret (.d (.bool (validU s)))) (fun _ => []) (fun _ => rfl) inj_s
  fun s hs => meets_of_calls fun pr w β vs I hGG hg => by
    simp only [GVl, GV, GD] at hg
    obtain ⟨v, r, rfl, rfl, rfl⟩ := hg
    refine Calls.mono (Tryz.utf8_ValidString ⟨s.toArray⟩ w (by simp [ByteArray.size]; omega) (tabs_of hGG)) fun e w' he => ?_
    obtain ⟨rfl, hb⟩ := he
    exact ⟨hb.size, hb.block, hb.os, hb.tape, hb.output, by simp [GOut, GV, GD, validU]⟩
def cDecode : CtU := ctI 167 (by decide) (fun s : List UInt8 => s ≠ []) (fun s => [.d (.str s)]) (fun _ => []) (fun s => .ret (.tup [.d (.int .i32 ((decU s).1 : Nat)), .d (.int .i64 ((decU s).2 : Nat))])) (fun _ => []) (fun _ => rfl) inj_s
  fun s hs => meets_of_calls fun pr w β vs I hGG hg => by
    simp only [GVl, GV, GD] at hg
    obtain ⟨v, r, rfl, rfl, rfl⟩ := hg
    refine Calls.mono (Tryz.utf8_DecodeRuneInString ⟨s.toArray⟩ w (tabs_of hGG)) fun e w' he => ?_
    obtain ⟨rfl, hb⟩ := he
    rw [dec_eq s hs]
    exact ⟨hb.size, hb.block, hb.os, hb.tape, hb.output, by simp [GOut, GV, GVl, GD]⟩
def cFormatInt : CtU := ctI 105 (by decide) (fun n : Int => -9223372036854775808 ≤ n ∧ n ≤ 9223372036854775807) (fun n => [.d (.int .i64 n), .d (.int .i64 10)]) (fun _ => []) (fun n => .ret (.d (.str (Lib.itoa n)))) (fun _ => []) (fun _ => rfl)
  (fun a b h _ => by simpa [nAs, nA, nD] using h)
  fun n hn => meets_of_calls fun pr w β vs I hGG hg => by
    simp only [GVl, GV, GD] at hg
    obtain ⟨v, r, rfl, rfl, v2, r2, rfl, rfl, rfl⟩ := hg
    refine Calls.mono (Tryz.strconv_FormatInt_10 n hn.1 hn.2 w (pow_of hGG)) fun e w' he => ?_
    obtain ⟨rfl, k, os, rfl⟩ := he
    refine ⟨?_, ?_, rfl, rfl, rfl, by simp [GOut, GV, GD, sval]⟩
    · simp [Go.Sort.grow, World.drewN]
    · intro b hb
      simp [Go.Sort.grow, World.drewN, Array.getElem?_append, hb]
end Go.Proofs.YtblejchodicaoaaGreatDoor.Eng

/-
  CONTRACTS: utf8.AppendRune, Builder.WriteRune, for runes that are ones. Own work.
-/
namespace Go.Proofs.YtblejchodicaoaaGreatDoor.Eng
open Go Go.RowKit
set_option maxRecDepth 100000
set_option linter.unusedSimpArgs false
set_option maxHeartbeats 2000000

theorem ab_and63 {n : Nat} (h : n < 256) : abits .and .u8 (n : Int) 63 = some ((n % 64 : Nat) : Int) := (by decide +kernel : ∀ m : Fin 256, abits .and .u8 ((m.val : Nat) : Int) 63 = some ((m.val % 64 : Nat) : Int)) ⟨n, h⟩
theorem ab_or128 {n : Nat} (h : n < 64) : abits .or .u8 128 (n : Int) = some ((128 + n : Nat) : Int) := (by decide +kernel : ∀ m : Fin 64, abits .or .u8 128 ((m.val : Nat) : Int) = some ((128 + m.val : Nat) : Int)) ⟨n, h⟩
theorem ab_or192 {n : Nat} (h : n < 32) : abits .or .u8 192 (n : Int) = some ((192 + n : Nat) : Int) := (by decide +kernel : ∀ m : Fin 32, abits .or .u8 192 ((m.val : Nat) : Int) = some ((192 + m.val : Nat) : Int)) ⟨n, h⟩
theorem ab_or224 {n : Nat} (h : n < 16) : abits .or .u8 224 (n : Int) = some ((224 + n : Nat) : Int) := (by decide +kernel : ∀ m : Fin 16, abits .or .u8 224 ((m.val : Nat) : Int) = some ((224 + m.val : Nat) : Int)) ⟨n, h⟩
theorem ab_or240 {n : Nat} (h : n < 8) : abits .or .u8 240 (n : Int) = some ((240 + n : Nat) : Int) := (by decide +kernel : ∀ m : Fin 8, abits .or .u8 240 ((m.val : Nat) : Int) = some ((240 + m.val : Nat) : Int)) ⟨n, h⟩
theorem sh6 (r : Nat) : ashift .shr .i32 (r : Int) 6 = some (.int .i32 ((r / 64 : Nat) : Int)) := by
  simp [ashift, IntKind.bits, Int.fdiv_eq_ediv_of_nonneg]
theorem sh12 (r : Nat) : ashift .shr .i32 (r : Int) 12 = some (.int .i32 ((r / 4096 : Nat) : Int)) := by
  simp [ashift, IntKind.bits, Int.fdiv_eq_ediv_of_nonneg]
theorem sh18 (r : Nat) : ashift .shr .i32 (r : Int) 18 = some (.int .i32 ((r / 262144 : Nat) : Int)) := by
  simp [ashift, IntKind.bits, Int.fdiv_eq_ediv_of_nonneg]
theorem wu8 (n : Nat) : IntKind.u8.wrap (n : Int) = ((n % 256 : Nat) : Int) := by simp [IntKind.wrap, IntKind.bits, IntKind.signed]
theorem nu8 {n : Nat} (h : n < 256) : (UInt8.ofNat n).toNat = n := UInt8.toNat_ofNat_of_lt' h
def byC (n : Nat) : List D := [.int .u8 (n : Int)]
theorem byC_of {n : Nat} (h : n < 256) : ([.int .u8 ((UInt8.ofNat n).toNat : Int)] : List D) = [.int .u8 (n : Int)] := by rw [nu8 h]

theorem enc1 {r : Nat} (h : r < 128) : Lib.encodeRune r = [UInt8.ofNat r] := by unfold Lib.encodeRune; rw [Lib.encodeRuneZ_one (by omega) (by omega)]; simp
theorem enc2 {r : Nat} (h0 : 128 ≤ r) (h : r < 2048) : Lib.encodeRune r = [UInt8.ofNat (192 + r / 64), UInt8.ofNat (128 + r % 64)] := by
  unfold Lib.encodeRune
  rw [Lib.encodeRuneZ_two (by omega) (by omega)]
  have e1 : (192 + (r : Int) / 64).toNat = 192 + r / 64 := by omega
  have e2 : (128 + (r : Int) % 64).toNat = 128 + r % 64 := by omega
  simp [e1, e2]
theorem enc3 {r : Nat} (h0 : 2048 ≤ r) (h : r < 65536) (hs : r < 55296 ∨ 57344 ≤ r) : Lib.encodeRune r = [UInt8.ofNat (224 + r / 4096), UInt8.ofNat (128 + r / 64 % 64), UInt8.ofNat (128 + r % 64)] := by
  unfold Lib.encodeRune
  rw [Lib.encodeRuneZ_three (by omega)]
  have e1 : (224 + (r : Int) / 4096).toNat = 224 + r / 4096 := by omega
  have e2 : (128 + (r : Int) / 64 % 64).toNat = 128 + r / 64 % 64 := by omega
  have e3 : (128 + (r : Int) % 64).toNat = 128 + r % 64 := by omega
  simp [e1, e2, e3]
theorem enc4 {r : Nat} (h0 : 65536 ≤ r) (h : r ≤ 1114111) : Lib.encodeRune r = [UInt8.ofNat (240 + r / 262144), UInt8.ofNat (128 + r / 4096 % 64), UInt8.ofNat (128 + r / 64 % 64), UInt8.ofNat (128 + r % 64)] := by
  unfold Lib.encodeRune
  rw [Lib.encodeRuneZ_four (by omega) (by omega)]
  have e0 : (240 + (r : Int) / 262144).toNat = 240 + r / 262144 := by omega
  have e1 : (128 + (r : Int) / 4096 % 64).toNat = 128 + r / 4096 % 64 := by omega
  have e2 : (128 + (r : Int) / 64 % 64).toNat = 128 + r / 64 % 64 := by omega
  have e3 : (128 + (r : Int) % 64).toNat = 128 + r % 64 := by omega
  simp [e0, e1, e2, e3]

/-- Bytes of one's own, none yet or some. -/
def byA (l : List UInt8) : AV := if l = [] then .d .nils else .sl 0 1 0 l.length
def byS (l : List UInt8) : List AObj := if l = [] then [] else [brow l]
def byA' (l x : List UInt8) : AV := if l = [] then .sl 0 1 0 x.length else .sl 1 1 0 (l.length + x.length)
def byS' (l x : List UInt8) : List AObj := if l = [] then [brow x] else [.gone, brow (l ++ x)]

theorem b_appendNA (C : Oracle) (l : List UInt8) (hl : l.length + 4 ≤ 140737488355328) (r : Nat) (h0 : 128 ≤ r) (h : r < 55296 ∨ (57344 ≤ r ∧ r ≤ 1114111)) :
    abody Tryz.prog [] C (mach Tryz.prog C {}) false 198 [byA l, .d (.int .i32 r)] (byS l) = some (.ret (byA' l (Lib.encodeRune r)), byS' l (Lib.encodeRune r)) := by
  have hw : IntKind.u32.wrap (r : Int) = r := IntWalk.u32_in _ (by omega)
  have h2 : ∀ K : Nat, 140737488355328 ≤ K → (l.length + 2 ≤ K) = True := by intro K hK; simp; omega
  have h3 : ∀ K : Nat, 140737488355328 ≤ K → (l.length + 3 ≤ K) = True := by intro K hK; simp; omega
  have h4 : ∀ K : Nat, 140737488355328 ≤ K → (l.length + 4 ≤ K) = True := by intro K hK; simp; omega
  have s6 := sh6 r
  have s12 := sh12 r
  have s18 := sh18 r
  have w0 := wu8 r
  have w1 := wu8 (r / 64)
  have w2 := wu8 (r / 4096)
  have w3 := wu8 (r / 262144)
  have a0 := @ab_and63 (r % 256) (by omega)
  have a1 := @ab_and63 (r / 64 % 256) (by omega)
  have a2 := @ab_and63 (r / 4096 % 256) (by omega)
  have m0 : r % 256 % 64 = r % 64 := by omega
  have m1 : r / 64 % 256 % 64 = r / 64 % 64 := by omega
  have m2 : r / 4096 % 256 % 64 = r / 4096 % 64 := by omega
  rw [m0] at a0
  rw [m1] at a1
  rw [m2] at a2
  have o0 := @ab_or128 (r % 64) (by omega)
  have o1 := @ab_or128 (r / 64 % 64) (by omega)
  have o2 := @ab_or128 (r / 4096 % 64) (by omega)
  have q0 := @byC_of (128 + r % 64) (by omega)
  have q1 := @byC_of (128 + r / 64 % 64) (by omega)
  have q2 := @byC_of (128 + r / 4096 % 64) (by omega)
  unfold abody
  rw [Tryz.func198]
  simp only [Tryz.f198]
  by_cases c2 : (r : Int) ≤ 2047
  · rw [enc2 h0 (by omega)]
    have p0 : r / 64 % 256 = r / 64 := by omega
    rw [p0] at w1
    have p1 := @ab_or192 (r / 64) (by omega)
    have q4 := @byC_of (192 + r / 64) (by omega)
    clear a1 a2 o1 o2 q1 q2 m1 m2 w2 w3 s12 s18 p0
    generalize r / 64 = A at *
    generalize r % 256 = B at *
    generalize r % 64 = E at *
    generalize hx1 : UInt8.ofNat (128 + E) = x1 at *
    generalize hx4 : UInt8.ofNat (192 + A) = x4 at *
    simp at q0 q4
    rcases Decidable.em (l = []) with e | e <;> simp -implicitDefEqProofs [byA, byS, byA', byS', brow, hw, c2, e, h2, s6, w0, w1, p1, a0, o0, q0, q4, IntWalk.i64_in,IntWalk.u64_in,IntWalk.u8_in,IntWalk.i32_in,IntWalk.u32_in,ye,zk,zm,qj,qk,qm,qn,zb,zc,zn,zp,zq,qo,zd,ze,zr,zt,zu,j3,x7,zw,zf,za,zx,qp,zy,zg,zz,z6,qq,zh,yf,qr,aop,yq,j4,j5,x8,x9,jd,j6,j7,wb,je,j8,yr,j9,wg,jf,jg,xa,xb,z7,jh,z8,ji,jj,yt,yu,xc,AV.one,wh,wi,aun,jk,xd,yw,afn,xe,Out.ren,xf,xg,jl,wj,xh,wl,jm,Eng.distinct,pos,wn,Eng.ren,wo,xi,wp,jo,wq,yg,xj,ws,wu,jp,frz,yx,yz,wv,List.lookup_cons,jq,zi,jr,js,List.range_succ,jt,xk,ju,xm,↓yh,↓yi,↓qt,↓y6,↓qu,↓qa,↓yj,↓yk,↓qv,↓qw,↓qx,↓qy,↓qb,↓qz,qc,ww,xn,jv,jw,yl,qd,qe,zj,wx,y7,jx,xp,xq,keq,y8,wy,qf,y9,ym,xr,jy,jz,xt,j0,wz,ja,j1,xu,xv,xw,jb,q5,q6,yn,q7,j2,Option.map_some,yo,qg,q8,q9,qh,ya,xx,yb,yp,yc,xy,w5,xz,x5,w6,jc,x6,Op.operands,Call.operands,yd,qi,w7,AObj.live]
  by_cases c3 : (r : Int) < 65536
  · rw [enc3 (by omega) (by omega) (by omega)]
    have p0 : r / 4096 % 256 = r / 4096 := by omega
    rw [p0] at w2
    have p1 := @ab_or224 (r / 4096) (by omega)
    have q4 := @byC_of (224 + r / 4096) (by omega)
    have c3' : (r : Int) ≤ 65535 := by omega
    have c56 : (r : Int) < 55296 ∨ (57343 : Int) < r := by omega
    clear a2 o2 q2 m2 w3 s18 p0
    generalize r / 4096 = F at *
    generalize r / 64 % 256 = G at *
    generalize r / 64 % 64 = H at *
    generalize r / 64 = A at *
    generalize r % 256 = B at *
    generalize r % 64 = E at *
    generalize hx1 : UInt8.ofNat (128 + E) = x1 at *
    generalize hx2 : UInt8.ofNat (128 + H) = x2 at *
    generalize hx4 : UInt8.ofNat (224 + F) = x4 at *
    simp at q0 q1 q4
    by_cases c5 : (r : Int) < 55296
    · rcases Decidable.em (l = []) with e | e <;> simp -implicitDefEqProofs [byA, byS, byA', byS', brow, hw, c2, c5, e, h3, s6, s12, w0, w1, w2, p1, a0, a1, o0, o1, q0, q1, q4, IntWalk.i64_in,IntWalk.u64_in,IntWalk.u8_in,IntWalk.i32_in,IntWalk.u32_in,ye,zk,zm,qj,qk,qm,qn,zb,zc,zn,zp,zq,qo,zd,ze,zr,zt,zu,j3,x7,zw,zf,za,zx,qp,zy,zg,zz,z6,qq,zh,yf,qr,aop,yq,j4,j5,x8,x9,jd,j6,j7,wb,je,j8,yr,j9,wg,jf,jg,xa,xb,z7,jh,z8,ji,jj,yt,yu,xc,AV.one,wh,wi,aun,jk,xd,yw,afn,xe,Out.ren,xf,xg,jl,wj,xh,wl,jm,Eng.distinct,pos,wn,Eng.ren,wo,xi,wp,jo,wq,yg,xj,ws,wu,jp,frz,yx,yz,wv,List.lookup_cons,jq,zi,jr,js,List.range_succ,jt,xk,ju,xm,↓yh,↓yi,↓qt,↓y6,↓qu,↓qa,↓yj,↓yk,↓qv,↓qw,↓qx,↓qy,↓qb,↓qz,qc,ww,xn,jv,jw,yl,qd,qe,zj,wx,y7,jx,xp,xq,keq,y8,wy,qf,y9,ym,xr,jy,jz,xt,j0,wz,ja,j1,xu,xv,xw,jb,q5,q6,yn,q7,j2,Option.map_some,yo,qg,q8,q9,qh,ya,xx,yb,yp,yc,xy,w5,xz,x5,w6,jc,x6,Op.operands,Call.operands,yd,qi,w7,AObj.live]
    · have c6 : (57343 : Int) < r := by omega
      rcases Decidable.em (l = []) with e | e <;> simp -implicitDefEqProofs [byA, byS, byA', byS', brow, hw, c2, c5, c6, c3', e, h3, s6, s12, w0, w1, w2, p1, a0, a1, o0, o1, q0, q1, q4, IntWalk.i64_in,IntWalk.u64_in,IntWalk.u8_in,IntWalk.i32_in,IntWalk.u32_in,ye,zk,zm,qj,qk,qm,qn,zb,zc,zn,zp,zq,qo,zd,ze,zr,zt,zu,j3,x7,zw,zf,za,zx,qp,zy,zg,zz,z6,qq,zh,yf,qr,aop,yq,j4,j5,x8,x9,jd,j6,j7,wb,je,j8,yr,j9,wg,jf,jg,xa,xb,z7,jh,z8,ji,jj,yt,yu,xc,AV.one,wh,wi,aun,jk,xd,yw,afn,xe,Out.ren,xf,xg,jl,wj,xh,wl,jm,Eng.distinct,pos,wn,Eng.ren,wo,xi,wp,jo,wq,yg,xj,ws,wu,jp,frz,yx,yz,wv,List.lookup_cons,jq,zi,jr,js,List.range_succ,jt,xk,ju,xm,↓yh,↓yi,↓qt,↓y6,↓qu,↓qa,↓yj,↓yk,↓qv,↓qw,↓qx,↓qy,↓qb,↓qz,qc,ww,xn,jv,jw,yl,qd,qe,zj,wx,y7,jx,xp,xq,keq,y8,wy,qf,y9,ym,xr,jy,jz,xt,j0,wz,ja,j1,xu,xv,xw,jb,q5,q6,yn,q7,j2,Option.map_some,yo,qg,q8,q9,qh,ya,xx,yb,yp,yc,xy,w5,xz,x5,w6,jc,x6,Op.operands,Call.operands,yd,qi,w7,AObj.live]
  · rw [enc4 (by omega) (by omega)]
    have p0 : r / 262144 % 256 = r / 262144 := by omega
    rw [p0] at w3
    have p1 := @ab_or240 (r / 262144) (by omega)
    have q4 := @byC_of (240 + r / 262144) (by omega)
    have c5 : ¬ (r : Int) < 55296 := by omega
    have c6 : (57343 : Int) < r := by omega
    have c7 : ¬ (r : Int) ≤ 65535 := by omega
    have c8 : (65535 : Int) < r := by omega
    have c9 : (r : Int) ≤ 1114111 := by omega
    clear p0
    generalize r / 262144 = K at *
    generalize r / 4096 % 256 = L at *
    generalize r / 4096 % 64 = N at *
    generalize r / 4096 = F at *
    generalize r / 64 % 256 = G at *
    generalize r / 64 % 64 = H at *
    generalize r / 64 = A at *
    generalize r % 256 = B at *
    generalize r % 64 = E at *
    generalize hx1 : UInt8.ofNat (128 + E) = x1 at *
    generalize hx2 : UInt8.ofNat (128 + H) = x2 at *
    generalize hx3 : UInt8.ofNat (128 + N) = x3 at *
    generalize hx4 : UInt8.ofNat (240 + K) = x4 at *
    simp at q0 q1 q2 q4
    rcases Decidable.em (l = []) with e | e <;> simp -implicitDefEqProofs [byA, byS, byA', byS', brow, hw, c2, c5, c6, c7, c8, c9, e, h4, s6, s12, s18, w0, w1, w2, w3, p1, a0, a1, a2, o0, o1, o2, q0, q1, q2, q4, IntWalk.i64_in,IntWalk.u64_in,IntWalk.u8_in,IntWalk.i32_in,IntWalk.u32_in,ye,zk,zm,qj,qk,qm,qn,zb,zc,zn,zp,zq,qo,zd,ze,zr,zt,zu,j3,x7,zw,zf,za,zx,qp,zy,zg,zz,z6,qq,zh,yf,qr,aop,yq,j4,j5,x8,x9,jd,j6,j7,wb,je,j8,yr,j9,wg,jf,jg,xa,xb,z7,jh,z8,ji,jj,yt,yu,xc,AV.one,wh,wi,aun,jk,xd,yw,afn,xe,Out.ren,xf,xg,jl,wj,xh,wl,jm,Eng.distinct,pos,wn,Eng.ren,wo,xi,wp,jo,wq,yg,xj,ws,wu,jp,frz,yx,yz,wv,List.lookup_cons,jq,zi,jr,js,List.range_succ,jt,xk,ju,xm,↓yh,↓yi,↓qt,↓y6,↓qu,↓qa,↓yj,↓yk,↓qv,↓qw,↓qx,↓qy,↓qb,↓qz,qc,ww,xn,jv,jw,yl,qd,qe,zj,wx,y7,jx,xp,xq,keq,y8,wy,qf,y9,ym,xr,jy,jz,xt,j0,wz,ja,j1,xu,xv,xw,jb,q5,q6,yn,q7,j2,Option.map_some,yo,qg,q8,q9,qh,ya,xx,yb,yp,yc,xy,w5,xz,x5,w6,jc,x6,Op.operands,Call.operands,yd,qi,w7,AObj.live]

def validR (r : Nat) : Prop := r < 55296 ∨ (57344 ≤ r ∧ r ≤ 1114111)
theorem b_appendRune (C : Oracle) (l : List UInt8) (hl : l.length + 4 ≤ 140737488355328) (r : Nat) (h : validR r)
    (h1 : 128 ≤ r → C 198 [byA l, .d (.int .i32 r)] (byS l) = some (.ret (byA' l (Lib.encodeRune r)), byS' l (Lib.encodeRune r))) :
    abody Tryz.prog [] C (mach Tryz.prog C {}) false 168 [byA l, .d (.int .i32 r)] (byS l) = some (.ret (byA' l (Lib.encodeRune r)), byS' l (Lib.encodeRune r)) := by
  have hw : IntKind.u32.wrap (r : Int) = r := IntWalk.u32_in _ (by unfold validR at h; omega)
  unfold abody
  rw [Tryz.func168]
  simp only [Tryz.f168]
  by_cases c1 : r < 128
  · have c2 : (r : Int) ≤ 127 := by omega
    have w0 := wu8 r
    rw [Nat.mod_eq_of_lt (by omega : r < 256)] at w0
    have q0 := @byC_of r (by omega)
    rw [enc1 c1]
    generalize hx : UInt8.ofNat r = x at *
    simp at q0
    have h2 : ∀ K : Nat, 140737488355328 ≤ K → (l.length + 1 ≤ K) = True := by intro K hK; simp; omega
    rcases Decidable.em (l = []) with e | e <;> simp -implicitDefEqProofs [byA, byS, byA', byS', brow, hw, w0, c2, e, h2, q0, IntWalk.i64_in,IntWalk.u64_in,IntWalk.u8_in,IntWalk.i32_in,IntWalk.u32_in,ye,zk,zm,qj,qk,qm,qn,zb,zc,zn,zp,zq,qo,zd,ze,zr,zt,zu,j3,x7,zw,zf,za,zx,qp,zy,zg,zz,z6,qq,zh,yf,qr,aop,yq,j4,j5,x8,x9,jd,j6,j7,wb,je,j8,yr,j9,wg,jf,jg,xa,xb,z7,jh,z8,ji,jj,yt,yu,xc,AV.one,wh,wi,aun,jk,xd,yw,afn,xe,Out.ren,xf,xg,jl,wj,xh,wl,jm,Eng.distinct,pos,wn,Eng.ren,wo,xi,wp,jo,wq,yg,xj,ws,wu,jp,frz,yx,yz,wv,List.lookup_cons,jq,zi,jr,js,List.range_succ,jt,xk,ju,xm,↓yh,↓yi,↓qt,↓y6,↓qu,↓qa,↓yj,↓yk,↓qv,↓qw,↓qx,↓qy,↓qb,↓qz,qc,ww,xn,jv,jw,yl,qd,qe,zj,wx,y7,jx,xp,xq,keq,y8,wy,qf,y9,ym,xr,jy,jz,xt,j0,wz,ja,j1,xu,xv,xw,jb,q5,q6,yn,q7,j2,Option.map_some,yo,qg,q8,q9,qh,ya,xx,yb,yp,yc,xy,w5,xz,x5,w6,jc,x6,Op.operands,Call.operands,yd,qi,w7,AObj.live]
  · have c2 : ¬ (r : Int) ≤ 127 := by omega
    have h2 := h1 (by omega)
    rcases Decidable.em (l = []) with e | e <;> (
      simp [byA, byS, byA', byS', brow, e] at h2
      simp -implicitDefEqProofs [byA, byS, byA', byS', brow, hw, c2, e, h2, IntWalk.i64_in,IntWalk.u64_in,IntWalk.u8_in,IntWalk.i32_in,IntWalk.u32_in,ye,zk,zm,qj,qk,qm,qn,zb,zc,zn,zp,zq,qo,zd,ze,zr,zt,zu,j3,x7,zw,zf,za,zx,qp,zy,zg,zz,z6,qq,zh,yf,qr,aop,yq,j4,j5,x8,x9,jd,j6,j7,wb,je,j8,yr,j9,wg,jf,jg,xa,xb,z7,jh,z8,ji,jj,yt,yu,xc,AV.one,wh,wi,aun,jk,xd,yw,afn,xe,Out.ren,xf,xg,jl,wj,xh,wl,jm,Eng.distinct,pos,wn,Eng.ren,wo,xi,wp,jo,wq,yg,xj,ws,wu,jp,frz,yx,yz,wv,List.lookup_cons,jq,zi,jr,js,List.range_succ,jt,xk,ju,xm,↓yh,↓yi,↓qt,↓y6,↓qu,↓qa,↓yj,↓yk,↓qv,↓qw,↓qx,↓qy,↓qb,↓qz,qc,ww,xn,jv,jw,yl,qd,qe,zj,wx,y7,jx,xp,xq,keq,y8,wy,qf,y9,ym,xr,jy,jz,xt,j0,wz,ja,j1,xu,xv,xw,jb,q5,q6,yn,q7,j2,Option.map_some,yo,qg,q8,q9,qh,ya,xx,yb,yp,yc,xy,w5,xz,x5,w6,jc,x6,Op.operands,Call.operands,yd,qi,w7,AObj.live])
theorem encodeRune_ne (r : Nat) : Lib.encodeRune r ≠ [] := by
  have := (Lib.encodeRuneZ_length r).1
  intro h
  unfold Lib.encodeRune at h
  rw [List.map_eq_nil_iff] at h
  rw [h] at this
  simp at this
theorem encodeRune_le (r : Nat) : (Lib.encodeRune r).length ≤ 4 := by
  have := (Lib.encodeRuneZ_length r).2
  unfold Lib.encodeRune
  simpa using this
theorem b_WriteRune (C : Oracle) (h : ∀ u l, C 160 [.ptr 0 0] (bld u l) = some (.ret (.tup []), bld true l)) (u : Bool) (l : List UInt8) (hl : l.length + 4 ≤ 140737488355328) (r : Nat)
    (h1 : C 168 [byA l, .d (.int .i32 r)] (byS l) = some (.ret (byA' l (Lib.encodeRune r)), byS' l (Lib.encodeRune r))) :
    abody Tryz.prog [] C (mach Tryz.prog C {}) false 137 [.ptr 0 0, .d (.int .i32 r)] (bld u l) = some (.ret (.tup [.d (.int .i64 (Lib.encodeRune r).length), .d .nili]), wr l (Lib.encodeRune r)) := by
  have hne := encodeRune_ne r
  have hle := encodeRune_le r
  generalize Lib.encodeRune r = q at *
  have hsub : IntKind.i64.wrap (((l.length : Nat) : Int) + (q.length : Nat) - (l.length : Nat)) = (q.length : Nat) := by rw [wrap64 (by omega) (by omega)]; omega
  have hq0 : IntKind.i64.wrap ((q.length : Nat) : Int) = (q.length : Nat) := wrap64 (by omega) (by omega)
  unfold abody
  rw [Tryz.func137]
  simp only [Tryz.f137]
  have h2 := h u l
  by_cases e : l = []
  · subst e
    simp [byA, byS, byA', byS', brow] at h1
    rcases u with _ | _ <;> (
      simp [bld] at h2
      simp -implicitDefEqProofs [bld, wr, brow, h1, h2, hne, hq0, IntWalk.i64_in,IntWalk.u64_in,IntWalk.u8_in,IntWalk.i32_in,IntWalk.u32_in,ye,zk,zm,qj,qk,qm,qn,zb,zc,zn,zp,zq,qo,zd,ze,zr,zt,zu,j3,x7,zw,zf,za,zx,qp,zy,zg,zz,z6,qq,zh,yf,qr,aop,yq,j4,j5,x8,x9,jd,j6,j7,wb,je,j8,yr,j9,wg,jf,jg,xa,xb,z7,jh,z8,ji,jj,yt,yu,xc,AV.one,wh,wi,aun,jk,xd,yw,afn,xe,Out.ren,xf,xg,jl,wj,xh,wl,jm,Eng.distinct,pos,wn,Eng.ren,wo,xi,wp,jo,wq,yg,xj,ws,wu,jp,frz,yx,yz,wv,List.lookup_cons,jq,zi,jr,js,List.range_succ,jt,xk,ju,xm,↓yh,↓yi,↓qt,↓y6,↓qu,↓qa,↓yj,↓yk,↓qv,↓qw,↓qx,↓qy,↓qb,↓qz,qc,ww,xn,jv,jw,yl,qd,qe,zj,wx,y7,jx,xp,xq,keq,y8,wy,qf,y9,ym,xr,jy,jz,xt,j0,wz,ja,j1,xu,xv,xw,jb,q5,q6,yn,q7,j2,Option.map_some,yo,qg,q8,q9,qh,ya,xx,yb,yp,yc,xy,w5,xz,x5,w6,jc,x6,Op.operands,Call.operands,yd,qi,w7,AObj.live])
  · simp [byA, byS, byA', byS', brow, e] at h1
    simp [bld, e] at h2
    simp -implicitDefEqProofs [bld, wr, brow, e, h1, h2, hne, hsub, IntWalk.i64_in,IntWalk.u64_in,IntWalk.u8_in,IntWalk.i32_in,IntWalk.u32_in,ye,zk,zm,qj,qk,qm,qn,zb,zc,zn,zp,zq,qo,zd,ze,zr,zt,zu,j3,x7,zw,zf,za,zx,qp,zy,zg,zz,z6,qq,zh,yf,qr,aop,yq,j4,j5,x8,x9,jd,j6,j7,wb,je,j8,yr,j9,wg,jf,jg,xa,xb,z7,jh,z8,ji,jj,yt,yu,xc,AV.one,wh,wi,aun,jk,xd,yw,afn,xe,Out.ren,xf,xg,jl,wj,xh,wl,jm,Eng.distinct,pos,wn,Eng.ren,wo,xi,wp,jo,wq,yg,xj,ws,wu,jp,frz,yx,yz,wv,List.lookup_cons,jq,zi,jr,js,List.range_succ,jt,xk,ju,xm,↓yh,↓yi,↓qt,↓y6,↓qu,↓qa,↓yj,↓yk,↓qv,↓qw,↓qx,↓qy,↓qb,↓qz,qc,ww,xn,jv,jw,yl,qd,qe,zj,wx,y7,jx,xp,xq,keq,y8,wy,qf,y9,ym,xr,jy,jz,xt,j0,wz,ja,j1,xu,xv,xw,jb,q5,q6,yn,q7,j2,Option.map_some,yo,qg,q8,q9,qh,ya,xx,yb,yp,yc,xy,w5,xz,x5,w6,jc,x6,Op.operands,Call.operands,yd,qi,w7,AObj.live]
end Go.Proofs.YtblejchodicaoaaGreatDoor.Eng

/-
  TIES: the builder of strings; encode.put. Own work.
-/
namespace Go.Proofs.YtblejchodicaoaaGreatDoor.Eng
open Go Go.RowKit
set_option maxRecDepth 100000
set_option linter.unusedSimpArgs false

/-- A contract by what hangs on the call alone. -/
def ctD {P : Program} {G : Globs} (f : FuncId) (lt : f < yId) {T : Type} (Q : T → Prop) (args : T → List AV) (σ : T → List AObj) (out : T → Out) (σ' : T → List AObj) (full : ∀ a, fAs (args a) = true)
    (det : ∀ a b, nAs (args a) = nAs (args b) → σ a = σ b → out a = out b ∧ σ' a = σ' b) (meets : ∀ a, Q a → Meets P G f (args a) (σ a) (out a) (σ' a)) : Ct P G where
  f := f
  lt := lt
  α := { a : T // Q a }
  args := fun a => args a.1
  σ := fun a => σ a.1
  out := fun a => out a.1
  σ' := fun a => σ' a.1
  full := fun a => full a.1
  det := fun a b h1 h2 => det a.1 b.1 h1 h2
  meets := fun a => meets a.1 a.2

theorem cells8_inj : ∀ (a b : List UInt8), (a.map fun c => ([.int .u8 c.toNat] : List D)) = (b.map fun c => [.int .u8 c.toNat]) → a = b
  | [], [], _ => rfl
  | [], _ :: _, h => by simp at h
  | _ :: _, [], h => by simp at h
  | x :: r, y :: q, h => by
    simp only [List.map_cons, List.cons.injEq, D.int.injEq, true_and, and_true] at h
    rw [cells8_inj r q h.2, UInt8.toNat_inj.1 (by omega : x.toNat = y.toNat)]
theorem brow_inj {a b : List UInt8} (h : brow a = brow b) : a = b := by
  simp only [brow, AObj.drow.injEq, and_true] at h
  exact cells8_inj a b h
theorem bld_l {u u' : Bool} {l l' : List UInt8} (h : bld u l = bld u' l') : l = l' := by
  by_cases h1 : l = [] <;> by_cases h2 : l' = []
  · rw [h1, h2]
  · rw [h1, bld_nil, bld_cons u' h2] at h; simp at h
  · rw [h2, bld_nil, bld_cons u h1] at h; simp at h
  · rw [bld_cons u h1, bld_cons u' h2] at h
    simp only [List.cons.injEq, AObj.drow.injEq, and_true] at h
    exact cells8_inj _ _ h.2

def cNoEscape : Ctr Tryz.prog GU where
  f := xId 190
  α := Nat × List AObj
  args := fun a => [.ptr 0 a.1]
  σ := fun a => a.2
  out := fun a => .ret (.ptr 0 a.1)
  σ' := fun a => a.2
  det := by
    rintro ⟨a, b⟩ ⟨c, d⟩ h1 h2
    simp only [List.cons.injEq, AV.ptr.injEq, true_and, and_true] at h1 h2
    subst h1 h2
    exact ⟨rfl, rfl⟩
  meets := by
    rintro ⟨j, σ⟩
    simp only [MeetsAt, if_neg (xId_ne _), if_pos (xId_lt _), xId_sub]
    refine ⟨_, rfl, fun pr w β vs I hGG hg => ?_⟩
    simp only [GVl] at hg
    obtain ⟨v, r, rfl, hv, rfl⟩ := hg
    refine ⟨v, w, β, ?_, I, Evo.refl _ _ _, hv⟩
    rw [run_callFunc_extern Tryz.func190 (by kernel_rfl) (by kernel_rfl) (by kernel_rfl) (e := Extern.AbiNoEscape.same) (by kernel_rfl), Lib.run_noEscape]
    rfl

theorem p0_full : fAs [.ptr 0 0] = true := rfl
def cCopyCheck : CtU := ctD 160 (by decide) (fun _ : Bool × List UInt8 => True) (fun _ => [.ptr 0 0]) (fun a => bld a.1 a.2) (fun _ => .ret (.tup [])) (fun a => bld true a.2) (fun _ => rfl)
  (fun a b _ h => ⟨rfl, by rw [bld_l h]⟩)
  fun a _ => mk {} false (orcs_ok [cNoEscape]) (by kernel_rfl) (b_copyCheck (orcs [cNoEscape]) (fun j σ => orcs_here cNoEscape [] (j, σ) rfl rfl rfl) a.1 a.2)
def cWriteString : CtU := ctD 128 (by decide) (fun a : Bool × List UInt8 × List UInt8 => a.2.1.length + a.2.2.length ≤ 140737488355328) (fun a => [.ptr 0 0, .d (.str a.2.2)]) (fun a => bld a.1 a.2.1) (fun a => .ret (.tup [.d (.int .i64 a.2.2.length), .d .nili])) (fun a => wr a.2.1 a.2.2) (fun _ => rfl)
  (fun a b h1 h2 => by
    have e1 : a.2.2 = b.2.2 := by simpa [nAs, nA, nD] using h1
    rw [e1, bld_l h2]; exact ⟨rfl, rfl⟩)
  fun a ha => mk {} false (octs_ok [cCopyCheck]) (by kernel_rfl) (b_WriteString (octs [cCopyCheck]) (fun u l => octs_here (c := cCopyCheck) ⟨(u, l), trivial⟩ rfl rfl rfl) a.1 a.2.1 a.2.2 ha)
def cWriteByte : CtU := ctD 135 (by decide) (fun a : Bool × List UInt8 × UInt8 => a.2.1.length + 1 ≤ 140737488355328) (fun a => [.ptr 0 0, .d (.int .u8 a.2.2.toNat)]) (fun a => bld a.1 a.2.1) (fun _ => .ret (.d .nili)) (fun a => wr a.2.1 [a.2.2]) (fun _ => rfl)
  (fun a b h1 h2 => by
    have e1 : a.2.2 = b.2.2 := by
      simp only [nAs, nA, nD, List.cons.injEq, AV.d.injEq, D.int.injEq, true_and, and_true] at h1
      exact UInt8.toNat_inj.1 (by omega)
    rw [e1, bld_l h2]; exact ⟨rfl, rfl⟩)
  fun a ha => mk {} false (octs_ok [cCopyCheck]) (by kernel_rfl) (b_WriteByte (octs [cCopyCheck]) (fun u l => octs_here (c := cCopyCheck) ⟨(u, l), trivial⟩ rfl rfl rfl) a.1 a.2.1 a.2.2 ha)
def cString : CtU := ctD 107 (by decide) (fun a : Bool × List UInt8 => a.2.length ≤ 140737488355328) (fun _ => [.ptr 0 0]) (fun a => bld a.1 a.2) (fun a => .ret (.d (.str a.2))) (fun a => if a.2 = [] then bld a.1 a.2 else [.box [.ptr 0 0, .sl 1 1 0 a.2.length] 139, .fz 1 (a.2.map fun b => [.int .u8 b.toNat])]) (fun _ => rfl)
  (fun a b _ h2 => by
    have e := bld_l h2
    rw [e] at h2 ⊢
    refine ⟨rfl, ?_⟩
    split
    · exact h2
    · rfl)
  fun a ha => mk {} false (none_ok _ _) (by kernel_rfl) (b_String none_ a.1 a.2 ha)

theorem byS_inj {a b : List UInt8} (h : byS a = byS b) : a = b := by
  unfold byS at h
  by_cases h1 : a = [] <;> by_cases h2 : b = []
  · rw [h1, h2]
  · rw [if_pos h1, if_neg h2] at h; cases h
  · rw [if_neg h1, if_pos h2] at h; cases h
  · rw [if_neg h1, if_neg h2] at h
    exact brow_inj (List.cons.inj h).1
theorem sl_full (o sz i n : Nat) (k : IntKind) (z : Int) : fAs [.sl o sz i n, .d (.int k z)] = true := rfl
theorem byA_ne {l : List UInt8} (h : l ≠ []) : byA l = .sl 0 1 0 l.length := if_neg h
theorem byS_ne {l : List UInt8} (h : l ≠ []) : byS l = [brow l] := if_neg h
theorem byR_det (a b : List UInt8 × Nat) (h1 : nAs [.sl 0 1 0 a.1.length, .d (.int .i32 a.2)] = nAs [.sl 0 1 0 b.1.length, .d (.int .i32 b.2)]) (h2 : [brow a.1] = [brow b.1]) : a = b := by
  obtain ⟨a1, a2⟩ := a
  obtain ⟨b1, b2⟩ := b
  have e1 := brow_inj (List.cons.inj h2).1
  simp only [nAs, nA, nD, List.cons.injEq, AV.d.injEq, D.int.injEq, true_and, and_true] at h1
  have e2 : a2 = b2 := by omega
  simp only at e1
  rw [e1, e2]
def cAppendNA : CtU := ctI 198 (by decide) (fun a : List UInt8 × Nat => a.1 ≠ [] ∧ a.1.length + 4 ≤ 140737488355328 ∧ 128 ≤ a.2 ∧ validR a.2) (fun a => [.sl 0 1 0 a.1.length, .d (.int .i32 a.2)]) (fun a => [brow a.1]) (fun a => .ret (byA' a.1 (Lib.encodeRune a.2))) (fun a => byS' a.1 (Lib.encodeRune a.2)) (fun _ => rfl) byR_det
  fun a ha => by
    have h := b_appendNA none_ a.1 ha.2.1 a.2 ha.2.2.1 ha.2.2.2
    rw [byA_ne ha.1, byS_ne ha.1] at h
    exact mk {} false (none_ok _ _) (by kernel_rfl) h
def cAppendRune : CtU := ctI 168 (by decide) (fun a : List UInt8 × Nat => a.1 ≠ [] ∧ a.1.length + 4 ≤ 140737488355328 ∧ validR a.2) (fun a => [.sl 0 1 0 a.1.length, .d (.int .i32 a.2)]) (fun a => [brow a.1]) (fun a => .ret (byA' a.1 (Lib.encodeRune a.2))) (fun a => byS' a.1 (Lib.encodeRune a.2)) (fun _ => rfl) byR_det
  fun a ha => by
    have h := b_appendRune (octs [cAppendNA]) a.1 ha.2.1 a.2 ha.2.2 (fun h128 => by rw [byA_ne ha.1, byS_ne ha.1]; exact octs_here (c := cAppendNA) ⟨a, ha.1, ha.2.1, h128, ha.2.2⟩ rfl rfl rfl)
    rw [byA_ne ha.1, byS_ne ha.1] at h
    exact mk {} false (octs_ok [cAppendNA]) (by kernel_rfl) h
def cWriteRune : CtU := ctD 137 (by decide) (fun a : Bool × List UInt8 × Nat => a.2.1 ≠ [] ∧ a.2.1.length + 4 ≤ 140737488355328 ∧ validR a.2.2) (fun a => [.ptr 0 0, .d (.int .i32 a.2.2)]) (fun a => bld a.1 a.2.1) (fun a => .ret (.tup [.d (.int .i64 (Lib.encodeRune a.2.2).length), .d .nili])) (fun a => wr a.2.1 (Lib.encodeRune a.2.2)) (fun _ => rfl)
  (fun a b h1 h2 => by
    have e1 : a.2.2 = b.2.2 := by
      simp only [nAs, nA, nD, List.cons.injEq, AV.d.injEq, D.int.injEq, true_and, and_true] at h1
      omega
    rw [e1, bld_l h2]; exact ⟨rfl, rfl⟩)
  fun a ha => mk {} false (octs_ok [cCopyCheck, cAppendRune]) (by kernel_rfl) (b_WriteRune (octs [cCopyCheck, cAppendRune]) (fun u l => octs_here (c := cCopyCheck) ⟨(u, l), trivial⟩ rfl rfl rfl) a.1 a.2.1 ha.2.1 a.2.2
    (by rw [byA_ne ha.1, byS_ne ha.1]; exact (octs_next (by decide)).trans (octs_here (c := cAppendRune) ⟨(a.2.1, a.2.2), ha⟩ rfl rfl rfl)))

theorem prow_inj {a b : List (List UInt8)} (h : prow a = prow b) : a = b := by
  simp only [prow, AObj.drow.injEq, and_true] at h
  have : ∀ (a b : List (List UInt8)), (a.map fun s => ([.str s] : List D)) = (b.map fun s => [.str s]) → a = b := by
    intro a
    induction a with
    | nil => intro b h; cases b <;> simp_all
    | cons x r ih =>
      intro b h
      cases b with
      | nil => simp at h
      | cons y q =>
        simp only [List.map_cons, List.cons.injEq, D.str.injEq, and_true] at h
        rw [h.1, ih q h.2]
  exact this a b h
def cPut : CtU := ctD 100 (by decide) (fun ps : List (List UInt8) => ps.length ≤ 1099511627776 ∧ ps.flatten.length ≤ 140737488355328) (fun ps => [.ptr 0 0, .sl 1 1 0 ps.length]) (fun ps => bld2 false [] ps) (fun _ => .ret (.tup [])) put2 (fun _ => rfl)
  (fun a b _ h => by
    have e : a = b := by
      simp only [bld2, if_true, List.cons.injEq, and_true] at h
      exact prow_inj h.2
    rw [e]; exact ⟨rfl, rfl⟩)
  fun ps hp => mk { keep := [(6, [0, 6, 7, 8])], outs := [(6, [])] } false (octs_ok [cWriteString]) (by kernel_rfl) (b_put (octs [cWriteString]) ps hp.1 hp.2 (fun u l s hs => octs_here (c := cWriteString) ⟨(u, l, s), hs⟩ rfl rfl rfl))
end Go.Proofs.YtblejchodicaoaaGreatDoor.Eng

/-
  CONTRACTS: may a list be a patch; may an answer be? Own work.
-/
namespace Go.Proofs.YtblejchodicaoaaGreatDoor.Eng
open Go Go.RowKit
set_option maxRecDepth 100000
set_option linter.unusedSimpArgs false
set_option maxHeartbeats 2000000

def keyLe (a b : List UInt8) : Bool := Op.bytesLess a b || a == b
def avPO (p : PO) : AV := .agg [.d (.int .i64 p.k), .d (.str p.key), .d (.int .i64 p.v.k), .d (.bool p.v.b), .d (.int .i64 p.v.n), .d (.str p.v.t), .d (.rs 6 (p.v.l.map encV)), .d (.rs 7 (p.v.o.map encM))]
theorem encPO_eq (p : PO) : encPO p = [.int .i64 p.k, .str p.key, .int .i64 p.v.k, .bool p.v.b, .int .i64 p.v.n, .str p.v.t, .rs 6 (p.v.l.map encV), .rs 7 (p.v.o.map encM)] := by simp [encPO, encV_eq]
/-- Why an op may not stand behind others. -/
def poMay (o : PO) (ahead : List PO) : Int :=
  if o.k < 1 ∨ 3 < o.k then 2
  else if ¬ o.k = 1 ∧ blankV o.v = false then 2
  else if o.k = 3 then (if ahead = [] ∧ o.key = [] then 0 else 2)
  else if (match ahead.getLast? with | some q => decide (¬ q.k = 3) && keyLe o.key q.key | none => false) = true then 2
  else if ¬ keyMay o.key = 0 then 8
  else if o.k = 1 then fitsV o.v else 0
def poMayL : List PO → List PO → Int
  | _, [] => 0
  | pre, o :: r => if poMay o pre = 0 then poMayL (pre ++ [o]) r else poMay o pre

theorem b_poMay (C : Oracle) (o : PO) (ahead : List PO) (hl : ahead.length ≤ 1099511627776) (h1 : ∀ v, C 78 [avV v] [] = R (.bool (blankV v))) (h2 : C 79 [.d (.str o.key)] [] = R (.int .i64 (keyMay o.key)))
    (h3 : C 80 [avV o.v] [] = R (.int .i64 (fitsV o.v))) :
    abody Tryz.prog [] C (mach Tryz.prog C {}) true 51 [avPO o, .d (.rs 8 (ahead.map encPO))] [] = R (.int .i64 (poMay o ahead)) := by
  simp only [R, avV] at h1 h2 h3
  unfold abody
  rw [Tryz.func51]
  simp only [Tryz.f51]
  by_cases e1 : o.k < 1
  · simp -implicitDefEqProofs [R, avPO, poMay, e1, IntWalk.i64_in,IntWalk.u64_in,IntWalk.u8_in,IntWalk.i32_in,IntWalk.u32_in,ye,zk,zm,qj,qk,qm,qn,zb,zc,zn,zp,zq,qo,zd,ze,zr,zt,zu,j3,x7,zw,zf,za,zx,qp,zy,zg,zz,z6,qq,zh,yf,qr,aop,yq,j4,j5,x8,x9,jd,j6,j7,wb,je,j8,yr,j9,wg,jf,jg,xa,xb,z7,jh,z8,ji,jj,yt,yu,xc,AV.one,wh,wi,aun,jk,xd,yw,afn,xe,Out.ren,xf,xg,jl,wj,xh,wl,jm,Eng.distinct,pos,wn,Eng.ren,wo,xi,wp,jo,wq,yg,xj,ws,wu,jp,frz,yx,yz,wv,List.lookup_cons,jq,zi,jr,js,List.range_succ,jt,xk,ju,xm,↓yh,↓yi,↓qt,↓y6,↓qu,↓qa,↓yj,↓yk,↓qv,↓qw,↓qx,↓qy,↓qb,↓qz,qc,ww,xn,jv,jw,yl,qd,qe,zj,wx,y7,jx,xp,xq,keq,y8,wy,qf,y9,ym,xr,jy,jz,xt,j0,wz,ja,j1,xu,xv,xw,jb,q5,q6,yn,q7,j2,Option.map_some,yo,qg,q8,q9,qh,ya,xx,yb,yp,yc,xy,w5,xz,x5,w6,jc,x6,Op.operands,Call.operands,yd,qi,w7,AObj.live]
  by_cases e2 : 3 < o.k
  · simp -implicitDefEqProofs [R, avPO, poMay, e1, e2, IntWalk.i64_in,IntWalk.u64_in,IntWalk.u8_in,IntWalk.i32_in,IntWalk.u32_in,ye,zk,zm,qj,qk,qm,qn,zb,zc,zn,zp,zq,qo,zd,ze,zr,zt,zu,j3,x7,zw,zf,za,zx,qp,zy,zg,zz,z6,qq,zh,yf,qr,aop,yq,j4,j5,x8,x9,jd,j6,j7,wb,je,j8,yr,j9,wg,jf,jg,xa,xb,z7,jh,z8,ji,jj,yt,yu,xc,AV.one,wh,wi,aun,jk,xd,yw,afn,xe,Out.ren,xf,xg,jl,wj,xh,wl,jm,Eng.distinct,pos,wn,Eng.ren,wo,xi,wp,jo,wq,yg,xj,ws,wu,jp,frz,yx,yz,wv,List.lookup_cons,jq,zi,jr,js,List.range_succ,jt,xk,ju,xm,↓yh,↓yi,↓qt,↓y6,↓qu,↓qa,↓yj,↓yk,↓qv,↓qw,↓qx,↓qy,↓qb,↓qz,qc,ww,xn,jv,jw,yl,qd,qe,zj,wx,y7,jx,xp,xq,keq,y8,wy,qf,y9,ym,xr,jy,jz,xt,j0,wz,ja,j1,xu,xv,xw,jb,q5,q6,yn,q7,j2,Option.map_some,yo,qg,q8,q9,qh,ya,xx,yb,yp,yc,xy,w5,xz,x5,w6,jc,x6,Op.operands,Call.operands,yd,qi,w7,AObj.live]
  have hfin : ∀ (c d : Prop) [Decidable c] [Decidable d] (x y z : Int), (if c then some (Out.ret (.d (.int .i64 x)), ([] : List AObj)) else if d then some (Out.ret (.d (.int .i64 y)), []) else some (Out.ret (.d (.int .i64 z)), [])) = some (Out.ret (.d (.int .i64 (if c then x else if d then y else z))), []) := by
    intro c d _ _ x y z
    by_cases hc : c <;> by_cases hd : d <;> simp [hc, hd]
  have hfin2 : ∀ (d : Prop) [Decidable d] (y z : Int), (if d then some (Out.ret (.d (.int .i64 y)), ([] : List AObj)) else some (Out.ret (.d (.int .i64 z)), [])) = some (Out.ret (.d (.int .i64 (if d then y else z))), []) := by
    intro d _ y z
    by_cases hd : d <;> simp [hd]
  by_cases e3 : o.k = 1
  · rcases List.eq_nil_or_concat ahead with rfl | ⟨pre, q, rfl⟩
    · simp -implicitDefEqProofs [R, avPO, poMay, keyLe, h1, h2, h3, e1, e2, e3, mach_draw, intbne, intbeq, strbeq, IntWalk.i64_in,IntWalk.u64_in,IntWalk.u8_in,IntWalk.i32_in,IntWalk.u32_in,ye,zk,zm,qj,qk,qm,qn,zb,zc,zn,zp,zq,qo,zd,ze,zr,zt,zu,j3,x7,zw,zf,za,zx,qp,zy,zg,zz,z6,qq,zh,yf,qr,aop,yq,j4,j5,x8,x9,jd,j6,j7,wb,je,j8,yr,j9,wg,jf,jg,xa,xb,z7,jh,z8,ji,jj,yt,yu,xc,AV.one,wh,wi,aun,jk,xd,yw,afn,xe,Out.ren,xf,xg,jl,wj,xh,wl,jm,Eng.distinct,pos,wn,Eng.ren,wo,xi,wp,jo,wq,yg,xj,ws,wu,jp,frz,yx,yz,wv,List.lookup_cons,jq,zi,jr,js,List.range_succ,jt,xk,ju,xm,↓yh,↓yi,↓qt,↓y6,↓qu,↓qa,↓yj,↓yk,↓qv,↓qw,↓qx,↓qy,↓qb,↓qz,qc,ww,xn,jv,jw,yl,qd,qe,zj,wx,y7,jx,xp,xq,keq,y8,wy,qf,y9,ym,xr,jy,jz,xt,j0,wz,ja,j1,xu,xv,xw,jb,q5,q6,yn,q7,j2,Option.map_some,yo,qg,q8,q9,qh,ya,xx,yb,yp,yc,xy,w5,xz,x5,w6,jc,x6,Op.operands,Call.operands,yd,qi,w7,AObj.live]
      exact hfin2 _ _ _
    · have hw : IntKind.i64.wrap ((pre.length : Nat) : Int) = (pre.length : Nat) := wrap64 (by omega) (by simp at hl; omega)
      simp -implicitDefEqProofs [R, avPO, poMay, keyLe, encPO_eq, pos1, h1, h2, h3, e1, e2, e3, hw, mach_draw, intbne, intbeq, strbeq, IntWalk.i64_in,IntWalk.u64_in,IntWalk.u8_in,IntWalk.i32_in,IntWalk.u32_in,ye,zk,zm,qj,qk,qm,qn,zb,zc,zn,zp,zq,qo,zd,ze,zr,zt,zu,j3,x7,zw,zf,za,zx,qp,zy,zg,zz,z6,qq,zh,yf,qr,aop,yq,j4,j5,x8,x9,jd,j6,j7,wb,je,j8,yr,j9,wg,jf,jg,xa,xb,z7,jh,z8,ji,jj,yt,yu,xc,AV.one,wh,wi,aun,jk,xd,yw,afn,xe,Out.ren,xf,xg,jl,wj,xh,wl,jm,Eng.distinct,pos,wn,Eng.ren,wo,xi,wp,jo,wq,yg,xj,ws,wu,jp,frz,yx,yz,wv,List.lookup_cons,jq,zi,jr,js,List.range_succ,jt,xk,ju,xm,↓yh,↓yi,↓qt,↓y6,↓qu,↓qa,↓yj,↓yk,↓qv,↓qw,↓qx,↓qy,↓qb,↓qz,qc,ww,xn,jv,jw,yl,qd,qe,zj,wx,y7,jx,xp,xq,keq,y8,wy,qf,y9,ym,xr,jy,jz,xt,j0,wz,ja,j1,xu,xv,xw,jb,q5,q6,yn,q7,j2,Option.map_some,yo,qg,q8,q9,qh,ya,xx,yb,yp,yc,xy,w5,xz,x5,w6,jc,x6,Op.operands,Call.operands,yd,qi,w7,AObj.live]
      exact hfin _ _ _ _ _
  by_cases e4 : blankV o.v = true
  rotate_left
  · simp -implicitDefEqProofs [R, avPO, poMay, h1, h2, h3, e1, e2, e3, e4, mach_draw, intbne, intbeq, strbeq, IntWalk.i64_in,IntWalk.u64_in,IntWalk.u8_in,IntWalk.i32_in,IntWalk.u32_in,ye,zk,zm,qj,qk,qm,qn,zb,zc,zn,zp,zq,qo,zd,ze,zr,zt,zu,j3,x7,zw,zf,za,zx,qp,zy,zg,zz,z6,qq,zh,yf,qr,aop,yq,j4,j5,x8,x9,jd,j6,j7,wb,je,j8,yr,j9,wg,jf,jg,xa,xb,z7,jh,z8,ji,jj,yt,yu,xc,AV.one,wh,wi,aun,jk,xd,yw,afn,xe,Out.ren,xf,xg,jl,wj,xh,wl,jm,Eng.distinct,pos,wn,Eng.ren,wo,xi,wp,jo,wq,yg,xj,ws,wu,jp,frz,yx,yz,wv,List.lookup_cons,jq,zi,jr,js,List.range_succ,jt,xk,ju,xm,↓yh,↓yi,↓qt,↓y6,↓qu,↓qa,↓yj,↓yk,↓qv,↓qw,↓qx,↓qy,↓qb,↓qz,qc,ww,xn,jv,jw,yl,qd,qe,zj,wx,y7,jx,xp,xq,keq,y8,wy,qf,y9,ym,xr,jy,jz,xt,j0,wz,ja,j1,xu,xv,xw,jb,q5,q6,yn,q7,j2,Option.map_some,yo,qg,q8,q9,qh,ya,xx,yb,yp,yc,xy,w5,xz,x5,w6,jc,x6,Op.operands,Call.operands,yd,qi,w7,AObj.live]
  by_cases e5 : o.k = 3
  · by_cases e6 : ahead = []
    · subst e6
      simp -implicitDefEqProofs [R, avPO, poMay, h1, h2, h3, e1, e2, e3, e4, e5, mach_draw, intbne, intbeq, strbeq, IntWalk.i64_in,IntWalk.u64_in,IntWalk.u8_in,IntWalk.i32_in,IntWalk.u32_in,ye,zk,zm,qj,qk,qm,qn,zb,zc,zn,zp,zq,qo,zd,ze,zr,zt,zu,j3,x7,zw,zf,za,zx,qp,zy,zg,zz,z6,qq,zh,yf,qr,aop,yq,j4,j5,x8,x9,jd,j6,j7,wb,je,j8,yr,j9,wg,jf,jg,xa,xb,z7,jh,z8,ji,jj,yt,yu,xc,AV.one,wh,wi,aun,jk,xd,yw,afn,xe,Out.ren,xf,xg,jl,wj,xh,wl,jm,Eng.distinct,pos,wn,Eng.ren,wo,xi,wp,jo,wq,yg,xj,ws,wu,jp,frz,yx,yz,wv,List.lookup_cons,jq,zi,jr,js,List.range_succ,jt,xk,ju,xm,↓yh,↓yi,↓qt,↓y6,↓qu,↓qa,↓yj,↓yk,↓qv,↓qw,↓qx,↓qy,↓qb,↓qz,qc,ww,xn,jv,jw,yl,qd,qe,zj,wx,y7,jx,xp,xq,keq,y8,wy,qf,y9,ym,xr,jy,jz,xt,j0,wz,ja,j1,xu,xv,xw,jb,q5,q6,yn,q7,j2,Option.map_some,yo,qg,q8,q9,qh,ya,xx,yb,yp,yc,xy,w5,xz,x5,w6,jc,x6,Op.operands,Call.operands,yd,qi,w7,AObj.live]
      exact hfin2 _ _ _
    · have e7 : 0 < ahead.length := List.length_pos_iff.2 e6
      simp -implicitDefEqProofs [R, avPO, poMay, h1, h2, h3, e1, e2, e3, e4, e5, e6, e7, mach_draw, intbne, intbeq, strbeq, IntWalk.i64_in,IntWalk.u64_in,IntWalk.u8_in,IntWalk.i32_in,IntWalk.u32_in,ye,zk,zm,qj,qk,qm,qn,zb,zc,zn,zp,zq,qo,zd,ze,zr,zt,zu,j3,x7,zw,zf,za,zx,qp,zy,zg,zz,z6,qq,zh,yf,qr,aop,yq,j4,j5,x8,x9,jd,j6,j7,wb,je,j8,yr,j9,wg,jf,jg,xa,xb,z7,jh,z8,ji,jj,yt,yu,xc,AV.one,wh,wi,aun,jk,xd,yw,afn,xe,Out.ren,xf,xg,jl,wj,xh,wl,jm,Eng.distinct,pos,wn,Eng.ren,wo,xi,wp,jo,wq,yg,xj,ws,wu,jp,frz,yx,yz,wv,List.lookup_cons,jq,zi,jr,js,List.range_succ,jt,xk,ju,xm,↓yh,↓yi,↓qt,↓y6,↓qu,↓qa,↓yj,↓yk,↓qv,↓qw,↓qx,↓qy,↓qb,↓qz,qc,ww,xn,jv,jw,yl,qd,qe,zj,wx,y7,jx,xp,xq,keq,y8,wy,qf,y9,ym,xr,jy,jz,xt,j0,wz,ja,j1,xu,xv,xw,jb,q5,q6,yn,q7,j2,Option.map_some,yo,qg,q8,q9,qh,ya,xx,yb,yp,yc,xy,w5,xz,x5,w6,jc,x6,Op.operands,Call.operands,yd,qi,w7,AObj.live]
  rcases List.eq_nil_or_concat ahead with rfl | ⟨pre, q, rfl⟩
  · simp -implicitDefEqProofs [R, avPO, poMay, keyLe, h1, h2, h3, e1, e2, e3, e4, e5, mach_draw, intbne, intbeq, strbeq, IntWalk.i64_in,IntWalk.u64_in,IntWalk.u8_in,IntWalk.i32_in,IntWalk.u32_in,ye,zk,zm,qj,qk,qm,qn,zb,zc,zn,zp,zq,qo,zd,ze,zr,zt,zu,j3,x7,zw,zf,za,zx,qp,zy,zg,zz,z6,qq,zh,yf,qr,aop,yq,j4,j5,x8,x9,jd,j6,j7,wb,je,j8,yr,j9,wg,jf,jg,xa,xb,z7,jh,z8,ji,jj,yt,yu,xc,AV.one,wh,wi,aun,jk,xd,yw,afn,xe,Out.ren,xf,xg,jl,wj,xh,wl,jm,Eng.distinct,pos,wn,Eng.ren,wo,xi,wp,jo,wq,yg,xj,ws,wu,jp,frz,yx,yz,wv,List.lookup_cons,jq,zi,jr,js,List.range_succ,jt,xk,ju,xm,↓yh,↓yi,↓qt,↓y6,↓qu,↓qa,↓yj,↓yk,↓qv,↓qw,↓qx,↓qy,↓qb,↓qz,qc,ww,xn,jv,jw,yl,qd,qe,zj,wx,y7,jx,xp,xq,keq,y8,wy,qf,y9,ym,xr,jy,jz,xt,j0,wz,ja,j1,xu,xv,xw,jb,q5,q6,yn,q7,j2,Option.map_some,yo,qg,q8,q9,qh,ya,xx,yb,yp,yc,xy,w5,xz,x5,w6,jc,x6,Op.operands,Call.operands,yd,qi,w7,AObj.live]
    exact hfin2 _ _ _
  · have hw : IntKind.i64.wrap ((pre.length : Nat) : Int) = (pre.length : Nat) := wrap64 (by omega) (by simp at hl; omega)
    simp -implicitDefEqProofs [R, avPO, poMay, keyLe, encPO_eq, pos1, h1, h2, h3, e1, e2, e3, e4, e5, hw, mach_draw, intbne, intbeq, strbeq, IntWalk.i64_in,IntWalk.u64_in,IntWalk.u8_in,IntWalk.i32_in,IntWalk.u32_in,ye,zk,zm,qj,qk,qm,qn,zb,zc,zn,zp,zq,qo,zd,ze,zr,zt,zu,j3,x7,zw,zf,za,zx,qp,zy,zg,zz,z6,qq,zh,yf,qr,aop,yq,j4,j5,x8,x9,jd,j6,j7,wb,je,j8,yr,j9,wg,jf,jg,xa,xb,z7,jh,z8,ji,jj,yt,yu,xc,AV.one,wh,wi,aun,jk,xd,yw,afn,xe,Out.ren,xf,xg,jl,wj,xh,wl,jm,Eng.distinct,pos,wn,Eng.ren,wo,xi,wp,jo,wq,yg,xj,ws,wu,jp,frz,yx,yz,wv,List.lookup_cons,jq,zi,jr,js,List.range_succ,jt,xk,ju,xm,↓yh,↓yi,↓qt,↓y6,↓qu,↓qa,↓yj,↓yk,↓qv,↓qw,↓qx,↓qy,↓qb,↓qz,qc,ww,xn,jv,jw,yl,qd,qe,zj,wx,y7,jx,xp,xq,keq,y8,wy,qf,y9,ym,xr,jy,jz,xt,j0,wz,ja,j1,xu,xv,xw,jb,q5,q6,yn,q7,j2,Option.map_some,yo,qg,q8,q9,qh,ya,xx,yb,yp,yc,xy,w5,xz,x5,w6,jc,x6,Op.operands,Call.operands,yd,qi,w7,AObj.live]
    exact hfin _ _ _ _ _

theorem take_mid {α β : Type} (f : α → β) (l : List α) (r : List β) : List.take l.length (l.map f ++ r) = l.map f := by
  rw [List.take_append_of_le_length (by simp), List.take_of_length_le (by simp)]

theorem b_patchMay (C : Oracle) (l : List PO) (hl : l.length ≤ 1099511627776) (h : ∀ pre o suf, pre ++ o :: suf = l → C 51 [avPO o, .d (.rs 8 (pre.map encPO))] [] = R (.int .i64 (poMay o pre))) :
    abody Tryz.prog [] C (mach Tryz.prog C { keep := [(26, [0, 6, 7, 8])], outs := [(26, [2])] }) true 25 [.d (.rs 8 (l.map encPO))] [] = R (.int .i64 (poMayL [] l)) := by
  simp only [R, avPO] at h
  unfold abody
  rw [Tryz.func25]
  simp only [Tryz.f25]
  simp -implicitDefEqProofs [R, mach_loop, IntWalk.i64_in,IntWalk.u64_in,IntWalk.u8_in,IntWalk.i32_in,IntWalk.u32_in,ye,zk,zm,qj,qk,qm,qn,zb,zc,zn,zp,zq,qo,zd,ze,zr,zt,zu,j3,x7,zw,zf,za,zx,qp,zy,zg,zz,z6,qq,zh,yf,qr,aop,yq,j4,j5,x8,x9,jd,j6,j7,wb,je,j8,yr,j9,wg,jf,jg,xa,xb,z7,jh,z8,ji,jj,yt,yu,xc,AV.one,wh,wi,aun,jk,xd,yw,afn,xe,Out.ren,xf,xg,jl,wj,xh,wl,jm,Eng.distinct,pos,wn,Eng.ren,wo,xi,wp,jo,wq,yg,xj,ws,wu,jp,frz,yx,yz,wv,List.lookup_cons,jq,zi,jr,js,List.range_succ,jt,xk,ju,xm,↓yh,↓yi,↓qt,↓y6,↓qu,↓qa,↓yj,↓yk,↓qv,↓qw,↓qx,↓qy,↓qb,↓qz,qc,ww,xn,jv,jw,yl,qd,qe,zj,wx,y7,jx,xp,xq,keq,y8,wy,qf,y9,ym,xr,jy,jz,xt,j0,wz,ja,j1,xu,xv,xw,jb,q5,q6,yn,q7,j2,Option.map_some,yo,qg,q8,q9,qh,ya,xx,yb,yp,yc,xy,w5,xz,x5,w6,jc,x6,Op.operands,Call.operands,yd,qi,w7,AObj.live]
  rw [aloop_list (l := l)
    (S := fun pre suf => { env := [(0, .d (.rs 8 ((pre ++ suf).map encPO))), (6, .d (.rs 8 ((pre ++ suf).map encPO))), (7, .d (.int .i64 ((pre ++ suf).length : Nat))), (8, .d (.int .i64 (pre.length : Nat)))], σ := [], dfs := [] })
    (R := fun pre suf => if poMayL pre suf = 0 then some (.exit 0, { env := [], σ := [], dfs := [] }) else some (.ret, { env := [(2, .d (.int .i64 (poMayL pre suf)))], σ := [], dfs := [] }))
    (hs := ?_) (h0 := ?_) (h1 := ?_)]
  rotate_left
  · simp -implicitDefEqProofs [IntWalk.i64_in,IntWalk.u64_in,IntWalk.u8_in,IntWalk.i32_in,IntWalk.u32_in,ye,zk,zm,qj,qk,qm,qn,zb,zc,zn,zp,zq,qo,zd,ze,zr,zt,zu,j3,x7,zw,zf,za,zx,qp,zy,zg,zz,z6,qq,zh,yf,qr,aop,yq,j4,j5,x8,x9,jd,j6,j7,wb,je,j8,yr,j9,wg,jf,jg,xa,xb,z7,jh,z8,ji,jj,yt,yu,xc,AV.one,wh,wi,aun,jk,xd,yw,afn,xe,Out.ren,xf,xg,jl,wj,xh,wl,jm,Eng.distinct,pos,wn,Eng.ren,wo,xi,wp,jo,wq,yg,xj,ws,wu,jp,frz,yx,yz,wv,List.lookup_cons,jq,zi,jr,js,List.range_succ,jt,xk,ju,xm,↓yh,↓yi,↓qt,↓y6,↓qu,↓qa,↓yj,↓yk,↓qv,↓qw,↓qx,↓qy,↓qb,↓qz,qc,ww,xn,jv,jw,yl,qd,qe,zj,wx,y7,jx,xp,xq,keq,y8,wy,qf,y9,ym,xr,jy,jz,xt,j0,wz,ja,j1,xu,xv,xw,jb,q5,q6,yn,q7,j2,Option.map_some,yo,qg,q8,q9,qh,ya,xx,yb,yp,yc,xy,w5,xz,x5,w6,jc,x6,Op.operands,Call.operands,yd,qi,w7,AObj.live]
  · intro pre hp
    simp -implicitDefEqProofs [poMayL, mach_loop, IntWalk.i64_in,IntWalk.u64_in,IntWalk.u8_in,IntWalk.i32_in,IntWalk.u32_in,ye,zk,zm,qj,qk,qm,qn,zb,zc,zn,zp,zq,qo,zd,ze,zr,zt,zu,j3,x7,zw,zf,za,zx,qp,zy,zg,zz,z6,qq,zh,yf,qr,aop,yq,j4,j5,x8,x9,jd,j6,j7,wb,je,j8,yr,j9,wg,jf,jg,xa,xb,z7,jh,z8,ji,jj,yt,yu,xc,AV.one,wh,wi,aun,jk,xd,yw,afn,xe,Out.ren,xf,xg,jl,wj,xh,wl,jm,Eng.distinct,pos,wn,Eng.ren,wo,xi,wp,jo,wq,yg,xj,ws,wu,jp,frz,yx,yz,wv,List.lookup_cons,jq,zi,jr,js,List.range_succ,jt,xk,ju,xm,↓yh,↓yi,↓qt,↓y6,↓qu,↓qa,↓yj,↓yk,↓qv,↓qw,↓qx,↓qy,↓qb,↓qz,qc,ww,xn,jv,jw,yl,qd,qe,zj,wx,y7,jx,xp,xq,keq,y8,wy,qf,y9,ym,xr,jy,jz,xt,j0,wz,ja,j1,xu,xv,xw,jb,q5,q6,yn,q7,j2,Option.map_some,yo,qg,q8,q9,qh,ya,xx,yb,yp,yc,xy,w5,xz,x5,w6,jc,x6,Op.operands,Call.operands,yd,qi,w7,AObj.live]
  · intro pre o suf hp ih
    have h4 := h pre o suf hp
    have hll : pre.length < l.length := by rw [← hp]; simp
    have hw2 : IntKind.i64.wrap ((pre.length : Nat) + 1) = (pre.length : Nat) + 1 := wrap64 (by omega) (by omega)
    have hle : ((pre.length : Nat) : Int) ≤ (pre.length : Nat) + ((suf.length : Nat) + 1) := by omega
    by_cases hm : poMay o pre = 0
    · simp -implicitDefEqProofs [poMayL, mach_loop, mach_draw, h4, hw2, hle, take_mid, encPO_eq, mid_lt, hm, IntWalk.i64_in,IntWalk.u64_in,IntWalk.u8_in,IntWalk.i32_in,IntWalk.u32_in,ye,zk,zm,qj,qk,qm,qn,zb,zc,zn,zp,zq,qo,zd,ze,zr,zt,zu,j3,x7,zw,zf,za,zx,qp,zy,zg,zz,z6,qq,zh,yf,qr,aop,yq,j4,j5,x8,x9,jd,j6,j7,wb,je,j8,yr,j9,wg,jf,jg,xa,xb,z7,jh,z8,ji,jj,yt,yu,xc,AV.one,wh,wi,aun,jk,xd,yw,afn,xe,Out.ren,xf,xg,jl,wj,xh,wl,jm,Eng.distinct,pos,wn,Eng.ren,wo,xi,wp,jo,wq,yg,xj,ws,wu,jp,frz,yx,yz,wv,List.lookup_cons,jq,zi,jr,js,List.range_succ,jt,xk,ju,xm,↓yh,↓yi,↓qt,↓y6,↓qu,↓qa,↓yj,↓yk,↓qv,↓qw,↓qx,↓qy,↓qb,↓qz,qc,ww,xn,jv,jw,yl,qd,qe,zj,wx,y7,jx,xp,xq,keq,y8,wy,qf,y9,ym,xr,jy,jz,xt,j0,wz,ja,j1,xu,xv,xw,jb,q5,q6,yn,q7,j2,Option.map_some,yo,qg,q8,q9,qh,ya,xx,yb,yp,yc,xy,w5,xz,x5,w6,jc,x6,Op.operands,Call.operands,yd,qi,w7,AObj.live]
      rw [ih _ (by simp -implicitDefEqProofs [encPO_eq, IntWalk.i64_in,IntWalk.u64_in,IntWalk.u8_in,IntWalk.i32_in,IntWalk.u32_in,ye,zk,zm,qj,qk,qm,qn,zb,zc,zn,zp,zq,qo,zd,ze,zr,zt,zu,j3,x7,zw,zf,za,zx,qp,zy,zg,zz,z6,qq,zh,yf,qr,aop,yq,j4,j5,x8,x9,jd,j6,j7,wb,je,j8,yr,j9,wg,jf,jg,xa,xb,z7,jh,z8,ji,jj,yt,yu,xc,AV.one,wh,wi,aun,jk,xd,yw,afn,xe,Out.ren,xf,xg,jl,wj,xh,wl,jm,Eng.distinct,pos,wn,Eng.ren,wo,xi,wp,jo,wq,yg,xj,ws,wu,jp,frz,yx,yz,wv,List.lookup_cons,jq,zi,jr,js,List.range_succ,jt,xk,ju,xm,↓yh,↓yi,↓qt,↓y6,↓qu,↓qa,↓yj,↓yk,↓qv,↓qw,↓qx,↓qy,↓qb,↓qz,qc,ww,xn,jv,jw,yl,qd,qe,zj,wx,y7,jx,xp,xq,keq,y8,wy,qf,y9,ym,xr,jy,jz,xt,j0,wz,ja,j1,xu,xv,xw,jb,q5,q6,yn,q7,j2,Option.map_some,yo,qg,q8,q9,qh,ya,xx,yb,yp,yc,xy,w5,xz,x5,w6,jc,x6,Op.operands,Call.operands,yd,qi,w7,AObj.live] <;> omega)]
    · simp -implicitDefEqProofs [poMayL, mach_loop, mach_draw, h4, hw2, hle, take_mid, encPO_eq, mid_lt, hm, IntWalk.i64_in,IntWalk.u64_in,IntWalk.u8_in,IntWalk.i32_in,IntWalk.u32_in,ye,zk,zm,qj,qk,qm,qn,zb,zc,zn,zp,zq,qo,zd,ze,zr,zt,zu,j3,x7,zw,zf,za,zx,qp,zy,zg,zz,z6,qq,zh,yf,qr,aop,yq,j4,j5,x8,x9,jd,j6,j7,wb,je,j8,yr,j9,wg,jf,jg,xa,xb,z7,jh,z8,ji,jj,yt,yu,xc,AV.one,wh,wi,aun,jk,xd,yw,afn,xe,Out.ren,xf,xg,jl,wj,xh,wl,jm,Eng.distinct,pos,wn,Eng.ren,wo,xi,wp,jo,wq,yg,xj,ws,wu,jp,frz,yx,yz,wv,List.lookup_cons,jq,zi,jr,js,List.range_succ,jt,xk,ju,xm,↓yh,↓yi,↓qt,↓y6,↓qu,↓qa,↓yj,↓yk,↓qv,↓qw,↓qx,↓qy,↓qb,↓qz,qc,ww,xn,jv,jw,yl,qd,qe,zj,wx,y7,jx,xp,xq,keq,y8,wy,qf,y9,ym,xr,jy,jz,xt,j0,wz,ja,j1,xu,xv,xw,jb,q5,q6,yn,q7,j2,Option.map_some,yo,qg,q8,q9,qh,ya,xx,yb,yp,yc,xy,w5,xz,x5,w6,jc,x6,Op.operands,Call.operands,yd,qi,w7,AObj.live]
  by_cases hp : poMayL [] l = 0
  · simp -implicitDefEqProofs [R, hp, mach_loop, IntWalk.i64_in,IntWalk.u64_in,IntWalk.u8_in,IntWalk.i32_in,IntWalk.u32_in,ye,zk,zm,qj,qk,qm,qn,zb,zc,zn,zp,zq,qo,zd,ze,zr,zt,zu,j3,x7,zw,zf,za,zx,qp,zy,zg,zz,z6,qq,zh,yf,qr,aop,yq,j4,j5,x8,x9,jd,j6,j7,wb,je,j8,yr,j9,wg,jf,jg,xa,xb,z7,jh,z8,ji,jj,yt,yu,xc,AV.one,wh,wi,aun,jk,xd,yw,afn,xe,Out.ren,xf,xg,jl,wj,xh,wl,jm,Eng.distinct,pos,wn,Eng.ren,wo,xi,wp,jo,wq,yg,xj,ws,wu,jp,frz,yx,yz,wv,List.lookup_cons,jq,zi,jr,js,List.range_succ,jt,xk,ju,xm,↓yh,↓yi,↓qt,↓y6,↓qu,↓qa,↓yj,↓yk,↓qv,↓qw,↓qx,↓qy,↓qb,↓qz,qc,ww,xn,jv,jw,yl,qd,qe,zj,wx,y7,jx,xp,xq,keq,y8,wy,qf,y9,ym,xr,jy,jz,xt,j0,wz,ja,j1,xu,xv,xw,jb,q5,q6,yn,q7,j2,Option.map_some,yo,qg,q8,q9,qh,ya,xx,yb,yp,yc,xy,w5,xz,x5,w6,jc,x6,Op.operands,Call.operands,yd,qi,w7,AObj.live]
  · simp -implicitDefEqProofs [R, hp, mach_loop, IntWalk.i64_in,IntWalk.u64_in,IntWalk.u8_in,IntWalk.i32_in,IntWalk.u32_in,ye,zk,zm,qj,qk,qm,qn,zb,zc,zn,zp,zq,qo,zd,ze,zr,zt,zu,j3,x7,zw,zf,za,zx,qp,zy,zg,zz,z6,qq,zh,yf,qr,aop,yq,j4,j5,x8,x9,jd,j6,j7,wb,je,j8,yr,j9,wg,jf,jg,xa,xb,z7,jh,z8,ji,jj,yt,yu,xc,AV.one,wh,wi,aun,jk,xd,yw,afn,xe,Out.ren,xf,xg,jl,wj,xh,wl,jm,Eng.distinct,pos,wn,Eng.ren,wo,xi,wp,jo,wq,yg,xj,ws,wu,jp,frz,yx,yz,wv,List.lookup_cons,jq,zi,jr,js,List.range_succ,jt,xk,ju,xm,↓yh,↓yi,↓qt,↓y6,↓qu,↓qa,↓yj,↓yk,↓qv,↓qw,↓qx,↓qy,↓qb,↓qz,qc,ww,xn,jv,jw,yl,qd,qe,zj,wx,y7,jx,xp,xq,keq,y8,wy,qf,y9,ym,xr,jy,jz,xt,j0,wz,ja,j1,xu,xv,xw,jb,q5,q6,yn,q7,j2,Option.map_some,yo,qg,q8,q9,qh,ya,xx,yb,yp,yc,xy,w5,xz,x5,w6,jc,x6,Op.operands,Call.operands,yd,qi,w7,AObj.live]

theorem max4 (c b k t : Int) : (4611686018427387903 < if (if (if c < b then b else c) < k then k else if c < b then b else c) < t then t else if (if c < b then b else c) < k then k else if c < b then b else c) =
    (4611686018427387903 < c ∨ 4611686018427387903 < b ∨ 4611686018427387903 < k ∨ 4611686018427387903 < t) := by
  apply propext
  by_cases h1 : c < b
  · simp only [h1, if_true]
    by_cases h2 : b < k
    · simp only [h2, if_true]
      by_cases h3 : k < t <;> simp only [h3, if_true, if_false] <;> omega
    · simp only [h2, if_false]
      by_cases h3 : b < t <;> simp only [h3, if_true, if_false] <;> omega
  · simp only [h1, if_false]
    by_cases h2 : c < k
    · simp only [h2, if_true]
      by_cases h3 : k < t <;> simp only [h3, if_true, if_false] <;> omega
    · simp only [h2, if_false]
      by_cases h3 : c < t <;> simp only [h3, if_true, if_false] <;> omega
def mxN : Int := 4611686018427387903
def respMay (c b k t : Int) (l : List PO) : Int := if c = 0 ∨ mxN < c ∨ mxN < b ∨ mxN < k ∨ mxN < t then 2 else poMayL [] l
theorem b_MayResponse (C : Oracle) (c b k t : Int) (l : List PO) (h : C 25 [.d (.rs 8 (l.map encPO))] [] = R (.int .i64 (poMayL [] l))) :
    abody Tryz.prog [] C (mach Tryz.prog C {}) true 10 [.agg [.d (.int .u64 c), .d (.int .u64 b), .d (.int .u64 k), .d (.int .u64 t), .d (.rs 8 (l.map encPO))]] [] = R (.int .i64 (respMay c b k t l)) := by
  simp only [R] at h
  unfold abody
  rw [Tryz.func10]
  simp only [Tryz.f10]
  simp -implicitDefEqProofs [R, h, respMay, mxN, max4, IntWalk.i64_in,IntWalk.u64_in,IntWalk.u8_in,IntWalk.i32_in,IntWalk.u32_in,ye,zk,zm,qj,qk,qm,qn,zb,zc,zn,zp,zq,qo,zd,ze,zr,zt,zu,j3,x7,zw,zf,za,zx,qp,zy,zg,zz,z6,qq,zh,yf,qr,aop,yq,j4,j5,x8,x9,jd,j6,j7,wb,je,j8,yr,j9,wg,jf,jg,xa,xb,z7,jh,z8,ji,jj,yt,yu,xc,AV.one,wh,wi,aun,jk,xd,yw,afn,xe,Out.ren,xf,xg,jl,wj,xh,wl,jm,Eng.distinct,pos,wn,Eng.ren,wo,xi,wp,jo,wq,yg,xj,ws,wu,jp,frz,yx,yz,wv,List.lookup_cons,jq,zi,jr,js,List.range_succ,jt,xk,ju,xm,↓yh,↓yi,↓qt,↓y6,↓qu,↓qa,↓yj,↓yk,↓qv,↓qw,↓qx,↓qy,↓qb,↓qz,qc,ww,xn,jv,jw,yl,qd,qe,zj,wx,y7,jx,xp,xq,keq,y8,wy,qf,y9,ym,xr,jy,jz,xt,j0,wz,ja,j1,xu,xv,xw,jb,q5,q6,yn,q7,j2,Option.map_some,yo,qg,q8,q9,qh,ya,xx,yb,yp,yc,xy,w5,xz,x5,w6,jc,x6,Op.operands,Call.operands,yd,qi,w7,AObj.live]
  by_cases hc : c = 0 ∨ 4611686018427387903 < c ∨ 4611686018427387903 < b ∨ 4611686018427387903 < k ∨ 4611686018427387903 < t <;> simp only [hc, if_true, if_false]
end Go.Proofs.YtblejchodicaoaaGreatDoor.Eng

/-
  CONTRACTS: the reference's May, Equal, Within, Deep. Own work.
-/
namespace Go.Proofs.YtblejchodicaoaaGreatDoor.Eng
open Go Go.RowKit
set_option maxRecDepth 100000
set_option linter.unusedSimpArgs false
set_option maxHeartbeats 2000000

theorem b_r05May (C : Oracle) (k : List UInt8) (h : C 81 [.d (.str k)] [] = R (.bool (validU k))) :
    abody Tryz.prog [] C (mach Tryz.prog C {}) true 53 [.d (.str k)] [] = R (.int .i64 (keyMay k)) := by
  simp only [R] at h
  unfold abody
  rw [Tryz.func53]
  simp only [Tryz.f53]
  by_cases e1 : k = []
  · subst e1
    simp -implicitDefEqProofs [R, keyMay, IntWalk.i64_in,IntWalk.u64_in,IntWalk.u8_in,IntWalk.i32_in,IntWalk.u32_in,ye,zk,zm,qj,qk,qm,qn,zb,zc,zn,zp,zq,qo,zd,ze,zr,zt,zu,j3,x7,zw,zf,za,zx,qp,zy,zg,zz,z6,qq,zh,yf,qr,aop,yq,j4,j5,x8,x9,jd,j6,j7,wb,je,j8,yr,j9,wg,jf,jg,xa,xb,z7,jh,z8,ji,jj,yt,yu,xc,AV.one,wh,wi,aun,jk,xd,yw,afn,xe,Out.ren,xf,xg,jl,wj,xh,wl,jm,Eng.distinct,pos,wn,Eng.ren,wo,xi,wp,jo,wq,yg,xj,ws,wu,jp,frz,yx,yz,wv,List.lookup_cons,jq,zi,jr,js,List.range_succ,jt,xk,ju,xm,↓yh,↓yi,↓qt,↓y6,↓qu,↓qa,↓yj,↓yk,↓qv,↓qw,↓qx,↓qy,↓qb,↓qz,qc,ww,xn,jv,jw,yl,qd,qe,zj,wx,y7,jx,xp,xq,keq,y8,wy,qf,y9,ym,xr,jy,jz,xt,j0,wz,ja,j1,xu,xv,xw,jb,q5,q6,yn,q7,j2,Option.map_some,yo,qg,q8,q9,qh,ya,xx,yb,yp,yc,xy,w5,xz,x5,w6,jc,x6,Op.operands,Call.operands,yd,qi,w7,AObj.live]
  have e1' : ¬ k.length = 0 := by simpa using e1
  by_cases e2 : (64 : Int) < (k.length : Nat)
  · have e2' : 64 < k.length := by omega
    simp -implicitDefEqProofs [R, keyMay, e1, e1', e2, e2', IntWalk.i64_in,IntWalk.u64_in,IntWalk.u8_in,IntWalk.i32_in,IntWalk.u32_in,ye,zk,zm,qj,qk,qm,qn,zb,zc,zn,zp,zq,qo,zd,ze,zr,zt,zu,j3,x7,zw,zf,za,zx,qp,zy,zg,zz,z6,qq,zh,yf,qr,aop,yq,j4,j5,x8,x9,jd,j6,j7,wb,je,j8,yr,j9,wg,jf,jg,xa,xb,z7,jh,z8,ji,jj,yt,yu,xc,AV.one,wh,wi,aun,jk,xd,yw,afn,xe,Out.ren,xf,xg,jl,wj,xh,wl,jm,Eng.distinct,pos,wn,Eng.ren,wo,xi,wp,jo,wq,yg,xj,ws,wu,jp,frz,yx,yz,wv,List.lookup_cons,jq,zi,jr,js,List.range_succ,jt,xk,ju,xm,↓yh,↓yi,↓qt,↓y6,↓qu,↓qa,↓yj,↓yk,↓qv,↓qw,↓qx,↓qy,↓qb,↓qz,qc,ww,xn,jv,jw,yl,qd,qe,zj,wx,y7,jx,xp,xq,keq,y8,wy,qf,y9,ym,xr,jy,jz,xt,j0,wz,ja,j1,xu,xv,xw,jb,q5,q6,yn,q7,j2,Option.map_some,yo,qg,q8,q9,qh,ya,xx,yb,yp,yc,xy,w5,xz,x5,w6,jc,x6,Op.operands,Call.operands,yd,qi,w7,AObj.live]
  have e2' : ¬ 64 < k.length := by omega
  by_cases e3 : validU k = true
  · simp -implicitDefEqProofs [R, keyMay, e1, e1', e2, e2', e3, h, IntWalk.i64_in,IntWalk.u64_in,IntWalk.u8_in,IntWalk.i32_in,IntWalk.u32_in,ye,zk,zm,qj,qk,qm,qn,zb,zc,zn,zp,zq,qo,zd,ze,zr,zt,zu,j3,x7,zw,zf,za,zx,qp,zy,zg,zz,z6,qq,zh,yf,qr,aop,yq,j4,j5,x8,x9,jd,j6,j7,wb,je,j8,yr,j9,wg,jf,jg,xa,xb,z7,jh,z8,ji,jj,yt,yu,xc,AV.one,wh,wi,aun,jk,xd,yw,afn,xe,Out.ren,xf,xg,jl,wj,xh,wl,jm,Eng.distinct,pos,wn,Eng.ren,wo,xi,wp,jo,wq,yg,xj,ws,wu,jp,frz,yx,yz,wv,List.lookup_cons,jq,zi,jr,js,List.range_succ,jt,xk,ju,xm,↓yh,↓yi,↓qt,↓y6,↓qu,↓qa,↓yj,↓yk,↓qv,↓qw,↓qx,↓qy,↓qb,↓qz,qc,ww,xn,jv,jw,yl,qd,qe,zj,wx,y7,jx,xp,xq,keq,y8,wy,qf,y9,ym,xr,jy,jz,xt,j0,wz,ja,j1,xu,xv,xw,jb,q5,q6,yn,q7,j2,Option.map_some,yo,qg,q8,q9,qh,ya,xx,yb,yp,yc,xy,w5,xz,x5,w6,jc,x6,Op.operands,Call.operands,yd,qi,w7,AObj.live]
  · simp -implicitDefEqProofs [R, keyMay, e1, e1', e2, e2', e3, h, IntWalk.i64_in,IntWalk.u64_in,IntWalk.u8_in,IntWalk.i32_in,IntWalk.u32_in,ye,zk,zm,qj,qk,qm,qn,zb,zc,zn,zp,zq,qo,zd,ze,zr,zt,zu,j3,x7,zw,zf,za,zx,qp,zy,zg,zz,z6,qq,zh,yf,qr,aop,yq,j4,j5,x8,x9,jd,j6,j7,wb,je,j8,yr,j9,wg,jf,jg,xa,xb,z7,jh,z8,ji,jj,yt,yu,xc,AV.one,wh,wi,aun,jk,xd,yw,afn,xe,Out.ren,xf,xg,jl,wj,xh,wl,jm,Eng.distinct,pos,wn,Eng.ren,wo,xi,wp,jo,wq,yg,xj,ws,wu,jp,frz,yx,yz,wv,List.lookup_cons,jq,zi,jr,js,List.range_succ,jt,xk,ju,xm,↓yh,↓yi,↓qt,↓y6,↓qu,↓qa,↓yj,↓yk,↓qv,↓qw,↓qx,↓qy,↓qb,↓qz,qc,ww,xn,jv,jw,yl,qd,qe,zj,wx,y7,jx,xp,xq,keq,y8,wy,qf,y9,ym,xr,jy,jz,xt,j0,wz,ja,j1,xu,xv,xw,jb,q5,q6,yn,q7,j2,Option.map_some,yo,qg,q8,q9,qh,ya,xx,yb,yp,yc,xy,w5,xz,x5,w6,jc,x6,Op.operands,Call.operands,yd,qi,w7,AObj.live]

theorem b_rmay (C : Oracle) (valid : List UInt8 → Bool) (v : V) (d : Int) (hsz : v.size ≤ 1152921504606846976) (hd : 0 ≤ d) (h1 : ∀ v, C 145 [avV v] [] = R (.bool (bareV v))) (h2 : ∀ s : List UInt8, s.length ≤ 1152921504606846976 → C 81 [.d (.str s)] [] = R (.bool (valid s)))
    (h3 : ∀ x d', x.size < v.size → 0 ≤ d' → C 115 [avV x, .d (.int .i64 d')] [] = R (.int .i64 (mayV valid x d'))) :
    abody Tryz.prog [] C (mach Tryz.prog C { keep := [(250, [1, 2, 5]), (1018, [1, 2, 7, 8])], outs := [(250, [1, 2, 4]), (1018, [4])] }) true 115 [avV v, .d (.int .i64 d)] [] = R (.int .i64 (mayV valid v d)) := by
  simp only [avV, R] at h1 h2 h3
  have h2s := h2
  have h2 := h2s v.t (by have := V.t_len v; omega)
  unfold abody
  rw [Tryz.func115]
  simp only [Tryz.f115]
  by_cases hb : bareV v = true
  rotate_left
  · have e : mayV valid v d = 9 := by obtain ⟨k, b, n, t, l, o⟩ := v; simp [mayV, hb]
    simp -implicitDefEqProofs [R, avV, h1, hb, e, IntWalk.i64_in,IntWalk.u64_in,IntWalk.u8_in,IntWalk.i32_in,IntWalk.u32_in,ye,zk,zm,qj,qk,qm,qn,zb,zc,zn,zp,zq,qo,zd,ze,zr,zt,zu,j3,x7,zw,zf,za,zx,qp,zy,zg,zz,z6,qq,zh,yf,qr,aop,yq,j4,j5,x8,x9,jd,j6,j7,wb,je,j8,yr,j9,wg,jf,jg,xa,xb,z7,jh,z8,ji,jj,yt,yu,xc,AV.one,wh,wi,aun,jk,xd,yw,afn,xe,Out.ren,xf,xg,jl,wj,xh,wl,jm,Eng.distinct,pos,wn,Eng.ren,wo,xi,wp,jo,wq,yg,xj,ws,wu,jp,frz,yx,yz,wv,List.lookup_cons,jq,zi,jr,js,List.range_succ,jt,xk,ju,xm,↓yh,↓yi,↓qt,↓y6,↓qu,↓qa,↓yj,↓yk,↓qv,↓qw,↓qx,↓qy,↓qb,↓qz,qc,ww,xn,jv,jw,yl,qd,qe,zj,wx,y7,jx,xp,xq,keq,y8,wy,qf,y9,ym,xr,jy,jz,xt,j0,wz,ja,j1,xu,xv,xw,jb,q5,q6,yn,q7,j2,Option.map_some,yo,qg,q8,q9,qh,ya,xx,yb,yp,yc,xy,w5,xz,x5,w6,jc,x6,Op.operands,Call.operands,yd,qi,w7,AObj.live]
  by_cases h64 : 64 < d
  · have e : mayV valid v d = 5 := by obtain ⟨k, b, n, t, l, o⟩ := v; simp [mayV, hb, h64]
    simp -implicitDefEqProofs [R, avV, h1, hb, e, h64, IntWalk.i64_in,IntWalk.u64_in,IntWalk.u8_in,IntWalk.i32_in,IntWalk.u32_in,ye,zk,zm,qj,qk,qm,qn,zb,zc,zn,zp,zq,qo,zd,ze,zr,zt,zu,j3,x7,zw,zf,za,zx,qp,zy,zg,zz,z6,qq,zh,yf,qr,aop,yq,j4,j5,x8,x9,jd,j6,j7,wb,je,j8,yr,j9,wg,jf,jg,xa,xb,z7,jh,z8,ji,jj,yt,yu,xc,AV.one,wh,wi,aun,jk,xd,yw,afn,xe,Out.ren,xf,xg,jl,wj,xh,wl,jm,Eng.distinct,pos,wn,Eng.ren,wo,xi,wp,jo,wq,yg,xj,ws,wu,jp,frz,yx,yz,wv,List.lookup_cons,jq,zi,jr,js,List.range_succ,jt,xk,ju,xm,↓yh,↓yi,↓qt,↓y6,↓qu,↓qa,↓yj,↓yk,↓qv,↓qw,↓qx,↓qy,↓qb,↓qz,qc,ww,xn,jv,jw,yl,qd,qe,zj,wx,y7,jx,xp,xq,keq,y8,wy,qf,y9,ym,xr,jy,jz,xt,j0,wz,ja,j1,xu,xv,xw,jb,q5,q6,yn,q7,j2,Option.map_some,yo,qg,q8,q9,qh,ya,xx,yb,yp,yc,xy,w5,xz,x5,w6,jc,x6,Op.operands,Call.operands,yd,qi,w7,AObj.live]
  by_cases hv : valid v.t = true
  rotate_left
  · have e : mayV valid v d = 3 := by obtain ⟨k, b, n, t, l, o⟩ := v; simp only [V.t] at hv; simp [mayV, hb, h64, hv]
    simp -implicitDefEqProofs [R, avV, h1, h2, hb, e, h64, hv, IntWalk.i64_in,IntWalk.u64_in,IntWalk.u8_in,IntWalk.i32_in,IntWalk.u32_in,ye,zk,zm,qj,qk,qm,qn,zb,zc,zn,zp,zq,qo,zd,ze,zr,zt,zu,j3,x7,zw,zf,za,zx,qp,zy,zg,zz,z6,qq,zh,yf,qr,aop,yq,j4,j5,x8,x9,jd,j6,j7,wb,je,j8,yr,j9,wg,jf,jg,xa,xb,z7,jh,z8,ji,jj,yt,yu,xc,AV.one,wh,wi,aun,jk,xd,yw,afn,xe,Out.ren,xf,xg,jl,wj,xh,wl,jm,Eng.distinct,pos,wn,Eng.ren,wo,xi,wp,jo,wq,yg,xj,ws,wu,jp,frz,yx,yz,wv,List.lookup_cons,jq,zi,jr,js,List.range_succ,jt,xk,ju,xm,↓yh,↓yi,↓qt,↓y6,↓qu,↓qa,↓yj,↓yk,↓qv,↓qw,↓qx,↓qy,↓qb,↓qz,qc,ww,xn,jv,jw,yl,qd,qe,zj,wx,y7,jx,xp,xq,keq,y8,wy,qf,y9,ym,xr,jy,jz,xt,j0,wz,ja,j1,xu,xv,xw,jb,q5,q6,yn,q7,j2,Option.map_some,yo,qg,q8,q9,qh,ya,xx,yb,yp,yc,xy,w5,xz,x5,w6,jc,x6,Op.operands,Call.operands,yd,qi,w7,AObj.live]
  have hw : IntKind.i64.wrap (d + 1) = d + 1 := wrap64 (by omega) (by omega)
  have e : mayV valid v d = if mayL valid v.l (d + 1) = 0 then mayO valid none v.o (d + 1) else mayL valid v.l (d + 1) := by
    obtain ⟨k, b, n, t, l, o⟩ := v
    simp only [V.t, V.l, V.o] at hv ⊢
    simp [mayV, hb, h64, hv]
    rfl
  rw [e]
  simp -implicitDefEqProofs [R, avV, h1, h2, hb, h64, hv, mach_loop, IntWalk.i64_in,IntWalk.u64_in,IntWalk.u8_in,IntWalk.i32_in,IntWalk.u32_in,ye,zk,zm,qj,qk,qm,qn,zb,zc,zn,zp,zq,qo,zd,ze,zr,zt,zu,j3,x7,zw,zf,za,zx,qp,zy,zg,zz,z6,qq,zh,yf,qr,aop,yq,j4,j5,x8,x9,jd,j6,j7,wb,je,j8,yr,j9,wg,jf,jg,xa,xb,z7,jh,z8,ji,jj,yt,yu,xc,AV.one,wh,wi,aun,jk,xd,yw,afn,xe,Out.ren,xf,xg,jl,wj,xh,wl,jm,Eng.distinct,pos,wn,Eng.ren,wo,xi,wp,jo,wq,yg,xj,ws,wu,jp,frz,yx,yz,wv,List.lookup_cons,jq,zi,jr,js,List.range_succ,jt,xk,ju,xm,↓yh,↓yi,↓qt,↓y6,↓qu,↓qa,↓yj,↓yk,↓qv,↓qw,↓qx,↓qy,↓qb,↓qz,qc,ww,xn,jv,jw,yl,qd,qe,zj,wx,y7,jx,xp,xq,keq,y8,wy,qf,y9,ym,xr,jy,jz,xt,j0,wz,ja,j1,xu,xv,xw,jb,q5,q6,yn,q7,j2,Option.map_some,yo,qg,q8,q9,qh,ya,xx,yb,yp,yc,xy,w5,xz,x5,w6,jc,x6,Op.operands,Call.operands,yd,qi,w7,AObj.live]
  rw [aloop_list (l := v.l)
    (S := fun pre suf => { env := [(1, .d (.int .i64 d)), (2, .ptr 0 0), (5, .d (.int .i64 (pre.length : Nat)))], σ := [.box [.d (.int .i64 v.k), .d (.bool v.b), .d (.int .i64 v.n), .d (.str v.t), .d (.rs 6 ((pre ++ suf).map encV)), .d (.rs 7 (v.o.map encM))] 45], dfs := [] })
    (R := fun pre suf => if ¬ mayL valid suf (d + 1) = 0 then some (.ret, { env := [(1, .d (.int .i64 d)), (2, .ptr 0 0), (4, .d (.int .i64 (mayL valid suf (d + 1))))], σ := [.box [.d (.int .i64 v.k), .d (.bool v.b), .d (.int .i64 v.n), .d (.str v.t), .d (.rs 6 ((pre ++ suf).map encV)), .d (.rs 7 (v.o.map encM))] 45], dfs := [] })
      else some (.exit 0, { env := [(1, .d (.int .i64 d)), (2, .ptr 0 0)], σ := [.box [.d (.int .i64 v.k), .d (.bool v.b), .d (.int .i64 v.n), .d (.str v.t), .d (.rs 6 ((pre ++ suf).map encV)), .d (.rs 7 (v.o.map encM))] 45], dfs := [] }))
    (hs := ?_) (h0 := ?_) (h1 := ?_)]
  rotate_left
  · simp -implicitDefEqProofs [IntWalk.i64_in,IntWalk.u64_in,IntWalk.u8_in,IntWalk.i32_in,IntWalk.u32_in,ye,zk,zm,qj,qk,qm,qn,zb,zc,zn,zp,zq,qo,zd,ze,zr,zt,zu,j3,x7,zw,zf,za,zx,qp,zy,zg,zz,z6,qq,zh,yf,qr,aop,yq,j4,j5,x8,x9,jd,j6,j7,wb,je,j8,yr,j9,wg,jf,jg,xa,xb,z7,jh,z8,ji,jj,yt,yu,xc,AV.one,wh,wi,aun,jk,xd,yw,afn,xe,Out.ren,xf,xg,jl,wj,xh,wl,jm,Eng.distinct,pos,wn,Eng.ren,wo,xi,wp,jo,wq,yg,xj,ws,wu,jp,frz,yx,yz,wv,List.lookup_cons,jq,zi,jr,js,List.range_succ,jt,xk,ju,xm,↓yh,↓yi,↓qt,↓y6,↓qu,↓qa,↓yj,↓yk,↓qv,↓qw,↓qx,↓qy,↓qb,↓qz,qc,ww,xn,jv,jw,yl,qd,qe,zj,wx,y7,jx,xp,xq,keq,y8,wy,qf,y9,ym,xr,jy,jz,xt,j0,wz,ja,j1,xu,xv,xw,jb,q5,q6,yn,q7,j2,Option.map_some,yo,qg,q8,q9,qh,ya,xx,yb,yp,yc,xy,w5,xz,x5,w6,jc,x6,Op.operands,Call.operands,yd,qi,w7,AObj.live]
  · intro pre hp
    subst hp
    simp -implicitDefEqProofs [mayL, mach_loop, IntWalk.i64_in,IntWalk.u64_in,IntWalk.u8_in,IntWalk.i32_in,IntWalk.u32_in,ye,zk,zm,qj,qk,qm,qn,zb,zc,zn,zp,zq,qo,zd,ze,zr,zt,zu,j3,x7,zw,zf,za,zx,qp,zy,zg,zz,z6,qq,zh,yf,qr,aop,yq,j4,j5,x8,x9,jd,j6,j7,wb,je,j8,yr,j9,wg,jf,jg,xa,xb,z7,jh,z8,ji,jj,yt,yu,xc,AV.one,wh,wi,aun,jk,xd,yw,afn,xe,Out.ren,xf,xg,jl,wj,xh,wl,jm,Eng.distinct,pos,wn,Eng.ren,wo,xi,wp,jo,wq,yg,xj,ws,wu,jp,frz,yx,yz,wv,List.lookup_cons,jq,zi,jr,js,List.range_succ,jt,xk,ju,xm,↓yh,↓yi,↓qt,↓y6,↓qu,↓qa,↓yj,↓yk,↓qv,↓qw,↓qx,↓qy,↓qb,↓qz,qc,ww,xn,jv,jw,yl,qd,qe,zj,wx,y7,jx,xp,xq,keq,y8,wy,qf,y9,ym,xr,jy,jz,xt,j0,wz,ja,j1,xu,xv,xw,jb,q5,q6,yn,q7,j2,Option.map_some,yo,qg,q8,q9,qh,ya,xx,yb,yp,yc,xy,w5,xz,x5,w6,jc,x6,Op.operands,Call.operands,yd,qi,w7,AObj.live]
  · intro pre x suf hp ih
    have hx : x.size < v.size := V.size_l (by rw [← hp]; simp)
    have h4 := h3 x (d + 1) hx (by omega)
    have hll : pre.length < v.l.length := by rw [← hp]; simp
    have hlen := V.l_len v
    have hw2 : IntKind.i64.wrap ((pre.length : Nat) + 1) = (pre.length : Nat) + 1 := wrap64 (by omega) (by omega)
    by_cases hm : mayV valid x (d + 1) = 0
    · simp -implicitDefEqProofs [mayL, mach_loop, h4, hw, hw2, ih, encV_eq, mid_lt, hm, IntWalk.i64_in,IntWalk.u64_in,IntWalk.u8_in,IntWalk.i32_in,IntWalk.u32_in,ye,zk,zm,qj,qk,qm,qn,zb,zc,zn,zp,zq,qo,zd,ze,zr,zt,zu,j3,x7,zw,zf,za,zx,qp,zy,zg,zz,z6,qq,zh,yf,qr,aop,yq,j4,j5,x8,x9,jd,j6,j7,wb,je,j8,yr,j9,wg,jf,jg,xa,xb,z7,jh,z8,ji,jj,yt,yu,xc,AV.one,wh,wi,aun,jk,xd,yw,afn,xe,Out.ren,xf,xg,jl,wj,xh,wl,jm,Eng.distinct,pos,wn,Eng.ren,wo,xi,wp,jo,wq,yg,xj,ws,wu,jp,frz,yx,yz,wv,List.lookup_cons,jq,zi,jr,js,List.range_succ,jt,xk,ju,xm,↓yh,↓yi,↓qt,↓y6,↓qu,↓qa,↓yj,↓yk,↓qv,↓qw,↓qx,↓qy,↓qb,↓qz,qc,ww,xn,jv,jw,yl,qd,qe,zj,wx,y7,jx,xp,xq,keq,y8,wy,qf,y9,ym,xr,jy,jz,xt,j0,wz,ja,j1,xu,xv,xw,jb,q5,q6,yn,q7,j2,Option.map_some,yo,qg,q8,q9,qh,ya,xx,yb,yp,yc,xy,w5,xz,x5,w6,jc,x6,Op.operands,Call.operands,yd,qi,w7,AObj.live]
    · simp -implicitDefEqProofs [mayL, mach_loop, h4, hw, hw2, ih, encV_eq, mid_lt, hm, IntWalk.i64_in,IntWalk.u64_in,IntWalk.u8_in,IntWalk.i32_in,IntWalk.u32_in,ye,zk,zm,qj,qk,qm,qn,zb,zc,zn,zp,zq,qo,zd,ze,zr,zt,zu,j3,x7,zw,zf,za,zx,qp,zy,zg,zz,z6,qq,zh,yf,qr,aop,yq,j4,j5,x8,x9,jd,j6,j7,wb,je,j8,yr,j9,wg,jf,jg,xa,xb,z7,jh,z8,ji,jj,yt,yu,xc,AV.one,wh,wi,aun,jk,xd,yw,afn,xe,Out.ren,xf,xg,jl,wj,xh,wl,jm,Eng.distinct,pos,wn,Eng.ren,wo,xi,wp,jo,wq,yg,xj,ws,wu,jp,frz,yx,yz,wv,List.lookup_cons,jq,zi,jr,js,List.range_succ,jt,xk,ju,xm,↓yh,↓yi,↓qt,↓y6,↓qu,↓qa,↓yj,↓yk,↓qv,↓qw,↓qx,↓qy,↓qb,↓qz,qc,ww,xn,jv,jw,yl,qd,qe,zj,wx,y7,jx,xp,xq,keq,y8,wy,qf,y9,ym,xr,jy,jz,xt,j0,wz,ja,j1,xu,xv,xw,jb,q5,q6,yn,q7,j2,Option.map_some,yo,qg,q8,q9,qh,ya,xx,yb,yp,yc,xy,w5,xz,x5,w6,jc,x6,Op.operands,Call.operands,yd,qi,w7,AObj.live]
  by_cases hl : mayL valid v.l (d + 1) = 0
  rotate_left
  · simp -implicitDefEqProofs [mach_loop, hl, IntWalk.i64_in,IntWalk.u64_in,IntWalk.u8_in,IntWalk.i32_in,IntWalk.u32_in,ye,zk,zm,qj,qk,qm,qn,zb,zc,zn,zp,zq,qo,zd,ze,zr,zt,zu,j3,x7,zw,zf,za,zx,qp,zy,zg,zz,z6,qq,zh,yf,qr,aop,yq,j4,j5,x8,x9,jd,j6,j7,wb,je,j8,yr,j9,wg,jf,jg,xa,xb,z7,jh,z8,ji,jj,yt,yu,xc,AV.one,wh,wi,aun,jk,xd,yw,afn,xe,Out.ren,xf,xg,jl,wj,xh,wl,jm,Eng.distinct,pos,wn,Eng.ren,wo,xi,wp,jo,wq,yg,xj,ws,wu,jp,frz,yx,yz,wv,List.lookup_cons,jq,zi,jr,js,List.range_succ,jt,xk,ju,xm,↓yh,↓yi,↓qt,↓y6,↓qu,↓qa,↓yj,↓yk,↓qv,↓qw,↓qx,↓qy,↓qb,↓qz,qc,ww,xn,jv,jw,yl,qd,qe,zj,wx,y7,jx,xp,xq,keq,y8,wy,qf,y9,ym,xr,jy,jz,xt,j0,wz,ja,j1,xu,xv,xw,jb,q5,q6,yn,q7,j2,Option.map_some,yo,qg,q8,q9,qh,ya,xx,yb,yp,yc,xy,w5,xz,x5,w6,jc,x6,Op.operands,Call.operands,yd,qi,w7,AObj.live]
  simp -implicitDefEqProofs [mach_loop, hl, IntWalk.i64_in,IntWalk.u64_in,IntWalk.u8_in,IntWalk.i32_in,IntWalk.u32_in,ye,zk,zm,qj,qk,qm,qn,zb,zc,zn,zp,zq,qo,zd,ze,zr,zt,zu,j3,x7,zw,zf,za,zx,qp,zy,zg,zz,z6,qq,zh,yf,qr,aop,yq,j4,j5,x8,x9,jd,j6,j7,wb,je,j8,yr,j9,wg,jf,jg,xa,xb,z7,jh,z8,ji,jj,yt,yu,xc,AV.one,wh,wi,aun,jk,xd,yw,afn,xe,Out.ren,xf,xg,jl,wj,xh,wl,jm,Eng.distinct,pos,wn,Eng.ren,wo,xi,wp,jo,wq,yg,xj,ws,wu,jp,frz,yx,yz,wv,List.lookup_cons,jq,zi,jr,js,List.range_succ,jt,xk,ju,xm,↓yh,↓yi,↓qt,↓y6,↓qu,↓qa,↓yj,↓yk,↓qv,↓qw,↓qx,↓qy,↓qb,↓qz,qc,ww,xn,jv,jw,yl,qd,qe,zj,wx,y7,jx,xp,xq,keq,y8,wy,qf,y9,ym,xr,jy,jz,xt,j0,wz,ja,j1,xu,xv,xw,jb,q5,q6,yn,q7,j2,Option.map_some,yo,qg,q8,q9,qh,ya,xx,yb,yp,yc,xy,w5,xz,x5,w6,jc,x6,Op.operands,Call.operands,yd,qi,w7,AObj.live]
  rw [aloop_list (l := v.o)
    (S := fun pre suf => { env := [(1, .d (.int .i64 d)), (2, .ptr 0 0), (7, .d (.str ((pre.getLast?.map M.key).getD []))), (8, .d (.int .i64 (pre.length : Nat)))], σ := [.box [.d (.int .i64 v.k), .d (.bool v.b), .d (.int .i64 v.n), .d (.str v.t), .d (.rs 6 (v.l.map encV)), .d (.rs 7 ((pre ++ suf).map encM))] 45], dfs := [] })
    (R := fun pre suf => if mayO valid (pre.getLast?.map M.key) suf (d + 1) = 0 then some (.exit 2, { env := [], σ := [], dfs := [] }) else some (.ret, { env := [(4, .d (.int .i64 (mayO valid (pre.getLast?.map M.key) suf (d + 1))))], σ := [], dfs := [] }))
    (hs := ?_) (h0 := ?_) (h1 := ?_)]
  rotate_left
  · simp -implicitDefEqProofs [IntWalk.i64_in,IntWalk.u64_in,IntWalk.u8_in,IntWalk.i32_in,IntWalk.u32_in,ye,zk,zm,qj,qk,qm,qn,zb,zc,zn,zp,zq,qo,zd,ze,zr,zt,zu,j3,x7,zw,zf,za,zx,qp,zy,zg,zz,z6,qq,zh,yf,qr,aop,yq,j4,j5,x8,x9,jd,j6,j7,wb,je,j8,yr,j9,wg,jf,jg,xa,xb,z7,jh,z8,ji,jj,yt,yu,xc,AV.one,wh,wi,aun,jk,xd,yw,afn,xe,Out.ren,xf,xg,jl,wj,xh,wl,jm,Eng.distinct,pos,wn,Eng.ren,wo,xi,wp,jo,wq,yg,xj,ws,wu,jp,frz,yx,yz,wv,List.lookup_cons,jq,zi,jr,js,List.range_succ,jt,xk,ju,xm,↓yh,↓yi,↓qt,↓y6,↓qu,↓qa,↓yj,↓yk,↓qv,↓qw,↓qx,↓qy,↓qb,↓qz,qc,ww,xn,jv,jw,yl,qd,qe,zj,wx,y7,jx,xp,xq,keq,y8,wy,qf,y9,ym,xr,jy,jz,xt,j0,wz,ja,j1,xu,xv,xw,jb,q5,q6,yn,q7,j2,Option.map_some,yo,qg,q8,q9,qh,ya,xx,yb,yp,yc,xy,w5,xz,x5,w6,jc,x6,Op.operands,Call.operands,yd,qi,w7,AObj.live]
  · intro pre hp
    subst hp
    simp -implicitDefEqProofs [mayO, mach_loop, IntWalk.i64_in,IntWalk.u64_in,IntWalk.u8_in,IntWalk.i32_in,IntWalk.u32_in,ye,zk,zm,qj,qk,qm,qn,zb,zc,zn,zp,zq,qo,zd,ze,zr,zt,zu,j3,x7,zw,zf,za,zx,qp,zy,zg,zz,z6,qq,zh,yf,qr,aop,yq,j4,j5,x8,x9,jd,j6,j7,wb,je,j8,yr,j9,wg,jf,jg,xa,xb,z7,jh,z8,ji,jj,yt,yu,xc,AV.one,wh,wi,aun,jk,xd,yw,afn,xe,Out.ren,xf,xg,jl,wj,xh,wl,jm,Eng.distinct,pos,wn,Eng.ren,wo,xi,wp,jo,wq,yg,xj,ws,wu,jp,frz,yx,yz,wv,List.lookup_cons,jq,zi,jr,js,List.range_succ,jt,xk,ju,xm,↓yh,↓yi,↓qt,↓y6,↓qu,↓qa,↓yj,↓yk,↓qv,↓qw,↓qx,↓qy,↓qb,↓qz,qc,ww,xn,jv,jw,yl,qd,qe,zj,wx,y7,jx,xp,xq,keq,y8,wy,qf,y9,ym,xr,jy,jz,xt,j0,wz,ja,j1,xu,xv,xw,jb,q5,q6,yn,q7,j2,Option.map_some,yo,qg,q8,q9,qh,ya,xx,yb,yp,yc,xy,w5,xz,x5,w6,jc,x6,Op.operands,Call.operands,yd,qi,w7,AObj.live]
  · intro pre m suf hp ih
    have hx : m.v.size < v.size := V.size_o (by rw [← hp]; simp)
    have h4 := h3 m.v (d + 1) hx (by omega)
    have hll : pre.length < v.o.length := by rw [← hp]; simp
    have hlen := V.o_len v
    have hw2 : IntKind.i64.wrap ((pre.length : Nat) + 1) = (pre.length : Nat) + 1 := wrap64 (by omega) (by omega)
    have h2 := h2s m.key (by have := V.key_len (v := v) (m := m) (by rw [← hp]; simp); omega)
    have hmm : mayM valid m (d + 1) = mayV valid m.v (d + 1) := by obtain ⟨k, x⟩ := m; simp [mayM, M.v]
    by_cases hv : valid m.key = true
    rotate_left
    · simp -implicitDefEqProofs [mayO, mach_loop, h2, hv, hw, hw2, encM_eq, encV_eq, mid_lt, IntWalk.i64_in,IntWalk.u64_in,IntWalk.u8_in,IntWalk.i32_in,IntWalk.u32_in,ye,zk,zm,qj,qk,qm,qn,zb,zc,zn,zp,zq,qo,zd,ze,zr,zt,zu,j3,x7,zw,zf,za,zx,qp,zy,zg,zz,z6,qq,zh,yf,qr,aop,yq,j4,j5,x8,x9,jd,j6,j7,wb,je,j8,yr,j9,wg,jf,jg,xa,xb,z7,jh,z8,ji,jj,yt,yu,xc,AV.one,wh,wi,aun,jk,xd,yw,afn,xe,Out.ren,xf,xg,jl,wj,xh,wl,jm,Eng.distinct,pos,wn,Eng.ren,wo,xi,wp,jo,wq,yg,xj,ws,wu,jp,frz,yx,yz,wv,List.lookup_cons,jq,zi,jr,js,List.range_succ,jt,xk,ju,xm,↓yh,↓yi,↓qt,↓y6,↓qu,↓qa,↓yj,↓yk,↓qv,↓qw,↓qx,↓qy,↓qb,↓qz,qc,ww,xn,jv,jw,yl,qd,qe,zj,wx,y7,jx,xp,xq,keq,y8,wy,qf,y9,ym,xr,jy,jz,xt,j0,wz,ja,j1,xu,xv,xw,jb,q5,q6,yn,q7,j2,Option.map_some,yo,qg,q8,q9,qh,ya,xx,yb,yp,yc,xy,w5,xz,x5,w6,jc,x6,Op.operands,Call.operands,yd,qi,w7,AObj.live]
    by_cases hm : mayV valid m.v (d + 1) = 0
    · rcases List.eq_nil_or_concat pre with rfl | ⟨pre', q, rfl⟩
      · simp -implicitDefEqProofs [mayO, mach_loop, mach_draw, h2, h4, hv, hw, hw2, ih, encM_eq, encV_eq, mid_lt, hm, hmm, IntWalk.i64_in,IntWalk.u64_in,IntWalk.u8_in,IntWalk.i32_in,IntWalk.u32_in,ye,zk,zm,qj,qk,qm,qn,zb,zc,zn,zp,zq,qo,zd,ze,zr,zt,zu,j3,x7,zw,zf,za,zx,qp,zy,zg,zz,z6,qq,zh,yf,qr,aop,yq,j4,j5,x8,x9,jd,j6,j7,wb,je,j8,yr,j9,wg,jf,jg,xa,xb,z7,jh,z8,ji,jj,yt,yu,xc,AV.one,wh,wi,aun,jk,xd,yw,afn,xe,Out.ren,xf,xg,jl,wj,xh,wl,jm,Eng.distinct,pos,wn,Eng.ren,wo,xi,wp,jo,wq,yg,xj,ws,wu,jp,frz,yx,yz,wv,List.lookup_cons,jq,zi,jr,js,List.range_succ,jt,xk,ju,xm,↓yh,↓yi,↓qt,↓y6,↓qu,↓qa,↓yj,↓yk,↓qv,↓qw,↓qx,↓qy,↓qb,↓qz,qc,ww,xn,jv,jw,yl,qd,qe,zj,wx,y7,jx,xp,xq,keq,y8,wy,qf,y9,ym,xr,jy,jz,xt,j0,wz,ja,j1,xu,xv,xw,jb,q5,q6,yn,q7,j2,Option.map_some,yo,qg,q8,q9,qh,ya,xx,yb,yp,yc,xy,w5,xz,x5,w6,jc,x6,Op.operands,Call.operands,yd,qi,w7,AObj.live]
      · have hw4 : IntKind.i64.wrap (((pre'.length : Nat) : Int) + 1 + 1) = (pre'.length : Nat) + 1 + 1 := wrap64 (by omega) (by simp at hll; omega)
        by_cases hk : (Op.bytesLess m.key q.key || m.key == q.key) = true
        · simp -implicitDefEqProofs [mayO, mach_loop, mach_draw, h2, h4, hv, hw, hw2, hw4, ih, encM_eq, encV_eq, mid_lt, pos1, ar1, ar2, ar3, ar4, hm, hmm, hk, IntWalk.i64_in,IntWalk.u64_in,IntWalk.u8_in,IntWalk.i32_in,IntWalk.u32_in,ye,zk,zm,qj,qk,qm,qn,zb,zc,zn,zp,zq,qo,zd,ze,zr,zt,zu,j3,x7,zw,zf,za,zx,qp,zy,zg,zz,z6,qq,zh,yf,qr,aop,yq,j4,j5,x8,x9,jd,j6,j7,wb,je,j8,yr,j9,wg,jf,jg,xa,xb,z7,jh,z8,ji,jj,yt,yu,xc,AV.one,wh,wi,aun,jk,xd,yw,afn,xe,Out.ren,xf,xg,jl,wj,xh,wl,jm,Eng.distinct,pos,wn,Eng.ren,wo,xi,wp,jo,wq,yg,xj,ws,wu,jp,frz,yx,yz,wv,List.lookup_cons,jq,zi,jr,js,List.range_succ,jt,xk,ju,xm,↓yh,↓yi,↓qt,↓y6,↓qu,↓qa,↓yj,↓yk,↓qv,↓qw,↓qx,↓qy,↓qb,↓qz,qc,ww,xn,jv,jw,yl,qd,qe,zj,wx,y7,jx,xp,xq,keq,y8,wy,qf,y9,ym,xr,jy,jz,xt,j0,wz,ja,j1,xu,xv,xw,jb,q5,q6,yn,q7,j2,Option.map_some,yo,qg,q8,q9,qh,ya,xx,yb,yp,yc,xy,w5,xz,x5,w6,jc,x6,Op.operands,Call.operands,yd,qi,w7,AObj.live]
        · simp -implicitDefEqProofs [mayO, mach_loop, mach_draw, h2, h4, hv, hw, hw2, hw4, encM_eq, encV_eq, mid_lt, pos1, ar1, ar2, ar3, ar4, hm, hmm, hk, IntWalk.i64_in,IntWalk.u64_in,IntWalk.u8_in,IntWalk.i32_in,IntWalk.u32_in,ye,zk,zm,qj,qk,qm,qn,zb,zc,zn,zp,zq,qo,zd,ze,zr,zt,zu,j3,x7,zw,zf,za,zx,qp,zy,zg,zz,z6,qq,zh,yf,qr,aop,yq,j4,j5,x8,x9,jd,j6,j7,wb,je,j8,yr,j9,wg,jf,jg,xa,xb,z7,jh,z8,ji,jj,yt,yu,xc,AV.one,wh,wi,aun,jk,xd,yw,afn,xe,Out.ren,xf,xg,jl,wj,xh,wl,jm,Eng.distinct,pos,wn,Eng.ren,wo,xi,wp,jo,wq,yg,xj,ws,wu,jp,frz,yx,yz,wv,List.lookup_cons,jq,zi,jr,js,List.range_succ,jt,xk,ju,xm,↓yh,↓yi,↓qt,↓y6,↓qu,↓qa,↓yj,↓yk,↓qv,↓qw,↓qx,↓qy,↓qb,↓qz,qc,ww,xn,jv,jw,yl,qd,qe,zj,wx,y7,jx,xp,xq,keq,y8,wy,qf,y9,ym,xr,jy,jz,xt,j0,wz,ja,j1,xu,xv,xw,jb,q5,q6,yn,q7,j2,Option.map_some,yo,qg,q8,q9,qh,ya,xx,yb,yp,yc,xy,w5,xz,x5,w6,jc,x6,Op.operands,Call.operands,yd,qi,w7,AObj.live]
          rw [ih _ (by simp -implicitDefEqProofs [encM_eq, encV_eq, IntWalk.i64_in,IntWalk.u64_in,IntWalk.u8_in,IntWalk.i32_in,IntWalk.u32_in,ye,zk,zm,qj,qk,qm,qn,zb,zc,zn,zp,zq,qo,zd,ze,zr,zt,zu,j3,x7,zw,zf,za,zx,qp,zy,zg,zz,z6,qq,zh,yf,qr,aop,yq,j4,j5,x8,x9,jd,j6,j7,wb,je,j8,yr,j9,wg,jf,jg,xa,xb,z7,jh,z8,ji,jj,yt,yu,xc,AV.one,wh,wi,aun,jk,xd,yw,afn,xe,Out.ren,xf,xg,jl,wj,xh,wl,jm,Eng.distinct,pos,wn,Eng.ren,wo,xi,wp,jo,wq,yg,xj,ws,wu,jp,frz,yx,yz,wv,List.lookup_cons,jq,zi,jr,js,List.range_succ,jt,xk,ju,xm,↓yh,↓yi,↓qt,↓y6,↓qu,↓qa,↓yj,↓yk,↓qv,↓qw,↓qx,↓qy,↓qb,↓qz,qc,ww,xn,jv,jw,yl,qd,qe,zj,wx,y7,jx,xp,xq,keq,y8,wy,qf,y9,ym,xr,jy,jz,xt,j0,wz,ja,j1,xu,xv,xw,jb,q5,q6,yn,q7,j2,Option.map_some,yo,qg,q8,q9,qh,ya,xx,yb,yp,yc,xy,w5,xz,x5,w6,jc,x6,Op.operands,Call.operands,yd,qi,w7,AObj.live] <;> omega)]
          simp
    · rcases List.eq_nil_or_concat pre with rfl | ⟨pre', q, rfl⟩
      · simp -implicitDefEqProofs [mayO, mach_loop, mach_draw, h2, h4, hv, hw, hw2, encM_eq, encV_eq, mid_lt, hm, hmm, IntWalk.i64_in,IntWalk.u64_in,IntWalk.u8_in,IntWalk.i32_in,IntWalk.u32_in,ye,zk,zm,qj,qk,qm,qn,zb,zc,zn,zp,zq,qo,zd,ze,zr,zt,zu,j3,x7,zw,zf,za,zx,qp,zy,zg,zz,z6,qq,zh,yf,qr,aop,yq,j4,j5,x8,x9,jd,j6,j7,wb,je,j8,yr,j9,wg,jf,jg,xa,xb,z7,jh,z8,ji,jj,yt,yu,xc,AV.one,wh,wi,aun,jk,xd,yw,afn,xe,Out.ren,xf,xg,jl,wj,xh,wl,jm,Eng.distinct,pos,wn,Eng.ren,wo,xi,wp,jo,wq,yg,xj,ws,wu,jp,frz,yx,yz,wv,List.lookup_cons,jq,zi,jr,js,List.range_succ,jt,xk,ju,xm,↓yh,↓yi,↓qt,↓y6,↓qu,↓qa,↓yj,↓yk,↓qv,↓qw,↓qx,↓qy,↓qb,↓qz,qc,ww,xn,jv,jw,yl,qd,qe,zj,wx,y7,jx,xp,xq,keq,y8,wy,qf,y9,ym,xr,jy,jz,xt,j0,wz,ja,j1,xu,xv,xw,jb,q5,q6,yn,q7,j2,Option.map_some,yo,qg,q8,q9,qh,ya,xx,yb,yp,yc,xy,w5,xz,x5,w6,jc,x6,Op.operands,Call.operands,yd,qi,w7,AObj.live]
      · by_cases hk : (Op.bytesLess m.key q.key || m.key == q.key) = true
        · simp -implicitDefEqProofs [mayO, mach_loop, mach_draw, h2, h4, hv, hw, hw2, encM_eq, encV_eq, mid_lt, pos1, ar1, ar2, ar3, ar4, hm, hmm, hk, IntWalk.i64_in,IntWalk.u64_in,IntWalk.u8_in,IntWalk.i32_in,IntWalk.u32_in,ye,zk,zm,qj,qk,qm,qn,zb,zc,zn,zp,zq,qo,zd,ze,zr,zt,zu,j3,x7,zw,zf,za,zx,qp,zy,zg,zz,z6,qq,zh,yf,qr,aop,yq,j4,j5,x8,x9,jd,j6,j7,wb,je,j8,yr,j9,wg,jf,jg,xa,xb,z7,jh,z8,ji,jj,yt,yu,xc,AV.one,wh,wi,aun,jk,xd,yw,afn,xe,Out.ren,xf,xg,jl,wj,xh,wl,jm,Eng.distinct,pos,wn,Eng.ren,wo,xi,wp,jo,wq,yg,xj,ws,wu,jp,frz,yx,yz,wv,List.lookup_cons,jq,zi,jr,js,List.range_succ,jt,xk,ju,xm,↓yh,↓yi,↓qt,↓y6,↓qu,↓qa,↓yj,↓yk,↓qv,↓qw,↓qx,↓qy,↓qb,↓qz,qc,ww,xn,jv,jw,yl,qd,qe,zj,wx,y7,jx,xp,xq,keq,y8,wy,qf,y9,ym,xr,jy,jz,xt,j0,wz,ja,j1,xu,xv,xw,jb,q5,q6,yn,q7,j2,Option.map_some,yo,qg,q8,q9,qh,ya,xx,yb,yp,yc,xy,w5,xz,x5,w6,jc,x6,Op.operands,Call.operands,yd,qi,w7,AObj.live]
        · simp -implicitDefEqProofs [mayO, mach_loop, mach_draw, h2, h4, hv, hw, hw2, encM_eq, encV_eq, mid_lt, pos1, ar1, ar2, ar3, ar4, hm, hmm, hk, IntWalk.i64_in,IntWalk.u64_in,IntWalk.u8_in,IntWalk.i32_in,IntWalk.u32_in,ye,zk,zm,qj,qk,qm,qn,zb,zc,zn,zp,zq,qo,zd,ze,zr,zt,zu,j3,x7,zw,zf,za,zx,qp,zy,zg,zz,z6,qq,zh,yf,qr,aop,yq,j4,j5,x8,x9,jd,j6,j7,wb,je,j8,yr,j9,wg,jf,jg,xa,xb,z7,jh,z8,ji,jj,yt,yu,xc,AV.one,wh,wi,aun,jk,xd,yw,afn,xe,Out.ren,xf,xg,jl,wj,xh,wl,jm,Eng.distinct,pos,wn,Eng.ren,wo,xi,wp,jo,wq,yg,xj,ws,wu,jp,frz,yx,yz,wv,List.lookup_cons,jq,zi,jr,js,List.range_succ,jt,xk,ju,xm,↓yh,↓yi,↓qt,↓y6,↓qu,↓qa,↓yj,↓yk,↓qv,↓qw,↓qx,↓qy,↓qb,↓qz,qc,ww,xn,jv,jw,yl,qd,qe,zj,wx,y7,jx,xp,xq,keq,y8,wy,qf,y9,ym,xr,jy,jz,xt,j0,wz,ja,j1,xu,xv,xw,jb,q5,q6,yn,q7,j2,Option.map_some,yo,qg,q8,q9,qh,ya,xx,yb,yp,yc,xy,w5,xz,x5,w6,jc,x6,Op.operands,Call.operands,yd,qi,w7,AObj.live]
  by_cases ho : mayO valid none v.o (d + 1) = 0
  · simp -implicitDefEqProofs [mach_loop, ho, R, IntWalk.i64_in,IntWalk.u64_in,IntWalk.u8_in,IntWalk.i32_in,IntWalk.u32_in,ye,zk,zm,qj,qk,qm,qn,zb,zc,zn,zp,zq,qo,zd,ze,zr,zt,zu,j3,x7,zw,zf,za,zx,qp,zy,zg,zz,z6,qq,zh,yf,qr,aop,yq,j4,j5,x8,x9,jd,j6,j7,wb,je,j8,yr,j9,wg,jf,jg,xa,xb,z7,jh,z8,ji,jj,yt,yu,xc,AV.one,wh,wi,aun,jk,xd,yw,afn,xe,Out.ren,xf,xg,jl,wj,xh,wl,jm,Eng.distinct,pos,wn,Eng.ren,wo,xi,wp,jo,wq,yg,xj,ws,wu,jp,frz,yx,yz,wv,List.lookup_cons,jq,zi,jr,js,List.range_succ,jt,xk,ju,xm,↓yh,↓yi,↓qt,↓y6,↓qu,↓qa,↓yj,↓yk,↓qv,↓qw,↓qx,↓qy,↓qb,↓qz,qc,ww,xn,jv,jw,yl,qd,qe,zj,wx,y7,jx,xp,xq,keq,y8,wy,qf,y9,ym,xr,jy,jz,xt,j0,wz,ja,j1,xu,xv,xw,jb,q5,q6,yn,q7,j2,Option.map_some,yo,qg,q8,q9,qh,ya,xx,yb,yp,yc,xy,w5,xz,x5,w6,jc,x6,Op.operands,Call.operands,yd,qi,w7,AObj.live]
  · simp -implicitDefEqProofs [mach_loop, ho, R, IntWalk.i64_in,IntWalk.u64_in,IntWalk.u8_in,IntWalk.i32_in,IntWalk.u32_in,ye,zk,zm,qj,qk,qm,qn,zb,zc,zn,zp,zq,qo,zd,ze,zr,zt,zu,j3,x7,zw,zf,za,zx,qp,zy,zg,zz,z6,qq,zh,yf,qr,aop,yq,j4,j5,x8,x9,jd,j6,j7,wb,je,j8,yr,j9,wg,jf,jg,xa,xb,z7,jh,z8,ji,jj,yt,yu,xc,AV.one,wh,wi,aun,jk,xd,yw,afn,xe,Out.ren,xf,xg,jl,wj,xh,wl,jm,Eng.distinct,pos,wn,Eng.ren,wo,xi,wp,jo,wq,yg,xj,ws,wu,jp,frz,yx,yz,wv,List.lookup_cons,jq,zi,jr,js,List.range_succ,jt,xk,ju,xm,↓yh,↓yi,↓qt,↓y6,↓qu,↓qa,↓yj,↓yk,↓qv,↓qw,↓qx,↓qy,↓qb,↓qz,qc,ww,xn,jv,jw,yl,qd,qe,zj,wx,y7,jx,xp,xq,keq,y8,wy,qf,y9,ym,xr,jy,jz,xt,j0,wz,ja,j1,xu,xv,xw,jb,q5,q6,yn,q7,j2,Option.map_some,yo,qg,q8,q9,qh,ya,xx,yb,yp,yc,xy,w5,xz,x5,w6,jc,x6,Op.operands,Call.operands,yd,qi,w7,AObj.live]
theorem b_rMay (C : Oracle) (v : V) (h : C 115 [avV v, .d (.int .i64 1)] [] = R (.int .i64 (mayV validU v 1))) : abody Tryz.prog [] C (mach Tryz.prog C {}) true 82 [avV v] [] = R (.int .i64 (mayTop v)) := by
  have h1 := h
  simp only [R, avV] at h1
  unfold abody
  rw [Tryz.func82]
  simp only [Tryz.f82]
  simp -implicitDefEqProofs [R, avV, mayTop, h1, IntWalk.i64_in,IntWalk.u64_in,IntWalk.u8_in,IntWalk.i32_in,IntWalk.u32_in,ye,zk,zm,qj,qk,qm,qn,zb,zc,zn,zp,zq,qo,zd,ze,zr,zt,zu,j3,x7,zw,zf,za,zx,qp,zy,zg,zz,z6,qq,zh,yf,qr,aop,yq,j4,j5,x8,x9,jd,j6,j7,wb,je,j8,yr,j9,wg,jf,jg,xa,xb,z7,jh,z8,ji,jj,yt,yu,xc,AV.one,wh,wi,aun,jk,xd,yw,afn,xe,Out.ren,xf,xg,jl,wj,xh,wl,jm,Eng.distinct,pos,wn,Eng.ren,wo,xi,wp,jo,wq,yg,xj,ws,wu,jp,frz,yx,yz,wv,List.lookup_cons,jq,zi,jr,js,List.range_succ,jt,xk,ju,xm,↓yh,↓yi,↓qt,↓y6,↓qu,↓qa,↓yj,↓yk,↓qv,↓qw,↓qx,↓qy,↓qb,↓qz,qc,ww,xn,jv,jw,yl,qd,qe,zj,wx,y7,jx,xp,xq,keq,y8,wy,qf,y9,ym,xr,jy,jz,xt,j0,wz,ja,j1,xu,xv,xw,jb,q5,q6,yn,q7,j2,Option.map_some,yo,qg,q8,q9,qh,ya,xx,yb,yp,yc,xy,w5,xz,x5,w6,jc,x6,Op.operands,Call.operands,yd,qi,w7,AObj.live]
end Go.Proofs.YtblejchodicaoaaGreatDoor.Eng

/-
  CONTRACTS: the reference's Equal, Within, Deep, Fits. Own work.
-/
namespace Go.Proofs.YtblejchodicaoaaGreatDoor.Eng
open Go Go.RowKit
set_option maxRecDepth 100000
set_option linter.unusedSimpArgs false
set_option maxHeartbeats 2000000

mutual
/-- Are two values the same? -/
def eqV : V → V → Bool
  | .mk k b n t l o, .mk k' b' n' t' l' o' => decide (k = k') && decide (b = b') && decide (n = n') && decide (t = t') && decide (l.length = l'.length) && decide (o.length = o'.length) && eqL l l' && eqO o o'
def eqM : M → M → Bool
  | .mk k v, .mk k' v' => decide (k = k') && eqV v v'
def eqL : List V → List V → Bool
  | x :: r, y :: q => eqV x y && eqL r q
  | _, _ => true
def eqO : List M → List M → Bool
  | x :: r, y :: q => eqM x y && eqO r q
  | _, _ => true
end
mutual
theorem eqV_iff : ∀ a b : V, eqV a b = true ↔ a = b
  | .mk k b n t l o, .mk k' b' n' t' l' o' => by
    simp only [eqV, Bool.and_eq_true, decide_eq_true_eq, V.mk.injEq]
    constructor
    · rintro ⟨⟨⟨⟨⟨⟨⟨h1, h2⟩, h3⟩, h4⟩, h5⟩, h6⟩, h7⟩, h8⟩
      exact ⟨h1, h2, h3, h4, (eqL_iff l l' h5).1 h7, (eqO_iff o o' h6).1 h8⟩
    · rintro ⟨h1, h2, h3, h4, h5, h6⟩
      have h7 : l.length = l'.length := by rw [h5]
      have h8 : o.length = o'.length := by rw [h6]
      exact ⟨⟨⟨⟨⟨⟨⟨h1, h2⟩, h3⟩, h4⟩, h7⟩, h8⟩, (eqL_iff l l' h7).2 h5⟩, (eqO_iff o o' h8).2 h6⟩
theorem eqM_iff : ∀ a b : M, eqM a b = true ↔ a = b
  | .mk k v, .mk k' v' => by
    simp only [eqM, Bool.and_eq_true, decide_eq_true_eq, M.mk.injEq, eqV_iff v v']
theorem eqL_iff : ∀ a b : List V, a.length = b.length → (eqL a b = true ↔ a = b)
  | [], [], _ => by simp [eqL]
  | [], _ :: _, h => by simp at h
  | _ :: _, [], h => by simp at h
  | x :: r, y :: q, h => by
    simp only [eqL, Bool.and_eq_true, eqV_iff x y, eqL_iff r q (by simpa using h), List.cons.injEq]
theorem eqO_iff : ∀ a b : List M, a.length = b.length → (eqO a b = true ↔ a = b)
  | [], [], _ => by simp [eqO]
  | [], _ :: _, h => by simp at h
  | _ :: _, [], h => by simp at h
  | x :: r, y :: q, h => by
    simp only [eqO, Bool.and_eq_true, eqM_iff x y, eqO_iff r q (by simpa using h), List.cons.injEq]
end
def zeroAV : AV := .agg [.d (.int .i64 0), .d (.bool false), .d (.int .i64 0), .d (.str []), .d .nils, .d .nils]
theorem zip_split {α : Type} (a b : List α) (h : a.length = b.length) : ∃ z : List (α × α), a = z.map Prod.fst ∧ b = z.map Prod.snd :=
  ⟨a.zip b, by rw [List.map_fst_zip (by omega)], by rw [List.map_snd_zip (by omega)]⟩
def eqZ (z : List (V × V)) : Bool := eqL (z.map Prod.fst) (z.map Prod.snd)
def eqZO (z : List (M × M)) : Bool := eqO (z.map Prod.fst) (z.map Prod.snd)

theorem b_rEqual (C : Oracle) (v w : V) (hsz : v.size ≤ 1099511627776) (h : ∀ x y, x.size < v.size → C 52 [avV x, avV y] [] = R (.bool (eqV x y))) :
    abody Tryz.prog [] C (mach Tryz.prog C { keep := [(58, [2, 3, 5]), (122, [2, 3, 6])], outs := [(58, [2, 3, 4]), (122, [4])] }) true 52 [avV v, avV w] [] = R (.bool (eqV v w)) := by
  simp only [R, avV] at h
  unfold abody
  rw [Tryz.func52]
  simp only [Tryz.f52]
  have e : eqV v w = (decide (v.k = w.k) && decide (v.b = w.b) && decide (v.n = w.n) && decide (v.t = w.t) && decide (v.l.length = w.l.length) && decide (v.o.length = w.o.length) && eqL v.l w.l && eqO v.o w.o) := by
    obtain ⟨k, b, n, t, l, o⟩ := v
    obtain ⟨k', b', n', t', l', o'⟩ := w
    simp only [eqV, V.k, V.b, V.n, V.t, V.l, V.o]
    rfl
  by_cases hk : v.k = w.k
  rotate_left
  · have e1 : eqV v w = false := by rw [e]; simp [hk]
    rw [e1]
    simp -implicitDefEqProofs [R, avV, mach_loop, intbne, intbeq, strbeq, Int.natCast_inj, hk, IntWalk.i64_in,IntWalk.u64_in,IntWalk.u8_in,IntWalk.i32_in,IntWalk.u32_in,ye,zk,zm,qj,qk,qm,qn,zb,zc,zn,zp,zq,qo,zd,ze,zr,zt,zu,j3,x7,zw,zf,za,zx,qp,zy,zg,zz,z6,qq,zh,yf,qr,aop,yq,j4,j5,x8,x9,jd,j6,j7,wb,je,j8,yr,j9,wg,jf,jg,xa,xb,z7,jh,z8,ji,jj,yt,yu,xc,AV.one,wh,wi,aun,jk,xd,yw,afn,xe,Out.ren,xf,xg,jl,wj,xh,wl,jm,Eng.distinct,pos,wn,Eng.ren,wo,xi,wp,jo,wq,yg,xj,ws,wu,jp,frz,yx,yz,wv,List.lookup_cons,jq,zi,jr,js,List.range_succ,jt,xk,ju,xm,↓yh,↓yi,↓qt,↓y6,↓qu,↓qa,↓yj,↓yk,↓qv,↓qw,↓qx,↓qy,↓qb,↓qz,qc,ww,xn,jv,jw,yl,qd,qe,zj,wx,y7,jx,xp,xq,keq,y8,wy,qf,y9,ym,xr,jy,jz,xt,j0,wz,ja,j1,xu,xv,xw,jb,q5,q6,yn,q7,j2,Option.map_some,yo,qg,q8,q9,qh,ya,xx,yb,yp,yc,xy,w5,xz,x5,w6,jc,x6,Op.operands,Call.operands,yd,qi,w7,AObj.live]
  by_cases hb : v.b = w.b
  rotate_left
  · have e1 : eqV v w = false := by rw [e]; simp [hb]
    rw [e1]
    simp -implicitDefEqProofs [R, avV, mach_loop, intbne, intbeq, strbeq, Int.natCast_inj, hk, hb, IntWalk.i64_in,IntWalk.u64_in,IntWalk.u8_in,IntWalk.i32_in,IntWalk.u32_in,ye,zk,zm,qj,qk,qm,qn,zb,zc,zn,zp,zq,qo,zd,ze,zr,zt,zu,j3,x7,zw,zf,za,zx,qp,zy,zg,zz,z6,qq,zh,yf,qr,aop,yq,j4,j5,x8,x9,jd,j6,j7,wb,je,j8,yr,j9,wg,jf,jg,xa,xb,z7,jh,z8,ji,jj,yt,yu,xc,AV.one,wh,wi,aun,jk,xd,yw,afn,xe,Out.ren,xf,xg,jl,wj,xh,wl,jm,Eng.distinct,pos,wn,Eng.ren,wo,xi,wp,jo,wq,yg,xj,ws,wu,jp,frz,yx,yz,wv,List.lookup_cons,jq,zi,jr,js,List.range_succ,jt,xk,ju,xm,↓yh,↓yi,↓qt,↓y6,↓qu,↓qa,↓yj,↓yk,↓qv,↓qw,↓qx,↓qy,↓qb,↓qz,qc,ww,xn,jv,jw,yl,qd,qe,zj,wx,y7,jx,xp,xq,keq,y8,wy,qf,y9,ym,xr,jy,jz,xt,j0,wz,ja,j1,xu,xv,xw,jb,q5,q6,yn,q7,j2,Option.map_some,yo,qg,q8,q9,qh,ya,xx,yb,yp,yc,xy,w5,xz,x5,w6,jc,x6,Op.operands,Call.operands,yd,qi,w7,AObj.live]
  by_cases hn : v.n = w.n
  rotate_left
  · have e1 : eqV v w = false := by rw [e]; simp [hn]
    rw [e1]
    simp -implicitDefEqProofs [R, avV, mach_loop, intbne, intbeq, strbeq, Int.natCast_inj, hk, hb, hn, IntWalk.i64_in,IntWalk.u64_in,IntWalk.u8_in,IntWalk.i32_in,IntWalk.u32_in,ye,zk,zm,qj,qk,qm,qn,zb,zc,zn,zp,zq,qo,zd,ze,zr,zt,zu,j3,x7,zw,zf,za,zx,qp,zy,zg,zz,z6,qq,zh,yf,qr,aop,yq,j4,j5,x8,x9,jd,j6,j7,wb,je,j8,yr,j9,wg,jf,jg,xa,xb,z7,jh,z8,ji,jj,yt,yu,xc,AV.one,wh,wi,aun,jk,xd,yw,afn,xe,Out.ren,xf,xg,jl,wj,xh,wl,jm,Eng.distinct,pos,wn,Eng.ren,wo,xi,wp,jo,wq,yg,xj,ws,wu,jp,frz,yx,yz,wv,List.lookup_cons,jq,zi,jr,js,List.range_succ,jt,xk,ju,xm,↓yh,↓yi,↓qt,↓y6,↓qu,↓qa,↓yj,↓yk,↓qv,↓qw,↓qx,↓qy,↓qb,↓qz,qc,ww,xn,jv,jw,yl,qd,qe,zj,wx,y7,jx,xp,xq,keq,y8,wy,qf,y9,ym,xr,jy,jz,xt,j0,wz,ja,j1,xu,xv,xw,jb,q5,q6,yn,q7,j2,Option.map_some,yo,qg,q8,q9,qh,ya,xx,yb,yp,yc,xy,w5,xz,x5,w6,jc,x6,Op.operands,Call.operands,yd,qi,w7,AObj.live]
  by_cases ht : v.t = w.t
  rotate_left
  · have e1 : eqV v w = false := by rw [e]; simp [ht]
    rw [e1]
    simp -implicitDefEqProofs [R, avV, mach_loop, intbne, intbeq, strbeq, Int.natCast_inj, hk, hb, hn, ht, IntWalk.i64_in,IntWalk.u64_in,IntWalk.u8_in,IntWalk.i32_in,IntWalk.u32_in,ye,zk,zm,qj,qk,qm,qn,zb,zc,zn,zp,zq,qo,zd,ze,zr,zt,zu,j3,x7,zw,zf,za,zx,qp,zy,zg,zz,z6,qq,zh,yf,qr,aop,yq,j4,j5,x8,x9,jd,j6,j7,wb,je,j8,yr,j9,wg,jf,jg,xa,xb,z7,jh,z8,ji,jj,yt,yu,xc,AV.one,wh,wi,aun,jk,xd,yw,afn,xe,Out.ren,xf,xg,jl,wj,xh,wl,jm,Eng.distinct,pos,wn,Eng.ren,wo,xi,wp,jo,wq,yg,xj,ws,wu,jp,frz,yx,yz,wv,List.lookup_cons,jq,zi,jr,js,List.range_succ,jt,xk,ju,xm,↓yh,↓yi,↓qt,↓y6,↓qu,↓qa,↓yj,↓yk,↓qv,↓qw,↓qx,↓qy,↓qb,↓qz,qc,ww,xn,jv,jw,yl,qd,qe,zj,wx,y7,jx,xp,xq,keq,y8,wy,qf,y9,ym,xr,jy,jz,xt,j0,wz,ja,j1,xu,xv,xw,jb,q5,q6,yn,q7,j2,Option.map_some,yo,qg,q8,q9,qh,ya,xx,yb,yp,yc,xy,w5,xz,x5,w6,jc,x6,Op.operands,Call.operands,yd,qi,w7,AObj.live]
  by_cases hll : v.l.length = w.l.length
  rotate_left
  · have e1 : eqV v w = false := by rw [e]; simp [hll]
    rw [e1]
    simp -implicitDefEqProofs [R, avV, mach_loop, intbne, intbeq, strbeq, Int.natCast_inj, hk, hb, hn, ht, hll, IntWalk.i64_in,IntWalk.u64_in,IntWalk.u8_in,IntWalk.i32_in,IntWalk.u32_in,ye,zk,zm,qj,qk,qm,qn,zb,zc,zn,zp,zq,qo,zd,ze,zr,zt,zu,j3,x7,zw,zf,za,zx,qp,zy,zg,zz,z6,qq,zh,yf,qr,aop,yq,j4,j5,x8,x9,jd,j6,j7,wb,je,j8,yr,j9,wg,jf,jg,xa,xb,z7,jh,z8,ji,jj,yt,yu,xc,AV.one,wh,wi,aun,jk,xd,yw,afn,xe,Out.ren,xf,xg,jl,wj,xh,wl,jm,Eng.distinct,pos,wn,Eng.ren,wo,xi,wp,jo,wq,yg,xj,ws,wu,jp,frz,yx,yz,wv,List.lookup_cons,jq,zi,jr,js,List.range_succ,jt,xk,ju,xm,↓yh,↓yi,↓qt,↓y6,↓qu,↓qa,↓yj,↓yk,↓qv,↓qw,↓qx,↓qy,↓qb,↓qz,qc,ww,xn,jv,jw,yl,qd,qe,zj,wx,y7,jx,xp,xq,keq,y8,wy,qf,y9,ym,xr,jy,jz,xt,j0,wz,ja,j1,xu,xv,xw,jb,q5,q6,yn,q7,j2,Option.map_some,yo,qg,q8,q9,qh,ya,xx,yb,yp,yc,xy,w5,xz,x5,w6,jc,x6,Op.operands,Call.operands,yd,qi,w7,AObj.live]
  by_cases hol : v.o.length = w.o.length
  rotate_left
  · have e1 : eqV v w = false := by rw [e]; simp [hol]
    rw [e1]
    simp -implicitDefEqProofs [R, avV, mach_loop, intbne, intbeq, strbeq, Int.natCast_inj, hk, hb, hn, ht, hll, hol, IntWalk.i64_in,IntWalk.u64_in,IntWalk.u8_in,IntWalk.i32_in,IntWalk.u32_in,ye,zk,zm,qj,qk,qm,qn,zb,zc,zn,zp,zq,qo,zd,ze,zr,zt,zu,j3,x7,zw,zf,za,zx,qp,zy,zg,zz,z6,qq,zh,yf,qr,aop,yq,j4,j5,x8,x9,jd,j6,j7,wb,je,j8,yr,j9,wg,jf,jg,xa,xb,z7,jh,z8,ji,jj,yt,yu,xc,AV.one,wh,wi,aun,jk,xd,yw,afn,xe,Out.ren,xf,xg,jl,wj,xh,wl,jm,Eng.distinct,pos,wn,Eng.ren,wo,xi,wp,jo,wq,yg,xj,ws,wu,jp,frz,yx,yz,wv,List.lookup_cons,jq,zi,jr,js,List.range_succ,jt,xk,ju,xm,↓yh,↓yi,↓qt,↓y6,↓qu,↓qa,↓yj,↓yk,↓qv,↓qw,↓qx,↓qy,↓qb,↓qz,qc,ww,xn,jv,jw,yl,qd,qe,zj,wx,y7,jx,xp,xq,keq,y8,wy,qf,y9,ym,xr,jy,jz,xt,j0,wz,ja,j1,xu,xv,xw,jb,q5,q6,yn,q7,j2,Option.map_some,yo,qg,q8,q9,qh,ya,xx,yb,yp,yc,xy,w5,xz,x5,w6,jc,x6,Op.operands,Call.operands,yd,qi,w7,AObj.live]
  obtain ⟨zl, hz1, hz2⟩ := zip_split v.l w.l hll
  obtain ⟨zo, hz3, hz4⟩ := zip_split v.o w.o hol
  have hl1 := V.l_len v
  have ho1 := V.o_len v
  have el : eqL v.l w.l = eqZ zl := by rw [eqZ, ← hz1, ← hz2]
  have eo : eqO v.o w.o = eqZO zo := by rw [eqZO, ← hz3, ← hz4]
  have e1 : eqV v w = (eqZ zl && eqZO zo) := by rw [e, el, eo]; simp [hk, hb, hn, ht, hll, hol]
  rw [e1]
  simp -implicitDefEqProofs [R, avV, mach_loop, intbne, intbeq, strbeq, Int.natCast_inj, hk, hb, hn, ht, hll, hol, IntWalk.i64_in,IntWalk.u64_in,IntWalk.u8_in,IntWalk.i32_in,IntWalk.u32_in,ye,zk,zm,qj,qk,qm,qn,zb,zc,zn,zp,zq,qo,zd,ze,zr,zt,zu,j3,x7,zw,zf,za,zx,qp,zy,zg,zz,z6,qq,zh,yf,qr,aop,yq,j4,j5,x8,x9,jd,j6,j7,wb,je,j8,yr,j9,wg,jf,jg,xa,xb,z7,jh,z8,ji,jj,yt,yu,xc,AV.one,wh,wi,aun,jk,xd,yw,afn,xe,Out.ren,xf,xg,jl,wj,xh,wl,jm,Eng.distinct,pos,wn,Eng.ren,wo,xi,wp,jo,wq,yg,xj,ws,wu,jp,frz,yx,yz,wv,List.lookup_cons,jq,zi,jr,js,List.range_succ,jt,xk,ju,xm,↓yh,↓yi,↓qt,↓y6,↓qu,↓qa,↓yj,↓yk,↓qv,↓qw,↓qx,↓qy,↓qb,↓qz,qc,ww,xn,jv,jw,yl,qd,qe,zj,wx,y7,jx,xp,xq,keq,y8,wy,qf,y9,ym,xr,jy,jz,xt,j0,wz,ja,j1,xu,xv,xw,jb,q5,q6,yn,q7,j2,Option.map_some,yo,qg,q8,q9,qh,ya,xx,yb,yp,yc,xy,w5,xz,x5,w6,jc,x6,Op.operands,Call.operands,yd,qi,w7,AObj.live]
  rw [aloop_list (l := zl)
    (S := fun pre suf => { env := [(2, .ptr 0 0), (3, .ptr 1 0), (5, .d (.int .i64 (pre.length : Nat)))], σ := [.box [.d (.int .i64 v.k), .d (.bool v.b), .d (.int .i64 v.n), .d (.str v.t), .d (.rs 6 ((pre ++ suf).map fun p => encV p.1)), .d (.rs 7 (zo.map fun p => encM p.1))] 45, .box [.d (.int .i64 w.k), .d (.bool w.b), .d (.int .i64 w.n), .d (.str w.t), .d (.rs 6 ((pre ++ suf).map fun p => encV p.2)), .d (.rs 7 (zo.map fun p => encM p.2))] 45], dfs := [] })
    (R := fun pre suf => if eqZ suf = true then some (.exit 0, { env := [(2, .ptr 0 0), (3, .ptr 1 0)], σ := [.box [.d (.int .i64 v.k), .d (.bool v.b), .d (.int .i64 v.n), .d (.str v.t), .d (.rs 6 ((pre ++ suf).map fun p => encV p.1)), .d (.rs 7 (zo.map fun p => encM p.1))] 45, .box [.d (.int .i64 w.k), .d (.bool w.b), .d (.int .i64 w.n), .d (.str w.t), .d (.rs 6 ((pre ++ suf).map fun p => encV p.2)), .d (.rs 7 (zo.map fun p => encM p.2))] 45], dfs := [] }) else some (.ret, { env := [(2, .ptr 0 0), (3, .ptr 1 0), (4, .d (.bool false))], σ := [.box [.d (.int .i64 v.k), .d (.bool v.b), .d (.int .i64 v.n), .d (.str v.t), .d (.rs 6 ((pre ++ suf).map fun p => encV p.1)), .d (.rs 7 (zo.map fun p => encM p.1))] 45, .box [.d (.int .i64 w.k), .d (.bool w.b), .d (.int .i64 w.n), .d (.str w.t), .d (.rs 6 ((pre ++ suf).map fun p => encV p.2)), .d (.rs 7 (zo.map fun p => encM p.2))] 45], dfs := [] }))
    (hs := ?_) (h0 := ?_) (h1 := ?_)]
  rotate_left
  · simp -implicitDefEqProofs [hk, hb, hn, ht, hz1, hz2, hz3, hz4, Function.comp_def, IntWalk.i64_in,IntWalk.u64_in,IntWalk.u8_in,IntWalk.i32_in,IntWalk.u32_in,ye,zk,zm,qj,qk,qm,qn,zb,zc,zn,zp,zq,qo,zd,ze,zr,zt,zu,j3,x7,zw,zf,za,zx,qp,zy,zg,zz,z6,qq,zh,yf,qr,aop,yq,j4,j5,x8,x9,jd,j6,j7,wb,je,j8,yr,j9,wg,jf,jg,xa,xb,z7,jh,z8,ji,jj,yt,yu,xc,AV.one,wh,wi,aun,jk,xd,yw,afn,xe,Out.ren,xf,xg,jl,wj,xh,wl,jm,Eng.distinct,pos,wn,Eng.ren,wo,xi,wp,jo,wq,yg,xj,ws,wu,jp,frz,yx,yz,wv,List.lookup_cons,jq,zi,jr,js,List.range_succ,jt,xk,ju,xm,↓yh,↓yi,↓qt,↓y6,↓qu,↓qa,↓yj,↓yk,↓qv,↓qw,↓qx,↓qy,↓qb,↓qz,qc,ww,xn,jv,jw,yl,qd,qe,zj,wx,y7,jx,xp,xq,keq,y8,wy,qf,y9,ym,xr,jy,jz,xt,j0,wz,ja,j1,xu,xv,xw,jb,q5,q6,yn,q7,j2,Option.map_some,yo,qg,q8,q9,qh,ya,xx,yb,yp,yc,xy,w5,xz,x5,w6,jc,x6,Op.operands,Call.operands,yd,qi,w7,AObj.live]
  · intro pre hp
    simp -implicitDefEqProofs [eqZ, eqL, mach_loop, IntWalk.i64_in,IntWalk.u64_in,IntWalk.u8_in,IntWalk.i32_in,IntWalk.u32_in,ye,zk,zm,qj,qk,qm,qn,zb,zc,zn,zp,zq,qo,zd,ze,zr,zt,zu,j3,x7,zw,zf,za,zx,qp,zy,zg,zz,z6,qq,zh,yf,qr,aop,yq,j4,j5,x8,x9,jd,j6,j7,wb,je,j8,yr,j9,wg,jf,jg,xa,xb,z7,jh,z8,ji,jj,yt,yu,xc,AV.one,wh,wi,aun,jk,xd,yw,afn,xe,Out.ren,xf,xg,jl,wj,xh,wl,jm,Eng.distinct,pos,wn,Eng.ren,wo,xi,wp,jo,wq,yg,xj,ws,wu,jp,frz,yx,yz,wv,List.lookup_cons,jq,zi,jr,js,List.range_succ,jt,xk,ju,xm,↓yh,↓yi,↓qt,↓y6,↓qu,↓qa,↓yj,↓yk,↓qv,↓qw,↓qx,↓qy,↓qb,↓qz,qc,ww,xn,jv,jw,yl,qd,qe,zj,wx,y7,jx,xp,xq,keq,y8,wy,qf,y9,ym,xr,jy,jz,xt,j0,wz,ja,j1,xu,xv,xw,jb,q5,q6,yn,q7,j2,Option.map_some,yo,qg,q8,q9,qh,ya,xx,yb,yp,yc,xy,w5,xz,x5,w6,jc,x6,Op.operands,Call.operands,yd,qi,w7,AObj.live]
  · intro pre p suf hp ih
    have hx : p.1.size < v.size := V.size_l (by rw [hz1, ← hp]; simp)
    have h4 := h p.1 p.2 hx
    have hlp : pre.length < v.l.length := by rw [hz1, ← hp]; simp
    have hw2 : IntKind.i64.wrap ((pre.length : Nat) + 1) = (pre.length : Nat) + 1 := wrap64 (by omega) (by omega)
    by_cases hm : eqV p.1 p.2 = true
    · simp -implicitDefEqProofs [eqZ, eqL, mach_loop, mach_draw, h4, hw2, encV_eq p.1, encV_eq p.2, mid_lt, hm, IntWalk.i64_in,IntWalk.u64_in,IntWalk.u8_in,IntWalk.i32_in,IntWalk.u32_in,ye,zk,zm,qj,qk,qm,qn,zb,zc,zn,zp,zq,qo,zd,ze,zr,zt,zu,j3,x7,zw,zf,za,zx,qp,zy,zg,zz,z6,qq,zh,yf,qr,aop,yq,j4,j5,x8,x9,jd,j6,j7,wb,je,j8,yr,j9,wg,jf,jg,xa,xb,z7,jh,z8,ji,jj,yt,yu,xc,AV.one,wh,wi,aun,jk,xd,yw,afn,xe,Out.ren,xf,xg,jl,wj,xh,wl,jm,Eng.distinct,pos,wn,Eng.ren,wo,xi,wp,jo,wq,yg,xj,ws,wu,jp,frz,yx,yz,wv,List.lookup_cons,jq,zi,jr,js,List.range_succ,jt,xk,ju,xm,↓yh,↓yi,↓qt,↓y6,↓qu,↓qa,↓yj,↓yk,↓qv,↓qw,↓qx,↓qy,↓qb,↓qz,qc,ww,xn,jv,jw,yl,qd,qe,zj,wx,y7,jx,xp,xq,keq,y8,wy,qf,y9,ym,xr,jy,jz,xt,j0,wz,ja,j1,xu,xv,xw,jb,q5,q6,yn,q7,j2,Option.map_some,yo,qg,q8,q9,qh,ya,xx,yb,yp,yc,xy,w5,xz,x5,w6,jc,x6,Op.operands,Call.operands,yd,qi,w7,AObj.live]
      rw [ih _ (by simp -implicitDefEqProofs [encV_eq p.1, encV_eq p.2, IntWalk.i64_in,IntWalk.u64_in,IntWalk.u8_in,IntWalk.i32_in,IntWalk.u32_in,ye,zk,zm,qj,qk,qm,qn,zb,zc,zn,zp,zq,qo,zd,ze,zr,zt,zu,j3,x7,zw,zf,za,zx,qp,zy,zg,zz,z6,qq,zh,yf,qr,aop,yq,j4,j5,x8,x9,jd,j6,j7,wb,je,j8,yr,j9,wg,jf,jg,xa,xb,z7,jh,z8,ji,jj,yt,yu,xc,AV.one,wh,wi,aun,jk,xd,yw,afn,xe,Out.ren,xf,xg,jl,wj,xh,wl,jm,Eng.distinct,pos,wn,Eng.ren,wo,xi,wp,jo,wq,yg,xj,ws,wu,jp,frz,yx,yz,wv,List.lookup_cons,jq,zi,jr,js,List.range_succ,jt,xk,ju,xm,↓yh,↓yi,↓qt,↓y6,↓qu,↓qa,↓yj,↓yk,↓qv,↓qw,↓qx,↓qy,↓qb,↓qz,qc,ww,xn,jv,jw,yl,qd,qe,zj,wx,y7,jx,xp,xq,keq,y8,wy,qf,y9,ym,xr,jy,jz,xt,j0,wz,ja,j1,xu,xv,xw,jb,q5,q6,yn,q7,j2,Option.map_some,yo,qg,q8,q9,qh,ya,xx,yb,yp,yc,xy,w5,xz,x5,w6,jc,x6,Op.operands,Call.operands,yd,qi,w7,AObj.live] <;> omega)]
      simp [eqZ, encV_eq p.1, encV_eq p.2]
    · simp -implicitDefEqProofs [eqZ, eqL, mach_loop, mach_draw, h4, hw2, encV_eq p.1, encV_eq p.2, mid_lt, hm, IntWalk.i64_in,IntWalk.u64_in,IntWalk.u8_in,IntWalk.i32_in,IntWalk.u32_in,ye,zk,zm,qj,qk,qm,qn,zb,zc,zn,zp,zq,qo,zd,ze,zr,zt,zu,j3,x7,zw,zf,za,zx,qp,zy,zg,zz,z6,qq,zh,yf,qr,aop,yq,j4,j5,x8,x9,jd,j6,j7,wb,je,j8,yr,j9,wg,jf,jg,xa,xb,z7,jh,z8,ji,jj,yt,yu,xc,AV.one,wh,wi,aun,jk,xd,yw,afn,xe,Out.ren,xf,xg,jl,wj,xh,wl,jm,Eng.distinct,pos,wn,Eng.ren,wo,xi,wp,jo,wq,yg,xj,ws,wu,jp,frz,yx,yz,wv,List.lookup_cons,jq,zi,jr,js,List.range_succ,jt,xk,ju,xm,↓yh,↓yi,↓qt,↓y6,↓qu,↓qa,↓yj,↓yk,↓qv,↓qw,↓qx,↓qy,↓qb,↓qz,qc,ww,xn,jv,jw,yl,qd,qe,zj,wx,y7,jx,xp,xq,keq,y8,wy,qf,y9,ym,xr,jy,jz,xt,j0,wz,ja,j1,xu,xv,xw,jb,q5,q6,yn,q7,j2,Option.map_some,yo,qg,q8,q9,qh,ya,xx,yb,yp,yc,xy,w5,xz,x5,w6,jc,x6,Op.operands,Call.operands,yd,qi,w7,AObj.live]
  by_cases hel : eqZ zl = true
  rotate_left
  · simp -implicitDefEqProofs [R, mach_loop, hel, IntWalk.i64_in,IntWalk.u64_in,IntWalk.u8_in,IntWalk.i32_in,IntWalk.u32_in,ye,zk,zm,qj,qk,qm,qn,zb,zc,zn,zp,zq,qo,zd,ze,zr,zt,zu,j3,x7,zw,zf,za,zx,qp,zy,zg,zz,z6,qq,zh,yf,qr,aop,yq,j4,j5,x8,x9,jd,j6,j7,wb,je,j8,yr,j9,wg,jf,jg,xa,xb,z7,jh,z8,ji,jj,yt,yu,xc,AV.one,wh,wi,aun,jk,xd,yw,afn,xe,Out.ren,xf,xg,jl,wj,xh,wl,jm,Eng.distinct,pos,wn,Eng.ren,wo,xi,wp,jo,wq,yg,xj,ws,wu,jp,frz,yx,yz,wv,List.lookup_cons,jq,zi,jr,js,List.range_succ,jt,xk,ju,xm,↓yh,↓yi,↓qt,↓y6,↓qu,↓qa,↓yj,↓yk,↓qv,↓qw,↓qx,↓qy,↓qb,↓qz,qc,ww,xn,jv,jw,yl,qd,qe,zj,wx,y7,jx,xp,xq,keq,y8,wy,qf,y9,ym,xr,jy,jz,xt,j0,wz,ja,j1,xu,xv,xw,jb,q5,q6,yn,q7,j2,Option.map_some,yo,qg,q8,q9,qh,ya,xx,yb,yp,yc,xy,w5,xz,x5,w6,jc,x6,Op.operands,Call.operands,yd,qi,w7,AObj.live]
  simp -implicitDefEqProofs [R, mach_loop, hel, IntWalk.i64_in,IntWalk.u64_in,IntWalk.u8_in,IntWalk.i32_in,IntWalk.u32_in,ye,zk,zm,qj,qk,qm,qn,zb,zc,zn,zp,zq,qo,zd,ze,zr,zt,zu,j3,x7,zw,zf,za,zx,qp,zy,zg,zz,z6,qq,zh,yf,qr,aop,yq,j4,j5,x8,x9,jd,j6,j7,wb,je,j8,yr,j9,wg,jf,jg,xa,xb,z7,jh,z8,ji,jj,yt,yu,xc,AV.one,wh,wi,aun,jk,xd,yw,afn,xe,Out.ren,xf,xg,jl,wj,xh,wl,jm,Eng.distinct,pos,wn,Eng.ren,wo,xi,wp,jo,wq,yg,xj,ws,wu,jp,frz,yx,yz,wv,List.lookup_cons,jq,zi,jr,js,List.range_succ,jt,xk,ju,xm,↓yh,↓yi,↓qt,↓y6,↓qu,↓qa,↓yj,↓yk,↓qv,↓qw,↓qx,↓qy,↓qb,↓qz,qc,ww,xn,jv,jw,yl,qd,qe,zj,wx,y7,jx,xp,xq,keq,y8,wy,qf,y9,ym,xr,jy,jz,xt,j0,wz,ja,j1,xu,xv,xw,jb,q5,q6,yn,q7,j2,Option.map_some,yo,qg,q8,q9,qh,ya,xx,yb,yp,yc,xy,w5,xz,x5,w6,jc,x6,Op.operands,Call.operands,yd,qi,w7,AObj.live]
  rw [aloop_list (l := zo)
    (S := fun pre suf => { env := [(2, .ptr 0 0), (3, .ptr 1 0), (6, .d (.int .i64 (pre.length : Nat)))], σ := [.box [.d (.int .i64 v.k), .d (.bool v.b), .d (.int .i64 v.n), .d (.str v.t), .d (.rs 6 (zl.map fun p => encV p.1)), .d (.rs 7 ((pre ++ suf).map fun p => encM p.1))] 45, .box [.d (.int .i64 w.k), .d (.bool w.b), .d (.int .i64 w.n), .d (.str w.t), .d (.rs 6 (zl.map fun p => encV p.2)), .d (.rs 7 ((pre ++ suf).map fun p => encM p.2))] 45], dfs := [] })
    (R := fun pre suf => if eqZO suf = true then some (.exit 2, { env := [], σ := [], dfs := [] }) else some (.ret, { env := [(4, .d (.bool false))], σ := [], dfs := [] }))
    (hs := ?_) (h0 := ?_) (h1 := ?_)]
  rotate_left
  · simp -implicitDefEqProofs [IntWalk.i64_in,IntWalk.u64_in,IntWalk.u8_in,IntWalk.i32_in,IntWalk.u32_in,ye,zk,zm,qj,qk,qm,qn,zb,zc,zn,zp,zq,qo,zd,ze,zr,zt,zu,j3,x7,zw,zf,za,zx,qp,zy,zg,zz,z6,qq,zh,yf,qr,aop,yq,j4,j5,x8,x9,jd,j6,j7,wb,je,j8,yr,j9,wg,jf,jg,xa,xb,z7,jh,z8,ji,jj,yt,yu,xc,AV.one,wh,wi,aun,jk,xd,yw,afn,xe,Out.ren,xf,xg,jl,wj,xh,wl,jm,Eng.distinct,pos,wn,Eng.ren,wo,xi,wp,jo,wq,yg,xj,ws,wu,jp,frz,yx,yz,wv,List.lookup_cons,jq,zi,jr,js,List.range_succ,jt,xk,ju,xm,↓yh,↓yi,↓qt,↓y6,↓qu,↓qa,↓yj,↓yk,↓qv,↓qw,↓qx,↓qy,↓qb,↓qz,qc,ww,xn,jv,jw,yl,qd,qe,zj,wx,y7,jx,xp,xq,keq,y8,wy,qf,y9,ym,xr,jy,jz,xt,j0,wz,ja,j1,xu,xv,xw,jb,q5,q6,yn,q7,j2,Option.map_some,yo,qg,q8,q9,qh,ya,xx,yb,yp,yc,xy,w5,xz,x5,w6,jc,x6,Op.operands,Call.operands,yd,qi,w7,AObj.live]
  · intro pre hp
    simp -implicitDefEqProofs [eqZO, eqO, mach_loop, IntWalk.i64_in,IntWalk.u64_in,IntWalk.u8_in,IntWalk.i32_in,IntWalk.u32_in,ye,zk,zm,qj,qk,qm,qn,zb,zc,zn,zp,zq,qo,zd,ze,zr,zt,zu,j3,x7,zw,zf,za,zx,qp,zy,zg,zz,z6,qq,zh,yf,qr,aop,yq,j4,j5,x8,x9,jd,j6,j7,wb,je,j8,yr,j9,wg,jf,jg,xa,xb,z7,jh,z8,ji,jj,yt,yu,xc,AV.one,wh,wi,aun,jk,xd,yw,afn,xe,Out.ren,xf,xg,jl,wj,xh,wl,jm,Eng.distinct,pos,wn,Eng.ren,wo,xi,wp,jo,wq,yg,xj,ws,wu,jp,frz,yx,yz,wv,List.lookup_cons,jq,zi,jr,js,List.range_succ,jt,xk,ju,xm,↓yh,↓yi,↓qt,↓y6,↓qu,↓qa,↓yj,↓yk,↓qv,↓qw,↓qx,↓qy,↓qb,↓qz,qc,ww,xn,jv,jw,yl,qd,qe,zj,wx,y7,jx,xp,xq,keq,y8,wy,qf,y9,ym,xr,jy,jz,xt,j0,wz,ja,j1,xu,xv,xw,jb,q5,q6,yn,q7,j2,Option.map_some,yo,qg,q8,q9,qh,ya,xx,yb,yp,yc,xy,w5,xz,x5,w6,jc,x6,Op.operands,Call.operands,yd,qi,w7,AObj.live]
  · intro pre p suf hp ih
    have hx : p.1.v.size < v.size := V.size_o (by rw [hz3, ← hp]; simp)
    have h4 := h p.1.v p.2.v hx
    have hlp : pre.length < v.o.length := by rw [hz3, ← hp]; simp
    have hw2 : IntKind.i64.wrap ((pre.length : Nat) + 1) = (pre.length : Nat) + 1 := wrap64 (by omega) (by omega)
    have hmm : eqM p.1 p.2 = (decide (p.1.key = p.2.key) && eqV p.1.v p.2.v) := by
      obtain ⟨⟨k, x⟩, ⟨k', x'⟩⟩ := p
      simp only [eqM, M.key, M.v]
      rfl
    by_cases hm : p.1.key = p.2.key ∧ eqV p.1.v p.2.v = true
    · obtain ⟨hm1, hm2⟩ := hm
      simp -implicitDefEqProofs [eqZO, eqO, hmm, mach_loop, mach_draw, h4, hw2, encM_eq p.1, encM_eq p.2, encV_eq p.1.v, encV_eq p.2.v, mid_lt, hm1, hm2, strbeq, IntWalk.i64_in,IntWalk.u64_in,IntWalk.u8_in,IntWalk.i32_in,IntWalk.u32_in,ye,zk,zm,qj,qk,qm,qn,zb,zc,zn,zp,zq,qo,zd,ze,zr,zt,zu,j3,x7,zw,zf,za,zx,qp,zy,zg,zz,z6,qq,zh,yf,qr,aop,yq,j4,j5,x8,x9,jd,j6,j7,wb,je,j8,yr,j9,wg,jf,jg,xa,xb,z7,jh,z8,ji,jj,yt,yu,xc,AV.one,wh,wi,aun,jk,xd,yw,afn,xe,Out.ren,xf,xg,jl,wj,xh,wl,jm,Eng.distinct,pos,wn,Eng.ren,wo,xi,wp,jo,wq,yg,xj,ws,wu,jp,frz,yx,yz,wv,List.lookup_cons,jq,zi,jr,js,List.range_succ,jt,xk,ju,xm,↓yh,↓yi,↓qt,↓y6,↓qu,↓qa,↓yj,↓yk,↓qv,↓qw,↓qx,↓qy,↓qb,↓qz,qc,ww,xn,jv,jw,yl,qd,qe,zj,wx,y7,jx,xp,xq,keq,y8,wy,qf,y9,ym,xr,jy,jz,xt,j0,wz,ja,j1,xu,xv,xw,jb,q5,q6,yn,q7,j2,Option.map_some,yo,qg,q8,q9,qh,ya,xx,yb,yp,yc,xy,w5,xz,x5,w6,jc,x6,Op.operands,Call.operands,yd,qi,w7,AObj.live]
      rw [ih _ (by simp -implicitDefEqProofs [encM_eq p.1, encM_eq p.2, encV_eq p.1.v, encV_eq p.2.v, hm1, IntWalk.i64_in,IntWalk.u64_in,IntWalk.u8_in,IntWalk.i32_in,IntWalk.u32_in,ye,zk,zm,qj,qk,qm,qn,zb,zc,zn,zp,zq,qo,zd,ze,zr,zt,zu,j3,x7,zw,zf,za,zx,qp,zy,zg,zz,z6,qq,zh,yf,qr,aop,yq,j4,j5,x8,x9,jd,j6,j7,wb,je,j8,yr,j9,wg,jf,jg,xa,xb,z7,jh,z8,ji,jj,yt,yu,xc,AV.one,wh,wi,aun,jk,xd,yw,afn,xe,Out.ren,xf,xg,jl,wj,xh,wl,jm,Eng.distinct,pos,wn,Eng.ren,wo,xi,wp,jo,wq,yg,xj,ws,wu,jp,frz,yx,yz,wv,List.lookup_cons,jq,zi,jr,js,List.range_succ,jt,xk,ju,xm,↓yh,↓yi,↓qt,↓y6,↓qu,↓qa,↓yj,↓yk,↓qv,↓qw,↓qx,↓qy,↓qb,↓qz,qc,ww,xn,jv,jw,yl,qd,qe,zj,wx,y7,jx,xp,xq,keq,y8,wy,qf,y9,ym,xr,jy,jz,xt,j0,wz,ja,j1,xu,xv,xw,jb,q5,q6,yn,q7,j2,Option.map_some,yo,qg,q8,q9,qh,ya,xx,yb,yp,yc,xy,w5,xz,x5,w6,jc,x6,Op.operands,Call.operands,yd,qi,w7,AObj.live] <;> omega)]
      simp [eqZO]
      rfl
    · by_cases hm1 : p.1.key = p.2.key
      · have hm2 : eqV p.1.v p.2.v = false := by simpa [hm1] using hm
        simp -implicitDefEqProofs [eqZO, eqO, hmm, mach_loop, mach_draw, h4, hw2, encM_eq p.1, encM_eq p.2, encV_eq p.1.v, encV_eq p.2.v, mid_lt, hm1, hm2, strbeq, IntWalk.i64_in,IntWalk.u64_in,IntWalk.u8_in,IntWalk.i32_in,IntWalk.u32_in,ye,zk,zm,qj,qk,qm,qn,zb,zc,zn,zp,zq,qo,zd,ze,zr,zt,zu,j3,x7,zw,zf,za,zx,qp,zy,zg,zz,z6,qq,zh,yf,qr,aop,yq,j4,j5,x8,x9,jd,j6,j7,wb,je,j8,yr,j9,wg,jf,jg,xa,xb,z7,jh,z8,ji,jj,yt,yu,xc,AV.one,wh,wi,aun,jk,xd,yw,afn,xe,Out.ren,xf,xg,jl,wj,xh,wl,jm,Eng.distinct,pos,wn,Eng.ren,wo,xi,wp,jo,wq,yg,xj,ws,wu,jp,frz,yx,yz,wv,List.lookup_cons,jq,zi,jr,js,List.range_succ,jt,xk,ju,xm,↓yh,↓yi,↓qt,↓y6,↓qu,↓qa,↓yj,↓yk,↓qv,↓qw,↓qx,↓qy,↓qb,↓qz,qc,ww,xn,jv,jw,yl,qd,qe,zj,wx,y7,jx,xp,xq,keq,y8,wy,qf,y9,ym,xr,jy,jz,xt,j0,wz,ja,j1,xu,xv,xw,jb,q5,q6,yn,q7,j2,Option.map_some,yo,qg,q8,q9,qh,ya,xx,yb,yp,yc,xy,w5,xz,x5,w6,jc,x6,Op.operands,Call.operands,yd,qi,w7,AObj.live]
      · simp -implicitDefEqProofs [eqZO, eqO, hmm, mach_loop, mach_draw, h4, hw2, encM_eq p.1, encM_eq p.2, encV_eq p.1.v, encV_eq p.2.v, mid_lt, hm1, strbeq, IntWalk.i64_in,IntWalk.u64_in,IntWalk.u8_in,IntWalk.i32_in,IntWalk.u32_in,ye,zk,zm,qj,qk,qm,qn,zb,zc,zn,zp,zq,qo,zd,ze,zr,zt,zu,j3,x7,zw,zf,za,zx,qp,zy,zg,zz,z6,qq,zh,yf,qr,aop,yq,j4,j5,x8,x9,jd,j6,j7,wb,je,j8,yr,j9,wg,jf,jg,xa,xb,z7,jh,z8,ji,jj,yt,yu,xc,AV.one,wh,wi,aun,jk,xd,yw,afn,xe,Out.ren,xf,xg,jl,wj,xh,wl,jm,Eng.distinct,pos,wn,Eng.ren,wo,xi,wp,jo,wq,yg,xj,ws,wu,jp,frz,yx,yz,wv,List.lookup_cons,jq,zi,jr,js,List.range_succ,jt,xk,ju,xm,↓yh,↓yi,↓qt,↓y6,↓qu,↓qa,↓yj,↓yk,↓qv,↓qw,↓qx,↓qy,↓qb,↓qz,qc,ww,xn,jv,jw,yl,qd,qe,zj,wx,y7,jx,xp,xq,keq,y8,wy,qf,y9,ym,xr,jy,jz,xt,j0,wz,ja,j1,xu,xv,xw,jb,q5,q6,yn,q7,j2,Option.map_some,yo,qg,q8,q9,qh,ya,xx,yb,yp,yc,xy,w5,xz,x5,w6,jc,x6,Op.operands,Call.operands,yd,qi,w7,AObj.live]
  by_cases heo : eqZO zo = true
  · simp -implicitDefEqProofs [R, mach_loop, heo, IntWalk.i64_in,IntWalk.u64_in,IntWalk.u8_in,IntWalk.i32_in,IntWalk.u32_in,ye,zk,zm,qj,qk,qm,qn,zb,zc,zn,zp,zq,qo,zd,ze,zr,zt,zu,j3,x7,zw,zf,za,zx,qp,zy,zg,zz,z6,qq,zh,yf,qr,aop,yq,j4,j5,x8,x9,jd,j6,j7,wb,je,j8,yr,j9,wg,jf,jg,xa,xb,z7,jh,z8,ji,jj,yt,yu,xc,AV.one,wh,wi,aun,jk,xd,yw,afn,xe,Out.ren,xf,xg,jl,wj,xh,wl,jm,Eng.distinct,pos,wn,Eng.ren,wo,xi,wp,jo,wq,yg,xj,ws,wu,jp,frz,yx,yz,wv,List.lookup_cons,jq,zi,jr,js,List.range_succ,jt,xk,ju,xm,↓yh,↓yi,↓qt,↓y6,↓qu,↓qa,↓yj,↓yk,↓qv,↓qw,↓qx,↓qy,↓qb,↓qz,qc,ww,xn,jv,jw,yl,qd,qe,zj,wx,y7,jx,xp,xq,keq,y8,wy,qf,y9,ym,xr,jy,jz,xt,j0,wz,ja,j1,xu,xv,xw,jb,q5,q6,yn,q7,j2,Option.map_some,yo,qg,q8,q9,qh,ya,xx,yb,yp,yc,xy,w5,xz,x5,w6,jc,x6,Op.operands,Call.operands,yd,qi,w7,AObj.live]
  · simp -implicitDefEqProofs [R, mach_loop, heo, IntWalk.i64_in,IntWalk.u64_in,IntWalk.u8_in,IntWalk.i32_in,IntWalk.u32_in,ye,zk,zm,qj,qk,qm,qn,zb,zc,zn,zp,zq,qo,zd,ze,zr,zt,zu,j3,x7,zw,zf,za,zx,qp,zy,zg,zz,z6,qq,zh,yf,qr,aop,yq,j4,j5,x8,x9,jd,j6,j7,wb,je,j8,yr,j9,wg,jf,jg,xa,xb,z7,jh,z8,ji,jj,yt,yu,xc,AV.one,wh,wi,aun,jk,xd,yw,afn,xe,Out.ren,xf,xg,jl,wj,xh,wl,jm,Eng.distinct,pos,wn,Eng.ren,wo,xi,wp,jo,wq,yg,xj,ws,wu,jp,frz,yx,yz,wv,List.lookup_cons,jq,zi,jr,js,List.range_succ,jt,xk,ju,xm,↓yh,↓yi,↓qt,↓y6,↓qu,↓qa,↓yj,↓yk,↓qv,↓qw,↓qx,↓qy,↓qb,↓qz,qc,ww,xn,jv,jw,yl,qd,qe,zj,wx,y7,jx,xp,xq,keq,y8,wy,qf,y9,ym,xr,jy,jz,xt,j0,wz,ja,j1,xu,xv,xw,jb,q5,q6,yn,q7,j2,Option.map_some,yo,qg,q8,q9,qh,ya,xx,yb,yp,yc,xy,w5,xz,x5,w6,jc,x6,Op.operands,Call.operands,yd,qi,w7,AObj.live]
end Go.Proofs.YtblejchodicaoaaGreatDoor.Eng
