/-
  CONTRACTS: crc: the halves, More, Sum, Seal; frame. Own work.
-/
import Derived.Test.YtblejchodicaoaaGreatDoorJ8
set_option linter.unusedVariables false
set_option linter.unusedSimpArgs false
namespace Go.Proofs.YtblejchodicaoaaGreatDoor.Eng
open Go Go.RowKit
set_option maxRecDepth 100000
set_option linter.unusedSimpArgs false
set_option maxHeartbeats 4000000

theorem ids_map (f : Nat → D) : ∀ l : List Nat, jl (l.map fun i => AV.d (f i)) = []
  | [] => rfl
  | x :: r => by simp [jl, xg, ids_map f r]
theorem renl_map (f : Nat → D) (m : Nat → Option Nat) : ∀ l : List Nat, wn m (l.map fun i => AV.d (f i)) = l.map fun i => AV.d (f i)
  | [] => rfl
  | x :: r => by simp [wn, Eng.ren, renl_map f m r]
theorem crcT_ids : jl crcT = [] := ids_map (fun i => .int .u32 (nibT i : Nat)) _
theorem crcT_ren (m : Nat → Option Nat) : wn m crcT = crcT := renl_map (fun i => .int .u32 (nibT i : Nat)) m _
theorem crcT_len : crcT.length = 16 := by simp [crcT]
theorem crcT_at (i : Nat) (h : i < 16) : crcT[i]? = some (.d (.int .u32 (nibT i : Nat))) := by simp [crcT, h]
theorem crcT_get (i : Nat) (h : i < crcT.length) : crcT[i] = .d (.int .u32 (nibT i : Nat)) := by simp [crcT]

theorem crcT_one : ∀ x ∈ crcT, AV.one x = true := by
  intro x hx
  simp only [crcT, List.mem_map] at hx
  obtain ⟨i, _, rfl⟩ := hx
  rfl
noncomputable def crcL (d : D) : AObj := .loop [(4, .d (.int .u32 0)), (5, .ptr 2 0), (6, .ptr 3 0), (12, .d d)] 25 (rfPs (codeAt [true, true, true, false, true, false] (Tryz.f138.body.getD .skip))) (rfA (codeAt [true, true, true, false, true, false] (Tryz.f138.body.getD .skip))) (rfB (codeAt [true, true, true, false, true, false] (Tryz.f138.body.getD .skip))) .ready none 1
noncomputable def crcSt (d : D) (r : Nat) : List AObj := [crcL d, .dfr, .box crcT 215, .box [.d (.int .u32 (r : Nat))] 119]
noncomputable def crcSt' (d : D) (r : Nat) : List AObj := crcSt d r
def halvesF (b : List UInt8) : D := .fn (.func 200) [] [.rp [.rs 1 (byL b)]]

theorem r_crc (C : Oracle) (d : D) (r h : Nat) (hr : r < 4294967296) (hh : h < 16) :
    rounds Tryz.prog C { keep := [(122, [4, 5, 6, 12, 13])] } 122 [.yld 0, .d (.int .u32 h)] (crcSt d r) = some (.ret (.d (.bool true)), crcSt' d (nibN r h)) := by
  have s4 : ashift .shr .u32 (r : Int) 4 = _ := sh32 r 4 (by omega)
  have x1 := ab32_xor (x := r) (y := h) hr (by omega)
  have hx := xor_lt hr (show h < 4294967296 by omega)
  have a1 := ab32_and15 hx
  have hm : (r ^^^ h) % 16 < 16 := by omega
  have ht := crcT_at ((r ^^^ h) % 16) hm
  have hl := nibT_lt hm
  have hg := fun hK => crcT_get ((r ^^^ h) % 16) hK
  have x2 := ab32_xor (x := r / 16) (y := nibT ((r ^^^ h) % 16)) (by omega) hl
  have hn : nibN r h = (r / 16) ^^^ nibT ((r ^^^ h) % 16) := rfl
  have e4 : r / 2 ^ 4 = r / 16 := rfl
  rw [e4] at s4
  rw [hn]
  generalize (r / 16) ^^^ nibT ((r ^^^ h) % 16) = Z at *
  generalize nibT ((r ^^^ h) % 16) = Y at *
  generalize (r ^^^ h) % 16 = K at *
  generalize r ^^^ h = X at *
  generalize r / 16 = Q at *
  have hmi : (K : Int) < 16 := by omega
  simp -implicitDefEqProofs [crcSt, crcSt', crcL, crcT_ids, crcT_ren, crcT_len, ht, hg, s4, x1, a1, x2, hm, hmi, rounds, around, codeAt, rfPs, rfA, rfB, Tryz.f138, gcode, machR, tchk, IntWalk.i64_in,IntWalk.u64_in,IntWalk.u8_in,IntWalk.i32_in,IntWalk.u32_in,ye,zk,zm,qj,qk,qm,qn,zb,zc,zn,zp,zq,qo,zd,ze,zr,zt,zu,j3,x7,zw,zf,za,zx,qp,zy,zg,zz,z6,qq,zh,yf,qr,aop,yq,j4,j5,x8,x9,jd,j6,j7,wb,je,j8,yr,j9,wg,jf,jg,xa,xb,z7,jh,z8,ji,jj,yt,yu,xc,AV.one,wh,wi,aun,jk,xd,yw,afn,xe,Out.ren,xf,xg,jl,wj,xh,wl,jm,Eng.distinct,pos,wn,Eng.ren,wo,xi,wp,jo,wq,yg,xj,ws,wu,jp,frz,yx,yz,wv,List.lookup_cons,jq,zi,jr,js,List.range_succ,jt,xk,ju,xm,↓yh,↓yi,↓qt,↓y6,↓qu,↓qa,↓yj,↓yk,↓qv,↓qw,↓qx,↓qy,↓qb,↓qz,qc,ww,xn,jv,jw,yl,qd,qe,zj,wx,y7,jx,xp,xq,keq,y8,wy,qf,y9,ym,xr,jy,jz,xt,j0,wz,ja,j1,xu,xv,xw,jb,q5,q6,yn,q7,j2,Option.map_some,yo,qg,q8,q9,qh,ya,xx,yb,yp,yc,xy,w5,xz,x5,w6,jc,x6,Op.operands,Call.operands,yd,qi,w7,AObj.live]
  rfl

theorem b_halves1 (C : Oracle) (d : D) (r : Nat) (hr : r < 4294967296) (b : List UInt8) (hb : b.length ≤ 1099511627776)
    (hY : ∀ r h : Nat, r < 4294967296 → h < 16 → C yId [.yld 0, .d (.int .u32 h)] (crcSt d r) = some (.ret (.d (.bool true)), crcSt' d (nibN r h))) :
    abody Tryz.prog [] C (mach Tryz.prog C { keep := [(6, [0, 5, 6, 7])], outs := [(6, [])] }) false 200 [.yld 0, .d (.rp [.rs 1 (byL b)])] (crcSt d r) = some (.ret (.tup []), crcSt' d (b.foldl crcB r)) := by
  unfold abody
  rw [Tryz.func200]
  simp only [Tryz.f200]
  simp -implicitDefEqProofs [crcSt, crcL, crcT_ids, crcT_ren, byL, mach_loop, IntWalk.i64_in,IntWalk.u64_in,IntWalk.u8_in,IntWalk.i32_in,IntWalk.u32_in,ye,zk,zm,qj,qk,qm,qn,zb,zc,zn,zp,zq,qo,zd,ze,zr,zt,zu,j3,x7,zw,zf,za,zx,qp,zy,zg,zz,z6,qq,zh,yf,qr,aop,yq,j4,j5,x8,x9,jd,j6,j7,wb,je,j8,yr,j9,wg,jf,jg,xa,xb,z7,jh,z8,ji,jj,yt,yu,xc,AV.one,wh,wi,aun,jk,xd,yw,afn,xe,Out.ren,xf,xg,jl,wj,xh,wl,jm,Eng.distinct,pos,wn,Eng.ren,wo,xi,wp,jo,wq,yg,xj,ws,wu,jp,frz,yx,yz,wv,List.lookup_cons,jq,zi,jr,js,List.range_succ,jt,xk,ju,xm,↓yh,↓yi,↓qt,↓y6,↓qu,↓qa,↓yj,↓yk,↓qv,↓qw,↓qx,↓qy,↓qb,↓qz,qc,ww,xn,jv,jw,yl,qd,qe,zj,wx,y7,jx,xp,xq,keq,y8,wy,qf,y9,ym,xr,jy,jz,xt,j0,wz,ja,j1,xu,xv,xw,jb,q5,q6,yn,q7,j2,Option.map_some,yo,qg,q8,q9,qh,ya,xx,yb,yp,yc,xy,w5,xz,x5,w6,jc,x6,Op.operands,Call.operands,yd,qi,w7,AObj.live]
  rw [aloop_list (l := b)
    (S := fun pre suf => { env := [(0, .yld 0), (5, .d (.rs 1 (byL (pre ++ suf)))), (6, .d (.int .i64 ((pre ++ suf).length : Nat))), (7, .d (.int .i64 (pre.length : Nat)))], σ := crcSt d (pre.foldl crcB r), dfs := [] })
    (R := fun pre suf => some (.exit 0, { env := [], σ := crcSt' d ((pre ++ suf).foldl crcB r), dfs := [] }))
    (hs := ?_) (h0 := ?_) (h1 := ?_)]
  rotate_left
  · simp -implicitDefEqProofs [crcSt, crcL, crcT_ids, crcT_ren, byL, IntWalk.i64_in,IntWalk.u64_in,IntWalk.u8_in,IntWalk.i32_in,IntWalk.u32_in,ye,zk,zm,qj,qk,qm,qn,zb,zc,zn,zp,zq,qo,zd,ze,zr,zt,zu,j3,x7,zw,zf,za,zx,qp,zy,zg,zz,z6,qq,zh,yf,qr,aop,yq,j4,j5,x8,x9,jd,j6,j7,wb,je,j8,yr,j9,wg,jf,jg,xa,xb,z7,jh,z8,ji,jj,yt,yu,xc,AV.one,wh,wi,aun,jk,xd,yw,afn,xe,Out.ren,xf,xg,jl,wj,xh,wl,jm,Eng.distinct,pos,wn,Eng.ren,wo,xi,wp,jo,wq,yg,xj,ws,wu,jp,frz,yx,yz,wv,List.lookup_cons,jq,zi,jr,js,List.range_succ,jt,xk,ju,xm,↓yh,↓yi,↓qt,↓y6,↓qu,↓qa,↓yj,↓yk,↓qv,↓qw,↓qx,↓qy,↓qb,↓qz,qc,ww,xn,jv,jw,yl,qd,qe,zj,wx,y7,jx,xp,xq,keq,y8,wy,qf,y9,ym,xr,jy,jz,xt,j0,wz,ja,j1,xu,xv,xw,jb,q5,q6,yn,q7,j2,Option.map_some,yo,qg,q8,q9,qh,ya,xx,yb,yp,yc,xy,w5,xz,x5,w6,jc,x6,Op.operands,Call.operands,yd,qi,w7,AObj.live]
  · intro pre hp
    simp -implicitDefEqProofs [crcSt', crcSt, crcL, crcT_ids, crcT_ren, byL, mach_loop, IntWalk.i64_in,IntWalk.u64_in,IntWalk.u8_in,IntWalk.i32_in,IntWalk.u32_in,ye,zk,zm,qj,qk,qm,qn,zb,zc,zn,zp,zq,qo,zd,ze,zr,zt,zu,j3,x7,zw,zf,za,zx,qp,zy,zg,zz,z6,qq,zh,yf,qr,aop,yq,j4,j5,x8,x9,jd,j6,j7,wb,je,j8,yr,j9,wg,jf,jg,xa,xb,z7,jh,z8,ji,jj,yt,yu,xc,AV.one,wh,wi,aun,jk,xd,yw,afn,xe,Out.ren,xf,xg,jl,wj,xh,wl,jm,Eng.distinct,pos,wn,Eng.ren,wo,xi,wp,jo,wq,yg,xj,ws,wu,jp,frz,yx,yz,wv,List.lookup_cons,jq,zi,jr,js,List.range_succ,jt,xk,ju,xm,↓yh,↓yi,↓qt,↓y6,↓qu,↓qa,↓yj,↓yk,↓qv,↓qw,↓qx,↓qy,↓qb,↓qz,qc,ww,xn,jv,jw,yl,qd,qe,zj,wx,y7,jx,xp,xq,keq,y8,wy,qf,y9,ym,xr,jy,jz,xt,j0,wz,ja,j1,xu,xv,xw,jb,q5,q6,yn,q7,j2,Option.map_some,yo,qg,q8,q9,qh,ya,xx,yb,yp,yc,xy,w5,xz,x5,w6,jc,x6,Op.operands,Call.operands,yd,qi,w7,AObj.live]
  · intro pre c suf hp ih
    have hll : pre.length < b.length := by rw [← hp]; simp
    have hw2 : IntKind.i64.wrap ((pre.length : Nat) + 1) = (pre.length : Nat) + 1 := wrap64 (by omega) (by omega)
    have hlt := fold_lt pre hr
    have hc := c.toNat_lt
    have hsn : (pre ++ [c]).foldl crcB r = nibN (nibN (pre.foldl crcB r) (c.toNat % 16)) (c.toNat / 16) := by simp [crcB]
    have y1 := hY (pre.foldl crcB r) (c.toNat % 16) hlt (by omega)
    have y2 := hY (nibN (pre.foldl crcB r) (c.toNat % 16)) (c.toNat / 16) (nibN_lt hlt) (by omega)
    have a1 : abits .and .u8 (c.toNat : Int) 15 = some ((c.toNat % 16 : Nat) : Int) := by
      have H : ∀ m : Fin 256, abits .and .u8 ((m.val : Nat) : Int) 15 = some ((m.val % 16 : Nat) : Int) := by decide +kernel
      exact H ⟨c.toNat, hc⟩
    have s1 : ashift .shr .u8 (c.toNat : Int) 4 = some (.int .u8 ((c.toNat / 16 : Nat) : Int)) := by simp [ashift, IntKind.bits, Int.fdiv_eq_ediv_of_nonneg]
    have w1 : IntKind.u32.wrap ((c.toNat % 16 : Nat) : Int) = ((c.toNat % 16 : Nat) : Int) := IntWalk.u32_in _ (by omega)
    have w2 : IntKind.u32.wrap ((c.toNat / 16 : Nat) : Int) = ((c.toNat / 16 : Nat) : Int) := IntWalk.u32_in _ (by omega)
    simp only [crcSt', crcSt, crcL] at y1 y2
    generalize nibN (nibN (pre.foldl crcB r) (c.toNat % 16)) (c.toNat / 16) = Z at *
    generalize nibN (pre.foldl crcB r) (c.toNat % 16) = Y at *
    generalize pre.foldl crcB r = X at *
    generalize hA : c.toNat % 16 = A at *
    generalize hB : c.toNat / 16 = B at *
    simp -implicitDefEqProofs [crcSt, crcL, crcT_ids, crcT_ren, byL, a1, s1, w1, w2, y1, y2, hw2, mid_lt, pos1, mach_draw, mach_loop, IntWalk.i64_in,IntWalk.u64_in,IntWalk.u8_in,IntWalk.i32_in,IntWalk.u32_in,ye,zk,zm,qj,qk,qm,qn,zb,zc,zn,zp,zq,qo,zd,ze,zr,zt,zu,j3,x7,zw,zf,za,zx,qp,zy,zg,zz,z6,qq,zh,yf,qr,aop,yq,j4,j5,x8,x9,jd,j6,j7,wb,je,j8,yr,j9,wg,jf,jg,xa,xb,z7,jh,z8,ji,jj,yt,yu,xc,AV.one,wh,wi,aun,jk,xd,yw,afn,xe,Out.ren,xf,xg,jl,wj,xh,wl,jm,Eng.distinct,pos,wn,Eng.ren,wo,xi,wp,jo,wq,yg,xj,ws,wu,jp,frz,yx,yz,wv,List.lookup_cons,jq,zi,jr,js,List.range_succ,jt,xk,ju,xm,↓yh,↓yi,↓qt,↓y6,↓qu,↓qa,↓yj,↓yk,↓qv,↓qw,↓qx,↓qy,↓qb,↓qz,qc,ww,xn,jv,jw,yl,qd,qe,zj,wx,y7,jx,xp,xq,keq,y8,wy,qf,y9,ym,xr,jy,jz,xt,j0,wz,ja,j1,xu,xv,xw,jb,q5,q6,yn,q7,j2,Option.map_some,yo,qg,q8,q9,qh,ya,xx,yb,yp,yc,xy,w5,xz,x5,w6,jc,x6,Op.operands,Call.operands,yd,qi,w7,AObj.live]
    rw [ih _ (by simp -implicitDefEqProofs [crcSt, crcL, crcT_ids, crcT_ren, byL, hsn, IntWalk.i64_in,IntWalk.u64_in,IntWalk.u8_in,IntWalk.i32_in,IntWalk.u32_in,ye,zk,zm,qj,qk,qm,qn,zb,zc,zn,zp,zq,qo,zd,ze,zr,zt,zu,j3,x7,zw,zf,za,zx,qp,zy,zg,zz,z6,qq,zh,yf,qr,aop,yq,j4,j5,x8,x9,jd,j6,j7,wb,je,j8,yr,j9,wg,jf,jg,xa,xb,z7,jh,z8,ji,jj,yt,yu,xc,AV.one,wh,wi,aun,jk,xd,yw,afn,xe,Out.ren,xf,xg,jl,wj,xh,wl,jm,Eng.distinct,pos,wn,Eng.ren,wo,xi,wp,jo,wq,yg,xj,ws,wu,jp,frz,yx,yz,wv,List.lookup_cons,jq,zi,jr,js,List.range_succ,jt,xk,ju,xm,↓yh,↓yi,↓qt,↓y6,↓qu,↓qa,↓yj,↓yk,↓qv,↓qw,↓qx,↓qy,↓qb,↓qz,qc,ww,xn,jv,jw,yl,qd,qe,zj,wx,y7,jx,xp,xq,keq,y8,wy,qf,y9,ym,xr,jy,jz,xt,j0,wz,ja,j1,xu,xv,xw,jb,q5,q6,yn,q7,j2,Option.map_some,yo,qg,q8,q9,qh,ya,xx,yb,yp,yc,xy,w5,xz,x5,w6,jc,x6,Op.operands,Call.operands,yd,qi,w7,AObj.live])]
    simp
  simp -implicitDefEqProofs [crcSt', crcSt, crcL, crcT_ids, crcT_ren, mach_loop, IntWalk.i64_in,IntWalk.u64_in,IntWalk.u8_in,IntWalk.i32_in,IntWalk.u32_in,ye,zk,zm,qj,qk,qm,qn,zb,zc,zn,zp,zq,qo,zd,ze,zr,zt,zu,j3,x7,zw,zf,za,zx,qp,zy,zg,zz,z6,qq,zh,yf,qr,aop,yq,j4,j5,x8,x9,jd,j6,j7,wb,je,j8,yr,j9,wg,jf,jg,xa,xb,z7,jh,z8,ji,jj,yt,yu,xc,AV.one,wh,wi,aun,jk,xd,yw,afn,xe,Out.ren,xf,xg,jl,wj,xh,wl,jm,Eng.distinct,pos,wn,Eng.ren,wo,xi,wp,jo,wq,yg,xj,ws,wu,jp,frz,yx,yz,wv,List.lookup_cons,jq,zi,jr,js,List.range_succ,jt,xk,ju,xm,↓yh,↓yi,↓qt,↓y6,↓qu,↓qa,↓yj,↓yk,↓qv,↓qw,↓qx,↓qy,↓qb,↓qz,qc,ww,xn,jv,jw,yl,qd,qe,zj,wx,y7,jx,xp,xq,keq,y8,wy,qf,y9,ym,xr,jy,jz,xt,j0,wz,ja,j1,xu,xv,xw,jb,q5,q6,yn,q7,j2,Option.map_some,yo,qg,q8,q9,qh,ya,xx,yb,yp,yc,xy,w5,xz,x5,w6,jc,x6,Op.operands,Call.operands,yd,qi,w7,AObj.live]

theorem b_halves (C : Oracle) (b : List UInt8) : abody Tryz.prog [] C (mach Tryz.prog C {}) true 170 [.d (.rs 1 (byL b))] [] = R (halvesF b) := by
  unfold abody
  rw [Tryz.func170]
  simp only [Tryz.f170]
  simp -implicitDefEqProofs [R, halvesF, IntWalk.i64_in,IntWalk.u64_in,IntWalk.u8_in,IntWalk.i32_in,IntWalk.u32_in,ye,zk,zm,qj,qk,qm,qn,zb,zc,zn,zp,zq,qo,zd,ze,zr,zt,zu,j3,x7,zw,zf,za,zx,qp,zy,zg,zz,z6,qq,zh,yf,qr,aop,yq,j4,j5,x8,x9,jd,j6,j7,wb,je,j8,yr,j9,wg,jf,jg,xa,xb,z7,jh,z8,ji,jj,yt,yu,xc,AV.one,wh,wi,aun,jk,xd,yw,afn,xe,Out.ren,xf,xg,jl,wj,xh,wl,jm,Eng.distinct,pos,wn,Eng.ren,wo,xi,wp,jo,wq,yg,xj,ws,wu,jp,frz,yx,yz,wv,List.lookup_cons,jq,zi,jr,js,List.range_succ,jt,xk,ju,xm,↓yh,↓yi,↓qt,↓y6,↓qu,↓qa,↓yj,↓yk,↓qv,↓qw,↓qx,↓qy,↓qb,↓qz,qc,ww,xn,jv,jw,yl,qd,qe,zj,wx,y7,jx,xp,xq,keq,y8,wy,qf,y9,ym,xr,jy,jz,xt,j0,wz,ja,j1,xu,xv,xw,jb,q5,q6,yn,q7,j2,Option.map_some,yo,qg,q8,q9,qh,ya,xx,yb,yp,yc,xy,w5,xz,x5,w6,jc,x6,Op.operands,Call.operands,yd,qi,w7,AObj.live]
theorem b_More (C : Oracle) (s : Nat) (hs : s < 4294967296) (b : List UInt8)
    (h1 : C 169 [] [] = some (.ret (.agg crcT), [])) (h2 : C 170 [.d (.rs 1 (byL b))] [] = R (halvesF b))
    (h3 : C 200 [.yld 0, .d (.rp [.rs 1 (byL b)])] (crcSt (halvesF b) (4294967295 ^^^ s)) = some (.ret (.tup []), crcSt' (halvesF b) (b.foldl crcB (4294967295 ^^^ s)))) :
    abody Tryz.prog [] C (mach Tryz.prog C { keep := [(122, [4, 5, 6, 12, 13])] }) true 138 [.d (.int .u32 s), .d (.rs 1 (byL b))] [] = R (.int .u32 (crcM s b : Nat)) := by
  have x1 : abits .xor .u32 4294967295 (s : Int) = _ := ab32_xor (x := 4294967295) (by omega) hs
  have hf := fold_lt b (xor_lt (show 4294967295 < 4294967296 by omega) hs)
  have x2 : abits .xor .u32 4294967295 ((b.foldl crcB (4294967295 ^^^ s) : Nat) : Int) = _ := ab32_xor (x := 4294967295) (by omega) hf
  have hm : crcM s b = 4294967295 ^^^ (b.foldl crcB (4294967295 ^^^ s)) := rfl
  rw [hm]
  generalize 4294967295 ^^^ (b.foldl crcB (4294967295 ^^^ s)) = Z at *
  generalize b.foldl crcB (4294967295 ^^^ s) = F at *
  generalize 4294967295 ^^^ s = X at *
  simp only [R, halvesF, crcSt, crcL, rfPs, rfA, rfB, codeAt, Tryz.f138, Option.getD_some] at h2 h3
  have hone : (∀ x, x ∈ crcT → AV.one x = true) = True := eq_true crcT_one
  simp only [AV.one] at hone
  have hmx : (if IntKind.u32.signed = true then (-1 : Int) else IntKind.u32.max) = 4294967295 := by decide
  unfold abody
  rw [Tryz.func138]
  simp only [Tryz.f138]
  simp -implicitDefEqProofs [R, hone, hmx, crcT_ids, crcT_ren, crcT_len, x1, h1, h2, h3, IntWalk.i64_in,IntWalk.u64_in,IntWalk.u8_in,IntWalk.i32_in,IntWalk.u32_in,ye,zk,zm,qj,qk,qm,qn,zb,zc,zn,zp,zq,qo,zd,ze,zr,zt,zu,j3,x7,zw,zf,za,zx,qp,zy,zg,zz,z6,qq,zh,yf,qr,aop,yq,j4,j5,x8,x9,jd,j6,j7,wb,je,j8,yr,j9,wg,jf,jg,xa,xb,z7,jh,z8,ji,jj,yt,yu,xc,AV.one,wh,wi,aun,jk,xd,yw,afn,xe,Out.ren,xf,xg,jl,wj,xh,wl,jm,Eng.distinct,pos,wn,Eng.ren,wo,xi,wp,jo,wq,yg,xj,ws,wu,jp,frz,yx,yz,wv,List.lookup_cons,jq,zi,jr,js,List.range_succ,jt,xk,ju,xm,↓yh,↓yi,↓qt,↓y6,↓qu,↓qa,↓yj,↓yk,↓qv,↓qw,↓qx,↓qy,↓qb,↓qz,qc,ww,xn,jv,jw,yl,qd,qe,zj,wx,y7,jx,xp,xq,keq,y8,wy,qf,y9,ym,xr,jy,jz,xt,j0,wz,ja,j1,xu,xv,xw,jb,q5,q6,yn,q7,j2,Option.map_some,yo,qg,q8,q9,qh,ya,xx,yb,yp,yc,xy,w5,xz,x5,w6,jc,x6,Op.operands,Call.operands,yd,qi,w7,AObj.live]
  simp -implicitDefEqProofs [R, crcSt', crcSt, crcL, crcT_ids, crcT_ren, crcT_len, hmx, x2, IntWalk.i64_in,IntWalk.u64_in,IntWalk.u8_in,IntWalk.i32_in,IntWalk.u32_in,ye,zk,zm,qj,qk,qm,qn,zb,zc,zn,zp,zq,qo,zd,ze,zr,zt,zu,j3,x7,zw,zf,za,zx,qp,zy,zg,zz,z6,qq,zh,yf,qr,aop,yq,j4,j5,x8,x9,jd,j6,j7,wb,je,j8,yr,j9,wg,jf,jg,xa,xb,z7,jh,z8,ji,jj,yt,yu,xc,AV.one,wh,wi,aun,jk,xd,yw,afn,xe,Out.ren,xf,xg,jl,wj,xh,wl,jm,Eng.distinct,pos,wn,Eng.ren,wo,xi,wp,jo,wq,yg,xj,ws,wu,jp,frz,yx,yz,wv,List.lookup_cons,jq,zi,jr,js,List.range_succ,jt,xk,ju,xm,↓yh,↓yi,↓qt,↓y6,↓qu,↓qa,↓yj,↓yk,↓qv,↓qw,↓qx,↓qy,↓qb,↓qz,qc,ww,xn,jv,jw,yl,qd,qe,zj,wx,y7,jx,xp,xq,keq,y8,wy,qf,y9,ym,xr,jy,jz,xt,j0,wz,ja,j1,xu,xv,xw,jb,q5,q6,yn,q7,j2,Option.map_some,yo,qg,q8,q9,qh,ya,xx,yb,yp,yc,xy,w5,xz,x5,w6,jc,x6,Op.operands,Call.operands,yd,qi,w7,AObj.live]
end Go.Proofs.YtblejchodicaoaaGreatDoor.Eng

/-
  CONTRACTS: the reference's crc. Own work.
-/
namespace Go.Proofs.YtblejchodicaoaaGreatDoor.Eng
open Go Go.RowKit
set_option maxRecDepth 100000
set_option linter.unusedSimpArgs false
set_option maxHeartbeats 4000000

def refS : Nat → Nat → Nat → Nat
  | 0, r, _ => r
  | k + 1, r, c => refS k (stepN (r ^^^ (c % 2))) (c / 2)
theorem stepN_xor (a b : Nat) : stepN (a ^^^ b) = stepN a ^^^ stepN b := by
  have hd : (a ^^^ b) / 2 = a / 2 ^^^ b / 2 := Nat.xor_div_two
  have hm : (a ^^^ b) % 2 = 1 ↔ ¬ (a % 2 = 1 ↔ b % 2 = 1) := Nat.xor_mod_two_eq_one
  unfold stepN
  rw [hd]
  have key : ∀ x y p : Nat, x ^^^ p ^^^ (y ^^^ p) = x ^^^ y := by
    intro x y p
    rw [Nat.xor_assoc, ← Nat.xor_assoc p y p, Nat.xor_comm p y, Nat.xor_assoc y p p, Nat.xor_self, Nat.xor_zero]
  by_cases ha : a % 2 = 1 <;> by_cases hb : b % 2 = 1
  · rw [if_neg (by rw [hm]; simp [ha, hb]), if_pos ha, if_pos hb, key]
  · rw [if_pos (by rw [hm]; simp [ha, hb]), if_pos ha, if_neg hb, Nat.xor_assoc, Nat.xor_assoc, Nat.xor_comm (b / 2)]
  · rw [if_pos (by rw [hm]; simp [ha, hb]), if_neg ha, if_pos hb, Nat.xor_assoc]
  · rw [if_neg (by rw [hm]; simp [ha, hb]), if_neg ha, if_neg hb]
theorem stepN_dbl (q : Nat) : stepN (2 * q) = q := by
  unfold stepN
  rw [if_neg (by omega)]
  omega
theorem split2 (c : Nat) : c = (c % 2) ^^^ (2 * (c / 2)) := by
  apply Nat.eq_of_testBit_eq
  intro i
  rw [Nat.testBit_xor]
  cases i with
  | zero => simp [Nat.testBit_zero, Nat.mul_mod]
  | succ n =>
    rw [Nat.testBit_succ, Nat.testBit_succ, Nat.testBit_succ]
    have h1 : c % 2 / 2 = 0 := by omega
    have h2 : 2 * (c / 2) / 2 = c / 2 := by omega
    rw [h1, h2]
    simp
theorem stepN_bit (r c : Nat) : stepN (r ^^^ c) = stepN (r ^^^ (c % 2)) ^^^ (c / 2) := by
  conv => lhs; rw [split2 c]
  rw [← Nat.xor_assoc, stepN_xor, stepN_dbl]
def stepK : Nat → Nat → Nat
  | 0, r => r
  | k + 1, r => stepK k (stepN r)
theorem stepK_xor : ∀ (k a b : Nat), stepK k (a ^^^ b) = stepK k a ^^^ stepK k b
  | 0, _, _ => rfl
  | k + 1, a, b => by simp only [stepK]; rw [stepN_xor, stepK_xor k]
theorem stepK_add : ∀ (k m r : Nat), stepK (k + m) r = stepK m (stepK k r)
  | 0, m, r => by simp [stepK]
  | k + 1, m, r => by rw [show k + 1 + m = (k + m) + 1 from by omega]; simp only [stepK]; exact stepK_add k m (stepN r)
theorem refS_eq : ∀ (k r c : Nat), c < 2 ^ k → refS k r c = stepK k (r ^^^ c)
  | 0, r, c, h => by
    have : c = 0 := by simpa using h
    subst this
    simp [refS, stepK]
  | k + 1, r, c, h => by
    simp only [refS, stepK]
    rw [refS_eq k _ _ (by rw [Nat.pow_succ] at h; omega), stepN_bit r c]
theorem stepK4_mul (q : Nat) : stepK 4 (16 * q) = q := by
  simp only [stepK]
  rw [show 16 * q = 2 * (2 * (2 * (2 * q))) from by omega, stepN_dbl, stepN_dbl, stepN_dbl, stepN_dbl]
theorem split16 (c : Nat) : c = (c % 16) ^^^ (16 * (c / 16)) := by
  apply Nat.eq_of_testBit_eq
  intro i
  rw [Nat.testBit_xor, show (16 : Nat) = 2 ^ 4 from rfl, Nat.testBit_mod_two_pow, Nat.testBit_two_pow_mul, Nat.testBit_div_two_pow]
  by_cases h : i < 4
  · have h2 : ¬ 4 ≤ i := by omega
    simp [h, h2]
  · have h2 : 4 ≤ i := by omega
    have h3 : 4 + (i - 4) = i := by omega
    have h4 : i - 4 + 4 = i := by omega
    simp [h, h2, h3, h4]
theorem nibN_eq (r h : Nat) (hh : h < 16) : nibN r h = stepK 4 (r ^^^ h) := by
  have e : nibT ((r ^^^ h) % 16) = stepK 4 ((r ^^^ h) % 16) := rfl
  have e2 : (r ^^^ h) / 16 = r / 16 := by
    rw [show (16 : Nat) = 2 ^ 4 from rfl, Nat.xor_div_two_pow, Nat.div_eq_of_lt (a := h) (by simpa using hh), Nat.xor_zero]
  unfold nibN
  conv => rhs; rw [split16 (r ^^^ h), stepK_xor, stepK4_mul]
  rw [e, e2, Nat.xor_comm]
theorem crcB_eq (r : Nat) (c : UInt8) : crcB r c = refS 8 r c.toNat := by
  have hc := c.toNat_lt
  rw [refS_eq 8 _ _ hc]
  unfold crcB
  rw [nibN_eq _ _ (by omega), nibN_eq _ _ (by omega), show (8 : Nat) = 4 + 4 from rfl, stepK_add]
  congr 1
  conv => rhs; rw [split16 c.toNat, ← Nat.xor_assoc, stepK_xor, stepK4_mul]
theorem not32 {n : Nat} (h : n < 4294967296) : 4294967295 ^^^ n = 4294967295 - n := by
  have h1 := BitVec.toNat_not (x := BitVec.ofNat 32 n)
  have h2 : (BitVec.ofNat 32 n).toNat = n := by simp; omega
  have h3 : (~~~(BitVec.ofNat 32 n)) = BitVec.ofNat 32 4294967295 ^^^ BitVec.ofNat 32 n := by
    apply BitVec.eq_of_toNat_eq
    rw [BitVec.toNat_xor, BitVec.not_def]
    rfl
  rw [h3, BitVec.toNat_xor, h2] at h1
  simpa using h1

theorem b_go1 (C : Oracle) (r b : Nat) (hr : r < 4294967296) (hb : b < 2) : abody Tryz.prog [] C (mach Tryz.prog C {}) true 139 [.d (.int .u32 r), .d (.int .u32 b)] [] = R (.int .u32 (stepN (r ^^^ b) : Nat)) := by
  have hd : (r ^^^ b) / 2 = r / 2 := by rw [Nat.xor_div_two, Nat.div_eq_of_lt (a := b) hb, Nat.xor_zero]
  have hm : (r ^^^ b) % 2 = 1 ↔ ¬ (r % 2 = 1 ↔ b % 2 = 1) := Nat.xor_mod_two_eq_one
  have hs : stepN (r ^^^ b) = if r % 2 = b then r / 2 else (r / 2) ^^^ 3988292384 := by
    unfold stepN
    rw [hd]
    by_cases h : r % 2 = b
    · rw [if_pos h, if_neg (by rw [hm]; omega)]
    · rw [if_neg h, if_pos (by rw [hm]; omega)]
  have x1 : abits .xor .u32 ((r / 2 : Nat) : Int) 3988292384 = _ := ab32_xor (x := r / 2) (y := 3988292384) (by omega) (by omega)
  have m1 : (r : Int).tmod 2 = ((r % 2 : Nat) : Int) := by rw [Int.tmod_eq_emod_of_nonneg (by omega)]; simp
  have d1 : (r : Int).tdiv 2 = ((r / 2 : Nat) : Int) := by rw [Int.tdiv_eq_ediv_of_nonneg (by omega)]; simp
  have w1 : IntKind.u32.wrap ((r / 2 : Nat) : Int) = ((r / 2 : Nat) : Int) := IntWalk.u32_in _ (by omega)
  have hcase : ((r % 2 : Nat) : Int) = (b : Int) ↔ r % 2 = b := by omega
  rw [hs]
  generalize (r / 2) ^^^ 3988292384 = Z at *
  unfold abody
  rw [Tryz.func139]
  simp only [Tryz.f139]
  by_cases h : r % 2 = b
  · generalize r / 2 = Q at *
    generalize r % 2 = K at *
    subst h
    simp -implicitDefEqProofs [R, m1, d1, w1, intbne, IntWalk.i64_in,IntWalk.u64_in,IntWalk.u8_in,IntWalk.i32_in,IntWalk.u32_in,ye,zk,zm,qj,qk,qm,qn,zb,zc,zn,zp,zq,qo,zd,ze,zr,zt,zu,j3,x7,zw,zf,za,zx,qp,zy,zg,zz,z6,qq,zh,yf,qr,aop,yq,j4,j5,x8,x9,jd,j6,j7,wb,je,j8,yr,j9,wg,jf,jg,xa,xb,z7,jh,z8,ji,jj,yt,yu,xc,AV.one,wh,wi,aun,jk,xd,yw,afn,xe,Out.ren,xf,xg,jl,wj,xh,wl,jm,Eng.distinct,pos,wn,Eng.ren,wo,xi,wp,jo,wq,yg,xj,ws,wu,jp,frz,yx,yz,wv,List.lookup_cons,jq,zi,jr,js,List.range_succ,jt,xk,ju,xm,↓yh,↓yi,↓qt,↓y6,↓qu,↓qa,↓yj,↓yk,↓qv,↓qw,↓qx,↓qy,↓qb,↓qz,qc,ww,xn,jv,jw,yl,qd,qe,zj,wx,y7,jx,xp,xq,keq,y8,wy,qf,y9,ym,xr,jy,jz,xt,j0,wz,ja,j1,xu,xv,xw,jb,q5,q6,yn,q7,j2,Option.map_some,yo,qg,q8,q9,qh,ya,xx,yb,yp,yc,xy,w5,xz,x5,w6,jc,x6,Op.operands,Call.operands,yd,qi,w7,AObj.live]
  · have h' : ¬ ((r % 2 : Nat) : Int) = (b : Int) := fun e => h (hcase.1 e)
    generalize r / 2 = Q at *
    generalize r % 2 = K at *
    simp -implicitDefEqProofs [R, m1, d1, w1, x1, h, h', intbne, IntWalk.i64_in,IntWalk.u64_in,IntWalk.u8_in,IntWalk.i32_in,IntWalk.u32_in,ye,zk,zm,qj,qk,qm,qn,zb,zc,zn,zp,zq,qo,zd,ze,zr,zt,zu,j3,x7,zw,zf,za,zx,qp,zy,zg,zz,z6,qq,zh,yf,qr,aop,yq,j4,j5,x8,x9,jd,j6,j7,wb,je,j8,yr,j9,wg,jf,jg,xa,xb,z7,jh,z8,ji,jj,yt,yu,xc,AV.one,wh,wi,aun,jk,xd,yw,afn,xe,Out.ren,xf,xg,jl,wj,xh,wl,jm,Eng.distinct,pos,wn,Eng.ren,wo,xi,wp,jo,wq,yg,xj,ws,wu,jp,frz,yx,yz,wv,List.lookup_cons,jq,zi,jr,js,List.range_succ,jt,xk,ju,xm,↓yh,↓yi,↓qt,↓y6,↓qu,↓qa,↓yj,↓yk,↓qv,↓qw,↓qx,↓qy,↓qb,↓qz,qc,ww,xn,jv,jw,yl,qd,qe,zj,wx,y7,jx,xp,xq,keq,y8,wy,qf,y9,ym,xr,jy,jz,xt,j0,wz,ja,j1,xu,xv,xw,jb,q5,q6,yn,q7,j2,Option.map_some,yo,qg,q8,q9,qh,ya,xx,yb,yp,yc,xy,w5,xz,x5,w6,jc,x6,Op.operands,Call.operands,yd,qi,w7,AObj.live]
theorem refS_lt : ∀ (k : Nat) {r : Nat} (c : Nat), r < 4294967296 → refS k r c < 4294967296
  | 0, _, _, h => h
  | k + 1, r, c, h => by
    simp only [refS]
    exact refS_lt k _ (stepN_lt (xor_lt h (by omega)))

theorem b_r15More (C : Oracle) (s : Nat) (hs : s < 4294967296) (b : List UInt8) (hb : b.length ≤ 1099511627776)
    (h : ∀ r b : Nat, r < 4294967296 → b < 2 → C 139 [.d (.int .u32 r), .d (.int .u32 b)] [] = R (.int .u32 (stepN (r ^^^ b) : Nat))) :
    abody Tryz.prog [] C (mach Tryz.prog C { keep := [(58, [1, 5, 6]), (7462, [1, 5, 6, 7, 8])], outs := [(58, [4, 5]), (7462, [1, 4, 5, 6])] }) true 110 [.d (.int .u32 s), .d (.rs 1 (byL b))] [] = R (.int .u32 (crcM s b : Nat)) := by
  have hn1 := not32 hs
  have hf := fold_lt b (xor_lt (show 4294967295 < 4294967296 by omega) hs)
  have hn2 := not32 hf
  have hm : crcM s b = 4294967295 - (b.foldl crcB (4294967295 ^^^ s)) := hn2
  have w1 : IntKind.u32.wrap (4294967295 - (s : Int)) = ((4294967295 ^^^ s : Nat) : Int) := by rw [hn1, IntWalk.u32_in _ (by omega)]; omega
  have w2 : IntKind.u32.wrap (4294967295 - ((b.foldl crcB (4294967295 ^^^ s) : Nat) : Int)) = ((4294967295 - b.foldl crcB (4294967295 ^^^ s) : Nat) : Int) := by rw [IntWalk.u32_in _ (by omega)]; omega
  rw [hm]
  have hX := xor_lt (show 4294967295 < 4294967296 by omega) hs
  simp only [R] at h
  generalize 4294967295 ^^^ s = X at *
  unfold abody
  rw [Tryz.func110]
  simp only [Tryz.f110]
  simp -implicitDefEqProofs [R, w1, byL, mach_loop, IntWalk.i64_in,IntWalk.u64_in,IntWalk.u8_in,IntWalk.i32_in,IntWalk.u32_in,ye,zk,zm,qj,qk,qm,qn,zb,zc,zn,zp,zq,qo,zd,ze,zr,zt,zu,j3,x7,zw,zf,za,zx,qp,zy,zg,zz,z6,qq,zh,yf,qr,aop,yq,j4,j5,x8,x9,jd,j6,j7,wb,je,j8,yr,j9,wg,jf,jg,xa,xb,z7,jh,z8,ji,jj,yt,yu,xc,AV.one,wh,wi,aun,jk,xd,yw,afn,xe,Out.ren,xf,xg,jl,wj,xh,wl,jm,Eng.distinct,pos,wn,Eng.ren,wo,xi,wp,jo,wq,yg,xj,ws,wu,jp,frz,yx,yz,wv,List.lookup_cons,jq,zi,jr,js,List.range_succ,jt,xk,ju,xm,↓yh,↓yi,↓qt,↓y6,↓qu,↓qa,↓yj,↓yk,↓qv,↓qw,↓qx,↓qy,↓qb,↓qz,qc,ww,xn,jv,jw,yl,qd,qe,zj,wx,y7,jx,xp,xq,keq,y8,wy,qf,y9,ym,xr,jy,jz,xt,j0,wz,ja,j1,xu,xv,xw,jb,q5,q6,yn,q7,j2,Option.map_some,yo,qg,q8,q9,qh,ya,xx,yb,yp,yc,xy,w5,xz,x5,w6,jc,x6,Op.operands,Call.operands,yd,qi,w7,AObj.live]
  rw [aloop_list (l := b)
    (S := fun pre suf => { env := [(1, .d (.rs 1 (byL (pre ++ suf)))), (5, .d (.int .u32 (pre.foldl crcB X : Nat))), (6, .d (.int .i64 (pre.length : Nat)))], σ := [], dfs := [] })
    (R := fun pre suf => some (.exit 0, { env := [(5, .d (.int .u32 ((pre ++ suf).foldl crcB X : Nat)))], σ := [], dfs := [] }))
    (hs := ?_) (h0 := ?_) (h1 := ?_)]
  rotate_left
  · simp -implicitDefEqProofs [byL, IntWalk.i64_in,IntWalk.u64_in,IntWalk.u8_in,IntWalk.i32_in,IntWalk.u32_in,ye,zk,zm,qj,qk,qm,qn,zb,zc,zn,zp,zq,qo,zd,ze,zr,zt,zu,j3,x7,zw,zf,za,zx,qp,zy,zg,zz,z6,qq,zh,yf,qr,aop,yq,j4,j5,x8,x9,jd,j6,j7,wb,je,j8,yr,j9,wg,jf,jg,xa,xb,z7,jh,z8,ji,jj,yt,yu,xc,AV.one,wh,wi,aun,jk,xd,yw,afn,xe,Out.ren,xf,xg,jl,wj,xh,wl,jm,Eng.distinct,pos,wn,Eng.ren,wo,xi,wp,jo,wq,yg,xj,ws,wu,jp,frz,yx,yz,wv,List.lookup_cons,jq,zi,jr,js,List.range_succ,jt,xk,ju,xm,↓yh,↓yi,↓qt,↓y6,↓qu,↓qa,↓yj,↓yk,↓qv,↓qw,↓qx,↓qy,↓qb,↓qz,qc,ww,xn,jv,jw,yl,qd,qe,zj,wx,y7,jx,xp,xq,keq,y8,wy,qf,y9,ym,xr,jy,jz,xt,j0,wz,ja,j1,xu,xv,xw,jb,q5,q6,yn,q7,j2,Option.map_some,yo,qg,q8,q9,qh,ya,xx,yb,yp,yc,xy,w5,xz,x5,w6,jc,x6,Op.operands,Call.operands,yd,qi,w7,AObj.live]
  · intro pre hp
    simp -implicitDefEqProofs [byL, mach_loop, IntWalk.i64_in,IntWalk.u64_in,IntWalk.u8_in,IntWalk.i32_in,IntWalk.u32_in,ye,zk,zm,qj,qk,qm,qn,zb,zc,zn,zp,zq,qo,zd,ze,zr,zt,zu,j3,x7,zw,zf,za,zx,qp,zy,zg,zz,z6,qq,zh,yf,qr,aop,yq,j4,j5,x8,x9,jd,j6,j7,wb,je,j8,yr,j9,wg,jf,jg,xa,xb,z7,jh,z8,ji,jj,yt,yu,xc,AV.one,wh,wi,aun,jk,xd,yw,afn,xe,Out.ren,xf,xg,jl,wj,xh,wl,jm,Eng.distinct,pos,wn,Eng.ren,wo,xi,wp,jo,wq,yg,xj,ws,wu,jp,frz,yx,yz,wv,List.lookup_cons,jq,zi,jr,js,List.range_succ,jt,xk,ju,xm,↓yh,↓yi,↓qt,↓y6,↓qu,↓qa,↓yj,↓yk,↓qv,↓qw,↓qx,↓qy,↓qb,↓qz,qc,ww,xn,jv,jw,yl,qd,qe,zj,wx,y7,jx,xp,xq,keq,y8,wy,qf,y9,ym,xr,jy,jz,xt,j0,wz,ja,j1,xu,xv,xw,jb,q5,q6,yn,q7,j2,Option.map_some,yo,qg,q8,q9,qh,ya,xx,yb,yp,yc,xy,w5,xz,x5,w6,jc,x6,Op.operands,Call.operands,yd,qi,w7,AObj.live]
  · intro pre c suf hp ih
    have hll : pre.length < b.length := by rw [← hp]; simp
    have hw2 : IntKind.i64.wrap ((pre.length : Nat) + 1) = (pre.length : Nat) + 1 := wrap64 (by omega) (by omega)
    have hr := fold_lt pre hX
    have hc := c.toNat_lt
    have hsn : (pre ++ [c]).foldl crcB X = refS 8 (pre.foldl crcB X) c.toNat := by simp [crcB_eq]
    have wc : IntKind.u32.wrap ((c.toNat : Nat) : Int) = (c.toNat : Nat) := IntWalk.u32_in _ (by omega)
    generalize pre.foldl crcB X = Y at *
    simp -implicitDefEqProofs [byL, mid_lt, wc, mach_loop, IntWalk.i64_in,IntWalk.u64_in,IntWalk.u8_in,IntWalk.i32_in,IntWalk.u32_in,ye,zk,zm,qj,qk,qm,qn,zb,zc,zn,zp,zq,qo,zd,ze,zr,zt,zu,j3,x7,zw,zf,za,zx,qp,zy,zg,zz,z6,qq,zh,yf,qr,aop,yq,j4,j5,x8,x9,jd,j6,j7,wb,je,j8,yr,j9,wg,jf,jg,xa,xb,z7,jh,z8,ji,jj,yt,yu,xc,AV.one,wh,wi,aun,jk,xd,yw,afn,xe,Out.ren,xf,xg,jl,wj,xh,wl,jm,Eng.distinct,pos,wn,Eng.ren,wo,xi,wp,jo,wq,yg,xj,ws,wu,jp,frz,yx,yz,wv,List.lookup_cons,jq,zi,jr,js,List.range_succ,jt,xk,ju,xm,↓yh,↓yi,↓qt,↓y6,↓qu,↓qa,↓yj,↓yk,↓qv,↓qw,↓qx,↓qy,↓qb,↓qz,qc,ww,xn,jv,jw,yl,qd,qe,zj,wx,y7,jx,xp,xq,keq,y8,wy,qf,y9,ym,xr,jy,jz,xt,j0,wz,ja,j1,xu,xv,xw,jb,q5,q6,yn,q7,j2,Option.map_some,yo,qg,q8,q9,qh,ya,xx,yb,yp,yc,xy,w5,xz,x5,w6,jc,x6,Op.operands,Call.operands,yd,qi,w7,AObj.live]
    rw [aloop_meas (α := Nat × Nat × Nat) (S := fun a => { env := [(1, .d (.rs 1 (byL (pre ++ c :: suf)))), (5, .d (.int .u32 (a.2.1 : Nat))), (6, .d (.int .i64 (pre.length : Nat))), (7, .d (.int .u32 (a.2.2 : Nat))), (8, .d (.int .i64 (a.1 : Nat)))], σ := [], dfs := [] })
      (R := fun a => some (.exit 2, { env := [(1, .d (.rs 1 (byL (pre ++ c :: suf)))), (5, .d (.int .u32 (refS (8 - a.1) a.2.1 a.2.2 : Nat))), (6, .d (.int .i64 (pre.length : Nat)))], σ := [], dfs := [] }))
      (P := fun a => a.1 ≤ 8 ∧ a.2.1 < 4294967296 ∧ a.2.2 < 4294967296) (m := fun a => 8 - a.1) ?_ (0, Y, c.toNat) _ ⟨by omega, hr, by simp only; omega⟩ ?_]
    rotate_left
    · rintro ⟨k, r, x⟩ ⟨hk, hr2, hx⟩ ih2
      simp only at hk hr2 hx ih2 ⊢
      by_cases he : k = 8
      · subst he
        simp -implicitDefEqProofs [byL, refS, mach_loop, IntWalk.i64_in,IntWalk.u64_in,IntWalk.u8_in,IntWalk.i32_in,IntWalk.u32_in,ye,zk,zm,qj,qk,qm,qn,zb,zc,zn,zp,zq,qo,zd,ze,zr,zt,zu,j3,x7,zw,zf,za,zx,qp,zy,zg,zz,z6,qq,zh,yf,qr,aop,yq,j4,j5,x8,x9,jd,j6,j7,wb,je,j8,yr,j9,wg,jf,jg,xa,xb,z7,jh,z8,ji,jj,yt,yu,xc,AV.one,wh,wi,aun,jk,xd,yw,afn,xe,Out.ren,xf,xg,jl,wj,xh,wl,jm,Eng.distinct,pos,wn,Eng.ren,wo,xi,wp,jo,wq,yg,xj,ws,wu,jp,frz,yx,yz,wv,List.lookup_cons,jq,zi,jr,js,List.range_succ,jt,xk,ju,xm,↓yh,↓yi,↓qt,↓y6,↓qu,↓qa,↓yj,↓yk,↓qv,↓qw,↓qx,↓qy,↓qb,↓qz,qc,ww,xn,jv,jw,yl,qd,qe,zj,wx,y7,jx,xp,xq,keq,y8,wy,qf,y9,ym,xr,jy,jz,xt,j0,wz,ja,j1,xu,xv,xw,jb,q5,q6,yn,q7,j2,Option.map_some,yo,qg,q8,q9,qh,ya,xx,yb,yp,yc,xy,w5,xz,x5,w6,jc,x6,Op.operands,Call.operands,yd,qi,w7,AObj.live]
      · have hk8 : (k : Int) < 8 := by omega
        have wk : IntKind.i64.wrap ((k : Nat) + 1) = (k : Nat) + 1 := wrap64 (by omega) (by omega)
        have m1 : (x : Int).tmod 2 = ((x % 2 : Nat) : Int) := by rw [Int.tmod_eq_emod_of_nonneg (by omega)]; simp
        have d1 : (x : Int).tdiv 2 = ((x / 2 : Nat) : Int) := by rw [Int.tdiv_eq_ediv_of_nonneg (by omega)]; simp
        have dw : IntKind.u32.wrap ((x / 2 : Nat) : Int) = ((x / 2 : Nat) : Int) := IntWalk.u32_in _ (by omega)
        have g := h r (x % 2) hr2 (by omega)
        have hlt := stepN_lt (xor_lt hr2 (show x % 2 < 4294967296 by omega))
        have h8 : 8 - k = (8 - (k + 1)) + 1 := by omega
        rw [h8]
        simp only [refS]
        have hx2 : x / 2 < 4294967296 := by omega
        generalize stepN (r ^^^ (x % 2)) = Z at *
        generalize x / 2 = Q at *
        generalize x % 2 = K at *
        simp -implicitDefEqProofs [byL, hk8, wk, m1, d1, dw, g, mach_loop, IntWalk.i64_in,IntWalk.u64_in,IntWalk.u8_in,IntWalk.i32_in,IntWalk.u32_in,ye,zk,zm,qj,qk,qm,qn,zb,zc,zn,zp,zq,qo,zd,ze,zr,zt,zu,j3,x7,zw,zf,za,zx,qp,zy,zg,zz,z6,qq,zh,yf,qr,aop,yq,j4,j5,x8,x9,jd,j6,j7,wb,je,j8,yr,j9,wg,jf,jg,xa,xb,z7,jh,z8,ji,jj,yt,yu,xc,AV.one,wh,wi,aun,jk,xd,yw,afn,xe,Out.ren,xf,xg,jl,wj,xh,wl,jm,Eng.distinct,pos,wn,Eng.ren,wo,xi,wp,jo,wq,yg,xj,ws,wu,jp,frz,yx,yz,wv,List.lookup_cons,jq,zi,jr,js,List.range_succ,jt,xk,ju,xm,↓yh,↓yi,↓qt,↓y6,↓qu,↓qa,↓yj,↓yk,↓qv,↓qw,↓qx,↓qy,↓qb,↓qz,qc,ww,xn,jv,jw,yl,qd,qe,zj,wx,y7,jx,xp,xq,keq,y8,wy,qf,y9,ym,xr,jy,jz,xt,j0,wz,ja,j1,xu,xv,xw,jb,q5,q6,yn,q7,j2,Option.map_some,yo,qg,q8,q9,qh,ya,xx,yb,yp,yc,xy,w5,xz,x5,w6,jc,x6,Op.operands,Call.operands,yd,qi,w7,AObj.live]
        rw [ih2 (k + 1, Z, Q) _ ⟨by omega, hlt, hx2⟩ (by simp only; omega) (by simp -implicitDefEqProofs [byL, IntWalk.i64_in,IntWalk.u64_in,IntWalk.u8_in,IntWalk.i32_in,IntWalk.u32_in,ye,zk,zm,qj,qk,qm,qn,zb,zc,zn,zp,zq,qo,zd,ze,zr,zt,zu,j3,x7,zw,zf,za,zx,qp,zy,zg,zz,z6,qq,zh,yf,qr,aop,yq,j4,j5,x8,x9,jd,j6,j7,wb,je,j8,yr,j9,wg,jf,jg,xa,xb,z7,jh,z8,ji,jj,yt,yu,xc,AV.one,wh,wi,aun,jk,xd,yw,afn,xe,Out.ren,xf,xg,jl,wj,xh,wl,jm,Eng.distinct,pos,wn,Eng.ren,wo,xi,wp,jo,wq,yg,xj,ws,wu,jp,frz,yx,yz,wv,List.lookup_cons,jq,zi,jr,js,List.range_succ,jt,xk,ju,xm,↓yh,↓yi,↓qt,↓y6,↓qu,↓qa,↓yj,↓yk,↓qv,↓qw,↓qx,↓qy,↓qb,↓qz,qc,ww,xn,jv,jw,yl,qd,qe,zj,wx,y7,jx,xp,xq,keq,y8,wy,qf,y9,ym,xr,jy,jz,xt,j0,wz,ja,j1,xu,xv,xw,jb,q5,q6,yn,q7,j2,Option.map_some,yo,qg,q8,q9,qh,ya,xx,yb,yp,yc,xy,w5,xz,x5,w6,jc,x6,Op.operands,Call.operands,yd,qi,w7,AObj.live])]
        simp [byL]
    · simp -implicitDefEqProofs [byL, IntWalk.i64_in,IntWalk.u64_in,IntWalk.u8_in,IntWalk.i32_in,IntWalk.u32_in,ye,zk,zm,qj,qk,qm,qn,zb,zc,zn,zp,zq,qo,zd,ze,zr,zt,zu,j3,x7,zw,zf,za,zx,qp,zy,zg,zz,z6,qq,zh,yf,qr,aop,yq,j4,j5,x8,x9,jd,j6,j7,wb,je,j8,yr,j9,wg,jf,jg,xa,xb,z7,jh,z8,ji,jj,yt,yu,xc,AV.one,wh,wi,aun,jk,xd,yw,afn,xe,Out.ren,xf,xg,jl,wj,xh,wl,jm,Eng.distinct,pos,wn,Eng.ren,wo,xi,wp,jo,wq,yg,xj,ws,wu,jp,frz,yx,yz,wv,List.lookup_cons,jq,zi,jr,js,List.range_succ,jt,xk,ju,xm,↓yh,↓yi,↓qt,↓y6,↓qu,↓qa,↓yj,↓yk,↓qv,↓qw,↓qx,↓qy,↓qb,↓qz,qc,ww,xn,jv,jw,yl,qd,qe,zj,wx,y7,jx,xp,xq,keq,y8,wy,qf,y9,ym,xr,jy,jz,xt,j0,wz,ja,j1,xu,xv,xw,jb,q5,q6,yn,q7,j2,Option.map_some,yo,qg,q8,q9,qh,ya,xx,yb,yp,yc,xy,w5,xz,x5,w6,jc,x6,Op.operands,Call.operands,yd,qi,w7,AObj.live]
    simp -implicitDefEqProofs [hw2, mach_loop, IntWalk.i64_in,IntWalk.u64_in,IntWalk.u8_in,IntWalk.i32_in,IntWalk.u32_in,ye,zk,zm,qj,qk,qm,qn,zb,zc,zn,zp,zq,qo,zd,ze,zr,zt,zu,j3,x7,zw,zf,za,zx,qp,zy,zg,zz,z6,qq,zh,yf,qr,aop,yq,j4,j5,x8,x9,jd,j6,j7,wb,je,j8,yr,j9,wg,jf,jg,xa,xb,z7,jh,z8,ji,jj,yt,yu,xc,AV.one,wh,wi,aun,jk,xd,yw,afn,xe,Out.ren,xf,xg,jl,wj,xh,wl,jm,Eng.distinct,pos,wn,Eng.ren,wo,xi,wp,jo,wq,yg,xj,ws,wu,jp,frz,yx,yz,wv,List.lookup_cons,jq,zi,jr,js,List.range_succ,jt,xk,ju,xm,↓yh,↓yi,↓qt,↓y6,↓qu,↓qa,↓yj,↓yk,↓qv,↓qw,↓qx,↓qy,↓qb,↓qz,qc,ww,xn,jv,jw,yl,qd,qe,zj,wx,y7,jx,xp,xq,keq,y8,wy,qf,y9,ym,xr,jy,jz,xt,j0,wz,ja,j1,xu,xv,xw,jb,q5,q6,yn,q7,j2,Option.map_some,yo,qg,q8,q9,qh,ya,xx,yb,yp,yc,xy,w5,xz,x5,w6,jc,x6,Op.operands,Call.operands,yd,qi,w7,AObj.live]
    rw [ih _ (by simp -implicitDefEqProofs [byL, hsn, IntWalk.i64_in,IntWalk.u64_in,IntWalk.u8_in,IntWalk.i32_in,IntWalk.u32_in,ye,zk,zm,qj,qk,qm,qn,zb,zc,zn,zp,zq,qo,zd,ze,zr,zt,zu,j3,x7,zw,zf,za,zx,qp,zy,zg,zz,z6,qq,zh,yf,qr,aop,yq,j4,j5,x8,x9,jd,j6,j7,wb,je,j8,yr,j9,wg,jf,jg,xa,xb,z7,jh,z8,ji,jj,yt,yu,xc,AV.one,wh,wi,aun,jk,xd,yw,afn,xe,Out.ren,xf,xg,jl,wj,xh,wl,jm,Eng.distinct,pos,wn,Eng.ren,wo,xi,wp,jo,wq,yg,xj,ws,wu,jp,frz,yx,yz,wv,List.lookup_cons,jq,zi,jr,js,List.range_succ,jt,xk,ju,xm,↓yh,↓yi,↓qt,↓y6,↓qu,↓qa,↓yj,↓yk,↓qv,↓qw,↓qx,↓qy,↓qb,↓qz,qc,ww,xn,jv,jw,yl,qd,qe,zj,wx,y7,jx,xp,xq,keq,y8,wy,qf,y9,ym,xr,jy,jz,xt,j0,wz,ja,j1,xu,xv,xw,jb,q5,q6,yn,q7,j2,Option.map_some,yo,qg,q8,q9,qh,ya,xx,yb,yp,yc,xy,w5,xz,x5,w6,jc,x6,Op.operands,Call.operands,yd,qi,w7,AObj.live])]
    simp
  simp -implicitDefEqProofs [R, w2, mach_loop, IntWalk.i64_in,IntWalk.u64_in,IntWalk.u8_in,IntWalk.i32_in,IntWalk.u32_in,ye,zk,zm,qj,qk,qm,qn,zb,zc,zn,zp,zq,qo,zd,ze,zr,zt,zu,j3,x7,zw,zf,za,zx,qp,zy,zg,zz,z6,qq,zh,yf,qr,aop,yq,j4,j5,x8,x9,jd,j6,j7,wb,je,j8,yr,j9,wg,jf,jg,xa,xb,z7,jh,z8,ji,jj,yt,yu,xc,AV.one,wh,wi,aun,jk,xd,yw,afn,xe,Out.ren,xf,xg,jl,wj,xh,wl,jm,Eng.distinct,pos,wn,Eng.ren,wo,xi,wp,jo,wq,yg,xj,ws,wu,jp,frz,yx,yz,wv,List.lookup_cons,jq,zi,jr,js,List.range_succ,jt,xk,ju,xm,↓yh,↓yi,↓qt,↓y6,↓qu,↓qa,↓yj,↓yk,↓qv,↓qw,↓qx,↓qy,↓qb,↓qz,qc,ww,xn,jv,jw,yl,qd,qe,zj,wx,y7,jx,xp,xq,keq,y8,wy,qf,y9,ym,xr,jy,jz,xt,j0,wz,ja,j1,xu,xv,xw,jb,q5,q6,yn,q7,j2,Option.map_some,yo,qg,q8,q9,qh,ya,xx,yb,yp,yc,xy,w5,xz,x5,w6,jc,x6,Op.operands,Call.operands,yd,qi,w7,AObj.live]
end Go.Proofs.YtblejchodicaoaaGreatDoor.Eng

/-
  CONTRACTS: sums, seals, frames, on both sides; sameness of bytes. Own work.
-/
namespace Go.Proofs.YtblejchodicaoaaGreatDoor.Eng
open Go Go.RowKit
set_option maxRecDepth 100000
set_option linter.unusedSimpArgs false
set_option maxHeartbeats 4000000

def le4 (s : Nat) : List UInt8 := [UInt8.ofNat (s % 256), UInt8.ofNat (s / 256 % 256), UInt8.ofNat (s / 65536 % 256), UInt8.ofNat (s / 16777216 % 256)]
def sealM (b : List UInt8) : List UInt8 := b ++ le4 (crcM 0 b)
def frameM (k : UInt8) (b : List UInt8) : List UInt8 := sealM (k :: b)

theorem b_Sum (C : Oracle) (b : List UInt8) (h : C 138 [.d (.int .u32 0), .d (.rs 1 (byL b))] [] = R (.int .u32 (crcM 0 b : Nat))) :
    abody Tryz.prog [] C (mach Tryz.prog C {}) true 108 [.d (.rs 1 (byL b))] [] = R (.int .u32 (crcM 0 b : Nat)) := by
  simp only [R] at h
  unfold abody
  rw [Tryz.func108]
  simp only [Tryz.f108]
  simp -implicitDefEqProofs [R, h, IntWalk.i64_in,IntWalk.u64_in,IntWalk.u8_in,IntWalk.i32_in,IntWalk.u32_in,ye,zk,zm,qj,qk,qm,qn,zb,zc,zn,zp,zq,qo,zd,ze,zr,zt,zu,j3,x7,zw,zf,za,zx,qp,zy,zg,zz,z6,qq,zh,yf,qr,aop,yq,j4,j5,x8,x9,jd,j6,j7,wb,je,j8,yr,j9,wg,jf,jg,xa,xb,z7,jh,z8,ji,jj,yt,yu,xc,AV.one,wh,wi,aun,jk,xd,yw,afn,xe,Out.ren,xf,xg,jl,wj,xh,wl,jm,Eng.distinct,pos,wn,Eng.ren,wo,xi,wp,jo,wq,yg,xj,ws,wu,jp,frz,yx,yz,wv,List.lookup_cons,jq,zi,jr,js,List.range_succ,jt,xk,ju,xm,↓yh,↓yi,↓qt,↓y6,↓qu,↓qa,↓yj,↓yk,↓qv,↓qw,↓qx,↓qy,↓qb,↓qz,qc,ww,xn,jv,jw,yl,qd,qe,zj,wx,y7,jx,xp,xq,keq,y8,wy,qf,y9,ym,xr,jy,jz,xt,j0,wz,ja,j1,xu,xv,xw,jb,q5,q6,yn,q7,j2,Option.map_some,yo,qg,q8,q9,qh,ya,xx,yb,yp,yc,xy,w5,xz,x5,w6,jc,x6,Op.operands,Call.operands,yd,qi,w7,AObj.live]
theorem b_r15Sum (C : Oracle) (b : List UInt8) (h : C 110 [.d (.int .u32 0), .d (.rs 1 (byL b))] [] = R (.int .u32 (crcM 0 b : Nat))) :
    abody Tryz.prog [] C (mach Tryz.prog C {}) true 74 [.d (.rs 1 (byL b))] [] = R (.int .u32 (crcM 0 b : Nat)) := by
  simp only [R] at h
  unfold abody
  rw [Tryz.func74]
  simp only [Tryz.f74]
  simp -implicitDefEqProofs [R, h, IntWalk.i64_in,IntWalk.u64_in,IntWalk.u8_in,IntWalk.i32_in,IntWalk.u32_in,ye,zk,zm,qj,qk,qm,qn,zb,zc,zn,zp,zq,qo,zd,ze,zr,zt,zu,j3,x7,zw,zf,za,zx,qp,zy,zg,zz,z6,qq,zh,yf,qr,aop,yq,j4,j5,x8,x9,jd,j6,j7,wb,je,j8,yr,j9,wg,jf,jg,xa,xb,z7,jh,z8,ji,jj,yt,yu,xc,AV.one,wh,wi,aun,jk,xd,yw,afn,xe,Out.ren,xf,xg,jl,wj,xh,wl,jm,Eng.distinct,pos,wn,Eng.ren,wo,xi,wp,jo,wq,yg,xj,ws,wu,jp,frz,yx,yz,wv,List.lookup_cons,jq,zi,jr,js,List.range_succ,jt,xk,ju,xm,↓yh,↓yi,↓qt,↓y6,↓qu,↓qa,↓yj,↓yk,↓qv,↓qw,↓qx,↓qy,↓qb,↓qz,qc,ww,xn,jv,jw,yl,qd,qe,zj,wx,y7,jx,xp,xq,keq,y8,wy,qf,y9,ym,xr,jy,jz,xt,j0,wz,ja,j1,xu,xv,xw,jb,q5,q6,yn,q7,j2,Option.map_some,yo,qg,q8,q9,qh,ya,xx,yb,yp,yc,xy,w5,xz,x5,w6,jc,x6,Op.operands,Call.operands,yd,qi,w7,AObj.live]
theorem byL_len (b : List UInt8) : (byL b).length = b.length := by simp [byL]
theorem byL_app (a b : List UInt8) : byL (a ++ b) = byL a ++ byL b := by simp [byL]
theorem byL_nil (b : List UInt8) : byL b = [] ↔ b = [] := by simp [byL]
theorem take_byL (b : List UInt8) : List.take b.length (byL b) = byL b := List.take_of_length_le (by simp [byL])
theorem b_cloneB (C : Oracle) (b : List UInt8) (h : b ≠ []) (hb : b.length ≤ 1099511627776) :
    abody Tryz.prog [] C (mach Tryz.prog C {}) false 109 [.d (.rs 1 (byL b))] [] = some (.ret (.sl 0 1 0 b.length), [.drow (byL b) 5 1]) := by
  have h1 : ¬ byL b = [] := by simpa [byL] using h
  have h2 : ∀ K : Nat, 1099511627776 ≤ K → (b.length ≤ K) = True := by intro K hK; simp; omega
  unfold abody
  rw [Tryz.func109]
  simp only [Tryz.f109]
  simp -implicitDefEqProofs [byL_len, take_byL, h, h1, h2, IntWalk.i64_in,IntWalk.u64_in,IntWalk.u8_in,IntWalk.i32_in,IntWalk.u32_in,ye,zk,zm,qj,qk,qm,qn,zb,zc,zn,zp,zq,qo,zd,ze,zr,zt,zu,j3,x7,zw,zf,za,zx,qp,zy,zg,zz,z6,qq,zh,yf,qr,aop,yq,j4,j5,x8,x9,jd,j6,j7,wb,je,j8,yr,j9,wg,jf,jg,xa,xb,z7,jh,z8,ji,jj,yt,yu,xc,AV.one,wh,wi,aun,jk,xd,yw,afn,xe,Out.ren,xf,xg,jl,wj,xh,wl,jm,Eng.distinct,pos,wn,Eng.ren,wo,xi,wp,jo,wq,yg,xj,ws,wu,jp,frz,yx,yz,wv,List.lookup_cons,jq,zi,jr,js,List.range_succ,jt,xk,ju,xm,↓yh,↓yi,↓qt,↓y6,↓qu,↓qa,↓yj,↓yk,↓qv,↓qw,↓qx,↓qy,↓qb,↓qz,qc,ww,xn,jv,jw,yl,qd,qe,zj,wx,y7,jx,xp,xq,keq,y8,wy,qf,y9,ym,xr,jy,jz,xt,j0,wz,ja,j1,xu,xv,xw,jb,q5,q6,yn,q7,j2,Option.map_some,yo,qg,q8,q9,qh,ya,xx,yb,yp,yc,xy,w5,xz,x5,w6,jc,x6,Op.operands,Call.operands,yd,qi,w7,AObj.live]
theorem b_Seal (C : Oracle) (b : List UInt8) (h : b ≠ []) (hb : b.length ≤ 1099511627776) (h1 : C 108 [.d (.rs 1 (byL b))] [] = R (.int .u32 (crcM 0 b : Nat)))
    (h2 : C 109 [.d (.rs 1 (byL b))] [] = some (.ret (.sl 0 1 0 b.length), [.drow (byL b) 5 1])) :
    abody Tryz.prog [] C (mach Tryz.prog C {}) true 73 [.d (.rs 1 (byL b))] [] = R (.rs 1 (byL (sealM b))) := by
  have hlt := crcM_lt b (show 0 < 4294967296 by omega)
  have hs : byL (sealM b) = byL b ++ [[.int .u8 ((crcM 0 b % 256 : Nat) : Int)], [.int .u8 ((crcM 0 b / 256 % 256 : Nat) : Int)], [.int .u8 ((crcM 0 b / 65536 % 256 : Nat) : Int)], [.int .u8 ((crcM 0 b / 16777216 % 256 : Nat) : Int)]] := by
    rw [sealM, byL_app]
    congr 1
    simp only [le4, byL, List.map_cons, List.map_nil]
    rw [nu8 (by omega), nu8 (by omega), nu8 (by omega), nu8 (by omega)]
  have w0 := wu8 (crcM 0 b)
  have w1 := wu8 (crcM 0 b / 256)
  have w2 := wu8 (crcM 0 b / 65536)
  have w3 := wu8 (crcM 0 b / 16777216)
  have s1 : ashift .shr .u32 ((crcM 0 b : Nat) : Int) 8 = some (.int .u32 ((crcM 0 b / 256 : Nat) : Int)) := sh32 _ 8 (by omega)
  have s2 : ashift .shr .u32 ((crcM 0 b : Nat) : Int) 16 = some (.int .u32 ((crcM 0 b / 65536 : Nat) : Int)) := sh32 _ 16 (by omega)
  have s3 : ashift .shr .u32 ((crcM 0 b : Nat) : Int) 24 = some (.int .u32 ((crcM 0 b / 16777216 : Nat) : Int)) := sh32 _ 24 (by omega)
  have hK : ∀ K : Nat, 1099511627780 ≤ K → (b.length + 4 ≤ K) = True := by intro K hK; simp; omega
  have ht : List.take (b.length + 4) (byL (sealM b)) = byL (sealM b) := List.take_of_length_le (by simp [byL, sealM, le4])
  rw [hs] at ht ⊢
  simp only [R] at h1
  generalize crcM 0 b / 256 % 256 = E1 at *
  generalize crcM 0 b / 65536 % 256 = E2 at *
  generalize crcM 0 b / 16777216 % 256 = E3 at *
  generalize crcM 0 b % 256 = E0 at *
  generalize crcM 0 b / 256 = F1 at *
  generalize crcM 0 b / 65536 = F2 at *
  generalize crcM 0 b / 16777216 = F3 at *
  generalize crcM 0 b = S at *
  unfold abody
  rw [Tryz.func73]
  simp only [Tryz.f73]
  simp -implicitDefEqProofs [R, h1, h2, w0, w1, w2, w3, s1, s2, s3, hK, ht, byL_len, IntWalk.i64_in,IntWalk.u64_in,IntWalk.u8_in,IntWalk.i32_in,IntWalk.u32_in,ye,zk,zm,qj,qk,qm,qn,zb,zc,zn,zp,zq,qo,zd,ze,zr,zt,zu,j3,x7,zw,zf,za,zx,qp,zy,zg,zz,z6,qq,zh,yf,qr,aop,yq,j4,j5,x8,x9,jd,j6,j7,wb,je,j8,yr,j9,wg,jf,jg,xa,xb,z7,jh,z8,ji,jj,yt,yu,xc,AV.one,wh,wi,aun,jk,xd,yw,afn,xe,Out.ren,xf,xg,jl,wj,xh,wl,jm,Eng.distinct,pos,wn,Eng.ren,wo,xi,wp,jo,wq,yg,xj,ws,wu,jp,frz,yx,yz,wv,List.lookup_cons,jq,zi,jr,js,List.range_succ,jt,xk,ju,xm,↓yh,↓yi,↓qt,↓y6,↓qu,↓qa,↓yj,↓yk,↓qv,↓qw,↓qx,↓qy,↓qb,↓qz,qc,ww,xn,jv,jw,yl,qd,qe,zj,wx,y7,jx,xp,xq,keq,y8,wy,qf,y9,ym,xr,jy,jz,xt,j0,wz,ja,j1,xu,xv,xw,jb,q5,q6,yn,q7,j2,Option.map_some,yo,qg,q8,q9,qh,ya,xx,yb,yp,yc,xy,w5,xz,x5,w6,jc,x6,Op.operands,Call.operands,yd,qi,w7,AObj.live]
theorem b_r15Seal (C : Oracle) (b : List UInt8) (h : b ≠ []) (hb : b.length ≤ 1099511627776) (h1 : C 74 [.d (.rs 1 (byL b))] [] = R (.int .u32 (crcM 0 b : Nat))) :
    abody Tryz.prog [] C (mach Tryz.prog C { keep := [(250, [3, 4, 5])], outs := [(250, [2, 3])] }) true 45 [.d (.rs 1 (byL b))] [] = R (.rs 1 (byL (sealM b))) := by
  have hlt := crcM_lt b (show 0 < 4294967296 by omega)
  have hne : ¬ byL b = [] := by simpa [byL] using h
  have hs : byL (sealM b) = byL b ++ [[.int .u8 ((crcM 0 b % 256 : Nat) : Int)], [.int .u8 ((crcM 0 b / 256 % 256 : Nat) : Int)], [.int .u8 ((crcM 0 b / 256 / 256 % 256 : Nat) : Int)], [.int .u8 ((crcM 0 b / 256 / 256 / 256 % 256 : Nat) : Int)]] := by
    rw [sealM, byL_app]
    congr 1
    simp only [le4, byL, List.map_cons, List.map_nil, Nat.div_div_eq_div_mul]
    rw [nu8 (by omega), nu8 (by omega), nu8 (by omega), nu8 (by omega)]
  have hm : ∀ x : Nat, (x : Int).tmod 256 = ((x % 256 : Nat) : Int) := by intro x; rw [Int.tmod_eq_emod_of_nonneg (by omega)]; simp
  have hd : ∀ x : Nat, (x : Int).tdiv 256 = ((x / 256 : Nat) : Int) := by intro x; rw [Int.tdiv_eq_ediv_of_nonneg (by omega)]; simp
  have hw : ∀ x : Nat, IntKind.u8.wrap ((x % 256 : Nat) : Int) = ((x % 256 : Nat) : Int) := by intro x; rw [wu8]; simp
  have m0 := hm (crcM 0 b)
  have m1 := hm (crcM 0 b / 256)
  have m2 := hm (crcM 0 b / 256 / 256)
  have m3 := hm (crcM 0 b / 256 / 256 / 256)
  have d0 := hd (crcM 0 b)
  have d1 := hd (crcM 0 b / 256)
  have d2 := hd (crcM 0 b / 256 / 256)
  have d3 := hd (crcM 0 b / 256 / 256 / 256)
  have w0 := hw (crcM 0 b)
  have w1 := hw (crcM 0 b / 256)
  have w2 := hw (crcM 0 b / 256 / 256)
  have w3 := hw (crcM 0 b / 256 / 256 / 256)
  have u0 : IntKind.u32.wrap ((crcM 0 b / 256 : Nat) : Int) = ((crcM 0 b / 256 : Nat) : Int) := IntWalk.u32_in _ (by omega)
  have u1 : IntKind.u32.wrap ((crcM 0 b / 256 / 256 : Nat) : Int) = ((crcM 0 b / 256 / 256 : Nat) : Int) := IntWalk.u32_in _ (by omega)
  have u2 : IntKind.u32.wrap ((crcM 0 b / 256 / 256 / 256 : Nat) : Int) = ((crcM 0 b / 256 / 256 / 256 : Nat) : Int) := IntWalk.u32_in _ (by omega)
  have u3 : IntKind.u32.wrap ((crcM 0 b / 256 / 256 / 256 / 256 : Nat) : Int) = ((crcM 0 b / 256 / 256 / 256 / 256 : Nat) : Int) := IntWalk.u32_in _ (by omega)
  have hK0 : ∀ K : Nat, 1099511627780 ≤ K → (b.length ≤ K) = True := by intro K hK; simp; omega
  have hK1 : ∀ K : Nat, 1099511627780 ≤ K → (b.length + 1 ≤ K) = True := by intro K hK; simp; omega
  have hK2 : ∀ K : Nat, 1099511627780 ≤ K → (b.length + 1 + 1 ≤ K) = True := by intro K hK; simp; omega
  have hK3 : ∀ K : Nat, 1099511627780 ≤ K → (b.length + 1 + 1 + 1 ≤ K) = True := by intro K hK; simp; omega
  have hK4 : ∀ K : Nat, 1099511627780 ≤ K → (b.length + 1 + 1 + 1 + 1 ≤ K) = True := by intro K hK; simp; omega
  have ht : List.take (b.length + 1 + 1 + 1 + 1) (byL (sealM b)) = byL (sealM b) := List.take_of_length_le (by simp [byL, sealM, le4])
  rw [hs] at ht ⊢
  simp only [R] at h1
  generalize crcM 0 b / 256 / 256 / 256 / 256 = F4 at *
  generalize crcM 0 b / 256 / 256 / 256 % 256 = E3 at *
  generalize crcM 0 b / 256 / 256 / 256 = F3 at *
  generalize crcM 0 b / 256 / 256 % 256 = E2 at *
  generalize crcM 0 b / 256 / 256 = F2 at *
  generalize crcM 0 b / 256 % 256 = E1 at *
  generalize crcM 0 b / 256 = F1 at *
  generalize crcM 0 b % 256 = E0 at *
  generalize crcM 0 b = S at *
  clear hm hd hw
  unfold abody
  rw [Tryz.func45]
  simp only [Tryz.f45]
  simp -implicitDefEqProofs [R, h, hne, h1, hK0, byL_len, take_byL, mach_loop, IntWalk.i64_in,IntWalk.u64_in,IntWalk.u8_in,IntWalk.i32_in,IntWalk.u32_in,ye,zk,zm,qj,qk,qm,qn,zb,zc,zn,zp,zq,qo,zd,ze,zr,zt,zu,j3,x7,zw,zf,za,zx,qp,zy,zg,zz,z6,qq,zh,yf,qr,aop,yq,j4,j5,x8,x9,jd,j6,j7,wb,je,j8,yr,j9,wg,jf,jg,xa,xb,z7,jh,z8,ji,jj,yt,yu,xc,AV.one,wh,wi,aun,jk,xd,yw,afn,xe,Out.ren,xf,xg,jl,wj,xh,wl,jm,Eng.distinct,pos,wn,Eng.ren,wo,xi,wp,jo,wq,yg,xj,ws,wu,jp,frz,yx,yz,wv,List.lookup_cons,jq,zi,jr,js,List.range_succ,jt,xk,ju,xm,↓yh,↓yi,↓qt,↓y6,↓qu,↓qa,↓yj,↓yk,↓qv,↓qw,↓qx,↓qy,↓qb,↓qz,qc,ww,xn,jv,jw,yl,qd,qe,zj,wx,y7,jx,xp,xq,keq,y8,wy,qf,y9,ym,xr,jy,jz,xt,j0,wz,ja,j1,xu,xv,xw,jb,q5,q6,yn,q7,j2,Option.map_some,yo,qg,q8,q9,qh,ya,xx,yb,yp,yc,xy,w5,xz,x5,w6,jc,x6,Op.operands,Call.operands,yd,qi,w7,AObj.live]
  iterate 5 (rw [aloop_round]; simp -implicitDefEqProofs [hK1, hK2, hK3, hK4, m0, m1, m2, m3, d0, d1, d2, d3, w0, w1, w2, w3, u0, u1, u2, u3, mach_loop, byL_len, IntWalk.i64_in,IntWalk.u64_in,IntWalk.u8_in,IntWalk.i32_in,IntWalk.u32_in,ye,zk,zm,qj,qk,qm,qn,zb,zc,zn,zp,zq,qo,zd,ze,zr,zt,zu,j3,x7,zw,zf,za,zx,qp,zy,zg,zz,z6,qq,zh,yf,qr,aop,yq,j4,j5,x8,x9,jd,j6,j7,wb,je,j8,yr,j9,wg,jf,jg,xa,xb,z7,jh,z8,ji,jj,yt,yu,xc,AV.one,wh,wi,aun,jk,xd,yw,afn,xe,Out.ren,xf,xg,jl,wj,xh,wl,jm,Eng.distinct,pos,wn,Eng.ren,wo,xi,wp,jo,wq,yg,xj,ws,wu,jp,frz,yx,yz,wv,List.lookup_cons,jq,zi,jr,js,List.range_succ,jt,xk,ju,xm,↓yh,↓yi,↓qt,↓y6,↓qu,↓qa,↓yj,↓yk,↓qv,↓qw,↓qx,↓qy,↓qb,↓qz,qc,ww,xn,jv,jw,yl,qd,qe,zj,wx,y7,jx,xp,xq,keq,y8,wy,qf,y9,ym,xr,jy,jz,xt,j0,wz,ja,j1,xu,xv,xw,jb,q5,q6,yn,q7,j2,Option.map_some,yo,qg,q8,q9,qh,ya,xx,yb,yp,yc,xy,w5,xz,x5,w6,jc,x6,Op.operands,Call.operands,yd,qi,w7,AObj.live])
  simp -implicitDefEqProofs [ht, byL_len, IntWalk.i64_in,IntWalk.u64_in,IntWalk.u8_in,IntWalk.i32_in,IntWalk.u32_in,ye,zk,zm,qj,qk,qm,qn,zb,zc,zn,zp,zq,qo,zd,ze,zr,zt,zu,j3,x7,zw,zf,za,zx,qp,zy,zg,zz,z6,qq,zh,yf,qr,aop,yq,j4,j5,x8,x9,jd,j6,j7,wb,je,j8,yr,j9,wg,jf,jg,xa,xb,z7,jh,z8,ji,jj,yt,yu,xc,AV.one,wh,wi,aun,jk,xd,yw,afn,xe,Out.ren,xf,xg,jl,wj,xh,wl,jm,Eng.distinct,pos,wn,Eng.ren,wo,xi,wp,jo,wq,yg,xj,ws,wu,jp,frz,yx,yz,wv,List.lookup_cons,jq,zi,jr,js,List.range_succ,jt,xk,ju,xm,↓yh,↓yi,↓qt,↓y6,↓qu,↓qa,↓yj,↓yk,↓qv,↓qw,↓qx,↓qy,↓qb,↓qz,qc,ww,xn,jv,jw,yl,qd,qe,zj,wx,y7,jx,xp,xq,keq,y8,wy,qf,y9,ym,xr,jy,jz,xt,j0,wz,ja,j1,xu,xv,xw,jb,q5,q6,yn,q7,j2,Option.map_some,yo,qg,q8,q9,qh,ya,xx,yb,yp,yc,xy,w5,xz,x5,w6,jc,x6,Op.operands,Call.operands,yd,qi,w7,AObj.live]
end Go.Proofs.YtblejchodicaoaaGreatDoor.Eng

/-
  CONTRACTS: frames; what the chapter knows; PullMay. Own work.
-/
namespace Go.Proofs.YtblejchodicaoaaGreatDoor.Eng
open Go Go.RowKit
set_option maxRecDepth 100000
set_option linter.unusedSimpArgs false
set_option maxHeartbeats 4000000

theorem b_wrong (C : Oracle) (k : UInt8) : abody Tryz.prog [] C (mach Tryz.prog C {}) true 72 [.d (.int .u8 k.toNat)] [] = R (.bool (k == 0)) := by
  have e : ((k.toNat : Int) == 0) = (k == 0) := by
    rw [Bool.eq_iff_iff]
    simp only [beq_iff_eq]
    constructor
    · intro h; exact UInt8.toNat_inj.1 (by simp at h ⊢; omega)
    · rintro rfl; rfl
  unfold abody
  rw [Tryz.func72]
  simp only [Tryz.f72]
  simp -implicitDefEqProofs [R, e, IntWalk.i64_in,IntWalk.u64_in,IntWalk.u8_in,IntWalk.i32_in,IntWalk.u32_in,ye,zk,zm,qj,qk,qm,qn,zb,zc,zn,zp,zq,qo,zd,ze,zr,zt,zu,j3,x7,zw,zf,za,zx,qp,zy,zg,zz,z6,qq,zh,yf,qr,aop,yq,j4,j5,x8,x9,jd,j6,j7,wb,je,j8,yr,j9,wg,jf,jg,xa,xb,z7,jh,z8,ji,jj,yt,yu,xc,AV.one,wh,wi,aun,jk,xd,yw,afn,xe,Out.ren,xf,xg,jl,wj,xh,wl,jm,Eng.distinct,pos,wn,Eng.ren,wo,xi,wp,jo,wq,yg,xj,ws,wu,jp,frz,yx,yz,wv,List.lookup_cons,jq,zi,jr,js,List.range_succ,jt,xk,ju,xm,↓yh,↓yi,↓qt,↓y6,↓qu,↓qa,↓yj,↓yk,↓qv,↓qw,↓qx,↓qy,↓qb,↓qz,qc,ww,xn,jv,jw,yl,qd,qe,zj,wx,y7,jx,xp,xq,keq,y8,wy,qf,y9,ym,xr,jy,jz,xt,j0,wz,ja,j1,xu,xv,xw,jb,q5,q6,yn,q7,j2,Option.map_some,yo,qg,q8,q9,qh,ya,xx,yb,yp,yc,xy,w5,xz,x5,w6,jc,x6,Op.operands,Call.operands,yd,qi,w7,AObj.live]
theorem b_Frame (C : Oracle) (k : UInt8) (hk : k ≠ 0) (b : List UInt8) (hb : b.length ≤ 1099511627775) (h1 : C 72 [.d (.int .u8 k.toNat)] [] = R (.bool (k == 0)))
    (h2 : C 73 [.sl 0 1 0 (b.length + 1)] [.drow (byL (k :: b)) 5 1] = some (.ret (.d (.rs 1 (byL (frameM k b)))), [.fz 1 (byL (k :: b))])) :
    abody Tryz.prog [] C (mach Tryz.prog C {}) true 44 [.d (.int .u8 k.toNat), .d (.rs 1 (byL b))] [] = some (.ret (.tup [.d (.rs 1 (byL (frameM k b))), .d (.int .i64 0)]), []) := by
  have e : (k == 0) = false := by simpa using hk
  rw [e] at h1
  have hK : ∀ K : Nat, 1099511627776 ≤ K → (1 + b.length ≤ K) = True := by intro K hK; simp; omega
  have hK2 : ∀ K : Nat, 1099511627776 ≤ K → (b.length + 1 ≤ K) = True := by intro K hK; simp; omega
  have hc : byL (k :: b) = [.int .u8 k.toNat] :: byL b := rfl
  have hn : 1 + b.length = b.length + 1 := by omega
  rw [hc] at h2
  simp only [R] at h1
  generalize frameM k b = f at *
  unfold abody
  rw [Tryz.func44]
  simp only [Tryz.f44]
  rcases Decidable.em (b = []) with eb | eb <;> (
    try (simp [eb, byL] at h2)
    simp -implicitDefEqProofs [h1, h2, hK, hK2, hn, eb, byL, take_map_len, IntWalk.i64_in,IntWalk.u64_in,IntWalk.u8_in,IntWalk.i32_in,IntWalk.u32_in,ye,zk,zm,qj,qk,qm,qn,zb,zc,zn,zp,zq,qo,zd,ze,zr,zt,zu,j3,x7,zw,zf,za,zx,qp,zy,zg,zz,z6,qq,zh,yf,qr,aop,yq,j4,j5,x8,x9,jd,j6,j7,wb,je,j8,yr,j9,wg,jf,jg,xa,xb,z7,jh,z8,ji,jj,yt,yu,xc,AV.one,wh,wi,aun,jk,xd,yw,afn,xe,Out.ren,xf,xg,jl,wj,xh,wl,jm,Eng.distinct,pos,wn,Eng.ren,wo,xi,wp,jo,wq,yg,xj,ws,wu,jp,frz,yx,yz,wv,List.lookup_cons,jq,zi,jr,js,List.range_succ,jt,xk,ju,xm,↓yh,↓yi,↓qt,↓y6,↓qu,↓qa,↓yj,↓yk,↓qv,↓qw,↓qx,↓qy,↓qb,↓qz,qc,ww,xn,jv,jw,yl,qd,qe,zj,wx,y7,jx,xp,xq,keq,y8,wy,qf,y9,ym,xr,jy,jz,xt,j0,wz,ja,j1,xu,xv,xw,jb,q5,q6,yn,q7,j2,Option.map_some,yo,qg,q8,q9,qh,ya,xx,yb,yp,yc,xy,w5,xz,x5,w6,jc,x6,Op.operands,Call.operands,yd,qi,w7,AObj.live])
theorem b_r16Frame (C : Oracle) (k : UInt8) (hk : k ≠ 0) (b : List UInt8) (hb : b.length ≤ 1099511627775)
    (h2 : C 45 [.sl 0 1 0 (b.length + 1)] [.drow (byL (k :: b)) 5 1] = some (.ret (.d (.rs 1 (byL (frameM k b)))), [.fz 1 (byL (k :: b))])) :
    abody Tryz.prog [] C (mach Tryz.prog C {}) true 22 [.d (.int .u8 k.toNat), .d (.rs 1 (byL b))] [] = some (.ret (.tup [.d (.rs 1 (byL (frameM k b))), .d (.int .i64 0)]), []) := by
  have e : ((k.toNat : Int) == 0) = false := by
    simp only [beq_eq_false_iff_ne, ne_eq]
    intro h
    exact hk (UInt8.toNat_inj.1 (by simp; omega))
  have hK : ∀ K : Nat, 1099511627776 ≤ K → (1 + b.length ≤ K) = True := by intro K hK; simp; omega
  have hK2 : ∀ K : Nat, 1099511627776 ≤ K → (b.length + 1 ≤ K) = True := by intro K hK; simp; omega
  have hc : byL (k :: b) = [.int .u8 k.toNat] :: byL b := rfl
  have hn : 1 + b.length = b.length + 1 := by omega
  rw [hc] at h2
  generalize frameM k b = f at *
  unfold abody
  rw [Tryz.func22]
  simp only [Tryz.f22]
  rcases Decidable.em (b = []) with eb | eb <;> (
    try (simp [eb, byL] at h2)
    simp -implicitDefEqProofs [e, h2, hK, hK2, hn, eb, byL, take_map_len, IntWalk.i64_in,IntWalk.u64_in,IntWalk.u8_in,IntWalk.i32_in,IntWalk.u32_in,ye,zk,zm,qj,qk,qm,qn,zb,zc,zn,zp,zq,qo,zd,ze,zr,zt,zu,j3,x7,zw,zf,za,zx,qp,zy,zg,zz,z6,qq,zh,yf,qr,aop,yq,j4,j5,x8,x9,jd,j6,j7,wb,je,j8,yr,j9,wg,jf,jg,xa,xb,z7,jh,z8,ji,jj,yt,yu,xc,AV.one,wh,wi,aun,jk,xd,yw,afn,xe,Out.ren,xf,xg,jl,wj,xh,wl,jm,Eng.distinct,pos,wn,Eng.ren,wo,xi,wp,jo,wq,yg,xj,ws,wu,jp,frz,yx,yz,wv,List.lookup_cons,jq,zi,jr,js,List.range_succ,jt,xk,ju,xm,↓yh,↓yi,↓qt,↓y6,↓qu,↓qa,↓yj,↓yk,↓qv,↓qw,↓qx,↓qy,↓qb,↓qz,qc,ww,xn,jv,jw,yl,qd,qe,zj,wx,y7,jx,xp,xq,keq,y8,wy,qf,y9,ym,xr,jy,jz,xt,j0,wz,ja,j1,xu,xv,xw,jb,q5,q6,yn,q7,j2,Option.map_some,yo,qg,q8,q9,qh,ya,xx,yb,yp,yc,xy,w5,xz,x5,w6,jc,x6,Op.operands,Call.operands,yd,qi,w7,AObj.live])
theorem b_framed (C : Oracle) (k : UInt8) (b : List UInt8) (f : List UInt8) (hb : b ≠ [])
    (h : C 22 [.d (.int .u8 k.toNat), .d (.rs 1 (byL b))] [] = some (.ret (.tup [.d (.rs 1 (byL f)), .d (.int .i64 0)]), [])) :
    abody Tryz.prog [] C (mach Tryz.prog C {}) true 28 [.d (.int .u8 k.toNat), .d (.str b)] [] = R (.rs 1 (byL f)) := by
  have hpos : 0 < b.length := List.length_pos_iff.2 hb
  simp only [byL] at h
  unfold abody
  rw [Tryz.func28]
  simp only [Tryz.f28]
  simp -implicitDefEqProofs [R, h, hb, hpos, byL, IntWalk.i64_in,IntWalk.u64_in,IntWalk.u8_in,IntWalk.i32_in,IntWalk.u32_in,ye,zk,zm,qj,qk,qm,qn,zb,zc,zn,zp,zq,qo,zd,ze,zr,zt,zu,j3,x7,zw,zf,za,zx,qp,zy,zg,zz,z6,qq,zh,yf,qr,aop,yq,j4,j5,x8,x9,jd,j6,j7,wb,je,j8,yr,j9,wg,jf,jg,xa,xb,z7,jh,z8,ji,jj,yt,yu,xc,AV.one,wh,wi,aun,jk,xd,yw,afn,xe,Out.ren,xf,xg,jl,wj,xh,wl,jm,Eng.distinct,pos,wn,Eng.ren,wo,xi,wp,jo,wq,yg,xj,ws,wu,jp,frz,yx,yz,wv,List.lookup_cons,jq,zi,jr,js,List.range_succ,jt,xk,ju,xm,↓yh,↓yi,↓qt,↓y6,↓qu,↓qa,↓yj,↓yk,↓qv,↓qw,↓qx,↓qy,↓qb,↓qz,qc,ww,xn,jv,jw,yl,qd,qe,zj,wx,y7,jx,xp,xq,keq,y8,wy,qf,y9,ym,xr,jy,jz,xt,j0,wz,ja,j1,xu,xv,xw,jb,q5,q6,yn,q7,j2,Option.map_some,yo,qg,q8,q9,qh,ya,xx,yb,yp,yc,xy,w5,xz,x5,w6,jc,x6,Op.operands,Call.operands,yd,qi,w7,AObj.live]
theorem b_Same (C : Oracle) (b : List UInt8) (hb : b.length ≤ 1099511627776) :
    abody Tryz.prog [] C (mach Tryz.prog C { keep := [(58, [0, 1, 5])], outs := [(58, [4])] }) true 15 [.d (.rs 1 (byL b)), .d (.rs 1 (byL b))] [] = R (.bool true) := by
  unfold abody
  rw [Tryz.func15]
  simp only [Tryz.f15]
  simp -implicitDefEqProofs [R, byL, intbne, mach_loop, IntWalk.i64_in,IntWalk.u64_in,IntWalk.u8_in,IntWalk.i32_in,IntWalk.u32_in,ye,zk,zm,qj,qk,qm,qn,zb,zc,zn,zp,zq,qo,zd,ze,zr,zt,zu,j3,x7,zw,zf,za,zx,qp,zy,zg,zz,z6,qq,zh,yf,qr,aop,yq,j4,j5,x8,x9,jd,j6,j7,wb,je,j8,yr,j9,wg,jf,jg,xa,xb,z7,jh,z8,ji,jj,yt,yu,xc,AV.one,wh,wi,aun,jk,xd,yw,afn,xe,Out.ren,xf,xg,jl,wj,xh,wl,jm,Eng.distinct,pos,wn,Eng.ren,wo,xi,wp,jo,wq,yg,xj,ws,wu,jp,frz,yx,yz,wv,List.lookup_cons,jq,zi,jr,js,List.range_succ,jt,xk,ju,xm,↓yh,↓yi,↓qt,↓y6,↓qu,↓qa,↓yj,↓yk,↓qv,↓qw,↓qx,↓qy,↓qb,↓qz,qc,ww,xn,jv,jw,yl,qd,qe,zj,wx,y7,jx,xp,xq,keq,y8,wy,qf,y9,ym,xr,jy,jz,xt,j0,wz,ja,j1,xu,xv,xw,jb,q5,q6,yn,q7,j2,Option.map_some,yo,qg,q8,q9,qh,ya,xx,yb,yp,yc,xy,w5,xz,x5,w6,jc,x6,Op.operands,Call.operands,yd,qi,w7,AObj.live]
  rw [aloop_list (l := b)
    (S := fun pre suf => { env := [(0, .d (.rs 1 (byL (pre ++ suf)))), (1, .d (.rs 1 (byL (pre ++ suf)))), (5, .d (.int .i64 (pre.length : Nat)))], σ := [], dfs := [] })
    (R := fun pre suf => some (.exit 0, { env := [], σ := [], dfs := [] }))
    (hs := ?_) (h0 := ?_) (h1 := ?_)]
  rotate_left
  · simp -implicitDefEqProofs [byL, IntWalk.i64_in,IntWalk.u64_in,IntWalk.u8_in,IntWalk.i32_in,IntWalk.u32_in,ye,zk,zm,qj,qk,qm,qn,zb,zc,zn,zp,zq,qo,zd,ze,zr,zt,zu,j3,x7,zw,zf,za,zx,qp,zy,zg,zz,z6,qq,zh,yf,qr,aop,yq,j4,j5,x8,x9,jd,j6,j7,wb,je,j8,yr,j9,wg,jf,jg,xa,xb,z7,jh,z8,ji,jj,yt,yu,xc,AV.one,wh,wi,aun,jk,xd,yw,afn,xe,Out.ren,xf,xg,jl,wj,xh,wl,jm,Eng.distinct,pos,wn,Eng.ren,wo,xi,wp,jo,wq,yg,xj,ws,wu,jp,frz,yx,yz,wv,List.lookup_cons,jq,zi,jr,js,List.range_succ,jt,xk,ju,xm,↓yh,↓yi,↓qt,↓y6,↓qu,↓qa,↓yj,↓yk,↓qv,↓qw,↓qx,↓qy,↓qb,↓qz,qc,ww,xn,jv,jw,yl,qd,qe,zj,wx,y7,jx,xp,xq,keq,y8,wy,qf,y9,ym,xr,jy,jz,xt,j0,wz,ja,j1,xu,xv,xw,jb,q5,q6,yn,q7,j2,Option.map_some,yo,qg,q8,q9,qh,ya,xx,yb,yp,yc,xy,w5,xz,x5,w6,jc,x6,Op.operands,Call.operands,yd,qi,w7,AObj.live]
  · intro pre hp
    simp -implicitDefEqProofs [byL, mach_loop, IntWalk.i64_in,IntWalk.u64_in,IntWalk.u8_in,IntWalk.i32_in,IntWalk.u32_in,ye,zk,zm,qj,qk,qm,qn,zb,zc,zn,zp,zq,qo,zd,ze,zr,zt,zu,j3,x7,zw,zf,za,zx,qp,zy,zg,zz,z6,qq,zh,yf,qr,aop,yq,j4,j5,x8,x9,jd,j6,j7,wb,je,j8,yr,j9,wg,jf,jg,xa,xb,z7,jh,z8,ji,jj,yt,yu,xc,AV.one,wh,wi,aun,jk,xd,yw,afn,xe,Out.ren,xf,xg,jl,wj,xh,wl,jm,Eng.distinct,pos,wn,Eng.ren,wo,xi,wp,jo,wq,yg,xj,ws,wu,jp,frz,yx,yz,wv,List.lookup_cons,jq,zi,jr,js,List.range_succ,jt,xk,ju,xm,↓yh,↓yi,↓qt,↓y6,↓qu,↓qa,↓yj,↓yk,↓qv,↓qw,↓qx,↓qy,↓qb,↓qz,qc,ww,xn,jv,jw,yl,qd,qe,zj,wx,y7,jx,xp,xq,keq,y8,wy,qf,y9,ym,xr,jy,jz,xt,j0,wz,ja,j1,xu,xv,xw,jb,q5,q6,yn,q7,j2,Option.map_some,yo,qg,q8,q9,qh,ya,xx,yb,yp,yc,xy,w5,xz,x5,w6,jc,x6,Op.operands,Call.operands,yd,qi,w7,AObj.live]
  · intro pre c suf hp ih
    have hll : pre.length < b.length := by rw [← hp]; simp
    have hw2 : IntKind.i64.wrap ((pre.length : Nat) + 1) = (pre.length : Nat) + 1 := wrap64 (by omega) (by omega)
    simp -implicitDefEqProofs [byL, hw2, mid_lt, pos1, intbne, mach_draw, mach_loop, IntWalk.i64_in,IntWalk.u64_in,IntWalk.u8_in,IntWalk.i32_in,IntWalk.u32_in,ye,zk,zm,qj,qk,qm,qn,zb,zc,zn,zp,zq,qo,zd,ze,zr,zt,zu,j3,x7,zw,zf,za,zx,qp,zy,zg,zz,z6,qq,zh,yf,qr,aop,yq,j4,j5,x8,x9,jd,j6,j7,wb,je,j8,yr,j9,wg,jf,jg,xa,xb,z7,jh,z8,ji,jj,yt,yu,xc,AV.one,wh,wi,aun,jk,xd,yw,afn,xe,Out.ren,xf,xg,jl,wj,xh,wl,jm,Eng.distinct,pos,wn,Eng.ren,wo,xi,wp,jo,wq,yg,xj,ws,wu,jp,frz,yx,yz,wv,List.lookup_cons,jq,zi,jr,js,List.range_succ,jt,xk,ju,xm,↓yh,↓yi,↓qt,↓y6,↓qu,↓qa,↓yj,↓yk,↓qv,↓qw,↓qx,↓qy,↓qb,↓qz,qc,ww,xn,jv,jw,yl,qd,qe,zj,wx,y7,jx,xp,xq,keq,y8,wy,qf,y9,ym,xr,jy,jz,xt,j0,wz,ja,j1,xu,xv,xw,jb,q5,q6,yn,q7,j2,Option.map_some,yo,qg,q8,q9,qh,ya,xx,yb,yp,yc,xy,w5,xz,x5,w6,jc,x6,Op.operands,Call.operands,yd,qi,w7,AObj.live]
    rw [ih _ (by simp -implicitDefEqProofs [byL, IntWalk.i64_in,IntWalk.u64_in,IntWalk.u8_in,IntWalk.i32_in,IntWalk.u32_in,ye,zk,zm,qj,qk,qm,qn,zb,zc,zn,zp,zq,qo,zd,ze,zr,zt,zu,j3,x7,zw,zf,za,zx,qp,zy,zg,zz,z6,qq,zh,yf,qr,aop,yq,j4,j5,x8,x9,jd,j6,j7,wb,je,j8,yr,j9,wg,jf,jg,xa,xb,z7,jh,z8,ji,jj,yt,yu,xc,AV.one,wh,wi,aun,jk,xd,yw,afn,xe,Out.ren,xf,xg,jl,wj,xh,wl,jm,Eng.distinct,pos,wn,Eng.ren,wo,xi,wp,jo,wq,yg,xj,ws,wu,jp,frz,yx,yz,wv,List.lookup_cons,jq,zi,jr,js,List.range_succ,jt,xk,ju,xm,↓yh,↓yi,↓qt,↓y6,↓qu,↓qa,↓yj,↓yk,↓qv,↓qw,↓qx,↓qy,↓qb,↓qz,qc,ww,xn,jv,jw,yl,qd,qe,zj,wx,y7,jx,xp,xq,keq,y8,wy,qf,y9,ym,xr,jy,jz,xt,j0,wz,ja,j1,xu,xv,xw,jb,q5,q6,yn,q7,j2,Option.map_some,yo,qg,q8,q9,qh,ya,xx,yb,yp,yc,xy,w5,xz,x5,w6,jc,x6,Op.operands,Call.operands,yd,qi,w7,AObj.live])]
  simp -implicitDefEqProofs [R, mach_loop, IntWalk.i64_in,IntWalk.u64_in,IntWalk.u8_in,IntWalk.i32_in,IntWalk.u32_in,ye,zk,zm,qj,qk,qm,qn,zb,zc,zn,zp,zq,qo,zd,ze,zr,zt,zu,j3,x7,zw,zf,za,zx,qp,zy,zg,zz,z6,qq,zh,yf,qr,aop,yq,j4,j5,x8,x9,jd,j6,j7,wb,je,j8,yr,j9,wg,jf,jg,xa,xb,z7,jh,z8,ji,jj,yt,yu,xc,AV.one,wh,wi,aun,jk,xd,yw,afn,xe,Out.ren,xf,xg,jl,wj,xh,wl,jm,Eng.distinct,pos,wn,Eng.ren,wo,xi,wp,jo,wq,yg,xj,ws,wu,jp,frz,yx,yz,wv,List.lookup_cons,jq,zi,jr,js,List.range_succ,jt,xk,ju,xm,↓yh,↓yi,↓qt,↓y6,↓qu,↓qa,↓yj,↓yk,↓qv,↓qw,↓qx,↓qy,↓qb,↓qz,qc,ww,xn,jv,jw,yl,qd,qe,zj,wx,y7,jx,xp,xq,keq,y8,wy,qf,y9,ym,xr,jy,jz,xt,j0,wz,ja,j1,xu,xv,xw,jb,q5,q6,yn,q7,j2,Option.map_some,yo,qg,q8,q9,qh,ya,xx,yb,yp,yc,xy,w5,xz,x5,w6,jc,x6,Op.operands,Call.operands,yd,qi,w7,AObj.live]

def lit2 : List UInt8 := [123, 34, 99, 108, 105, 101, 110, 116, 34, 58, 55, 44, 34, 99, 111, 111, 107, 105, 101, 34, 58, 51, 125]
def lit3 : List UInt8 := [123, 34, 98, 97, 115, 101, 34, 58, 51, 44, 34, 99, 108, 105, 101, 110, 116, 34, 58, 55, 44, 34, 99, 111, 111, 107, 105, 101, 34, 58, 53, 44, 34, 108, 97, 115, 116, 34, 58, 50, 44, 34, 112, 97, 116, 99, 104, 34, 58, 91, 123, 34, 107, 101, 121, 34, 58, 34, 97, 34, 44, 34, 111, 112, 34, 58, 34, 100, 101, 108, 34, 125, 93, 125]
def knownRow : AObj := .drow [[.int .i64 2, .str [97], .int .i64 0, .bool false, .int .i64 0, .str [], .nils, .nils]] 64 8
def knownFz : AObj := .fz 8 [[.int .i64 2, .str [97], .int .i64 0, .bool false, .int .i64 0, .str [], .nils, .nils]]
theorem b_known (C : Oracle) (f2 f3 : List UInt8)
    (h1 : C 27 [.agg [.d (.int .u64 7), .d (.int .u64 3)]] [] = some (.ret (.tup [.d (.rs 1 (byL f2)), .d (.int .i64 0)]), []))
    (h2 : C 13 [.agg [.d (.int .u64 7), .d (.int .u64 3), .d (.int .u64 5), .d (.int .u64 2), .sl 0 8 0 1]] [knownRow] = some (.ret (.tup [.d (.rs 1 (byL f3)), .d (.int .i64 0)]), [knownFz]))
    (h3 : C 28 [.d (.int .u8 2), .d (.str lit2)] [] = R (.rs 1 (byL f2))) (h4 : C 28 [.d (.int .u8 3), .d (.str lit3)] [] = R (.rs 1 (byL f3)))
    (h5 : ∀ f : List UInt8, f = f2 ∨ f = f3 → C 15 [.d (.rs 1 (byL f)), .d (.rs 1 (byL f))] [] = R (.bool true)) :
    abody Tryz.prog [] C (mach Tryz.prog C {}) true 12 [] [] = R (.bool true) := by
  have h6 := h5 f2 (Or.inl rfl)
  have h7 := h5 f3 (Or.inr rfl)
  simp only [R, lit2, lit3, knownRow, knownFz] at h2 h3 h4 h6 h7
  unfold abody
  rw [Tryz.func12]
  simp only [Tryz.f12]
  simp -implicitDefEqProofs [R, h1, h2, h3, h4, h6, h7, IntWalk.i64_in,IntWalk.u64_in,IntWalk.u8_in,IntWalk.i32_in,IntWalk.u32_in,ye,zk,zm,qj,qk,qm,qn,zb,zc,zn,zp,zq,qo,zd,ze,zr,zt,zu,j3,x7,zw,zf,za,zx,qp,zy,zg,zz,z6,qq,zh,yf,qr,aop,yq,j4,j5,x8,x9,jd,j6,j7,wb,je,j8,yr,j9,wg,jf,jg,xa,xb,z7,jh,z8,ji,jj,yt,yu,xc,AV.one,wh,wi,aun,jk,xd,yw,afn,xe,Out.ren,xf,xg,jl,wj,xh,wl,jm,Eng.distinct,pos,wn,Eng.ren,wo,xi,wp,jo,wq,yg,xj,ws,wu,jp,frz,yx,yz,wv,List.lookup_cons,jq,zi,jr,js,List.range_succ,jt,xk,ju,xm,↓yh,↓yi,↓qt,↓y6,↓qu,↓qa,↓yj,↓yk,↓qv,↓qw,↓qx,↓qy,↓qb,↓qz,qc,ww,xn,jv,jw,yl,qd,qe,zj,wx,y7,jx,xp,xq,keq,y8,wy,qf,y9,ym,xr,jy,jz,xt,j0,wz,ja,j1,xu,xv,xw,jb,q5,q6,yn,q7,j2,Option.map_some,yo,qg,q8,q9,qh,ya,xx,yb,yp,yc,xy,w5,xz,x5,w6,jc,x6,Op.operands,Call.operands,yd,qi,w7,AObj.live]
theorem b_PullMay (C : Oracle) (a0 b0 c b k t : Int) (l : List PO)
    (h1 : C 8 [.agg [.d (.int .u64 a0), .d (.int .u64 b0)]] [] = R (.int .i64 (reqMay a0 b0)))
    (h2 : C 9 [.agg [.d (.int .u64 a0), .d (.int .u64 b0)]] [] = R (.int .i64 (reqMay a0 b0)))
    (h3 : C 10 [.agg [.d (.int .u64 c), .d (.int .u64 b), .d (.int .u64 k), .d (.int .u64 t), .d (.rs 8 (l.map encPO))]] [] = R (.int .i64 (respMay c b k t l)))
    (h4 : C 11 [.agg [.d (.int .u64 c), .d (.int .u64 b), .d (.int .u64 k), .d (.int .u64 t), .d (.rs 8 (l.map encPO))]] [] = R (.int .i64 (respMay c b k t l)))
    (h5 : C 12 [] [] = R (.bool true)) :
    abody Tryz.prog [] C (mach Tryz.prog C { wins := [(6, [[], [], [0], [], [], [], [], [], [4]])] }) true 3 [.agg [.d (.int .u64 a0), .d (.int .u64 b0)], .agg [.d (.int .u64 c), .d (.int .u64 b), .d (.int .u64 k), .d (.int .u64 t), .d (.rs 8 (l.map encPO))]] [] = R (.bool true) := by
  simp only [R] at h1 h2 h3 h4 h5
  unfold abody
  rw [Tryz.func3]
  simp only [Tryz.f3]
  simp -implicitDefEqProofs [R, h1, h2, h3, h4, h5, mach_draw, IntWalk.i64_in,IntWalk.u64_in,IntWalk.u8_in,IntWalk.i32_in,IntWalk.u32_in,ye,zk,zm,qj,qk,qm,qn,zb,zc,zn,zp,zq,qo,zd,ze,zr,zt,zu,j3,x7,zw,zf,za,zx,qp,zy,zg,zz,z6,qq,zh,yf,qr,aop,yq,j4,j5,x8,x9,jd,j6,j7,wb,je,j8,yr,j9,wg,jf,jg,xa,xb,z7,jh,z8,ji,jj,yt,yu,xc,AV.one,wh,wi,aun,jk,xd,yw,afn,xe,Out.ren,xf,xg,jl,wj,xh,wl,jm,Eng.distinct,pos,wn,Eng.ren,wo,xi,wp,jo,wq,yg,xj,ws,wu,jp,frz,yx,yz,wv,List.lookup_cons,jq,zi,jr,js,List.range_succ,jt,xk,ju,xm,↓yh,↓yi,↓qt,↓y6,↓qu,↓qa,↓yj,↓yk,↓qv,↓qw,↓qx,↓qy,↓qb,↓qz,qc,ww,xn,jv,jw,yl,qd,qe,zj,wx,y7,jx,xp,xq,keq,y8,wy,qf,y9,ym,xr,jy,jz,xt,j0,wz,ja,j1,xu,xv,xw,jb,q5,q6,yn,q7,j2,Option.map_some,yo,qg,q8,q9,qh,ya,xx,yb,yp,yc,xy,w5,xz,x5,w6,jc,x6,Op.operands,Call.operands,yd,qi,w7,AObj.live]
end Go.Proofs.YtblejchodicaoaaGreatDoor.Eng

/-
  TIES: copies, sorted members, objects, frames; what the chapter knows; PullMay. Own work.
-/
namespace Go.Proofs.YtblejchodicaoaaGreatDoor.Eng
open Go Go.RowKit
set_option maxRecDepth 100000
set_option linter.unusedSimpArgs false

/-! ### Arguments frozen -/
theorem fz_at {ty : TypeId} {sz : Nat} {es : List (List D)} {n : Nat} (hn : n = es.length) : xj [.drow es ty sz] [.sl 0 sz 0 n] = some ([.d (.rs sz es)], [.fz sz es]) := by
  subst hn
  simp [xj, ws, frz, yx]
theorem fz_at1 {ty : TypeId} {sz : Nat} {es : List (List D)} {n : Nat} {x : D} (hn : n = es.length) : xj [.drow es ty sz] [.d x, .sl 0 sz 0 n] = some ([.d x, .d (.rs sz es)], [.fz sz es]) := by
  subst hn
  simp [xj, ws, frz, yx]
theorem frO_one {fs : List Nat} {C : Oracle} {f : FuncId} (hf : fs.contains f = true) (hy : f < yId) {ty : TypeId} {sz n : Nat} {es : List (List D)} (hn : n = es.length) {out : Out} (ho : ∀ m, out.ren m = out) (h : C f [.d (.rs sz es)] [] = some (out, [])) :
    frO fs C f [.sl 0 sz 0 n] [.drow es ty sz] = some (out, [.fz sz es]) := by
  rw [frO_at hf hy (fz_at hn)]
  simp [xe, jl, xg, xf, xh, Eng.distinct, wn, Eng.ren, wl, h, jm, pos, ho]
theorem frO_two {fs : List Nat} {C : Oracle} {f : FuncId} (hf : fs.contains f = true) (hy : f < yId) {ty : TypeId} {sz n : Nat} {es : List (List D)} {x : D} (hn : n = es.length) {out : Out} (ho : ∀ m, out.ren m = out) (h : C f [.d x, .d (.rs sz es)] [] = some (out, [])) :
    frO fs C f [.d x, .sl 0 sz 0 n] [.drow es ty sz] = some (out, [.fz sz es]) := by
  rw [frO_at hf hy (fz_at1 hn)]
  simp [xe, jl, xg, xf, xh, Eng.distinct, wn, Eng.ren, wl, h, jm, pos, ho]

/-! ### Copies -/
theorem inj_lv (a b : List V) (h : nAs [.d (.rs 6 (a.map encV))] = nAs [.d (.rs 6 (b.map encV))]) (_ : ([] : List AObj) = []) : a = b := by
  simp only [nAs, nA, List.cons.injEq, AV.d.injEq, and_true] at h
  exact nLV_inj h
theorem inj_lm (a b : List M) (h : nAs [.d (.rs 7 (a.map encM))] = nAs [.d (.rs 7 (b.map encM))]) (_ : ([] : List AObj) = []) : a = b := by
  simp only [nAs, nA, List.cons.injEq, AV.d.injEq, and_true] at h
  exact nLM_inj h
def cCloneV : CtU := ctI 117 (by decide) (fun l : List V => l.length ≤ 1099511627776) (fun l => [.d (.rs 6 (l.map encV))]) (fun _ => []) (fun l => .ret (clA 6 0 l.length)) (fun l => if l = [] then [] else [vrow l])
  (fun l => by simp [fAs, fA, fLV]) inj_lv
  fun l hl => by
    by_cases h : l = []
    · subst h
      exact meets_empty cloneV_e 6 6
    · have h2 : ¬ l.length = 0 := by simpa using h
      simp only [clA, if_neg h, if_neg h2]
      exact mk {} false (none_ok _ _) (by kernel_rfl) (b_cloneV none_ l h hl)
def cCloneM : CtU := ctI 118 (by decide) (fun l : List M => l.length ≤ 1099511627776) (fun l => [.d (.rs 7 (l.map encM))]) (fun _ => []) (fun l => .ret (clA 7 0 l.length)) (fun l => if l = [] then [] else [mrow l])
  (fun l => by simp [fAs, fA, fLM]) inj_lm
  fun l hl => by
    by_cases h : l = []
    · subst h
      exact meets_empty cloneM_e 7 7
    · have h2 : ¬ l.length = 0 := by simpa using h
      simp only [clA, if_neg h, if_neg h2]
      exact mk {} false (none_ok _ _) (by kernel_rfl) (b_cloneM none_ l h hl)
abbrev CopyIH (n : Nat) : Prop := ∀ v : V, v.size < n → v.size ≤ 1099511627776 → Meets Tryz.prog GU 84 [avV v] [] (.ret (cpA v)) (cpS v)
def ctCopy (n : Nat) (ih : CopyIH n) : CtU := ctI 84 (by decide) (fun v : V => v.size < n ∧ v.size ≤ 1099511627776) (fun v => [avV v]) (fun _ => []) (fun v => .ret (cpA v)) cpS full_v inj_v fun v hv => ih v hv.1 hv.2
theorem mCopy : ∀ n, CopyIH n
  | 0, v, h, _ => absurd h (Nat.not_lt_zero _)
  | n + 1, v, h, hB => mk { keep := [(58, [1, 2, 15, 16]), (122, [1, 2, 32, 33])], wins := [(6, [[], [], [], [], [0]]), (3737, [[], [9]]), (7833, [[], [10]])], outs := [(58, [1, 2]), (122, [1, 2])] } false (octs_ok [cCloneV, cCloneM, ctCopy n (mCopy n)]) (by kernel_rfl) (b_Copy (octs [cCloneV, cCloneM, ctCopy n (mCopy n)]) v hB (fun l hl => octs_here (c := cCloneV) ⟨l, hl⟩ rfl rfl rfl) (fun l hl => (octs_nx rfl).trans (octs_here (c := cCloneM) ⟨l, hl⟩ rfl rfl rfl))
      (fun x hx => (octs_nx rfl).trans ((octs_nx rfl).trans (octs_here (c := ctCopy n (mCopy n)) ⟨x, by have := V.size_l hx; omega, by have := V.size_l hx; omega⟩ rfl rfl rfl)))
      (fun m hx => (octs_nx rfl).trans ((octs_nx rfl).trans (octs_here (c := ctCopy n (mCopy n)) ⟨m.v, by have := V.size_o hx; omega, by have := V.size_o hx; omega⟩ rfl rfl rfl))))
def cCopy : CtU := ctI 84 (by decide) (fun v : V => v.size ≤ 1099511627776) (fun v => [avV v]) (fun _ => []) (fun v => .ret (cpA v)) cpS full_v inj_v fun v hv => mCopy (v.size + 1) v (by omega) hv

/-! ### Sorting -/
theorem ss_inj (a b : List UInt8 × List UInt8) (h : nAs [.d (.str a.1), .d (.str a.2)] = nAs [.d (.str b.1), .d (.str b.2)]) (_ : ([] : List AObj) = []) : a = b := by
  obtain ⟨a1, a2⟩ := a
  obtain ⟨b1, b2⟩ := b
  simp only [nAs, nA, nD, List.cons.injEq, AV.d.injEq, D.str.injEq, and_true] at h
  rw [h.1, h.2]
def cIsNaN : CtU := ctI 120 (by decide) (fun _ : List UInt8 => True) (fun s => [.d (.str s)]) (fun _ => []) (fun _ => .ret (.d (.bool false))) (fun _ => []) (fun _ => rfl) inj_s
  fun s _ => mk {} true (none_ok _ _) (by kernel_rfl) (b_isNaN none_ s)
def cCmp : CtU := ctI 88 (by decide) (fun _ : List UInt8 × List UInt8 => True) (fun a => [.d (.str a.1), .d (.str a.2)]) (fun _ => []) (fun a => .ret (.d (.int .i64 (cmpT a.1 a.2)))) (fun _ => []) (fun _ => rfl) ss_inj
  fun a _ => mk {} true (octs_ok [cIsNaN]) (by kernel_rfl) (b_cmpCompare (octs [cIsNaN]) a.1 a.2 (fun s => octs_here (c := cIsNaN) ⟨s, trivial⟩ rfl rfl rfl))
theorem amM_inj {a b : M} (h : nA (amM a) = nA (amM b)) : a = b := by
  apply nM_inj
  simp only [amM, nA, nAs, AV.agg.injEq, List.cons.injEq, AV.d.injEq, and_true] at h
  rw [encM_eq, encM_eq, encV_eq, encV_eq]
  simp only [nDs, h]
theorem amM_full (a : M) : fA (amM a) = true := by simp [amM, fA, fAs, fD, fDe_map fV, fDe_map fM]
def cObject1 : CtU := ctI 87 (by decide) (fun _ : M × M => True) (fun a => [amM a.1, amM a.2]) (fun _ => []) (fun a => .ret (.d (.int .i64 (cmpT a.1.key a.2.key)))) (fun _ => []) (fun a => by simp [fAs, amM_full])
  (fun a b h _ => by
    obtain ⟨a1, a2⟩ := a
    obtain ⟨b1, b2⟩ := b
    simp only [nAs, List.cons.injEq, and_true] at h
    have e1 : a1 = b1 := amM_inj h.1
    have e2 : a2 = b2 := amM_inj h.2
    rw [e1, e2])
  fun a _ => mk {} true (octs_ok [cCmp]) (by kernel_rfl) (b_Object1 (octs [cCmp]) a.1 a.2 (fun s t => octs_here (c := cCmp) ⟨(s, t), trivial⟩ rfl rfl rfl))
theorem mrow_inj {a b : List M} (h : [mrow a] = [mrow b]) : a = b := by
  simp only [mrow, List.cons.injEq, AObj.drow.injEq, and_true] at h
  exact nDe_map_inj nM_inj a b (by rw [h])
def cInsertion : CtU := ctI 146 (by decide) (fun l : List M => l.length ≤ 1099511627776 ∧ sortedM l) (fun l => [.sl 0 7 0 l.length, .d (.int .i64 0), .d (.int .i64 l.length), .d (.fn (.func 87) [] [])]) (fun l => [mrow l]) (fun _ => .ret (.tup [])) (fun l => [mrow' l]) (fun _ => rfl)
  (fun a b _ h => mrow_inj h)
  fun l hl => mk { keep := [(6, [0, 1, 2, 3, 8]), (402, [0, 1, 2, 3, 8, 9])], outs := [(6, []), (402, [0, 1, 2, 3, 8])] } false (octs_ok [cObject1]) (by kernel_rfl) (b_insertion (octs [cObject1]) l hl.1 hl.2 (fun a b => octs_here (c := cObject1) ⟨(a, b), trivial⟩ rfl rfl rfl))
def cStable : CtU := ctI 119 (by decide) (fun l : List M => l.length < 20 ∧ sortedM l) (fun l => [.sl 0 7 0 l.length, .d (.int .i64 l.length), .d (.fn (.func 87) [] [])]) (fun l => [mrow l]) (fun _ => .ret (.tup [])) (fun l => [mrow' l]) (fun _ => rfl)
  (fun a b _ h => mrow_inj h)
  fun l hl => mk { keep := [(28, [0, 1, 2, 6, 7, 8]), (62, [0, 1, 2, 6]), (3988, [0, 1, 2, 6, 7, 8])], outs := [(28, [0, 1, 2, 6, 7]), (62, []), (3988, [0, 1, 2, 6, 7])] } false (octs_ok [cInsertion]) (by kernel_rfl) (b_stable (octs [cInsertion]) l hl.1 (octs_here (c := cInsertion) ⟨l, by omega, hl.2⟩ rfl rfl rfl))
def cSortStable : CtU := ctI 86 (by decide) (fun l : List M => l.length < 20 ∧ sortedM l) (fun l => [.sl 0 7 0 l.length, .d (.fn (.func 87) [] [])]) (fun l => [mrow l]) (fun _ => .ret (.tup [])) (fun l => [mrow' l]) (fun _ => rfl)
  (fun a b _ h => mrow_inj h)
  fun l hl => mk {} false (octs_ok [cStable]) (by kernel_rfl) (b_SortStable (octs [cStable]) l (octs_here (c := cStable) ⟨l, hl⟩ rfl rfl rfl))

/-! ### Objects -/
def cObject : CtU := ctI 56 (by decide) (fun l : List M => l ≠ [] ∧ l.length < 20 ∧ strictM l ∧ M.sizes l < 1099511627776) (fun l => [.d (.rs 7 (l.map encM))]) (fun _ => []) (fun l => .ret (.tup [avV (oV l), .d (.int .i64 0)])) (fun _ => []) (fun l => by simp [fAs, fA, fLM]) inj_lm
  fun l hl => (mk { keep := [(122, [0, 2, 4])], outs := [(122, [0, 2, 3])] } true (octs_ok [cCopy, cSortStable]) (by kernel_rfl) (b_Object (octs [cCopy, cSortStable]) l hl.1 hl.2.1 hl.2.2.1
    (octs_here (c := cCopy) ⟨.mk 0 false 0 [] [] l, by simp [V.size, V.sizes]; omega⟩ rfl rfl rfl) ((octs_nx rfl).trans (octs_here (c := cSortStable) ⟨l, hl.2.1, strictM_sorted l hl.2.2.1⟩ rfl rfl rfl)))).weak rfl (by simp [fO, fA, fAs, fav, fD])
theorem avT_eq (s : List UInt8) : avT s = avV (tV s) := rfl
def cPtext : CtU := ctI 85 (by decide) (fun _ : List UInt8 => True) (fun s => [.d (.str s)]) (fun _ => []) (fun s => .ret (avT s)) (fun _ => []) (fun _ => rfl) inj_s
  fun s _ => (mk {} true (none_ok _ _) (by kernel_rfl) (b_ptext none_ s)).weak rfl (by rw [avT_eq]; exact fav _)
def cMember : CtU := ctI 31 (by decide) (fun a : List UInt8 × Int => 0 ≤ a.2 ∧ a.2 ≤ 9223372036854775807) (fun a => [.d (.str a.1), .d (.int .u64 a.2)]) (fun _ => []) (fun a => .ret (amM ⟨a.1, iV a.2⟩)) (fun _ => []) (fun _ => rfl)
  (fun a b h _ => by
    obtain ⟨a1, a2⟩ := a
    obtain ⟨b1, b2⟩ := b
    simp only [nAs, nA, nD, List.cons.injEq, AV.d.injEq, D.str.injEq, D.int.injEq, true_and, and_true] at h
    rw [h.1, h.2])
  fun a ha => (mk {} true (none_ok _ _) (by kernel_rfl) (b_member none_ a.1 a.2 ha.1 ha.2)).weak rfl (amM_full _)
end Go.Proofs.YtblejchodicaoaaGreatDoor.Eng

/-
  TIES: sums, frames; what the chapter knows; PullMay. Own work.
-/
namespace Go.Proofs.YtblejchodicaoaaGreatDoor.Eng
open Go Go.RowKit
set_option maxRecDepth 100000
set_option linter.unusedSimpArgs false

/-! ### Sums -/
def cTable1 : CtU := ctI 199 (by decide) (fun r : Nat => r < 4294967296) (fun r => [.d (.int .u32 r)]) (fun _ => []) (fun r => .ret (.d (.int .u32 (stepN r : Nat)))) (fun _ => []) (fun _ => rfl)
  (fun a b h _ => by
    simp only [nAs, nA, nD, List.cons.injEq, AV.d.injEq, D.int.injEq, true_and, and_true] at h
    omega)
  fun r hr => mk {} true (none_ok _ _) (by kernel_rfl) (b_table1 none_ r hr)
def cTable : CtU := ctI 169 (by decide) (fun _ : Unit => True) (fun _ => []) (fun _ => []) (fun _ => .ret (.agg crcT)) (fun _ => []) (fun _ => rfl) (fun _ _ _ _ => rfl)
  fun _ _ => mk { keep := [(122, [0, 1, 2, 4])], outs := [(122, [0, 1])] } true (octs_ok [cTable1]) (by kernel_rfl) (b_table (octs [cTable1]) (fun r hr => octs_here (c := cTable1) ⟨r, hr⟩ rfl rfl rfl))
theorem byL_n (b : List UInt8) : nDe (byL b) = byL b := by
  induction b with
  | nil => rfl
  | cons x r ih =>
    simp only [byL, List.map_cons, nDe, nDs, nD] at ih ⊢
    rw [ih]
theorem byL_inj {a b : List UInt8} (h : nD (.rs 1 (byL a)) = nD (.rs 1 (byL b))) : a = b := by
  have := nD_rs h
  rw [byL_n, byL_n] at this
  exact cells8_inj a b this
theorem inj_by (a b : List UInt8) (h : nAs [.d (.rs 1 (byL a))] = nAs [.d (.rs 1 (byL b))]) (_ : ([] : List AObj) = []) : a = b := by
  simp only [nAs, nA, List.cons.injEq, AV.d.injEq, and_true] at h
  exact byL_inj h
theorem full_by (b : List UInt8) : fDe (byL b) = true := fDe_map (fun c => rfl) b
theorem fulls_by (b : List UInt8) : fAs [.d (.rs 1 (byL b))] = true := by simp [fAs, fA, fD, full_by]
def cHalves : CtU := ctI 170 (by decide) (fun _ : List UInt8 => True) (fun b => [.d (.rs 1 (byL b))]) (fun _ => []) (fun b => .ret (.d (halvesF b))) (fun _ => []) fulls_by inj_by
  fun b _ => mk {} true (none_ok _ _) (by kernel_rfl) (b_halves none_ b)
noncomputable def cCrcY (d : D) : Ctr Tryz.prog GU where
  f := yId
  α := { a : Nat × Nat // a.1 < 4294967296 ∧ a.2 < 16 }
  args := fun a => [.yld 0, .d (.int .u32 a.1.2)]
  σ := fun a => crcSt d a.1.1
  out := fun _ => .ret (.d (.bool true))
  σ' := fun a => crcSt' d (nibN a.1.1 a.1.2)
  det := fun a b h1 h2 => by
    have e1 : a.1.2 = b.1.2 := by
      simp only [List.cons.injEq, AV.d.injEq, D.int.injEq, true_and, and_true] at h1
      omega
    have e2 : a.1.1 = b.1.1 := by
      simp only [crcSt, List.cons.injEq, AObj.box.injEq, AV.d.injEq, D.int.injEq, true_and, and_true] at h2
      omega
    rw [e1, e2]
    exact ⟨rfl, rfl⟩
  meets := fun a => by
    simp only [MeetsAt, if_true]
    exact rounds_ok mixed (none_ok _ _) { keep := [(122, [4, 5, 6, 12, 13])] } 122 (r_crc none_ d a.1.1 a.1.2 a.2.1 a.2.2)
noncomputable def cHalves1 : CtU := ctD 200 (by decide) (fun a : Nat × List UInt8 => a.1 < 4294967296 ∧ a.2.length ≤ 1099511627776) (fun a => [.yld 0, .d (.rp [.rs 1 (byL a.2)])]) (fun a => crcSt (halvesF a.2) a.1) (fun _ => .ret (.tup [])) (fun a => crcSt' (halvesF a.2) (a.2.foldl crcB a.1))
  (fun a => by simp [fAs, fA, fD, fDs, full_by])
  (fun a b h1 h2 => by
    have e1 : a.2 = b.2 := by
      simp only [nAs, nA, nD, nDs, List.cons.injEq, AV.d.injEq, D.rp.injEq, true_and, and_true] at h1
      exact byL_inj h1
    have e2 : a.1 = b.1 := by
      simp only [crcSt, List.cons.injEq, AObj.box.injEq, AV.d.injEq, D.int.injEq, true_and, and_true] at h2
      omega
    rw [e1, e2]
    exact ⟨rfl, rfl⟩)
  fun a ha => mk { keep := [(6, [0, 5, 6, 7])], outs := [(6, [])] } false (orcs_ok [cCrcY (halvesF a.2)]) (by kernel_rfl) (b_halves1 (orcs [cCrcY (halvesF a.2)]) (halvesF a.2) a.1 ha.1 a.2 ha.2 (fun r h hr hh => orcs_here (cCrcY (halvesF a.2)) [] ⟨(r, h), hr, hh⟩ rfl rfl rfl))
theorem sb_inj (a b : Nat × List UInt8) (h : nAs [.d (.int .u32 a.1), .d (.rs 1 (byL a.2))] = nAs [.d (.int .u32 b.1), .d (.rs 1 (byL b.2))]) (_ : ([] : List AObj) = []) : a = b := by
  obtain ⟨a1, a2⟩ := a
  obtain ⟨b1, b2⟩ := b
  simp only [nAs, nA, List.cons.injEq, AV.d.injEq, and_true] at h
  have e1 : a2 = b2 := byL_inj h.2
  have e2 := h.1
  simp only [nD, D.int.injEq, true_and] at e2
  rw [e1, show a1 = b1 from by omega]
theorem sb_full (a : Nat × List UInt8) : fAs [.d (.int .u32 a.1), .d (.rs 1 (byL a.2))] = true := by simp [fAs, fA, fD, full_by]
noncomputable def cMore : CtU := ctI 138 (by decide) (fun a : Nat × List UInt8 => a.1 < 4294967296 ∧ a.2.length ≤ 1099511627776) (fun a => [.d (.int .u32 a.1), .d (.rs 1 (byL a.2))]) (fun _ => []) (fun a => .ret (.d (.int .u32 (crcM a.1 a.2 : Nat)))) (fun _ => []) sb_full sb_inj
  fun a ha => mk { keep := [(122, [4, 5, 6, 12, 13])] } true (octs_ok [cTable, cHalves, cHalves1]) (by kernel_rfl) (b_More (octs [cTable, cHalves, cHalves1]) a.1 ha.1 a.2 (octs_here (c := cTable) ⟨(), trivial⟩ rfl rfl rfl) ((octs_nx rfl).trans (octs_here (c := cHalves) ⟨a.2, trivial⟩ rfl rfl rfl))
    ((octs_nx rfl).trans ((octs_nx rfl).trans (octs_here (c := cHalves1) ⟨(4294967295 ^^^ a.1, a.2), xor_lt (by omega) ha.1, ha.2⟩ rfl rfl rfl))))
def cGo1 : CtU := ctI 139 (by decide) (fun a : Nat × Nat => a.1 < 4294967296 ∧ a.2 < 2) (fun a => [.d (.int .u32 a.1), .d (.int .u32 a.2)]) (fun _ => []) (fun a => .ret (.d (.int .u32 (stepN (a.1 ^^^ a.2) : Nat)))) (fun _ => []) (fun _ => rfl)
  (fun a b h _ => by
    obtain ⟨a1, a2⟩ := a
    obtain ⟨b1, b2⟩ := b
    simp only [nAs, nA, nD, List.cons.injEq, AV.d.injEq, D.int.injEq, true_and, and_true] at h
    rw [show a1 = b1 from by omega, show a2 = b2 from by omega])
  fun a ha => mk {} true (none_ok _ _) (by kernel_rfl) (b_go1 none_ a.1 a.2 ha.1 ha.2)
def cR15More : CtU := ctI 110 (by decide) (fun a : Nat × List UInt8 => a.1 < 4294967296 ∧ a.2.length ≤ 1099511627776) (fun a => [.d (.int .u32 a.1), .d (.rs 1 (byL a.2))]) (fun _ => []) (fun a => .ret (.d (.int .u32 (crcM a.1 a.2 : Nat)))) (fun _ => []) sb_full sb_inj
  fun a ha => mk { keep := [(58, [1, 5, 6]), (7462, [1, 5, 6, 7, 8])], outs := [(58, [4, 5]), (7462, [1, 4, 5, 6])] } true (octs_ok [cGo1]) (by kernel_rfl) (b_r15More (octs [cGo1]) a.1 ha.1 a.2 ha.2 (fun r b hr hb => octs_here (c := cGo1) ⟨(r, b), hr, hb⟩ rfl rfl rfl))
noncomputable def cSum : CtU := ctI 108 (by decide) (fun b : List UInt8 => b.length ≤ 1099511627776) (fun b => [.d (.rs 1 (byL b))]) (fun _ => []) (fun b => .ret (.d (.int .u32 (crcM 0 b : Nat)))) (fun _ => []) fulls_by inj_by
  fun b hb => mk {} true (octs_ok [cMore]) (by kernel_rfl) (b_Sum (octs [cMore]) b (octs_here (c := cMore) ⟨(0, b), by simp only; omega, hb⟩ rfl rfl rfl))
def cR15Sum : CtU := ctI 74 (by decide) (fun b : List UInt8 => b.length ≤ 1099511627776) (fun b => [.d (.rs 1 (byL b))]) (fun _ => []) (fun b => .ret (.d (.int .u32 (crcM 0 b : Nat)))) (fun _ => []) fulls_by inj_by
  fun b hb => mk {} true (octs_ok [cR15More]) (by kernel_rfl) (b_r15Sum (octs [cR15More]) b (octs_here (c := cR15More) ⟨(0, b), by simp only; omega, hb⟩ rfl rfl rfl))
def cCloneB : CtU := ctI 109 (by decide) (fun b : List UInt8 => b ≠ [] ∧ b.length ≤ 1099511627776) (fun b => [.d (.rs 1 (byL b))]) (fun _ => []) (fun b => .ret (.sl 0 1 0 b.length)) (fun b => [.drow (byL b) 5 1]) fulls_by inj_by
  fun b hb => mk {} false (none_ok _ _) (by kernel_rfl) (b_cloneB none_ b hb.1 hb.2)
noncomputable def cSeal : CtU := ctI 73 (by decide) (fun b : List UInt8 => b ≠ [] ∧ b.length ≤ 1099511627776) (fun b => [.d (.rs 1 (byL b))]) (fun _ => []) (fun b => .ret (.d (.rs 1 (byL (sealM b))))) (fun _ => []) fulls_by inj_by
  fun b hb => mk {} true (octs_ok [cSum, cCloneB]) (by kernel_rfl) (b_Seal (octs [cSum, cCloneB]) b hb.1 hb.2 (octs_here (c := cSum) ⟨b, hb.2⟩ rfl rfl rfl) ((octs_nx rfl).trans (octs_here (c := cCloneB) ⟨b, hb⟩ rfl rfl rfl)))
def cR15Seal : CtU := ctI 45 (by decide) (fun b : List UInt8 => b ≠ [] ∧ b.length ≤ 1099511627776) (fun b => [.d (.rs 1 (byL b))]) (fun _ => []) (fun b => .ret (.d (.rs 1 (byL (sealM b))))) (fun _ => []) fulls_by inj_by
  fun b hb => mk { keep := [(250, [3, 4, 5])], outs := [(250, [2, 3])] } true (octs_ok [cR15Sum]) (by kernel_rfl) (b_r15Seal (octs [cR15Sum]) b hb.1 hb.2 (octs_here (c := cR15Sum) ⟨b, hb.2⟩ rfl rfl rfl))

/-! ### Frames -/
theorem kb_inj (a b : UInt8 × List UInt8) (h : nAs [.d (.int .u8 a.1.toNat), .d (.rs 1 (byL a.2))] = nAs [.d (.int .u8 b.1.toNat), .d (.rs 1 (byL b.2))]) (_ : ([] : List AObj) = []) : a = b := by
  obtain ⟨a1, a2⟩ := a
  obtain ⟨b1, b2⟩ := b
  simp only [nAs, nA, List.cons.injEq, AV.d.injEq, and_true] at h
  have e1 : a2 = b2 := byL_inj h.2
  have e2 := h.1
  simp only [nD, D.int.injEq, true_and] at e2
  rw [e1, UInt8.toNat_inj.1 (show a1.toNat = b1.toNat from by omega)]
theorem kb_full (a : UInt8 × List UInt8) : fAs [.d (.int .u8 a.1.toNat), .d (.rs 1 (byL a.2))] = true := by simp [fAs, fA, fD, full_by]
def cWrong : CtU := ctI 72 (by decide) (fun _ : UInt8 => True) (fun k => [.d (.int .u8 k.toNat)]) (fun _ => []) (fun k => .ret (.d (.bool (k == 0)))) (fun _ => []) (fun _ => rfl)
  (fun a b h _ => by
    simp only [nAs, nA, nD, List.cons.injEq, AV.d.injEq, D.int.injEq, true_and, and_true] at h
    exact UInt8.toNat_inj.1 (by omega))
  fun k _ => mk {} true (none_ok _ _) (by kernel_rfl) (b_wrong none_ k)
noncomputable def cFrame : CtU := ctI 44 (by decide) (fun a : UInt8 × List UInt8 => a.1 ≠ 0 ∧ a.2.length ≤ 1099511627775) (fun a => [.d (.int .u8 a.1.toNat), .d (.rs 1 (byL a.2))]) (fun _ => []) (fun a => .ret (.tup [.d (.rs 1 (byL (frameM a.1 a.2))), .d (.int .i64 0)])) (fun _ => []) kb_full kb_inj
  fun a ha => mk {} true (frO_ok (fs := [73]) (octs_ok [cWrong, cSeal])) (by kernel_rfl) (b_Frame (frO [73] (octs [cWrong, cSeal])) a.1 ha.1 a.2 ha.2
    ((frO_other rfl).trans (octs_here (c := cWrong) ⟨a.1, trivial⟩ rfl rfl rfl))
    (frO_one rfl (by decide) (by simp [byL]) (fun m => rfl) ((octs_nx rfl).trans (octs_here (c := cSeal) ⟨a.1 :: a.2, by simp, by simp; have := ha.2; omega⟩ rfl rfl rfl))))
noncomputable def cR16Frame : CtU := ctI 22 (by decide) (fun a : UInt8 × List UInt8 => a.1 ≠ 0 ∧ a.2.length ≤ 1099511627775) (fun a => [.d (.int .u8 a.1.toNat), .d (.rs 1 (byL a.2))]) (fun _ => []) (fun a => .ret (.tup [.d (.rs 1 (byL (frameM a.1 a.2))), .d (.int .i64 0)])) (fun _ => []) kb_full kb_inj
  fun a ha => mk {} true (frO_ok (fs := [45]) (octs_ok [cR15Seal])) (by kernel_rfl) (b_r16Frame (frO [45] (octs [cR15Seal])) a.1 ha.1 a.2 ha.2
    (frO_one rfl (by decide) (by simp [byL]) (fun m => rfl) (octs_here (c := cR15Seal) ⟨a.1 :: a.2, by simp, by simp; have := ha.2; omega⟩ rfl rfl rfl)))
noncomputable def cFramed : CtU := ctI 28 (by decide) (fun a : UInt8 × List UInt8 => a.1 ≠ 0 ∧ a.2 ≠ [] ∧ a.2.length ≤ 1099511627775) (fun a => [.d (.int .u8 a.1.toNat), .d (.str a.2)]) (fun _ => []) (fun a => .ret (.d (.rs 1 (byL (frameM a.1 a.2))))) (fun _ => []) (fun _ => rfl)
  (fun a b h _ => by
    obtain ⟨a1, a2⟩ := a
    obtain ⟨b1, b2⟩ := b
    simp only [nAs, nA, nD, List.cons.injEq, AV.d.injEq, D.str.injEq, D.int.injEq, true_and, and_true] at h
    rw [h.2, UInt8.toNat_inj.1 (show a1.toNat = b1.toNat from by omega)])
  fun a ha => mk {} true (octs_ok [cR16Frame]) (by kernel_rfl) (b_framed (octs [cR16Frame]) a.1 a.2 (frameM a.1 a.2) ha.2.1 (octs_here (c := cR16Frame) ⟨a, ha.1, ha.2.2⟩ rfl rfl rfl))
def cSame : CtU := ctI 15 (by decide) (fun b : List UInt8 => b.length ≤ 1099511627776) (fun b => [.d (.rs 1 (byL b)), .d (.rs 1 (byL b))]) (fun _ => []) (fun _ => .ret (.d (.bool true))) (fun _ => []) (fun b => by simp [fAs, fA, fD, full_by])
  (fun a b h _ => by
    simp only [nAs, nA, List.cons.injEq, AV.d.injEq, and_true] at h
    exact byL_inj h.1)
  fun b hb => mk { keep := [(58, [0, 1, 5])], outs := [(58, [4])] } true (none_ok _ _) (by kernel_rfl) (b_Same none_ b hb)
end Go.Proofs.YtblejchodicaoaaGreatDoor.Eng

/-
  TIES: what the chapter knows; PullMay. Own work.
-/
namespace Go.Proofs.YtblejchodicaoaaGreatDoor.Eng
open Go Go.RowKit
set_option maxRecDepth 100000
set_option linter.unusedSimpArgs false

def zV : V := .mk 0 false 0 [] [] []
def kP : PO := ⟨2, [97], zV⟩
def kR : Rs := ⟨7, 3, 5, 2, [kP]⟩
def resM : List M := respM 7 3 5 2 (lV [opV kP])

/-! ### Small facts, worked out -/
theorem strict_key : strictM (opM kP) := by
  refine ⟨⟨by decide, by decide⟩, trivial⟩
theorem strict_req : strictM (reqM 7 3) := by
  refine ⟨⟨by decide, by decide⟩, trivial⟩
theorem strict_res : strictM resM := by
  refine ⟨⟨by decide, by decide⟩, ⟨by decide, by decide⟩, ⟨by decide, by decide⟩, ⟨by decide, by decide⟩, trivial⟩
theorem good_req : V.good (oV (reqM 7 3)) := by
  simp [V.good, V.ok, V.oks, M.oks, M.ok, in64, oV, reqM, iV, V.size, V.sizes, M.sizes, M.size, kClient, kCookie]
theorem good_res : V.good (oV resM) := by
  simp [V.good, V.ok, V.oks, M.oks, M.ok, in64, oV, resM, respM, lV, opV, kP, tV, iV, V.size, V.sizes, M.sizes, M.size, kClient, kCookie, kBase, kLast, kPatch, kKey, kOp, kDel]
theorem may_req : mayTop (oV (reqM 7 3)) = 0 := by kernel_rfl
theorem may_res : mayTop (oV resM) = 0 := by kernel_rfl
theorem text_req : textOf (oV (reqM 7 3)) = lit2 := by kernel_rfl
theorem text_res : textOf (oV resM) = lit3 := by kernel_rfl
theorem may_kP : poMayL [] [kP] = 0 := by kernel_rfl
theorem may_kR : respMay 7 3 5 2 [kP] = 0 := by kernel_rfl
theorem good_kP : POs [kP] := by
  refine ⟨by simp, ?_⟩
  intro o ho
  simp only [List.mem_singleton] at ho
  subst ho
  simp [PO.good, kP, zV, V.ok, V.oks, M.oks, in64, V.size, V.sizes, M.sizes]

theorem nD_rs_mk {s : Nat} {xs ys : List (List D)} (h : nDe xs = nDe ys) : nD (.rs s xs) = nD (.rs s ys) := by
  cases xs <;> cases ys <;> simp_all [nD, nDe]
/-! ### Patches' objects, of ops that put nothing -/
theorem avO_inj {a b : PO} (h : nA (avO a) = nA (avO b)) : a = b := avPO_inj h
def cPobject : CtU := ctI 55 (by decide) (fun p : PO => p = kP) (fun p => [avO p]) (fun _ => []) (fun p => .ret (avV (opV p))) (fun _ => []) (fun a => by show fAs [avPO a] = true; simp [fAs, avPO_full])
  (fun a b h _ => by
    simp only [nAs, List.cons.injEq, and_true] at h
    exact avO_inj h)
  fun p hp => by
    subst hp
    exact mk {} true (frO_ok (fs := [56]) (octs_ok [cCopy, cPtext, cObject])) (by kernel_rfl) (b_pobject (frO [56] (octs [cCopy, cPtext, cObject])) kP (Or.inr (Or.inl rfl))
      ((frO_other rfl).trans (octs_here (c := cCopy) ⟨zV, by decide⟩ rfl rfl rfl))
      (fun s => (frO_other rfl).trans ((octs_nx rfl).trans (octs_here (c := cPtext) ⟨s, trivial⟩ rfl rfl rfl)))
      (fun es he => frO_one rfl (by decide) (by have := congrArg List.length he; simpa [nDe_len] using this.symm) (fun m => rfl)
        ((octs_nx rfl).trans ((octs_nx rfl).trans (octs_here (c := cObject) ⟨opM kP, by simp [opM, kP], by simp [opM, kP], strict_key, by simp [opM, kP, M.sizes, M.size, V.size, V.sizes, tV, kKey, kOp, kDel]⟩ rfl (show nAs [.d (.rs 7 es)] = nAs [.d (.rs 7 ((opM kP).map encM))] from by simp only [nAs, nA, nD_rs_mk he]) rfl)))))
def cPList : CtU := ctI 29 (by decide) (fun l : List PO => l = [kP]) (fun l => [.d (.rs 8 (l.map encPO))]) (fun _ => []) (fun l => .ret (.tup [avV (lV (l.map opV)), .d (.int .i64 0)])) (fun _ => []) full_pos inj_pos
  fun l hl => by
    subst hl
    have h := mk { keep := [(122, [2, 5, 15, 16, 17])], wins := [(7833, [[], [4, 5]])], outs := [(122, [2, 3, 5])] } true (octs_ok [cPatchMay, cPobject]) (by kernel_rfl) (b_pList (octs [cPatchMay, cPobject]) [kP] (by simp) (octs_here (c := cPatchMay) ⟨[kP], good_kP⟩ rfl rfl rfl)
      (fun _ p hp => by
        have hp' : p = kP := by simpa using hp
        subst hp'
        exact (octs_nx rfl).trans (octs_here (c := cPobject) ⟨kP, rfl⟩ rfl rfl rfl)))
    rw [if_pos may_kP, may_kP] at h
    exact h.weak rfl (by simp [fO, fA, fAs, fav, fD])

/-! ### Sending -/
theorem kl_inj (a b : UInt8 × List M) (h : nAs [.d (.int .u8 a.1.toNat), .d (.rs 7 (a.2.map encM))] = nAs [.d (.int .u8 b.1.toNat), .d (.rs 7 (b.2.map encM))]) (_ : ([] : List AObj) = []) : a = b := by
  obtain ⟨a1, a2⟩ := a
  obtain ⟨b1, b2⟩ := b
  simp only [nAs, nA, List.cons.injEq, AV.d.injEq, and_true] at h
  have e1 : a2 = b2 := nLM_inj h.2
  have e2 := h.1
  simp only [nD, D.int.injEq, true_and] at e2
  rw [e1, UInt8.toNat_inj.1 (show a1.toNat = b1.toNat from by omega)]
theorem textOf_len {v : V} (h : v.good) : (textOf v).length ≤ 35184372088832 := by
  unfold textOf
  split
  · exact text_len h.1 h.2
  · simp
def sendQ (a : UInt8 × List M) : Prop := (a.1 ≠ 0 ∧ a.2 ≠ [] ∧ a.2.length < 20 ∧ strictM a.2) ∧ (oV a.2).good ∧ mayTop (oV a.2) = 0 ∧ (textOf (oV a.2)).length ≤ 1099511627775
noncomputable def cSend : CtU := ctI 30 (by decide) sendQ (fun a => [.d (.int .u8 a.1.toNat), .d (.rs 7 (a.2.map encM))]) (fun _ => []) (fun a => .ret (.tup [.d (.rs 1 (byL (frameM a.1 (textOf (oV a.2))))), .d (.int .i64 0)])) (fun _ => [])
  (fun a => by simp [fAs, fA, fD, fDe_map fM]) kl_inj
  fun a ha => by
    have h := mk {} true (octs_ok [cObject, cEText, cFrame]) (by kernel_rfl) (b_send (octs [cObject, cEText, cFrame]) a.1 a.2 (frameM a.1 (textOf (oV a.2)))
      (octs_here (c := cObject) ⟨a.2, ha.1.2.1, ha.1.2.2.1, ha.1.2.2.2, by have := ha.2.1.2; simp [oV, V.size, V.sizes] at this; omega⟩ rfl rfl rfl)
      ((octs_nx rfl).trans (octs_here (c := cEText) ⟨oV a.2, ha.2.1⟩ rfl rfl rfl))
      (fun _ => (octs_nx rfl).trans ((octs_nx rfl).trans (octs_here (c := cFrame) ⟨(a.1, textOf (oV a.2)), ha.1.1, ha.2.2.2⟩ rfl rfl rfl))))
    rw [if_pos ha.2.2.1, ha.2.2.1] at h
    exact h
theorem u_inj {f : Unit → List AV} (a b : Unit) (_ : nAs (f a) = nAs (f b)) (_ : ([] : List AObj) = []) : a = b := rfl
noncomputable def cEncReq : CtU := ctI 27 (by decide) (fun _ : Unit => True) (fun _ => [.agg [.d (.int .u64 7), .d (.int .u64 3)]]) (fun _ => []) (fun _ => .ret (.tup [.d (.rs 1 (byL (frameM 2 lit2))), .d (.int .i64 0)])) (fun _ => []) (fun _ => rfl) u_inj
  fun _ _ => by
    have h := mk { wins := [(14, [[], [], [], [], [0]])] } true (frO_ok (fs := [30]) (octs_ok [cMayRequest, cMember, cSend])) (by kernel_rfl) (b_EncodeRequest (frO [30] (octs [cMayRequest, cMember, cSend])) 7 3 (by decide) (by decide) (.rs 1 (byL (frameM 2 (textOf (oV (reqM 7 3)))))) 0
      ((frO_other rfl).trans (octs_here (c := cMayRequest) ⟨(7, 3), trivial⟩ rfl rfl rfl))
      (fun k n h0 h1 => (frO_other rfl).trans ((octs_nx rfl).trans (octs_here (c := cMember) ⟨(k, n), h0, h1⟩ rfl rfl rfl)))
      (fun _ => frO_two rfl (by decide) rfl (fun m => rfl) ((octs_nx rfl).trans ((octs_nx rfl).trans (octs_here (c := cSend) ⟨(2, reqM 7 3), ⟨by decide, by simp [reqM], by simp [reqM], strict_req⟩, good_req, may_req, by show (textOf (oV (reqM 7 3))).length ≤ _; rw [text_req]; decide⟩ rfl rfl rfl)))))
    rw [if_pos (by decide), if_pos (by decide), text_req] at h
    exact h
def avKR : AV := .agg [.d (.int .u64 7), .d (.int .u64 3), .d (.int .u64 5), .d (.int .u64 2), .d (.rs 8 ([kP].map encPO))]
noncomputable def cEncRes : CtU := ctI 13 (by decide) (fun _ : Unit => True) (fun _ => [avKR]) (fun _ => []) (fun _ => .ret (.tup [.d (.rs 1 (byL (frameM 3 lit3))), .d (.int .i64 0)])) (fun _ => []) (fun _ => rfl) u_inj
  fun _ _ => by
    have h := mk { wins := [(62, [[], [], [], [], [0], [], [], [0, 3], [], [], [0, 3, 6], [], [0, 3, 6, 9]])] } true (frO_ok (fs := [30]) (octs_ok [cMayResponse, cMember, cPList, cSend])) (by kernel_rfl) (b_EncodeResponse (frO [30] (octs [cMayResponse, cMember, cPList, cSend])) 7 3 5 2 [kP] (by decide) (by decide) (by decide) (by decide) (.rs 1 (byL (frameM 3 (textOf (oV resM))))) 0
      ((frO_other rfl).trans (octs_here (c := cMayResponse) ⟨kR, good_kP⟩ rfl rfl rfl))
      (fun k n h0 h1 => (frO_other rfl).trans ((octs_nx rfl).trans (octs_here (c := cMember) ⟨(k, n), h0, h1⟩ rfl rfl rfl)))
      (fun _ => (frO_other rfl).trans ((octs_nx rfl).trans ((octs_nx rfl).trans (octs_here (c := cPList) ⟨[kP], rfl⟩ rfl rfl rfl))))
      (fun _ => frO_two rfl (by decide) rfl (fun m => rfl) ((octs_nx rfl).trans ((octs_nx rfl).trans ((octs_nx rfl).trans (octs_here (c := cSend) ⟨(3, resM), ⟨by decide, by simp [resM, respM], by simp [resM, respM], strict_res⟩, good_res, may_res, by show (textOf (oV resM)).length ≤ _; rw [text_res]; decide⟩ rfl rfl rfl))))))
    rw [if_pos may_kR, if_pos may_kR, text_res] at h
    exact h

/-! ### What is known -/
theorem fz_kn : xj [knownRow] [.agg [.d (.int .u64 7), .d (.int .u64 3), .d (.int .u64 5), .d (.int .u64 2), .sl 0 8 0 1]] =
    some ([.agg [.d (.int .u64 7), .d (.int .u64 3), .d (.int .u64 5), .d (.int .u64 2), .d (.rs 8 [[.int .i64 2, .str [97], .int .i64 0, .bool false, .int .i64 0, .str [], .nils, .nils]])]], [knownFz]) := by
  rfl
noncomputable def cKnown : CtU := ctI 12 (by decide) (fun _ : Unit => True) (fun _ => []) (fun _ => []) (fun _ => .ret (.d (.bool true))) (fun _ => []) (fun _ => rfl) u_inj
  fun _ _ => mk {} true (frO_ok (fs := [13]) (octs_ok [cEncReq, cEncRes, cFramed, cSame])) (by kernel_rfl) (b_known (frO [13] (octs [cEncReq, cEncRes, cFramed, cSame])) (frameM 2 lit2) (frameM 3 lit3)
    ((frO_other rfl).trans (octs_here (c := cEncReq) ⟨(), trivial⟩ rfl rfl rfl))
    (by
      rw [frO_at rfl (by decide) fz_kn]
      have h : octs [cEncReq, cEncRes, cFramed, cSame] 13 [.agg [.d (.int .u64 7), .d (.int .u64 3), .d (.int .u64 5), .d (.int .u64 2), .d (.rs 8 [[.int .i64 2, .str [97], .int .i64 0, .bool false, .int .i64 0, .str [], .nils, .nils]])]] [] = some (.ret (.tup [.d (.rs 1 (byL (frameM 3 lit3))), .d (.int .i64 0)]), []) :=
        (octs_nx rfl).trans (octs_here (c := cEncRes) ⟨(), trivial⟩ rfl rfl rfl)
      simp [xe, jl, xg, xf, xh, Eng.distinct, wn, Eng.ren, wl, h, jm, pos, Out.ren])
    ((frO_other rfl).trans ((octs_nx rfl).trans ((octs_nx rfl).trans (octs_here (c := cFramed) ⟨(2, lit2), by decide, by decide, by decide⟩ rfl rfl rfl))))
    ((frO_other rfl).trans ((octs_nx rfl).trans ((octs_nx rfl).trans (octs_here (c := cFramed) ⟨(3, lit3), by decide, by decide, by decide⟩ rfl rfl rfl))))
    (fun f hf => (frO_other rfl).trans ((octs_nx rfl).trans ((octs_nx rfl).trans ((octs_nx rfl).trans (octs_here (c := cSame) ⟨f, by
      rcases hf with rfl | rfl <;> simp [frameM, sealM, le4, lit2, lit3]⟩ rfl rfl rfl))))))

/-! ### PullMay -/
theorem mPullMay (a : Int × Int) (r : Rs) (hr : POs r.l) : Meets Tryz.prog GU 3 [avRq a, avRs r] [] (.ret (.d (.bool true))) [] :=
  mk { wins := [(6, [[], [], [0], [], [], [], [], [], [4]])] } true (octs_ok [cMayRequest, cRMayRequest, cMayResponse, cRMayResponse, cKnown]) (by kernel_rfl) (b_PullMay (octs [cMayRequest, cRMayRequest, cMayResponse, cRMayResponse, cKnown]) a.1 a.2 r.c r.b r.k r.t r.l
    (octs_here (c := cMayRequest) ⟨a, trivial⟩ rfl rfl rfl)
    ((octs_nx rfl).trans (octs_here (c := cRMayRequest) ⟨a, trivial⟩ rfl rfl rfl))
    ((octs_nx rfl).trans ((octs_nx rfl).trans (octs_here (c := cMayResponse) ⟨r, hr⟩ rfl rfl rfl)))
    ((octs_nx rfl).trans ((octs_nx rfl).trans ((octs_nx rfl).trans (octs_here (c := cRMayResponse) ⟨r, hr⟩ rfl rfl rfl))))
    ((octs_nx rfl).trans ((octs_nx rfl).trans ((octs_nx rfl).trans ((octs_nx rfl).trans (octs_here (c := cKnown) ⟨(), trivial⟩ rfl rfl rfl))))))
end Go.Proofs.YtblejchodicaoaaGreatDoor.Eng

/-
  CONTRACTS: sorting members, however they stand; value.Object of such. Own work.
-/
namespace Go.Proofs.YtblejchodicaoaaGreatDoor.Eng
open Go Go.RowKit
set_option maxRecDepth 100000
set_option linter.unusedSimpArgs false
set_option maxHeartbeats 4000000

/-- x, put from behind into what stands ahead; v stands behind it. -/
def insR : List M → M → List M → List M
  | [], x, v => x :: v
  | y :: ur, x, v => if cmpT x.key y.key < 0 then insR ur x (y :: v) else ur.reverse ++ y :: x :: v
def insB (u : List M) (x : M) (v : List M) : List M := insR u.reverse x v
theorem insB_nil (x : M) (v : List M) : insB [] x v = x :: v := rfl
theorem insB_snoc (pre : List M) (y x : M) (v : List M) : insB (pre ++ [y]) x v = if cmpT x.key y.key < 0 then insB pre x (y :: v) else pre ++ y :: x :: v := by simp [insB, insR]
theorem insR_len : ∀ (ur : List M) (x : M) (v : List M), (insR ur x v).length = ur.length + 1 + v.length
  | [], x, v => by simp [insR]; omega
  | y :: ur, x, v => by
    simp only [insR]
    split
    · rw [insR_len ur x (y :: v)]; simp; omega
    · simp; omega
theorem insB_len (u : List M) (x : M) (v : List M) : (insB u x v).length = u.length + 1 + v.length := by rw [insB, insR_len]; simp
def isortGo : List M → List M → List M
  | s, [] => s
  | s, x :: suf => isortGo (insB s x []) suf
def isort : List M → List M
  | [] => []
  | x :: r => isortGo [x] r
theorem isortGo_len : ∀ (suf s : List M), (isortGo s suf).length = s.length + suf.length
  | [], s => rfl
  | x :: suf, s => by simp only [isortGo, isortGo_len suf, insB_len]; simp; omega
theorem isort_len : ∀ l : List M, (isort l).length = l.length
  | [] => rfl
  | x :: r => by simp only [isort, isortGo_len]; simp; omega

theorem b_insertionG (C : Oracle) (l : List M) (hne : l ≠ []) (hl : l.length ≤ 1099511627776) (h : ∀ a b, C 87 [amM a, amM b] [] = R (.int .i64 (cmpT a.key b.key))) :
    abody Tryz.prog [] C (mach Tryz.prog C { keep := [(6, [0, 1, 2, 3, 8]), (402, [0, 1, 2, 3, 8, 9])], outs := [(6, []), (402, [0, 1, 2, 3, 8])] }) false 146 [.sl 0 7 0 l.length, .d (.int .i64 0), .d (.int .i64 l.length), .d (.fn (.func 87) [] [])] [mrow l] = some (.ret (.tup []), [mrow' (isort l)]) := by
  simp only [R, amM] at h
  obtain ⟨x0, r0, rfl⟩ := List.exists_cons_of_ne_nil hne
  unfold abody
  rw [Tryz.func146]
  simp only [Tryz.f146]
  generalize hN : (x0 :: r0).length = N at hl
  simp -implicitDefEqProofs [mrow, mach_loop, IntWalk.i64_in,IntWalk.u64_in,IntWalk.u8_in,IntWalk.i32_in,IntWalk.u32_in,ye,zk,zm,qj,qk,qm,qn,zb,zc,zn,zp,zq,qo,zd,ze,zr,zt,zu,j3,x7,zw,zf,za,zx,qp,zy,zg,zz,z6,qq,zh,yf,qr,aop,yq,j4,j5,x8,x9,jd,j6,j7,wb,je,j8,yr,j9,wg,jf,jg,xa,xb,z7,jh,z8,ji,jj,yt,yu,xc,AV.one,wh,wi,aun,jk,xd,yw,afn,xe,Out.ren,xf,xg,jl,wj,xh,wl,jm,Eng.distinct,pos,wn,Eng.ren,wo,xi,wp,jo,wq,yg,xj,ws,wu,jp,frz,yx,yz,wv,List.lookup_cons,jq,zi,jr,js,List.range_succ,jt,xk,ju,xm,↓yh,↓yi,↓qt,↓y6,↓qu,↓qa,↓yj,↓yk,↓qv,↓qw,↓qx,↓qy,↓qb,↓qz,qc,ww,xn,jv,jw,yl,qd,qe,zj,wx,y7,jx,xp,xq,keq,y8,wy,qf,y9,ym,xr,jy,jz,xt,j0,wz,ja,j1,xu,xv,xw,jb,q5,q6,yn,q7,j2,Option.map_some,yo,qg,q8,q9,qh,ya,xx,yb,yp,yc,xy,w5,xz,x5,w6,jc,x6,Op.operands,Call.operands,yd,qi,w7,AObj.live]
  rw [aloop_meas (α := List M × List M) (S := fun p => { env := [(0, .sl 0 7 0 N), (1, .d (.int .i64 0)), (2, .d (.int .i64 N)), (3, .d (.fn (.func 87) [] [])), (8, .d (.int .i64 (p.1.length : Nat)))], σ := [mrow (p.1 ++ p.2)], dfs := [] })
    (R := fun p => some (.exit 0, { env := [], σ := [mrow' (isortGo p.1 p.2)], dfs := [] }))
    (P := fun p => p.1.length + p.2.length = N ∧ 1 ≤ p.1.length) (m := fun p => p.2.length) ?_ ([x0], r0) _ ⟨by simp at hN ⊢; omega, by simp⟩ ?_]
  rotate_left
  · rintro ⟨s, suf⟩ ⟨hi1, hi2⟩ ih
    simp only at hi1 hi2 ih ⊢
    cases suf with
    | nil =>
      have he' : ¬ (s.length : Int) < N := by simp at hi1; omega
      simp -implicitDefEqProofs [mrow, mrow', isortGo, he', mach_loop, IntWalk.i64_in,IntWalk.u64_in,IntWalk.u8_in,IntWalk.i32_in,IntWalk.u32_in,ye,zk,zm,qj,qk,qm,qn,zb,zc,zn,zp,zq,qo,zd,ze,zr,zt,zu,j3,x7,zw,zf,za,zx,qp,zy,zg,zz,z6,qq,zh,yf,qr,aop,yq,j4,j5,x8,x9,jd,j6,j7,wb,je,j8,yr,j9,wg,jf,jg,xa,xb,z7,jh,z8,ji,jj,yt,yu,xc,AV.one,wh,wi,aun,jk,xd,yw,afn,xe,Out.ren,xf,xg,jl,wj,xh,wl,jm,Eng.distinct,pos,wn,Eng.ren,wo,xi,wp,jo,wq,yg,xj,ws,wu,jp,frz,yx,yz,wv,List.lookup_cons,jq,zi,jr,js,List.range_succ,jt,xk,ju,xm,↓yh,↓yi,↓qt,↓y6,↓qu,↓qa,↓yj,↓yk,↓qv,↓qw,↓qx,↓qy,↓qb,↓qz,qc,ww,xn,jv,jw,yl,qd,qe,zj,wx,y7,jx,xp,xq,keq,y8,wy,qf,y9,ym,xr,jy,jz,xt,j0,wz,ja,j1,xu,xv,xw,jb,q5,q6,yn,q7,j2,Option.map_some,yo,qg,q8,q9,qh,ya,xx,yb,yp,yc,xy,w5,xz,x5,w6,jc,x6,Op.operands,Call.operands,yd,qi,w7,AObj.live]
    | cons x suf =>
      have he : (s.length : Int) < N := by simp at hi1; omega
      have hw2 : IntKind.i64.wrap (((s.length : Nat) : Int) + 1) = (s.length : Nat) + 1 := wrap64 (by omega) (by omega)
      simp -implicitDefEqProofs [mrow, he, mach_loop, IntWalk.i64_in,IntWalk.u64_in,IntWalk.u8_in,IntWalk.i32_in,IntWalk.u32_in,ye,zk,zm,qj,qk,qm,qn,zb,zc,zn,zp,zq,qo,zd,ze,zr,zt,zu,j3,x7,zw,zf,za,zx,qp,zy,zg,zz,z6,qq,zh,yf,qr,aop,yq,j4,j5,x8,x9,jd,j6,j7,wb,je,j8,yr,j9,wg,jf,jg,xa,xb,z7,jh,z8,ji,jj,yt,yu,xc,AV.one,wh,wi,aun,jk,xd,yw,afn,xe,Out.ren,xf,xg,jl,wj,xh,wl,jm,Eng.distinct,pos,wn,Eng.ren,wo,xi,wp,jo,wq,yg,xj,ws,wu,jp,frz,yx,yz,wv,List.lookup_cons,jq,zi,jr,js,List.range_succ,jt,xk,ju,xm,↓yh,↓yi,↓qt,↓y6,↓qu,↓qa,↓yj,↓yk,↓qv,↓qw,↓qx,↓qy,↓qb,↓qz,qc,ww,xn,jv,jw,yl,qd,qe,zj,wx,y7,jx,xp,xq,keq,y8,wy,qf,y9,ym,xr,jy,jz,xt,j0,wz,ja,j1,xu,xv,xw,jb,q5,q6,yn,q7,j2,Option.map_some,yo,qg,q8,q9,qh,ya,xx,yb,yp,yc,xy,w5,xz,x5,w6,jc,x6,Op.operands,Call.operands,yd,qi,w7,AObj.live]
      rw [aloop_meas (α := List M × List M) (S := fun p => { env := [(0, .sl 0 7 0 N), (1, .d (.int .i64 0)), (2, .d (.int .i64 N)), (3, .d (.fn (.func 87) [] [])), (8, .d (.int .i64 (s.length : Nat))), (9, .d (.int .i64 (p.1.length : Nat)))], σ := [mrow (p.1 ++ x :: (p.2 ++ suf))], dfs := [] })
        (R := fun p => some (.exit 2, { env := [(0, .sl 0 7 0 N), (1, .d (.int .i64 0)), (2, .d (.int .i64 N)), (3, .d (.fn (.func 87) [] [])), (8, .d (.int .i64 (s.length : Nat)))], σ := [mrow (insB p.1 x p.2 ++ suf)], dfs := [] }))
        (P := fun p => p.1.length + p.2.length = s.length) (m := fun p => p.1.length) ?_ (s, []) _ (by simp) ?_]
      rotate_left
      · rintro ⟨u, v⟩ hp ih2
        simp only at hp ih2 ⊢
        rcases List.eq_nil_or_concat u with rfl | ⟨pre, y, rfl⟩
        · have hNp : 0 < N := by omega
          simp -implicitDefEqProofs [mrow, insB_nil, hNp, encM_eq x, encV_eq x.v, mach_draw, mach_loop, IntWalk.i64_in,IntWalk.u64_in,IntWalk.u8_in,IntWalk.i32_in,IntWalk.u32_in,ye,zk,zm,qj,qk,qm,qn,zb,zc,zn,zp,zq,qo,zd,ze,zr,zt,zu,j3,x7,zw,zf,za,zx,qp,zy,zg,zz,z6,qq,zh,yf,qr,aop,yq,j4,j5,x8,x9,jd,j6,j7,wb,je,j8,yr,j9,wg,jf,jg,xa,xb,z7,jh,z8,ji,jj,yt,yu,xc,AV.one,wh,wi,aun,jk,xd,yw,afn,xe,Out.ren,xf,xg,jl,wj,xh,wl,jm,Eng.distinct,pos,wn,Eng.ren,wo,xi,wp,jo,wq,yg,xj,ws,wu,jp,frz,yx,yz,wv,List.lookup_cons,jq,zi,jr,js,List.range_succ,jt,xk,ju,xm,↓yh,↓yi,↓qt,↓y6,↓qu,↓qa,↓yj,↓yk,↓qv,↓qw,↓qx,↓qy,↓qb,↓qz,qc,ww,xn,jv,jw,yl,qd,qe,zj,wx,y7,jx,xp,xq,keq,y8,wy,qf,y9,ym,xr,jy,jz,xt,j0,wz,ja,j1,xu,xv,xw,jb,q5,q6,yn,q7,j2,Option.map_some,yo,qg,q8,q9,qh,ya,xx,yb,yp,yc,xy,w5,xz,x5,w6,jc,x6,Op.operands,Call.operands,yd,qi,w7,AObj.live]
        · simp only [List.concat_eq_append] at *
          have hpl : pre.length + 1 + v.length = s.length := by simpa using hp
          have hi0 : (0 : Int) < (pre.length : Nat) + 1 := by omega
          have hw0 : IntKind.i64.wrap ((pre.length : Nat) : Int) = (pre.length : Nat) := wrap64 (by omega) (by omega)
          have hw1 : IntKind.i64.wrap (((pre.length : Nat) : Int) + 1 - 1) = (pre.length : Nat) := by rw [wrap64 (by omega) (by omega)]; omega
          have hlt0 : ((pre.length : Nat) : Int) < N := by omega
          have hlt1 : ((pre.length : Nat) : Int) + 1 < N := by omega
          have h1 := h x y
          rw [insB_snoc]
          by_cases hc : cmpT x.key y.key < 0
          · simp -implicitDefEqProofs [mrow, hc, hi0, hw0, hw1, hlt0, hlt1, h1, encM_eq x, encM_eq y, encV_eq x.v, encV_eq y.v, mach_draw, mach_loop, ar1, ar2, ar3, ar4, mid_lt, pos1, IntWalk.i64_in,IntWalk.u64_in,IntWalk.u8_in,IntWalk.i32_in,IntWalk.u32_in,ye,zk,zm,qj,qk,qm,qn,zb,zc,zn,zp,zq,qo,zd,ze,zr,zt,zu,j3,x7,zw,zf,za,zx,qp,zy,zg,zz,z6,qq,zh,yf,qr,aop,yq,j4,j5,x8,x9,jd,j6,j7,wb,je,j8,yr,j9,wg,jf,jg,xa,xb,z7,jh,z8,ji,jj,yt,yu,xc,AV.one,wh,wi,aun,jk,xd,yw,afn,xe,Out.ren,xf,xg,jl,wj,xh,wl,jm,Eng.distinct,pos,wn,Eng.ren,wo,xi,wp,jo,wq,yg,xj,ws,wu,jp,frz,yx,yz,wv,List.lookup_cons,jq,zi,jr,js,List.range_succ,jt,xk,ju,xm,↓yh,↓yi,↓qt,↓y6,↓qu,↓qa,↓yj,↓yk,↓qv,↓qw,↓qx,↓qy,↓qb,↓qz,qc,ww,xn,jv,jw,yl,qd,qe,zj,wx,y7,jx,xp,xq,keq,y8,wy,qf,y9,ym,xr,jy,jz,xt,j0,wz,ja,j1,xu,xv,xw,jb,q5,q6,yn,q7,j2,Option.map_some,yo,qg,q8,q9,qh,ya,xx,yb,yp,yc,xy,w5,xz,x5,w6,jc,x6,Op.operands,Call.operands,yd,qi,w7,AObj.live]
            rw [ih2 (pre, y :: v) _ (by simp; omega) (by simp) (by simp -implicitDefEqProofs [mrow, encM_eq x, encM_eq y, encV_eq x.v, encV_eq y.v, IntWalk.i64_in,IntWalk.u64_in,IntWalk.u8_in,IntWalk.i32_in,IntWalk.u32_in,ye,zk,zm,qj,qk,qm,qn,zb,zc,zn,zp,zq,qo,zd,ze,zr,zt,zu,j3,x7,zw,zf,za,zx,qp,zy,zg,zz,z6,qq,zh,yf,qr,aop,yq,j4,j5,x8,x9,jd,j6,j7,wb,je,j8,yr,j9,wg,jf,jg,xa,xb,z7,jh,z8,ji,jj,yt,yu,xc,AV.one,wh,wi,aun,jk,xd,yw,afn,xe,Out.ren,xf,xg,jl,wj,xh,wl,jm,Eng.distinct,pos,wn,Eng.ren,wo,xi,wp,jo,wq,yg,xj,ws,wu,jp,frz,yx,yz,wv,List.lookup_cons,jq,zi,jr,js,List.range_succ,jt,xk,ju,xm,↓yh,↓yi,↓qt,↓y6,↓qu,↓qa,↓yj,↓yk,↓qv,↓qw,↓qx,↓qy,↓qb,↓qz,qc,ww,xn,jv,jw,yl,qd,qe,zj,wx,y7,jx,xp,xq,keq,y8,wy,qf,y9,ym,xr,jy,jz,xt,j0,wz,ja,j1,xu,xv,xw,jb,q5,q6,yn,q7,j2,Option.map_some,yo,qg,q8,q9,qh,ya,xx,yb,yp,yc,xy,w5,xz,x5,w6,jc,x6,Op.operands,Call.operands,yd,qi,w7,AObj.live])]
            simp [mrow]
          · simp -implicitDefEqProofs [mrow, hc, hi0, hw0, hw1, hlt0, hlt1, h1, encM_eq x, encM_eq y, encV_eq x.v, encV_eq y.v, mach_draw, mach_loop, ar1, ar2, ar3, ar4, mid_lt, pos1, IntWalk.i64_in,IntWalk.u64_in,IntWalk.u8_in,IntWalk.i32_in,IntWalk.u32_in,ye,zk,zm,qj,qk,qm,qn,zb,zc,zn,zp,zq,qo,zd,ze,zr,zt,zu,j3,x7,zw,zf,za,zx,qp,zy,zg,zz,z6,qq,zh,yf,qr,aop,yq,j4,j5,x8,x9,jd,j6,j7,wb,je,j8,yr,j9,wg,jf,jg,xa,xb,z7,jh,z8,ji,jj,yt,yu,xc,AV.one,wh,wi,aun,jk,xd,yw,afn,xe,Out.ren,xf,xg,jl,wj,xh,wl,jm,Eng.distinct,pos,wn,Eng.ren,wo,xi,wp,jo,wq,yg,xj,ws,wu,jp,frz,yx,yz,wv,List.lookup_cons,jq,zi,jr,js,List.range_succ,jt,xk,ju,xm,↓yh,↓yi,↓qt,↓y6,↓qu,↓qa,↓yj,↓yk,↓qv,↓qw,↓qx,↓qy,↓qb,↓qz,qc,ww,xn,jv,jw,yl,qd,qe,zj,wx,y7,jx,xp,xq,keq,y8,wy,qf,y9,ym,xr,jy,jz,xt,j0,wz,ja,j1,xu,xv,xw,jb,q5,q6,yn,q7,j2,Option.map_some,yo,qg,q8,q9,qh,ya,xx,yb,yp,yc,xy,w5,xz,x5,w6,jc,x6,Op.operands,Call.operands,yd,qi,w7,AObj.live]
      · simp -implicitDefEqProofs [mrow, IntWalk.i64_in,IntWalk.u64_in,IntWalk.u8_in,IntWalk.i32_in,IntWalk.u32_in,ye,zk,zm,qj,qk,qm,qn,zb,zc,zn,zp,zq,qo,zd,ze,zr,zt,zu,j3,x7,zw,zf,za,zx,qp,zy,zg,zz,z6,qq,zh,yf,qr,aop,yq,j4,j5,x8,x9,jd,j6,j7,wb,je,j8,yr,j9,wg,jf,jg,xa,xb,z7,jh,z8,ji,jj,yt,yu,xc,AV.one,wh,wi,aun,jk,xd,yw,afn,xe,Out.ren,xf,xg,jl,wj,xh,wl,jm,Eng.distinct,pos,wn,Eng.ren,wo,xi,wp,jo,wq,yg,xj,ws,wu,jp,frz,yx,yz,wv,List.lookup_cons,jq,zi,jr,js,List.range_succ,jt,xk,ju,xm,↓yh,↓yi,↓qt,↓y6,↓qu,↓qa,↓yj,↓yk,↓qv,↓qw,↓qx,↓qy,↓qb,↓qz,qc,ww,xn,jv,jw,yl,qd,qe,zj,wx,y7,jx,xp,xq,keq,y8,wy,qf,y9,ym,xr,jy,jz,xt,j0,wz,ja,j1,xu,xv,xw,jb,q5,q6,yn,q7,j2,Option.map_some,yo,qg,q8,q9,qh,ya,xx,yb,yp,yc,xy,w5,xz,x5,w6,jc,x6,Op.operands,Call.operands,yd,qi,w7,AObj.live]
      simp -implicitDefEqProofs [mrow, hw2, mach_loop, IntWalk.i64_in,IntWalk.u64_in,IntWalk.u8_in,IntWalk.i32_in,IntWalk.u32_in,ye,zk,zm,qj,qk,qm,qn,zb,zc,zn,zp,zq,qo,zd,ze,zr,zt,zu,j3,x7,zw,zf,za,zx,qp,zy,zg,zz,z6,qq,zh,yf,qr,aop,yq,j4,j5,x8,x9,jd,j6,j7,wb,je,j8,yr,j9,wg,jf,jg,xa,xb,z7,jh,z8,ji,jj,yt,yu,xc,AV.one,wh,wi,aun,jk,xd,yw,afn,xe,Out.ren,xf,xg,jl,wj,xh,wl,jm,Eng.distinct,pos,wn,Eng.ren,wo,xi,wp,jo,wq,yg,xj,ws,wu,jp,frz,yx,yz,wv,List.lookup_cons,jq,zi,jr,js,List.range_succ,jt,xk,ju,xm,↓yh,↓yi,↓qt,↓y6,↓qu,↓qa,↓yj,↓yk,↓qv,↓qw,↓qx,↓qy,↓qb,↓qz,qc,ww,xn,jv,jw,yl,qd,qe,zj,wx,y7,jx,xp,xq,keq,y8,wy,qf,y9,ym,xr,jy,jz,xt,j0,wz,ja,j1,xu,xv,xw,jb,q5,q6,yn,q7,j2,Option.map_some,yo,qg,q8,q9,qh,ya,xx,yb,yp,yc,xy,w5,xz,x5,w6,jc,x6,Op.operands,Call.operands,yd,qi,w7,AObj.live]
      rw [ih (insB s x [], suf) _ ⟨by rw [insB_len]; simp at hi1 ⊢; omega, by rw [insB_len]; omega⟩ (by simp) (by simp -implicitDefEqProofs [mrow, insB_len, IntWalk.i64_in,IntWalk.u64_in,IntWalk.u8_in,IntWalk.i32_in,IntWalk.u32_in,ye,zk,zm,qj,qk,qm,qn,zb,zc,zn,zp,zq,qo,zd,ze,zr,zt,zu,j3,x7,zw,zf,za,zx,qp,zy,zg,zz,z6,qq,zh,yf,qr,aop,yq,j4,j5,x8,x9,jd,j6,j7,wb,je,j8,yr,j9,wg,jf,jg,xa,xb,z7,jh,z8,ji,jj,yt,yu,xc,AV.one,wh,wi,aun,jk,xd,yw,afn,xe,Out.ren,xf,xg,jl,wj,xh,wl,jm,Eng.distinct,pos,wn,Eng.ren,wo,xi,wp,jo,wq,yg,xj,ws,wu,jp,frz,yx,yz,wv,List.lookup_cons,jq,zi,jr,js,List.range_succ,jt,xk,ju,xm,↓yh,↓yi,↓qt,↓y6,↓qu,↓qa,↓yj,↓yk,↓qv,↓qw,↓qx,↓qy,↓qb,↓qz,qc,ww,xn,jv,jw,yl,qd,qe,zj,wx,y7,jx,xp,xq,keq,y8,wy,qf,y9,ym,xr,jy,jz,xt,j0,wz,ja,j1,xu,xv,xw,jb,q5,q6,yn,q7,j2,Option.map_some,yo,qg,q8,q9,qh,ya,xx,yb,yp,yc,xy,w5,xz,x5,w6,jc,x6,Op.operands,Call.operands,yd,qi,w7,AObj.live])]
      simp [isortGo]
  · simp -implicitDefEqProofs [mrow, IntWalk.i64_in,IntWalk.u64_in,IntWalk.u8_in,IntWalk.i32_in,IntWalk.u32_in,ye,zk,zm,qj,qk,qm,qn,zb,zc,zn,zp,zq,qo,zd,ze,zr,zt,zu,j3,x7,zw,zf,za,zx,qp,zy,zg,zz,z6,qq,zh,yf,qr,aop,yq,j4,j5,x8,x9,jd,j6,j7,wb,je,j8,yr,j9,wg,jf,jg,xa,xb,z7,jh,z8,ji,jj,yt,yu,xc,AV.one,wh,wi,aun,jk,xd,yw,afn,xe,Out.ren,xf,xg,jl,wj,xh,wl,jm,Eng.distinct,pos,wn,Eng.ren,wo,xi,wp,jo,wq,yg,xj,ws,wu,jp,frz,yx,yz,wv,List.lookup_cons,jq,zi,jr,js,List.range_succ,jt,xk,ju,xm,↓yh,↓yi,↓qt,↓y6,↓qu,↓qa,↓yj,↓yk,↓qv,↓qw,↓qx,↓qy,↓qb,↓qz,qc,ww,xn,jv,jw,yl,qd,qe,zj,wx,y7,jx,xp,xq,keq,y8,wy,qf,y9,ym,xr,jy,jz,xt,j0,wz,ja,j1,xu,xv,xw,jb,q5,q6,yn,q7,j2,Option.map_some,yo,qg,q8,q9,qh,ya,xx,yb,yp,yc,xy,w5,xz,x5,w6,jc,x6,Op.operands,Call.operands,yd,qi,w7,AObj.live]
  simp -implicitDefEqProofs [mrow, mrow', isort, mach_loop, IntWalk.i64_in,IntWalk.u64_in,IntWalk.u8_in,IntWalk.i32_in,IntWalk.u32_in,ye,zk,zm,qj,qk,qm,qn,zb,zc,zn,zp,zq,qo,zd,ze,zr,zt,zu,j3,x7,zw,zf,za,zx,qp,zy,zg,zz,z6,qq,zh,yf,qr,aop,yq,j4,j5,x8,x9,jd,j6,j7,wb,je,j8,yr,j9,wg,jf,jg,xa,xb,z7,jh,z8,ji,jj,yt,yu,xc,AV.one,wh,wi,aun,jk,xd,yw,afn,xe,Out.ren,xf,xg,jl,wj,xh,wl,jm,Eng.distinct,pos,wn,Eng.ren,wo,xi,wp,jo,wq,yg,xj,ws,wu,jp,frz,yx,yz,wv,List.lookup_cons,jq,zi,jr,js,List.range_succ,jt,xk,ju,xm,↓yh,↓yi,↓qt,↓y6,↓qu,↓qa,↓yj,↓yk,↓qv,↓qw,↓qx,↓qy,↓qb,↓qz,qc,ww,xn,jv,jw,yl,qd,qe,zj,wx,y7,jx,xp,xq,keq,y8,wy,qf,y9,ym,xr,jy,jz,xt,j0,wz,ja,j1,xu,xv,xw,jb,q5,q6,yn,q7,j2,Option.map_some,yo,qg,q8,q9,qh,ya,xx,yb,yp,yc,xy,w5,xz,x5,w6,jc,x6,Op.operands,Call.operands,yd,qi,w7,AObj.live]

theorem b_stableG (C : Oracle) (l l' : List M) (hl : l.length < 20)
    (h : C 146 [.sl 0 7 0 l.length, .d (.int .i64 0), .d (.int .i64 l.length), .d (.fn (.func 87) [] [])] [mrow l] = some (.ret (.tup []), [mrow' l'])) :
    abody Tryz.prog [] C (mach Tryz.prog C { keep := [(28, [0, 1, 2, 6, 7, 8]), (62, [0, 1, 2, 6]), (3988, [0, 1, 2, 6, 7, 8])], outs := [(28, [0, 1, 2, 6, 7]), (62, []), (3988, [0, 1, 2, 6, 7])] }) false 119 [.sl 0 7 0 l.length, .d (.int .i64 l.length), .d (.fn (.func 87) [] [])] [mrow l] = some (.ret (.tup []), [mrow' l']) := by
  have h1 : ¬ (20 : Int) ≤ l.length := by omega
  have h2 : ¬ (20 : Int) < l.length := by omega
  simp only [mrow, mrow'] at h
  unfold abody
  rw [Tryz.func119]
  simp only [Tryz.f119]
  simp -implicitDefEqProofs [mrow, mach_loop, IntWalk.i64_in,IntWalk.u64_in,IntWalk.u8_in,IntWalk.i32_in,IntWalk.u32_in,ye,zk,zm,qj,qk,qm,qn,zb,zc,zn,zp,zq,qo,zd,ze,zr,zt,zu,j3,x7,zw,zf,za,zx,qp,zy,zg,zz,z6,qq,zh,yf,qr,aop,yq,j4,j5,x8,x9,jd,j6,j7,wb,je,j8,yr,j9,wg,jf,jg,xa,xb,z7,jh,z8,ji,jj,yt,yu,xc,AV.one,wh,wi,aun,jk,xd,yw,afn,xe,Out.ren,xf,xg,jl,wj,xh,wl,jm,Eng.distinct,pos,wn,Eng.ren,wo,xi,wp,jo,wq,yg,xj,ws,wu,jp,frz,yx,yz,wv,List.lookup_cons,jq,zi,jr,js,List.range_succ,jt,xk,ju,xm,↓yh,↓yi,↓qt,↓y6,↓qu,↓qa,↓yj,↓yk,↓qv,↓qw,↓qx,↓qy,↓qb,↓qz,qc,ww,xn,jv,jw,yl,qd,qe,zj,wx,y7,jx,xp,xq,keq,y8,wy,qf,y9,ym,xr,jy,jz,xt,j0,wz,ja,j1,xu,xv,xw,jb,q5,q6,yn,q7,j2,Option.map_some,yo,qg,q8,q9,qh,ya,xx,yb,yp,yc,xy,w5,xz,x5,w6,jc,x6,Op.operands,Call.operands,yd,qi,w7,AObj.live]
  rw [aloop_round]
  simp -implicitDefEqProofs [h1, h2, h, mach_loop, IntWalk.i64_in,IntWalk.u64_in,IntWalk.u8_in,IntWalk.i32_in,IntWalk.u32_in,ye,zk,zm,qj,qk,qm,qn,zb,zc,zn,zp,zq,qo,zd,ze,zr,zt,zu,j3,x7,zw,zf,za,zx,qp,zy,zg,zz,z6,qq,zh,yf,qr,aop,yq,j4,j5,x8,x9,jd,j6,j7,wb,je,j8,yr,j9,wg,jf,jg,xa,xb,z7,jh,z8,ji,jj,yt,yu,xc,AV.one,wh,wi,aun,jk,xd,yw,afn,xe,Out.ren,xf,xg,jl,wj,xh,wl,jm,Eng.distinct,pos,wn,Eng.ren,wo,xi,wp,jo,wq,yg,xj,ws,wu,jp,frz,yx,yz,wv,List.lookup_cons,jq,zi,jr,js,List.range_succ,jt,xk,ju,xm,↓yh,↓yi,↓qt,↓y6,↓qu,↓qa,↓yj,↓yk,↓qv,↓qw,↓qx,↓qy,↓qb,↓qz,qc,ww,xn,jv,jw,yl,qd,qe,zj,wx,y7,jx,xp,xq,keq,y8,wy,qf,y9,ym,xr,jy,jz,xt,j0,wz,ja,j1,xu,xv,xw,jb,q5,q6,yn,q7,j2,Option.map_some,yo,qg,q8,q9,qh,ya,xx,yb,yp,yc,xy,w5,xz,x5,w6,jc,x6,Op.operands,Call.operands,yd,qi,w7,AObj.live]
  rw [aloop_round]
  simp -implicitDefEqProofs [mrow, mrow', h1, h2, h, mach_loop, IntWalk.i64_in,IntWalk.u64_in,IntWalk.u8_in,IntWalk.i32_in,IntWalk.u32_in,ye,zk,zm,qj,qk,qm,qn,zb,zc,zn,zp,zq,qo,zd,ze,zr,zt,zu,j3,x7,zw,zf,za,zx,qp,zy,zg,zz,z6,qq,zh,yf,qr,aop,yq,j4,j5,x8,x9,jd,j6,j7,wb,je,j8,yr,j9,wg,jf,jg,xa,xb,z7,jh,z8,ji,jj,yt,yu,xc,AV.one,wh,wi,aun,jk,xd,yw,afn,xe,Out.ren,xf,xg,jl,wj,xh,wl,jm,Eng.distinct,pos,wn,Eng.ren,wo,xi,wp,jo,wq,yg,xj,ws,wu,jp,frz,yx,yz,wv,List.lookup_cons,jq,zi,jr,js,List.range_succ,jt,xk,ju,xm,↓yh,↓yi,↓qt,↓y6,↓qu,↓qa,↓yj,↓yk,↓qv,↓qw,↓qx,↓qy,↓qb,↓qz,qc,ww,xn,jv,jw,yl,qd,qe,zj,wx,y7,jx,xp,xq,keq,y8,wy,qf,y9,ym,xr,jy,jz,xt,j0,wz,ja,j1,xu,xv,xw,jb,q5,q6,yn,q7,j2,Option.map_some,yo,qg,q8,q9,qh,ya,xx,yb,yp,yc,xy,w5,xz,x5,w6,jc,x6,Op.operands,Call.operands,yd,qi,w7,AObj.live]
theorem b_SortStableG (C : Oracle) (l l' : List M)
    (h : C 119 [.sl 0 7 0 l.length, .d (.int .i64 l.length), .d (.fn (.func 87) [] [])] [mrow l] = some (.ret (.tup []), [mrow' l'])) :
    abody Tryz.prog [] C (mach Tryz.prog C {}) false 86 [.sl 0 7 0 l.length, .d (.fn (.func 87) [] [])] [mrow l] = some (.ret (.tup []), [mrow' l']) := by
  simp only [mrow, mrow'] at h
  unfold abody
  rw [Tryz.func86]
  simp only [Tryz.f86]
  simp -implicitDefEqProofs [mrow, mrow', h, IntWalk.i64_in,IntWalk.u64_in,IntWalk.u8_in,IntWalk.i32_in,IntWalk.u32_in,ye,zk,zm,qj,qk,qm,qn,zb,zc,zn,zp,zq,qo,zd,ze,zr,zt,zu,j3,x7,zw,zf,za,zx,qp,zy,zg,zz,z6,qq,zh,yf,qr,aop,yq,j4,j5,x8,x9,jd,j6,j7,wb,je,j8,yr,j9,wg,jf,jg,xa,xb,z7,jh,z8,ji,jj,yt,yu,xc,AV.one,wh,wi,aun,jk,xd,yw,afn,xe,Out.ren,xf,xg,jl,wj,xh,wl,jm,Eng.distinct,pos,wn,Eng.ren,wo,xi,wp,jo,wq,yg,xj,ws,wu,jp,frz,yx,yz,wv,List.lookup_cons,jq,zi,jr,js,List.range_succ,jt,xk,ju,xm,↓yh,↓yi,↓qt,↓y6,↓qu,↓qa,↓yj,↓yk,↓qv,↓qw,↓qx,↓qy,↓qb,↓qz,qc,ww,xn,jv,jw,yl,qd,qe,zj,wx,y7,jx,xp,xq,keq,y8,wy,qf,y9,ym,xr,jy,jz,xt,j0,wz,ja,j1,xu,xv,xw,jb,q5,q6,yn,q7,j2,Option.map_some,yo,qg,q8,q9,qh,ya,xx,yb,yp,yc,xy,w5,xz,x5,w6,jc,x6,Op.operands,Call.operands,yd,qi,w7,AObj.live]

theorem b_ObjectG (C : Oracle) (l0 l : List M) (hn : l0.length = l.length) (hne : l ≠ []) (hl : l.length < 20) (hs : strictM l)
    (h1 : C 84 [.agg [.d (.int .i64 0), .d (.bool false), .d (.int .i64 0), .d (.str []), .d .nils, .d (.rs 7 (l0.map encM))]] [] = some (.ret (cpA (.mk 0 false 0 [] [] l0)), cpS (.mk 0 false 0 [] [] l0)))
    (h2 : C 86 [.sl 0 7 0 l0.length, .d (.fn (.func 87) [] [])] [mrow l0] = some (.ret (.tup []), [mrow' l])) :
    abody Tryz.prog [] C (mach Tryz.prog C { keep := [(122, [0, 2, 4])], outs := [(122, [0, 2, 3])] }) true 56 [.d (.rs 7 (l0.map encM))] [] = some (.ret (.tup [oA (.rs 7 (l.map encM)), .d (.int .i64 0)]), []) := by
  have hne0 : l0 ≠ [] := by
    intro e
    rw [e] at hn
    exact hne (List.length_eq_zero_iff.1 hn.symm)
  rw [hn] at h2
  simp only [mrow, mrow'] at h2
  simp [cpA, cpS, V.l, V.o, V.k, V.b, V.n, V.t, clA, mrow, hne0, hne, hn] at h1
  unfold abody
  rw [Tryz.func56]
  simp only [Tryz.f56]
  simp -implicitDefEqProofs [h1, h2, hn, mach_loop, IntWalk.i64_in,IntWalk.u64_in,IntWalk.u8_in,IntWalk.i32_in,IntWalk.u32_in,ye,zk,zm,qj,qk,qm,qn,zb,zc,zn,zp,zq,qo,zd,ze,zr,zt,zu,j3,x7,zw,zf,za,zx,qp,zy,zg,zz,z6,qq,zh,yf,qr,aop,yq,j4,j5,x8,x9,jd,j6,j7,wb,je,j8,yr,j9,wg,jf,jg,xa,xb,z7,jh,z8,ji,jj,yt,yu,xc,AV.one,wh,wi,aun,jk,xd,yw,afn,xe,Out.ren,xf,xg,jl,wj,xh,wl,jm,Eng.distinct,pos,wn,Eng.ren,wo,xi,wp,jo,wq,yg,xj,ws,wu,jp,frz,yx,yz,wv,List.lookup_cons,jq,zi,jr,js,List.range_succ,jt,xk,ju,xm,↓yh,↓yi,↓qt,↓y6,↓qu,↓qa,↓yj,↓yk,↓qv,↓qw,↓qx,↓qy,↓qb,↓qz,qc,ww,xn,jv,jw,yl,qd,qe,zj,wx,y7,jx,xp,xq,keq,y8,wy,qf,y9,ym,xr,jy,jz,xt,j0,wz,ja,j1,xu,xv,xw,jb,q5,q6,yn,q7,j2,Option.map_some,yo,qg,q8,q9,qh,ya,xx,yb,yp,yc,xy,w5,xz,x5,w6,jc,x6,Op.operands,Call.operands,yd,qi,w7,AObj.live]
  rw [aloop_meas (α := Nat) (S := fun i => { env := [(0, .sl 1 7 0 l.length), (2, .ptr 0 0), (4, .d (.int .i64 i))], σ := [cpZ, mrow l], dfs := [] })
    (R := fun i => some (.exit 0, { env := [(0, .sl 0 7 0 l.length), (2, .ptr 1 0)], σ := [mrow' l, cpZ'], dfs := [] }))
    (P := fun i => 1 ≤ i ∧ i ≤ l.length) (m := fun i => l.length - i) ?_ 1 _ ⟨by omega, by have := List.length_pos_iff.2 hne; omega⟩ ?_]
  rotate_left
  · rintro i ⟨hi1, hi2⟩ ih
    by_cases he : i < l.length
    · obtain ⟨pre, a, b, suf, hp, hpl⟩ : ∃ pre a b suf, l = pre ++ a :: b :: suf ∧ pre.length + 1 = i := by
        refine ⟨l.take (i - 1), l[i - 1], l[i], l.drop (i + 1), ?_, by simp; omega⟩
        have e1 : l.drop (i - 1) = l[i - 1] :: l.drop i := by
          have := List.drop_eq_getElem_cons (l := l) (i := i - 1) (by omega)
          rwa [show i - 1 + 1 = i from by omega] at this
        rw [← List.drop_eq_getElem_cons, ← e1, List.take_append_drop]
      have hc := strictM_mid pre a b suf (hp ▸ hs)
      subst hpl
      have hw0 : IntKind.i64.wrap ((pre.length : Nat) : Int) = (pre.length : Nat) := wrap64 (by omega) (by omega)
      have hw1 : IntKind.i64.wrap (((pre.length : Nat) : Int) + 1 - 1) = (pre.length : Nat) := by rw [wrap64 (by omega) (by omega)]; omega
      have hw2 : IntKind.i64.wrap (((pre.length : Nat) : Int) + 1 + 1) = (pre.length : Nat) + 1 + 1 := wrap64 (by omega) (by omega)
      have he2 : ((pre.length : Nat) : Int) + 1 < (pre.length : Nat) + ((suf.length : Nat) + 1 + 1) := by omega
      have hlt0 : ((pre.length : Nat) : Int) < (pre.length : Nat) + ((suf.length : Nat) + 1 + 1) := by omega
      have hlen : l.length = pre.length + (suf.length + 1 + 1) := by rw [hp]; simp
      rw [hp] at ih ⊢
      simp -implicitDefEqProofs [cpZ, mrow, he2, hw0, hw1, hw2, hlt0, hc, encM_eq a, encM_eq b, encV_eq a.v, encV_eq b.v, mach_draw, mach_loop, ar1, ar2, ar3, ar4, mid_lt, pos1, IntWalk.i64_in,IntWalk.u64_in,IntWalk.u8_in,IntWalk.i32_in,IntWalk.u32_in,ye,zk,zm,qj,qk,qm,qn,zb,zc,zn,zp,zq,qo,zd,ze,zr,zt,zu,j3,x7,zw,zf,za,zx,qp,zy,zg,zz,z6,qq,zh,yf,qr,aop,yq,j4,j5,x8,x9,jd,j6,j7,wb,je,j8,yr,j9,wg,jf,jg,xa,xb,z7,jh,z8,ji,jj,yt,yu,xc,AV.one,wh,wi,aun,jk,xd,yw,afn,xe,Out.ren,xf,xg,jl,wj,xh,wl,jm,Eng.distinct,pos,wn,Eng.ren,wo,xi,wp,jo,wq,yg,xj,ws,wu,jp,frz,yx,yz,wv,List.lookup_cons,jq,zi,jr,js,List.range_succ,jt,xk,ju,xm,↓yh,↓yi,↓qt,↓y6,↓qu,↓qa,↓yj,↓yk,↓qv,↓qw,↓qx,↓qy,↓qb,↓qz,qc,ww,xn,jv,jw,yl,qd,qe,zj,wx,y7,jx,xp,xq,keq,y8,wy,qf,y9,ym,xr,jy,jz,xt,j0,wz,ja,j1,xu,xv,xw,jb,q5,q6,yn,q7,j2,Option.map_some,yo,qg,q8,q9,qh,ya,xx,yb,yp,yc,xy,w5,xz,x5,w6,jc,x6,Op.operands,Call.operands,yd,qi,w7,AObj.live]
      rw [ih (pre.length + 1 + 1) _ ⟨by omega, by rw [hp] at he; simp at he ⊢ <;> omega⟩ (by rw [hp] at he; simp at he ⊢ <;> omega) (by simp -implicitDefEqProofs [cpZ, mrow, encM_eq a, encM_eq b, encV_eq a.v, encV_eq b.v, IntWalk.i64_in,IntWalk.u64_in,IntWalk.u8_in,IntWalk.i32_in,IntWalk.u32_in,ye,zk,zm,qj,qk,qm,qn,zb,zc,zn,zp,zq,qo,zd,ze,zr,zt,zu,j3,x7,zw,zf,za,zx,qp,zy,zg,zz,z6,qq,zh,yf,qr,aop,yq,j4,j5,x8,x9,jd,j6,j7,wb,je,j8,yr,j9,wg,jf,jg,xa,xb,z7,jh,z8,ji,jj,yt,yu,xc,AV.one,wh,wi,aun,jk,xd,yw,afn,xe,Out.ren,xf,xg,jl,wj,xh,wl,jm,Eng.distinct,pos,wn,Eng.ren,wo,xi,wp,jo,wq,yg,xj,ws,wu,jp,frz,yx,yz,wv,List.lookup_cons,jq,zi,jr,js,List.range_succ,jt,xk,ju,xm,↓yh,↓yi,↓qt,↓y6,↓qu,↓qa,↓yj,↓yk,↓qv,↓qw,↓qx,↓qy,↓qb,↓qz,qc,ww,xn,jv,jw,yl,qd,qe,zj,wx,y7,jx,xp,xq,keq,y8,wy,qf,y9,ym,xr,jy,jz,xt,j0,wz,ja,j1,xu,xv,xw,jb,q5,q6,yn,q7,j2,Option.map_some,yo,qg,q8,q9,qh,ya,xx,yb,yp,yc,xy,w5,xz,x5,w6,jc,x6,Op.operands,Call.operands,yd,qi,w7,AObj.live])]
      simp
    · have he' : ¬ (i : Int) < l.length := by omega
      simp -implicitDefEqProofs [cpZ, cpZ', mrow, mrow', he', mach_loop, IntWalk.i64_in,IntWalk.u64_in,IntWalk.u8_in,IntWalk.i32_in,IntWalk.u32_in,ye,zk,zm,qj,qk,qm,qn,zb,zc,zn,zp,zq,qo,zd,ze,zr,zt,zu,j3,x7,zw,zf,za,zx,qp,zy,zg,zz,z6,qq,zh,yf,qr,aop,yq,j4,j5,x8,x9,jd,j6,j7,wb,je,j8,yr,j9,wg,jf,jg,xa,xb,z7,jh,z8,ji,jj,yt,yu,xc,AV.one,wh,wi,aun,jk,xd,yw,afn,xe,Out.ren,xf,xg,jl,wj,xh,wl,jm,Eng.distinct,pos,wn,Eng.ren,wo,xi,wp,jo,wq,yg,xj,ws,wu,jp,frz,yx,yz,wv,List.lookup_cons,jq,zi,jr,js,List.range_succ,jt,xk,ju,xm,↓yh,↓yi,↓qt,↓y6,↓qu,↓qa,↓yj,↓yk,↓qv,↓qw,↓qx,↓qy,↓qb,↓qz,qc,ww,xn,jv,jw,yl,qd,qe,zj,wx,y7,jx,xp,xq,keq,y8,wy,qf,y9,ym,xr,jy,jz,xt,j0,wz,ja,j1,xu,xv,xw,jb,q5,q6,yn,q7,j2,Option.map_some,yo,qg,q8,q9,qh,ya,xx,yb,yp,yc,xy,w5,xz,x5,w6,jc,x6,Op.operands,Call.operands,yd,qi,w7,AObj.live]
  · simp -implicitDefEqProofs [cpZ, mrow, IntWalk.i64_in,IntWalk.u64_in,IntWalk.u8_in,IntWalk.i32_in,IntWalk.u32_in,ye,zk,zm,qj,qk,qm,qn,zb,zc,zn,zp,zq,qo,zd,ze,zr,zt,zu,j3,x7,zw,zf,za,zx,qp,zy,zg,zz,z6,qq,zh,yf,qr,aop,yq,j4,j5,x8,x9,jd,j6,j7,wb,je,j8,yr,j9,wg,jf,jg,xa,xb,z7,jh,z8,ji,jj,yt,yu,xc,AV.one,wh,wi,aun,jk,xd,yw,afn,xe,Out.ren,xf,xg,jl,wj,xh,wl,jm,Eng.distinct,pos,wn,Eng.ren,wo,xi,wp,jo,wq,yg,xj,ws,wu,jp,frz,yx,yz,wv,List.lookup_cons,jq,zi,jr,js,List.range_succ,jt,xk,ju,xm,↓yh,↓yi,↓qt,↓y6,↓qu,↓qa,↓yj,↓yk,↓qv,↓qw,↓qx,↓qy,↓qb,↓qz,qc,ww,xn,jv,jw,yl,qd,qe,zj,wx,y7,jx,xp,xq,keq,y8,wy,qf,y9,ym,xr,jy,jz,xt,j0,wz,ja,j1,xu,xv,xw,jb,q5,q6,yn,q7,j2,Option.map_some,yo,qg,q8,q9,qh,ya,xx,yb,yp,yc,xy,w5,xz,x5,w6,jc,x6,Op.operands,Call.operands,yd,qi,w7,AObj.live]
  simp -implicitDefEqProofs [oA, cpZ, cpZ', mrow, mrow', take_map_len, mach_loop, IntWalk.i64_in,IntWalk.u64_in,IntWalk.u8_in,IntWalk.i32_in,IntWalk.u32_in,ye,zk,zm,qj,qk,qm,qn,zb,zc,zn,zp,zq,qo,zd,ze,zr,zt,zu,j3,x7,zw,zf,za,zx,qp,zy,zg,zz,z6,qq,zh,yf,qr,aop,yq,j4,j5,x8,x9,jd,j6,j7,wb,je,j8,yr,j9,wg,jf,jg,xa,xb,z7,jh,z8,ji,jj,yt,yu,xc,AV.one,wh,wi,aun,jk,xd,yw,afn,xe,Out.ren,xf,xg,jl,wj,xh,wl,jm,Eng.distinct,pos,wn,Eng.ren,wo,xi,wp,jo,wq,yg,xj,ws,wu,jp,frz,yx,yz,wv,List.lookup_cons,jq,zi,jr,js,List.range_succ,jt,xk,ju,xm,↓yh,↓yi,↓qt,↓y6,↓qu,↓qa,↓yj,↓yk,↓qv,↓qw,↓qx,↓qy,↓qb,↓qz,qc,ww,xn,jv,jw,yl,qd,qe,zj,wx,y7,jx,xp,xq,keq,y8,wy,qf,y9,ym,xr,jy,jz,xt,j0,wz,ja,j1,xu,xv,xw,jb,q5,q6,yn,q7,j2,Option.map_some,yo,qg,q8,q9,qh,ya,xx,yb,yp,yc,xy,w5,xz,x5,w6,jc,x6,Op.operands,Call.operands,yd,qi,w7,AObj.live]
end Go.Proofs.YtblejchodicaoaaGreatDoor.Eng

/-
  CONTRACTS: ref02.Copy; ref11's makers; ref14.op, Value; ref18.num, Response, Frame; law18.answer; PullForms. Own work.
-/
namespace Go.Proofs.YtblejchodicaoaaGreatDoor.Eng
open Go Go.RowKit
set_option maxRecDepth 100000
set_option linter.unusedSimpArgs false
set_option maxHeartbeats 4000000

/-! ### Makers -/
theorem b_r11Text (C : Oracle) (s : List UInt8) : abody Tryz.prog [] C (mach Tryz.prog C {}) true 59 [.d (.str s)] [] = some (.ret (.agg [.d (.int .i64 4), .d (.bool false), .d (.int .i64 0), .d (.str s), .d .nils, .d .nils]), []) := by
  unfold abody
  rw [Tryz.func59]
  simp only [Tryz.f59]
  simp -implicitDefEqProofs [IntWalk.i64_in,IntWalk.u64_in,IntWalk.u8_in,IntWalk.i32_in,IntWalk.u32_in,ye,zk,zm,qj,qk,qm,qn,zb,zc,zn,zp,zq,qo,zd,ze,zr,zt,zu,j3,x7,zw,zf,za,zx,qp,zy,zg,zz,z6,qq,zh,yf,qr,aop,yq,j4,j5,x8,x9,jd,j6,j7,wb,je,j8,yr,j9,wg,jf,jg,xa,xb,z7,jh,z8,ji,jj,yt,yu,xc,AV.one,wh,wi,aun,jk,xd,yw,afn,xe,Out.ren,xf,xg,jl,wj,xh,wl,jm,Eng.distinct,pos,wn,Eng.ren,wo,xi,wp,jo,wq,yg,xj,ws,wu,jp,frz,yx,yz,wv,List.lookup_cons,jq,zi,jr,js,List.range_succ,jt,xk,ju,xm,↓yh,↓yi,↓qt,↓y6,↓qu,↓qa,↓yj,↓yk,↓qv,↓qw,↓qx,↓qy,↓qb,↓qz,qc,ww,xn,jv,jw,yl,qd,qe,zj,wx,y7,jx,xp,xq,keq,y8,wy,qf,y9,ym,xr,jy,jz,xt,j0,wz,ja,j1,xu,xv,xw,jb,q5,q6,yn,q7,j2,Option.map_some,yo,qg,q8,q9,qh,ya,xx,yb,yp,yc,xy,w5,xz,x5,w6,jc,x6,Op.operands,Call.operands,yd,qi,w7,AObj.live]
theorem b_r11Int (C : Oracle) (n : Int) : abody Tryz.prog [] C (mach Tryz.prog C {}) true 47 [.d (.int .i64 n)] [] = some (.ret (.agg [.d (.int .i64 3), .d (.bool false), .d (.int .i64 n), .d (.str []), .d .nils, .d .nils]), []) := by
  unfold abody
  rw [Tryz.func47]
  simp only [Tryz.f47]
  simp -implicitDefEqProofs [IntWalk.i64_in,IntWalk.u64_in,IntWalk.u8_in,IntWalk.i32_in,IntWalk.u32_in,ye,zk,zm,qj,qk,qm,qn,zb,zc,zn,zp,zq,qo,zd,ze,zr,zt,zu,j3,x7,zw,zf,za,zx,qp,zy,zg,zz,z6,qq,zh,yf,qr,aop,yq,j4,j5,x8,x9,jd,j6,j7,wb,je,j8,yr,j9,wg,jf,jg,xa,xb,z7,jh,z8,ji,jj,yt,yu,xc,AV.one,wh,wi,aun,jk,xd,yw,afn,xe,Out.ren,xf,xg,jl,wj,xh,wl,jm,Eng.distinct,pos,wn,Eng.ren,wo,xi,wp,jo,wq,yg,xj,ws,wu,jp,frz,yx,yz,wv,List.lookup_cons,jq,zi,jr,js,List.range_succ,jt,xk,ju,xm,↓yh,↓yi,↓qt,↓y6,↓qu,↓qa,↓yj,↓yk,↓qv,↓qw,↓qx,↓qy,↓qb,↓qz,qc,ww,xn,jv,jw,yl,qd,qe,zj,wx,y7,jx,xp,xq,keq,y8,wy,qf,y9,ym,xr,jy,jz,xt,j0,wz,ja,j1,xu,xv,xw,jb,q5,q6,yn,q7,j2,Option.map_some,yo,qg,q8,q9,qh,ya,xx,yb,yp,yc,xy,w5,xz,x5,w6,jc,x6,Op.operands,Call.operands,yd,qi,w7,AObj.live]
theorem b_r11List (C : Oracle) (l : List V) : abody Tryz.prog [] C (mach Tryz.prog C {}) true 49 [.d (.rs 6 (l.map encV))] [] = some (.ret (.agg [.d (.int .i64 5), .d (.bool false), .d (.int .i64 0), .d (.str []), .d (.rs 6 (l.map encV)), .d .nils]), []) := by
  unfold abody
  rw [Tryz.func49]
  simp only [Tryz.f49]
  simp -implicitDefEqProofs [IntWalk.i64_in,IntWalk.u64_in,IntWalk.u8_in,IntWalk.i32_in,IntWalk.u32_in,ye,zk,zm,qj,qk,qm,qn,zb,zc,zn,zp,zq,qo,zd,ze,zr,zt,zu,j3,x7,zw,zf,za,zx,qp,zy,zg,zz,z6,qq,zh,yf,qr,aop,yq,j4,j5,x8,x9,jd,j6,j7,wb,je,j8,yr,j9,wg,jf,jg,xa,xb,z7,jh,z8,ji,jj,yt,yu,xc,AV.one,wh,wi,aun,jk,xd,yw,afn,xe,Out.ren,xf,xg,jl,wj,xh,wl,jm,Eng.distinct,pos,wn,Eng.ren,wo,xi,wp,jo,wq,yg,xj,ws,wu,jp,frz,yx,yz,wv,List.lookup_cons,jq,zi,jr,js,List.range_succ,jt,xk,ju,xm,↓yh,↓yi,↓qt,↓y6,↓qu,↓qa,↓yj,↓yk,↓qv,↓qw,↓qx,↓qy,↓qb,↓qz,qc,ww,xn,jv,jw,yl,qd,qe,zj,wx,y7,jx,xp,xq,keq,y8,wy,qf,y9,ym,xr,jy,jz,xt,j0,wz,ja,j1,xu,xv,xw,jb,q5,q6,yn,q7,j2,Option.map_some,yo,qg,q8,q9,qh,ya,xx,yb,yp,yc,xy,w5,xz,x5,w6,jc,x6,Op.operands,Call.operands,yd,qi,w7,AObj.live]
theorem b_r11Object (C : Oracle) (l : List M) : abody Tryz.prog [] C (mach Tryz.prog C {}) true 34 [.d (.rs 7 (l.map encM))] [] = some (.ret (.agg [.d (.int .i64 6), .d (.bool false), .d (.int .i64 0), .d (.str []), .d .nils, .d (.rs 7 (l.map encM))]), []) := by
  unfold abody
  rw [Tryz.func34]
  simp only [Tryz.f34]
  simp -implicitDefEqProofs [IntWalk.i64_in,IntWalk.u64_in,IntWalk.u8_in,IntWalk.i32_in,IntWalk.u32_in,ye,zk,zm,qj,qk,qm,qn,zb,zc,zn,zp,zq,qo,zd,ze,zr,zt,zu,j3,x7,zw,zf,za,zx,qp,zy,zg,zz,z6,qq,zh,yf,qr,aop,yq,j4,j5,x8,x9,jd,j6,j7,wb,je,j8,yr,j9,wg,jf,jg,xa,xb,z7,jh,z8,ji,jj,yt,yu,xc,AV.one,wh,wi,aun,jk,xd,yw,afn,xe,Out.ren,xf,xg,jl,wj,xh,wl,jm,Eng.distinct,pos,wn,Eng.ren,wo,xi,wp,jo,wq,yg,xj,ws,wu,jp,frz,yx,yz,wv,List.lookup_cons,jq,zi,jr,js,List.range_succ,jt,xk,ju,xm,↓yh,↓yi,↓qt,↓y6,↓qu,↓qa,↓yj,↓yk,↓qv,↓qw,↓qx,↓qy,↓qb,↓qz,qc,ww,xn,jv,jw,yl,qd,qe,zj,wx,y7,jx,xp,xq,keq,y8,wy,qf,y9,ym,xr,jy,jz,xt,j0,wz,ja,j1,xu,xv,xw,jb,q5,q6,yn,q7,j2,Option.map_some,yo,qg,q8,q9,qh,ya,xx,yb,yp,yc,xy,w5,xz,x5,w6,jc,x6,Op.operands,Call.operands,yd,qi,w7,AObj.live]
theorem b_r14op (C : Oracle) (s : List UInt8) (h : ∀ s, C 59 [.d (.str s)] [] = some (.ret (avT s), [])) : abody Tryz.prog [] C (mach Tryz.prog C {}) true 60 [.d (.str s)] [] = some (.ret (amM ⟨kOp, tV s⟩), []) := by
  simp only [avT] at h
  unfold abody
  rw [Tryz.func60]
  simp only [Tryz.f60]
  simp -implicitDefEqProofs [amM, M.key, M.v, tV, V.l, V.o, V.k, V.b, V.n, V.t, kOp, h, IntWalk.i64_in,IntWalk.u64_in,IntWalk.u8_in,IntWalk.i32_in,IntWalk.u32_in,ye,zk,zm,qj,qk,qm,qn,zb,zc,zn,zp,zq,qo,zd,ze,zr,zt,zu,j3,x7,zw,zf,za,zx,qp,zy,zg,zz,z6,qq,zh,yf,qr,aop,yq,j4,j5,x8,x9,jd,j6,j7,wb,je,j8,yr,j9,wg,jf,jg,xa,xb,z7,jh,z8,ji,jj,yt,yu,xc,AV.one,wh,wi,aun,jk,xd,yw,afn,xe,Out.ren,xf,xg,jl,wj,xh,wl,jm,Eng.distinct,pos,wn,Eng.ren,wo,xi,wp,jo,wq,yg,xj,ws,wu,jp,frz,yx,yz,wv,List.lookup_cons,jq,zi,jr,js,List.range_succ,jt,xk,ju,xm,↓yh,↓yi,↓qt,↓y6,↓qu,↓qa,↓yj,↓yk,↓qv,↓qw,↓qx,↓qy,↓qb,↓qz,qc,ww,xn,jv,jw,yl,qd,qe,zj,wx,y7,jx,xp,xq,keq,y8,wy,qf,y9,ym,xr,jy,jz,xt,j0,wz,ja,j1,xu,xv,xw,jb,q5,q6,yn,q7,j2,Option.map_some,yo,qg,q8,q9,qh,ya,xx,yb,yp,yc,xy,w5,xz,x5,w6,jc,x6,Op.operands,Call.operands,yd,qi,w7,AObj.live]
theorem b_r18num (C : Oracle) (k : List UInt8) (n : Int) (h0 : 0 ≤ n) (h1 : n ≤ 9223372036854775807) (h : ∀ n : Int, C 47 [.d (.int .i64 n)] [] = some (.ret (.agg [.d (.int .i64 3), .d (.bool false), .d (.int .i64 n), .d (.str []), .d (.rs 6 []), .d (.rs 7 [])]), [])) :
    abody Tryz.prog [] C (mach Tryz.prog C {}) true 35 [.d (.str k), .d (.int .u64 n)] [] = some (.ret (amM ⟨k, iV n⟩), []) := by
  have hw : IntKind.i64.wrap n = n := wrap64 (by omega) (by omega)
  unfold abody
  rw [Tryz.func35]
  simp only [Tryz.f35]
  simp -implicitDefEqProofs [amM, M.key, M.v, iV, V.l, V.o, V.k, V.b, V.n, V.t, hw, h, IntWalk.i64_in,IntWalk.u64_in,IntWalk.u8_in,IntWalk.i32_in,IntWalk.u32_in,ye,zk,zm,qj,qk,qm,qn,zb,zc,zn,zp,zq,qo,zd,ze,zr,zt,zu,j3,x7,zw,zf,za,zx,qp,zy,zg,zz,z6,qq,zh,yf,qr,aop,yq,j4,j5,x8,x9,jd,j6,j7,wb,je,j8,yr,j9,wg,jf,jg,xa,xb,z7,jh,z8,ji,jj,yt,yu,xc,AV.one,wh,wi,aun,jk,xd,yw,afn,xe,Out.ren,xf,xg,jl,wj,xh,wl,jm,Eng.distinct,pos,wn,Eng.ren,wo,xi,wp,jo,wq,yg,xj,ws,wu,jp,frz,yx,yz,wv,List.lookup_cons,jq,zi,jr,js,List.range_succ,jt,xk,ju,xm,↓yh,↓yi,↓qt,↓y6,↓qu,↓qa,↓yj,↓yk,↓qv,↓qw,↓qx,↓qy,↓qb,↓qz,qc,ww,xn,jv,jw,yl,qd,qe,zj,wx,y7,jx,xp,xq,keq,y8,wy,qf,y9,ym,xr,jy,jz,xt,j0,wz,ja,j1,xu,xv,xw,jb,q5,q6,yn,q7,j2,Option.map_some,yo,qg,q8,q9,qh,ya,xx,yb,yp,yc,xy,w5,xz,x5,w6,jc,x6,Op.operands,Call.operands,yd,qi,w7,AObj.live]

/-! ### Copies -/
def rcV (v : V) : AObj := .box [.d (.int .i64 v.k), .d (.bool v.b), .d (.int .i64 v.n), .d (.str v.t), .d (.rs 6 (v.l.map encV)), .d (.rs 7 (v.o.map encM))] 45
def rcW (v : V) (a : Nat) (l : List V) (o : List M) : AObj := .box [.d (.int .i64 v.k), .d (.bool v.b), .d (.int .i64 v.n), .d (.str v.t), (if l = [] then .d .nils else .sl a 6 0 l.length), (if o = [] then .d .nils else .sl (if l = [] then a else a + 1) 7 0 o.length)] 45
def rcR (l : List V) (o : List M) : List AObj := (if l = [] then [] else [vrow l]) ++ (if o = [] then [] else [mrow o])
def rcV' (v : V) : AObj := rcV v
def rcW' (v : V) (a : Nat) (l : List V) (o : List M) : AObj := rcW v a l o
def rcR' (l : List V) (o : List M) : List AObj := rcR l o
theorem b_rCopy (C : Oracle) (v : V) (hsz : v.size ≤ 1099511627776) (h3 : ∀ x ∈ v.l, C 32 [avV x] [] = some (.ret (avV x), [])) (h4 : ∀ m ∈ v.o, C 32 [avV m.v] [] = some (.ret (avV m.v), [])) :
    abody Tryz.prog [] C (mach Tryz.prog C { keep := [(58, [1, 2, 3, 4]), (122, [1, 2, 3, 5])], wins := [(932, [[], [8, 9]]), (1956, [[], [15, 17], [], [15], [], [], [], [15]])], outs := [(58, [1, 2, 3]), (122, [2, 3])] }) true 32 [avV v] [] = some (.ret (.agg [.d (.int .i64 v.k), .d (.bool v.b), .d (.int .i64 v.n), .d (.str v.t), .d (slD 6 (v.l.map encV)), .d (slD 7 (v.o.map encM))]), []) := by
  have hl1 := V.l_len v
  have ho1 := V.o_len v
  simp only [avV] at h3 h4 ⊢
  unfold abody
  rw [Tryz.func32]
  simp only [Tryz.f32]
  simp -implicitDefEqProofs [mach_draw, mach_loop, IntWalk.i64_in,IntWalk.u64_in,IntWalk.u8_in,IntWalk.i32_in,IntWalk.u32_in,ye,zk,zm,qj,qk,qm,qn,zb,zc,zn,zp,zq,qo,zd,ze,zr,zt,zu,j3,x7,zw,zf,za,zx,qp,zy,zg,zz,z6,qq,zh,yf,qr,aop,yq,j4,j5,x8,x9,jd,j6,j7,wb,je,j8,yr,j9,wg,jf,jg,xa,xb,z7,jh,z8,ji,jj,yt,yu,xc,AV.one,wh,wi,aun,jk,xd,yw,afn,xe,Out.ren,xf,xg,jl,wj,xh,wl,jm,Eng.distinct,pos,wn,Eng.ren,wo,xi,wp,jo,wq,yg,xj,ws,wu,jp,frz,yx,yz,wv,List.lookup_cons,jq,zi,jr,js,List.range_succ,jt,xk,ju,xm,↓yh,↓yi,↓qt,↓y6,↓qu,↓qa,↓yj,↓yk,↓qv,↓qw,↓qx,↓qy,↓qb,↓qz,qc,ww,xn,jv,jw,yl,qd,qe,zj,wx,y7,jx,xp,xq,keq,y8,wy,qf,y9,ym,xr,jy,jz,xt,j0,wz,ja,j1,xu,xv,xw,jb,q5,q6,yn,q7,j2,Option.map_some,yo,qg,q8,q9,qh,ya,xx,yb,yp,yc,xy,w5,xz,x5,w6,jc,x6,Op.operands,Call.operands,yd,qi,w7,AObj.live]
  rw [aloop_list (l := v.l)
    (S := fun pre suf => { env := [(1, .ptr 0 0), (2, .ptr 1 0), (3, .ptr 2 0), (4, .d (.int .i64 (pre.length : Nat)))], σ := [.box [.d (.int .i64 v.k), .d (.bool v.b), .d (.int .i64 v.n), .d (.str v.t), .d (.rs 6 ((pre ++ suf).map encV)), .d (.rs 7 (v.o.map encM))] 45, cpZ, rcW v 3 pre []] ++ rcR pre [], dfs := [] })
    (R := fun pre suf => some (.exit 0, { env := [(1, .ptr 0 0), (2, .ptr 1 0), (3, .ptr 2 0)], σ := [rcV' v, cpZ', rcW' v 3 v.l []] ++ rcR' v.l [], dfs := [] }))
    (hs := ?_) (h0 := ?_) (h1 := ?_)]
  rotate_left
  · simp -implicitDefEqProofs [rcW, rcR, cpZ, IntWalk.i64_in,IntWalk.u64_in,IntWalk.u8_in,IntWalk.i32_in,IntWalk.u32_in,ye,zk,zm,qj,qk,qm,qn,zb,zc,zn,zp,zq,qo,zd,ze,zr,zt,zu,j3,x7,zw,zf,za,zx,qp,zy,zg,zz,z6,qq,zh,yf,qr,aop,yq,j4,j5,x8,x9,jd,j6,j7,wb,je,j8,yr,j9,wg,jf,jg,xa,xb,z7,jh,z8,ji,jj,yt,yu,xc,AV.one,wh,wi,aun,jk,xd,yw,afn,xe,Out.ren,xf,xg,jl,wj,xh,wl,jm,Eng.distinct,pos,wn,Eng.ren,wo,xi,wp,jo,wq,yg,xj,ws,wu,jp,frz,yx,yz,wv,List.lookup_cons,jq,zi,jr,js,List.range_succ,jt,xk,ju,xm,↓yh,↓yi,↓qt,↓y6,↓qu,↓qa,↓yj,↓yk,↓qv,↓qw,↓qx,↓qy,↓qb,↓qz,qc,ww,xn,jv,jw,yl,qd,qe,zj,wx,y7,jx,xp,xq,keq,y8,wy,qf,y9,ym,xr,jy,jz,xt,j0,wz,ja,j1,xu,xv,xw,jb,q5,q6,yn,q7,j2,Option.map_some,yo,qg,q8,q9,qh,ya,xx,yb,yp,yc,xy,w5,xz,x5,w6,jc,x6,Op.operands,Call.operands,yd,qi,w7,AObj.live]
  · intro pre hp
    subst hp
    rcases Decidable.em (v.l = []) with e | e <;> simp -implicitDefEqProofs [rcV, rcW, rcR, rcV', rcW', rcR', cpZ, cpZ', vrow, e, mach_loop, IntWalk.i64_in,IntWalk.u64_in,IntWalk.u8_in,IntWalk.i32_in,IntWalk.u32_in,ye,zk,zm,qj,qk,qm,qn,zb,zc,zn,zp,zq,qo,zd,ze,zr,zt,zu,j3,x7,zw,zf,za,zx,qp,zy,zg,zz,z6,qq,zh,yf,qr,aop,yq,j4,j5,x8,x9,jd,j6,j7,wb,je,j8,yr,j9,wg,jf,jg,xa,xb,z7,jh,z8,ji,jj,yt,yu,xc,AV.one,wh,wi,aun,jk,xd,yw,afn,xe,Out.ren,xf,xg,jl,wj,xh,wl,jm,Eng.distinct,pos,wn,Eng.ren,wo,xi,wp,jo,wq,yg,xj,ws,wu,jp,frz,yx,yz,wv,List.lookup_cons,jq,zi,jr,js,List.range_succ,jt,xk,ju,xm,↓yh,↓yi,↓qt,↓y6,↓qu,↓qa,↓yj,↓yk,↓qv,↓qw,↓qx,↓qy,↓qb,↓qz,qc,ww,xn,jv,jw,yl,qd,qe,zj,wx,y7,jx,xp,xq,keq,y8,wy,qf,y9,ym,xr,jy,jz,xt,j0,wz,ja,j1,xu,xv,xw,jb,q5,q6,yn,q7,j2,Option.map_some,yo,qg,q8,q9,qh,ya,xx,yb,yp,yc,xy,w5,xz,x5,w6,jc,x6,Op.operands,Call.operands,yd,qi,w7,AObj.live]
  · intro pre x suf hp ih
    have hx := h3 x (by rw [← hp]; simp)
    have hll : pre.length < v.l.length := by rw [← hp]; simp
    have hw2 : IntKind.i64.wrap ((pre.length : Nat) + 1) = (pre.length : Nat) + 1 := wrap64 (by omega) (by omega)
    have k2 : (pre.length + 1) * 88 ≤ 140737488355328 := by omega
    have k3 : pre.length + 1 ≤ 140737488355328 := by omega
    rcases Decidable.em (pre = []) with e | e <;> (
      simp -implicitDefEqProofs [rcW, rcR, cpZ, vrow, e, hx, hw2, k2, k3, encV_eq x, mid_lt, pos1, mach_draw, mach_loop, IntWalk.i64_in,IntWalk.u64_in,IntWalk.u8_in,IntWalk.i32_in,IntWalk.u32_in,ye,zk,zm,qj,qk,qm,qn,zb,zc,zn,zp,zq,qo,zd,ze,zr,zt,zu,j3,x7,zw,zf,za,zx,qp,zy,zg,zz,z6,qq,zh,yf,qr,aop,yq,j4,j5,x8,x9,jd,j6,j7,wb,je,j8,yr,j9,wg,jf,jg,xa,xb,z7,jh,z8,ji,jj,yt,yu,xc,AV.one,wh,wi,aun,jk,xd,yw,afn,xe,Out.ren,xf,xg,jl,wj,xh,wl,jm,Eng.distinct,pos,wn,Eng.ren,wo,xi,wp,jo,wq,yg,xj,ws,wu,jp,frz,yx,yz,wv,List.lookup_cons,jq,zi,jr,js,List.range_succ,jt,xk,ju,xm,↓yh,↓yi,↓qt,↓y6,↓qu,↓qa,↓yj,↓yk,↓qv,↓qw,↓qx,↓qy,↓qb,↓qz,qc,ww,xn,jv,jw,yl,qd,qe,zj,wx,y7,jx,xp,xq,keq,y8,wy,qf,y9,ym,xr,jy,jz,xt,j0,wz,ja,j1,xu,xv,xw,jb,q5,q6,yn,q7,j2,Option.map_some,yo,qg,q8,q9,qh,ya,xx,yb,yp,yc,xy,w5,xz,x5,w6,jc,x6,Op.operands,Call.operands,yd,qi,w7,AObj.live]
      rw [ih _ (by simp -implicitDefEqProofs [rcW, rcR, cpZ, vrow, e, encV_eq x, IntWalk.i64_in,IntWalk.u64_in,IntWalk.u8_in,IntWalk.i32_in,IntWalk.u32_in,ye,zk,zm,qj,qk,qm,qn,zb,zc,zn,zp,zq,qo,zd,ze,zr,zt,zu,j3,x7,zw,zf,za,zx,qp,zy,zg,zz,z6,qq,zh,yf,qr,aop,yq,j4,j5,x8,x9,jd,j6,j7,wb,je,j8,yr,j9,wg,jf,jg,xa,xb,z7,jh,z8,ji,jj,yt,yu,xc,AV.one,wh,wi,aun,jk,xd,yw,afn,xe,Out.ren,xf,xg,jl,wj,xh,wl,jm,Eng.distinct,pos,wn,Eng.ren,wo,xi,wp,jo,wq,yg,xj,ws,wu,jp,frz,yx,yz,wv,List.lookup_cons,jq,zi,jr,js,List.range_succ,jt,xk,ju,xm,↓yh,↓yi,↓qt,↓y6,↓qu,↓qa,↓yj,↓yk,↓qv,↓qw,↓qx,↓qy,↓qb,↓qz,qc,ww,xn,jv,jw,yl,qd,qe,zj,wx,y7,jx,xp,xq,keq,y8,wy,qf,y9,ym,xr,jy,jz,xt,j0,wz,ja,j1,xu,xv,xw,jb,q5,q6,yn,q7,j2,Option.map_some,yo,qg,q8,q9,qh,ya,xx,yb,yp,yc,xy,w5,xz,x5,w6,jc,x6,Op.operands,Call.operands,yd,qi,w7,AObj.live])]
      simp [e])
  simp -implicitDefEqProofs [rcV', rcV, cpZ', cpZ, rcW', rcW, rcR', rcR, mach_loop, IntWalk.i64_in,IntWalk.u64_in,IntWalk.u8_in,IntWalk.i32_in,IntWalk.u32_in,ye,zk,zm,qj,qk,qm,qn,zb,zc,zn,zp,zq,qo,zd,ze,zr,zt,zu,j3,x7,zw,zf,za,zx,qp,zy,zg,zz,z6,qq,zh,yf,qr,aop,yq,j4,j5,x8,x9,jd,j6,j7,wb,je,j8,yr,j9,wg,jf,jg,xa,xb,z7,jh,z8,ji,jj,yt,yu,xc,AV.one,wh,wi,aun,jk,xd,yw,afn,xe,Out.ren,xf,xg,jl,wj,xh,wl,jm,Eng.distinct,pos,wn,Eng.ren,wo,xi,wp,jo,wq,yg,xj,ws,wu,jp,frz,yx,yz,wv,List.lookup_cons,jq,zi,jr,js,List.range_succ,jt,xk,ju,xm,↓yh,↓yi,↓qt,↓y6,↓qu,↓qa,↓yj,↓yk,↓qv,↓qw,↓qx,↓qy,↓qb,↓qz,qc,ww,xn,jv,jw,yl,qd,qe,zj,wx,y7,jx,xp,xq,keq,y8,wy,qf,y9,ym,xr,jy,jz,xt,j0,wz,ja,j1,xu,xv,xw,jb,q5,q6,yn,q7,j2,Option.map_some,yo,qg,q8,q9,qh,ya,xx,yb,yp,yc,xy,w5,xz,x5,w6,jc,x6,Op.operands,Call.operands,yd,qi,w7,AObj.live]
  rw [aloop_list (l := v.o)
    (S := fun pre suf => { env := [(1, .ptr 0 0), (2, .ptr 1 0), (3, .ptr 2 0), (5, .d (.int .i64 (pre.length : Nat)))], σ := [.box [.d (.int .i64 v.k), .d (.bool v.b), .d (.int .i64 v.n), .d (.str v.t), .d (.rs 6 (v.l.map encV)), .d (.rs 7 ((pre ++ suf).map encM))] 45, cpZ, rcW v 3 v.l pre] ++ rcR v.l pre, dfs := [] })
    (R := fun pre suf => some (.exit 2, { env := [(2, .ptr 0 0), (3, .ptr 1 0)], σ := [cpZ', rcW' v 2 v.l v.o] ++ rcR' v.l v.o, dfs := [] }))
    (hs := ?_) (h0 := ?_) (h1 := ?_)]
  rotate_left
  · rcases Decidable.em (v.l = []) with el | el <;> simp -implicitDefEqProofs [rcW, rcR, cpZ, vrow, el, IntWalk.i64_in,IntWalk.u64_in,IntWalk.u8_in,IntWalk.i32_in,IntWalk.u32_in,ye,zk,zm,qj,qk,qm,qn,zb,zc,zn,zp,zq,qo,zd,ze,zr,zt,zu,j3,x7,zw,zf,za,zx,qp,zy,zg,zz,z6,qq,zh,yf,qr,aop,yq,j4,j5,x8,x9,jd,j6,j7,wb,je,j8,yr,j9,wg,jf,jg,xa,xb,z7,jh,z8,ji,jj,yt,yu,xc,AV.one,wh,wi,aun,jk,xd,yw,afn,xe,Out.ren,xf,xg,jl,wj,xh,wl,jm,Eng.distinct,pos,wn,Eng.ren,wo,xi,wp,jo,wq,yg,xj,ws,wu,jp,frz,yx,yz,wv,List.lookup_cons,jq,zi,jr,js,List.range_succ,jt,xk,ju,xm,↓yh,↓yi,↓qt,↓y6,↓qu,↓qa,↓yj,↓yk,↓qv,↓qw,↓qx,↓qy,↓qb,↓qz,qc,ww,xn,jv,jw,yl,qd,qe,zj,wx,y7,jx,xp,xq,keq,y8,wy,qf,y9,ym,xr,jy,jz,xt,j0,wz,ja,j1,xu,xv,xw,jb,q5,q6,yn,q7,j2,Option.map_some,yo,qg,q8,q9,qh,ya,xx,yb,yp,yc,xy,w5,xz,x5,w6,jc,x6,Op.operands,Call.operands,yd,qi,w7,AObj.live]
  · intro pre hp
    subst hp
    rcases Decidable.em (v.l = []) with el | el <;> rcases Decidable.em (v.o = []) with e | e <;> simp -implicitDefEqProofs [rcV, rcW, rcR, rcV', rcW', rcR', cpZ, cpZ', vrow, mrow, el, e, mach_loop, IntWalk.i64_in,IntWalk.u64_in,IntWalk.u8_in,IntWalk.i32_in,IntWalk.u32_in,ye,zk,zm,qj,qk,qm,qn,zb,zc,zn,zp,zq,qo,zd,ze,zr,zt,zu,j3,x7,zw,zf,za,zx,qp,zy,zg,zz,z6,qq,zh,yf,qr,aop,yq,j4,j5,x8,x9,jd,j6,j7,wb,je,j8,yr,j9,wg,jf,jg,xa,xb,z7,jh,z8,ji,jj,yt,yu,xc,AV.one,wh,wi,aun,jk,xd,yw,afn,xe,Out.ren,xf,xg,jl,wj,xh,wl,jm,Eng.distinct,pos,wn,Eng.ren,wo,xi,wp,jo,wq,yg,xj,ws,wu,jp,frz,yx,yz,wv,List.lookup_cons,jq,zi,jr,js,List.range_succ,jt,xk,ju,xm,↓yh,↓yi,↓qt,↓y6,↓qu,↓qa,↓yj,↓yk,↓qv,↓qw,↓qx,↓qy,↓qb,↓qz,qc,ww,xn,jv,jw,yl,qd,qe,zj,wx,y7,jx,xp,xq,keq,y8,wy,qf,y9,ym,xr,jy,jz,xt,j0,wz,ja,j1,xu,xv,xw,jb,q5,q6,yn,q7,j2,Option.map_some,yo,qg,q8,q9,qh,ya,xx,yb,yp,yc,xy,w5,xz,x5,w6,jc,x6,Op.operands,Call.operands,yd,qi,w7,AObj.live]
  · intro pre x suf hp ih
    have hx := h4 x (by rw [← hp]; simp)
    have hll : pre.length < v.o.length := by rw [← hp]; simp
    have hw2 : IntKind.i64.wrap ((pre.length : Nat) + 1) = (pre.length : Nat) + 1 := wrap64 (by omega) (by omega)
    have k2 : (pre.length + 1) * 104 ≤ 140737488355328 := by omega
    have k3 : pre.length + 1 ≤ 140737488355328 := by omega
    rcases Decidable.em (v.l = []) with el | el <;> rcases Decidable.em (pre = []) with e | e <;> (
      simp -implicitDefEqProofs [rcW, rcR, cpZ, vrow, mrow, el, e, hx, hw2, k2, k3, encM_eq x, encV_eq x.v, mid_lt, pos1, mach_draw, mach_loop, IntWalk.i64_in,IntWalk.u64_in,IntWalk.u8_in,IntWalk.i32_in,IntWalk.u32_in,ye,zk,zm,qj,qk,qm,qn,zb,zc,zn,zp,zq,qo,zd,ze,zr,zt,zu,j3,x7,zw,zf,za,zx,qp,zy,zg,zz,z6,qq,zh,yf,qr,aop,yq,j4,j5,x8,x9,jd,j6,j7,wb,je,j8,yr,j9,wg,jf,jg,xa,xb,z7,jh,z8,ji,jj,yt,yu,xc,AV.one,wh,wi,aun,jk,xd,yw,afn,xe,Out.ren,xf,xg,jl,wj,xh,wl,jm,Eng.distinct,pos,wn,Eng.ren,wo,xi,wp,jo,wq,yg,xj,ws,wu,jp,frz,yx,yz,wv,List.lookup_cons,jq,zi,jr,js,List.range_succ,jt,xk,ju,xm,↓yh,↓yi,↓qt,↓y6,↓qu,↓qa,↓yj,↓yk,↓qv,↓qw,↓qx,↓qy,↓qb,↓qz,qc,ww,xn,jv,jw,yl,qd,qe,zj,wx,y7,jx,xp,xq,keq,y8,wy,qf,y9,ym,xr,jy,jz,xt,j0,wz,ja,j1,xu,xv,xw,jb,q5,q6,yn,q7,j2,Option.map_some,yo,qg,q8,q9,qh,ya,xx,yb,yp,yc,xy,w5,xz,x5,w6,jc,x6,Op.operands,Call.operands,yd,qi,w7,AObj.live]
      rw [ih _ (by simp -implicitDefEqProofs [rcW, rcR, cpZ, vrow, mrow, el, e, encM_eq x, encV_eq x.v, IntWalk.i64_in,IntWalk.u64_in,IntWalk.u8_in,IntWalk.i32_in,IntWalk.u32_in,ye,zk,zm,qj,qk,qm,qn,zb,zc,zn,zp,zq,qo,zd,ze,zr,zt,zu,j3,x7,zw,zf,za,zx,qp,zy,zg,zz,z6,qq,zh,yf,qr,aop,yq,j4,j5,x8,x9,jd,j6,j7,wb,je,j8,yr,j9,wg,jf,jg,xa,xb,z7,jh,z8,ji,jj,yt,yu,xc,AV.one,wh,wi,aun,jk,xd,yw,afn,xe,Out.ren,xf,xg,jl,wj,xh,wl,jm,Eng.distinct,pos,wn,Eng.ren,wo,xi,wp,jo,wq,yg,xj,ws,wu,jp,frz,yx,yz,wv,List.lookup_cons,jq,zi,jr,js,List.range_succ,jt,xk,ju,xm,↓yh,↓yi,↓qt,↓y6,↓qu,↓qa,↓yj,↓yk,↓qv,↓qw,↓qx,↓qy,↓qb,↓qz,qc,ww,xn,jv,jw,yl,qd,qe,zj,wx,y7,jx,xp,xq,keq,y8,wy,qf,y9,ym,xr,jy,jz,xt,j0,wz,ja,j1,xu,xv,xw,jb,q5,q6,yn,q7,j2,Option.map_some,yo,qg,q8,q9,qh,ya,xx,yb,yp,yc,xy,w5,xz,x5,w6,jc,x6,Op.operands,Call.operands,yd,qi,w7,AObj.live])]
      simp [el, e])
  rcases Decidable.em (v.l = []) with el | el <;> rcases Decidable.em (v.o = []) with e | e <;> simp -implicitDefEqProofs [rcW', rcW, rcR', rcR, cpZ', cpZ, vrow, mrow, slD, el, e, take_map_len, mach_loop, IntWalk.i64_in,IntWalk.u64_in,IntWalk.u8_in,IntWalk.i32_in,IntWalk.u32_in,ye,zk,zm,qj,qk,qm,qn,zb,zc,zn,zp,zq,qo,zd,ze,zr,zt,zu,j3,x7,zw,zf,za,zx,qp,zy,zg,zz,z6,qq,zh,yf,qr,aop,yq,j4,j5,x8,x9,jd,j6,j7,wb,je,j8,yr,j9,wg,jf,jg,xa,xb,z7,jh,z8,ji,jj,yt,yu,xc,AV.one,wh,wi,aun,jk,xd,yw,afn,xe,Out.ren,xf,xg,jl,wj,xh,wl,jm,Eng.distinct,pos,wn,Eng.ren,wo,xi,wp,jo,wq,yg,xj,ws,wu,jp,frz,yx,yz,wv,List.lookup_cons,jq,zi,jr,js,List.range_succ,jt,xk,ju,xm,↓yh,↓yi,↓qt,↓y6,↓qu,↓qa,↓yj,↓yk,↓qv,↓qw,↓qx,↓qy,↓qb,↓qz,qc,ww,xn,jv,jw,yl,qd,qe,zj,wx,y7,jx,xp,xq,keq,y8,wy,qf,y9,ym,xr,jy,jz,xt,j0,wz,ja,j1,xu,xv,xw,jb,q5,q6,yn,q7,j2,Option.map_some,yo,qg,q8,q9,qh,ya,xx,yb,yp,yc,xy,w5,xz,x5,w6,jc,x6,Op.operands,Call.operands,yd,qi,w7,AObj.live]
end Go.Proofs.YtblejchodicaoaaGreatDoor.Eng
