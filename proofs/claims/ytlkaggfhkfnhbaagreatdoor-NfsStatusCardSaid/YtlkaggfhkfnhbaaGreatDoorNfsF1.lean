/-
  The printed functions: plain data in, plain data out; none: beyond the number of rounds N, or where Go would panic.
-/
import Derived.Test.YtlkaggfhkfnhbaaGreatDoorNfsF0
set_option linter.unusedVariables false
set_option maxRecDepth 100000
namespace Go.Rf.W
open Go Go.Rf
noncomputable section
abbrev Ty107 : Type := Bool × Int × Int × Int × (List Int) → Option (Bool × Int × Int × Int × (List Int) × (List ((List UInt8) × (Int × (Int × Unit)))))
abbrev Ty108 : Type := Bool × Int × Int × Bool × Int × Int × Int × Int × Int × Int × Int × Int × Int × Int × Int × Int × Bool × Int × Int × Int × Int × Int × Int × Int × Int × Int × Int × Int × Int × Bool × Int × Int × Int × Bool × Int × Int × Int × Int × Int × Int × Int × Int × Int × Int × Int × Int × Bool × Int × Int × Int × Bool × Int × Int × Int × Int × Int × Int × Int × Int × Int × Int × Int × Int × Bool × Int × (List UInt8) × Int × Bool × Int × Int × Int × Int × Int × Int × Int × Int × Int × Int × Int × Int × Int × Int × Int × Int × Int × Int × Int × Int × Int × Bool × Bool × Bool × Bool × Int × Int × Int × (List Int) × (List Int) × (List Int) × (List ((List UInt8) × (Int × (Int × Unit))))
def nfs_flow_more_v1_a (N : Nat) (f0 : Ty78) (f1 : Ty83) (f2 : Ty77) (f3 : Ty75) (f4 : Ty79) (f5 : Ty78) (f6 : Ty107) (f7 : Ty78) (x : Ty13) : Option (Ty108) :=
  (un8 x fun b a c d e f g h bX =>
  un8 bX fun i j k l m n o p bY =>
  un8 bY fun q r s t u v w y bZ =>
  un8 bZ fun z aa ab ac ad ae af ag b0 =>
  un8 b0 fun ah ai aj ak al am an ao b1 =>
  un8 b1 fun ap aq ar au av aw ax ay b2 =>
  un8 b2 fun az aA aB aC aD aE aF aG b3 =>
  un8 b3 fun aH aI aJ aK aL aM aN aO b4 =>
  un8 b4 fun aP aQ aR aS aT aU aV aW b5 =>
  un8 b5 fun aX aY aZ a0 a1 a2 a3 a4 b6 =>
  un8 b6 fun a5 a6 a7 a8 a9 ba bb bc b7 =>
  un8 b7 fun bd be bf bg bh bi bj bk b8 =>
  un b8 fun bl bm =>
  (cond (decide (a = (4 : Int)))
  (Option.bind (f0 (b, aP, bi, bj, bk, bm)) fun bp =>
  (some (bp.1, a, c, d, e, f, g, h, i, j, k, l, m, n, o, p, q, r, s, t, u, v, w, y, z, aa, ab, ac, ad, ae, af, ag, ah, ai, aj, ak, al, am, an, ao, ap, aq, ar, au, av, aw, ax, ay, az, aA, aB, aC, aD, aE, aF, aG, aH, aI, aJ, aK, aL, aM, aN, aO, bp.2.1, aQ, aR, aS, aT, aU, aV, aW, aX, aY, aZ, a0, a1, a2, a3, a4, a5, a6, a7, a8, a9, ba, bb, bc, bd, be, bf, bg, bh, bp.2.2.1, bp.2.2.2.1, bp.2.2.2.2.1, bl, bp.2.2.2.2.2, ([] : List Int), ([] : List ((List UInt8) × (Int × (Int × Unit)))))))
  (cond (decide (a = (5 : Int)))
  (Option.bind (f1 ((1024 : Int), b, aQ, bi, bj, bk, bm)) fun bq =>
  (some (bq.1, a, c, d, e, f, g, h, i, j, k, l, m, n, o, p, q, r, s, t, u, v, w, y, z, aa, ab, ac, ad, ae, af, ag, ah, ai, aj, ak, al, am, an, ao, ap, aq, ar, au, av, aw, ax, ay, az, aA, aB, aC, aD, aE, aF, aG, aH, aI, aJ, aK, aL, aM, aN, aO, aP, bq.2.1, aR, aS, aT, aU, aV, aW, aX, aY, aZ, a0, a1, a2, a3, a4, a5, a6, a7, a8, a9, ba, bb, bc, bd, be, bf, bg, bh, bq.2.2.1, bq.2.2.2.1, bq.2.2.2.2.1, bl, bq.2.2.2.2.2, ([] : List Int), ([] : List ((List UInt8) × (Int × (Int × Unit)))))))
  (cond (decide (a = (6 : Int)))
  (Option.bind (f0 (b, aR, bi, bj, bk, bm)) fun bn =>
  (Option.bind (f2 (bn.1, aS, bn.2.2.1, bn.2.2.2.1, bn.2.2.2.2.1, bn.2.2.2.2.2)) fun br =>
  (Option.bind (f3 ((2048 : Int), br.1, br.2.2.1, br.2.2.2.1, br.2.2.2.2.1, br.2.2.2.2.2)) fun bo =>
  (Option.bind
  (cond bo.1
  (some true)
  (some (!(decide ((wrapF .u64 bn.2.1) = (wrapF .u64 (((List.length bo.2.2.2.2.2) : Nat) : Int)))))))
  fun b9 =>
  (some (b9, a, c, d, e, f, g, h, i, j, k, l, m, n, o, p, q, r, s, t, u, v, w, y, z, aa, ab, ac, ad, ae, af, ag, ah, ai, aj, ak, al, am, an, ao, ap, aq, ar, au, av, aw, ax, ay, az, aA, aB, aC, aD, aE, aF, aG, aH, aI, aJ, aK, aL, aM, aN, aO, aP, aQ, bn.2.1, br.2.1, aT, aU, aV, aW, aX, aY, aZ, a0, a1, a2, a3, a4, a5, a6, a7, a8, a9, ba, bb, bc, bd, be, bf, bg, bh, bo.2.1, bo.2.2.1, bo.2.2.2.1, bl, bo.2.2.2.2.1, bo.2.2.2.2.2, ([] : List ((List UInt8) × (Int × (Int × Unit))))))))))
  (cond (decide (a = (7 : Int)))
  (Option.bind (f0 (b, aR, bi, bj, bk, bm)) fun bs =>
  (Option.bind (f4 ((2 : Int), bs.1, aT, bs.2.2.1, bs.2.2.2.1, bs.2.2.2.2.1, bs.2.2.2.2.2)) fun bt =>
  (Option.bind (f5 (bt.1, aU, bt.2.2.1, bt.2.2.2.1, bt.2.2.2.2.1, bt.2.2.2.2.2)) fun bu =>
  (some (bu.1, a, c, d, e, f, g, h, i, j, k, l, m, n, o, p, q, r, s, t, u, v, w, y, z, aa, ab, ac, ad, ae, af, ag, ah, ai, aj, ak, al, am, an, ao, ap, aq, ar, au, av, aw, ax, ay, az, aA, aB, aC, aD, aE, aF, aG, aH, aI, aJ, aK, aL, aM, aN, aO, aP, aQ, bs.2.1, aS, bt.2.1, bu.2.1, aV, aW, aX, aY, aZ, a0, a1, a2, a3, a4, a5, a6, a7, a8, a9, ba, bb, bc, bd, be, bf, bg, bh, bu.2.2.1, bu.2.2.2.1, bu.2.2.2.2.1, bl, bu.2.2.2.2.2, ([] : List Int), ([] : List ((List UInt8) × (Int × (Int × Unit)))))))))
  (cond (decide (a = (16 : Int)))
  (Option.bind (f5 (b, aU, bi, bj, bk, bm)) fun bv =>
  (Option.bind (f6 (bv.1, bv.2.2.1, bv.2.2.2.1, bv.2.2.2.2.1, bv.2.2.2.2.2)) fun bw =>
  (Option.bind (f2 (bw.1, aS, bw.2.1, bw.2.2.1, bw.2.2.2.1, bw.2.2.2.2.1)) fun bx =>
  (some (bx.1, a, c, d, e, f, g, h, i, j, k, l, m, n, o, p, q, r, s, t, u, v, w, y, z, aa, ab, ac, ad, ae, af, ag, ah, ai, aj, ak, al, am, an, ao, ap, aq, ar, au, av, aw, ax, ay, az, aA, aB, aC, aD, aE, aF, aG, aH, aI, aJ, aK, aL, aM, aN, aO, aP, aQ, aR, bx.2.1, aT, bv.2.1, aV, aW, aX, aY, aZ, a0, a1, a2, a3, a4, a5, a6, a7, a8, a9, ba, bb, bc, bd, be, bf, bg, bh, bx.2.2.1, bx.2.2.2.1, bx.2.2.2.2.1, bl, bx.2.2.2.2.2, ([] : List Int), bw.2.2.2.2.2)))))
  (cond (decide (a = (18 : Int)))
  (Option.bind (f5 (b, aV, bi, bj, bk, bm)) fun bz =>
  (Option.bind (f5 (bz.1, aW, bz.2.2.1, bz.2.2.2.1, bz.2.2.2.2.1, bz.2.2.2.2.2)) fun bA =>
  (Option.bind (f5 (bA.1, aX, bA.2.2.1, bA.2.2.2.1, bA.2.2.2.2.1, bA.2.2.2.2.2)) fun bB =>
  (Option.bind (f5 (bB.1, aY, bB.2.2.1, bB.2.2.2.1, bB.2.2.2.2.1, bB.2.2.2.2.2)) fun bC =>
  (Option.bind (f5 (bC.1, aZ, bC.2.2.1, bC.2.2.2.1, bC.2.2.2.2.1, bC.2.2.2.2.2)) fun bD =>
  (Option.bind (f5 (bD.1, a0, bD.2.2.1, bD.2.2.2.1, bD.2.2.2.2.1, bD.2.2.2.2.2)) fun bE =>
  (Option.bind (f0 (bE.1, a1, bE.2.2.1, bE.2.2.2.1, bE.2.2.2.2.1, bE.2.2.2.2.2)) fun bF =>
  (some (bF.1, a, c, d, e, f, g, h, i, j, k, l, m, n, o, p, q, r, s, t, u, v, w, y, z, aa, ab, ac, ad, ae, af, ag, ah, ai, aj, ak, al, am, an, ao, ap, aq, ar, au, av, aw, ax, ay, az, aA, aB, aC, aD, aE, aF, aG, aH, aI, aJ, aK, aL, aM, aN, aO, aP, aQ, aR, aS, aT, aU, bz.2.1, bA.2.1, bB.2.1, bC.2.1, bD.2.1, bE.2.1, bF.2.1, a2, a3, a4, a5, a6, a7, a8, a9, ba, bb, bc, bd, be, bf, bg, bh, bF.2.2.1, bF.2.2.2.1, bF.2.2.2.2.1, bl, bF.2.2.2.2.2, ([] : List Int), ([] : List ((List UInt8) × (Int × (Int × Unit)))))))))))))
  (cond (decide (a = (19 : Int)))
  (Option.bind (f0 (b, a2, bi, bj, bk, bm)) fun bG =>
  (Option.bind (f0 (bG.1, a3, bG.2.2.1, bG.2.2.2.1, bG.2.2.2.2.1, bG.2.2.2.2.2)) fun bH =>
  (Option.bind (f0 (bH.1, a4, bH.2.2.1, bH.2.2.2.1, bH.2.2.2.2.1, bH.2.2.2.2.2)) fun bI =>
  (Option.bind (f0 (bI.1, a5, bI.2.2.1, bI.2.2.2.1, bI.2.2.2.2.1, bI.2.2.2.2.2)) fun bJ =>
  (Option.bind (f0 (bJ.1, a6, bJ.2.2.1, bJ.2.2.2.1, bJ.2.2.2.2.1, bJ.2.2.2.2.2)) fun bK =>
  (Option.bind (f0 (bK.1, a7, bK.2.2.1, bK.2.2.2.1, bK.2.2.2.2.1, bK.2.2.2.2.2)) fun bL =>
  (Option.bind (f0 (bL.1, a8, bL.2.2.1, bL.2.2.2.1, bL.2.2.2.2.1, bL.2.2.2.2.2)) fun bM =>
  (Option.bind (f5 (bM.1, a9, bM.2.2.1, bM.2.2.2.1, bM.2.2.2.2.1, bM.2.2.2.2.2)) fun bN =>
  (Option.bind (f7 (bN.1, ba, bN.2.2.1, bN.2.2.2.1, bN.2.2.2.2.1, bN.2.2.2.2.2)) fun bO =>
  (Option.bind (f0 (bO.1, bb, bO.2.2.1, bO.2.2.2.1, bO.2.2.2.2.1, bO.2.2.2.2.2)) fun bP =>
  (some (bP.1, a, c, d, e, f, g, h, i, j, k, l, m, n, o, p, q, r, s, t, u, v, w, y, z, aa, ab, ac, ad, ae, af, ag, ah, ai, aj, ak, al, am, an, ao, ap, aq, ar, au, av, aw, ax, ay, az, aA, aB, aC, aD, aE, aF, aG, aH, aI, aJ, aK, aL, aM, aN, aO, aP, aQ, aR, aS, aT, aU, aV, aW, aX, aY, aZ, a0, a1, bG.2.1, bH.2.1, bI.2.1, bJ.2.1, bK.2.1, bL.2.1, bM.2.1, bN.2.1, bO.2.1, bP.2.1, bc, bd, be, bf, bg, bh, bP.2.2.1, bP.2.2.2.1, bP.2.2.2.2.1, bl, bP.2.2.2.2.2, ([] : List Int), ([] : List ((List UInt8) × (Int × (Int × Unit))))))))))))))))
  (cond (decide (a = (20 : Int)))
  (Option.bind (f0 (b, bc, bi, bj, bk, bm)) fun bQ =>
  (Option.bind (f0 (bQ.1, bd, bQ.2.2.1, bQ.2.2.2.1, bQ.2.2.2.2.1, bQ.2.2.2.2.2)) fun bR =>
  (Option.bind (f2 (bR.1, be, bR.2.2.1, bR.2.2.2.1, bR.2.2.2.2.1, bR.2.2.2.2.2)) fun bS =>
  (Option.bind (f2 (bS.1, bf, bS.2.2.1, bS.2.2.2.1, bS.2.2.2.2.1, bS.2.2.2.2.2)) fun bT =>
  (Option.bind (f2 (bT.1, bg, bT.2.2.1, bT.2.2.2.1, bT.2.2.2.2.1, bT.2.2.2.2.2)) fun bU =>
  (Option.bind (f2 (bU.1, bh, bU.2.2.1, bU.2.2.2.1, bU.2.2.2.2.1, bU.2.2.2.2.2)) fun bV =>
  (some (bV.1, a, c, d, e, f, g, h, i, j, k, l, m, n, o, p, q, r, s, t, u, v, w, y, z, aa, ab, ac, ad, ae, af, ag, ah, ai, aj, ak, al, am, an, ao, ap, aq, ar, au, av, aw, ax, ay, az, aA, aB, aC, aD, aE, aF, aG, aH, aI, aJ, aK, aL, aM, aN, aO, aP, aQ, aR, aS, aT, aU, aV, aW, aX, aY, aZ, a0, a1, a2, a3, a4, a5, a6, a7, a8, a9, ba, bb, bQ.2.1, bR.2.1, bS.2.1, bT.2.1, bU.2.1, bV.2.1, bV.2.2.1, bV.2.2.2.1, bV.2.2.2.2.1, bl, bV.2.2.2.2.2, ([] : List Int), ([] : List ((List UInt8) × (Int × (Int × Unit))))))))))))
  (cond (decide (a = (21 : Int)))
  (Option.bind (f5 (b, aU, bi, bj, bk, bm)) fun bW =>
  (some (bW.1, a, c, d, e, f, g, h, i, j, k, l, m, n, o, p, q, r, s, t, u, v, w, y, z, aa, ab, ac, ad, ae, af, ag, ah, ai, aj, ak, al, am, an, ao, ap, aq, ar, au, av, aw, ax, ay, az, aA, aB, aC, aD, aE, aF, aG, aH, aI, aJ, aK, aL, aM, aN, aO, aP, aQ, aR, aS, aT, bW.2.1, aV, aW, aX, aY, aZ, a0, a1, a2, a3, a4, a5, a6, a7, a8, a9, ba, bb, bc, bd, be, bf, bg, bh, bW.2.2.1, bW.2.2.2.1, bW.2.2.2.2.1, bl, bW.2.2.2.2.2, ([] : List Int), ([] : List ((List UInt8) × (Int × (Int × Unit)))))))
  (some (b, a, c, d, e, f, g, h, i, j, k, l, m, n, o, p, q, r, s, t, u, v, w, y, z, aa, ab, ac, ad, ae, af, ag, ah, ai, aj, ak, al, am, an, ao, ap, aq, ar, au, av, aw, ax, ay, az, aA, aB, aC, aD, aE, aF, aG, aH, aI, aJ, aK, aL, aM, aN, aO, aP, aQ, aR, aS, aT, aU, aV, aW, aX, aY, aZ, a0, a1, a2, a3, a4, a5, a6, a7, a8, a9, ba, bb, bc, bd, be, bf, bg, bh, bi, bj, bk, bl, bm, ([] : List Int), ([] : List ((List UInt8) × (Int × (Int × Unit))))))))))))))))
def nfs_flow_more_v1 (N : Nat) (x : Ty13) : Option (Ty108) := nfs_flow_more_v1_a N (nfs_flow_uint_v1 N) (nfs_flow_text_v1 N) (nfs_flow_bool_v1 N) (nfs_flow_opaque_v2 N) (nfs_flow_enum_v1 N) (nfs_flow_hyper_v1 N) (nfs_flow_entries_v1 N) (nfs_flow_time_v1 N) x
def nfs_flow_res_v1_a (N : Nat) (f0 : Ty78) (f1 : Ty104 → Option (Ty104)) (f2 : Ty84) (f3 : Ty11 → Option (Ty11)) (f4 : Ty14 → Option (Ty13)) (f5 : Ty15 → Option (Ty15)) (f6 : Ty13 → Option (Ty108)) (x : Ty14) : Option (Ty108) :=
  (un8 x fun bk b bl o c d e f dS =>
  un8 dS fun g h i j k l m n dT =>
  un8 dT fun p q r s t u v w dU =>
  un8 dU fun y z aa ab ac ae af ag dV =>
  un8 dV fun ah ai aj ak al am an ao dW =>
  un8 dW fun ap aq ar au av aw ax ay dX =>
  un8 dX fun az aA aB aC aD aE aF aG dY =>
  un8 dY fun aH aI aJ aK aL aM aN ad dZ =>
  un8 dZ fun aO aP aQ aR aS aT aU aV d0 =>
  un8 d0 fun aW aX aY aZ a0 a1 a2 a3 d1 =>
  un8 d1 fun a4 a5 a6 a7 a8 a9 ba bb d2 =>
  un8 d2 fun bc bd be bf bg bm bn bo bp =>
  (cond (decide (b = (0 : Int)))
  (some (bk, b, bl, o, c, d, e, f, g, h, i, j, k, l, m, n, p, q, r, s, t, u, v, w, y, z, aa, ab, ac, ae, af, ag, ah, ai, aj, ak, al, am, an, ao, ap, aq, ar, au, av, aw, ax, ay, az, aA, aB, aC, aD, aE, aF, aG, aH, aI, aJ, aK, aL, aM, aN, ad, aO, aP, aQ, aR, aS, aT, aU, aV, aW, aX, aY, aZ, a0, a1, a2, a3, a4, a5, a6, a7, a8, a9, ba, bb, bc, bd, be, bf, bg, bm, bn, bo, bp, ([] : List Int), ([] : List Int), ([] : List ((List UInt8) × (Int × (Int × Unit))))))
  (Option.bind (f0 (bk, bl, bm, bn, bo, bp)) fun a =>
  (Option.bind
  ((Option.bind
  ((Option.bind
  ((cond (decide (b = (1 : Int)))
  (Option.bind
  (cond (decide (a.2.1 = (0 : Int)))
  (Option.bind (f1 (a.1, c, d, e, f, g, h, i, j, k, l, m, n, a.2.2.1, a.2.2.2.1, a.2.2.2.2.1, a.2.2.2.2.2)) fun d3 =>
  (un8 d3 fun d4 d5 d6 d7 d8 d9 ea eb ec =>
  un8 ec fun ed ee ef eg eh ei ej ek el =>
  (some (d4, true, d5, d6, d7, d8, d9, ea, eb, ed, ee, ef, eg, eh, ei, ej, ek, el))))
  (some (a.1, o, c, d, e, f, g, h, i, j, k, l, m, n, a.2.2.1, a.2.2.2.1, a.2.2.2.2.1, a.2.2.2.2.2)))
  fun em =>
  (un8 em fun en eo ep eq er es et eu ev =>
  un8 ev fun ew ex ey ez eA eB eC eD eE =>
  un eE fun eF eG =>
  (some (.inr (.inl (en, eo, ep, eq, er, es, et, eu, ew, ex, ey, ez, eA, eB, p, q, r, s, t, u, v, w, y, z, aa, ab, ac, ad, eC, eD, eF, eG, ([] : List Int)))))))
  (cond (decide (b = (3 : Int)))
  (Option.bind
  (cond (decide (a.2.1 = (0 : Int)))
  (Option.bind (f2 (a.1, a.2.2.1, a.2.2.2.1, a.2.2.2.2.1, a.2.2.2.2.2)) fun bh =>
  (Option.bind (f3 (bh.1, o, c, d, e, f, g, h, i, j, k, l, m, n, bh.2.1, bh.2.2.1, bh.2.2.2.1, bh.2.2.2.2.1)) fun eH =>
  (un8 eH fun eI eJ eK eL eM eN eO eP eQ =>
  un8 eQ fun eR eS eT eU eV eW eX eY eZ =>
  un eZ fun e0 e1 =>
  (some (eI, eJ, eK, eL, eM, eN, eO, eP, eR, eS, eT, eU, eV, eW, true, eX, eY, e0, e1, bh.2.2.2.2.2)))))
  (some (a.1, o, c, d, e, f, g, h, i, j, k, l, m, n, ad, a.2.2.1, a.2.2.2.1, a.2.2.2.2.1, a.2.2.2.2.2, ([] : List Int))))
  fun e2 =>
  (un8 e2 fun e3 e4 e5 e6 e7 e8 e9 fa fb =>
  un8 fb fun fc fd fe ff fg fh fi fj fk =>
  un fk fun fl fm =>
  un fm fun fn fo =>
  un fo fun fp fq =>
  (Option.bind (f3 (e3, p, q, r, s, t, u, v, w, y, z, aa, ab, ac, fj, fl, fn, fp)) fun fr =>
  (un8 fr fun fs ft fu fv fw fx fy fz fA =>
  un8 fA fun fB fC fD fE fF fG fH fI fJ =>
  un fJ fun fK fL =>
  (some (.inr (.inl (fs, e4, e5, e6, e7, e8, e9, fa, fc, fd, fe, ff, fg, fh, ft, fu, fv, fw, fx, fy, fz, fB, fC, fD, fE, fF, fG, fi, fH, fI, fK, fL, fq))))))))
  (cond (decide (b = (8 : Int)))
  (some (.inl (a.1, o, c, d, e, f, g, h, i, j, k, l, m, n, p, q, r, s, t, u, v, w, y, z, aa, ab, ac, ad, a.2.2.1, a.2.2.2.1, a.2.2.2.2.1, a.2.2.2.2.2)))
  (cond (decide (b = (9 : Int)))
  (some (.inl (a.1, o, c, d, e, f, g, h, i, j, k, l, m, n, p, q, r, s, t, u, v, w, y, z, aa, ab, ac, ad, a.2.2.1, a.2.2.2.1, a.2.2.2.2.1, a.2.2.2.2.2)))
  (cond (decide (b = (10 : Int)))
  (some (.inl (a.1, o, c, d, e, f, g, h, i, j, k, l, m, n, p, q, r, s, t, u, v, w, y, z, aa, ab, ac, ad, a.2.2.1, a.2.2.2.1, a.2.2.2.2.1, a.2.2.2.2.2)))
  (cond (decide (b = (2 : Int)))
  (some (.inr (.inr (.inl (a.1, o, c, d, e, f, g, h, i, j, k, l, m, n, p, q, r, s, t, u, v, w, y, z, aa, ab, ac, ad, a.2.2.1, a.2.2.2.1, a.2.2.2.2.1, a.2.2.2.2.2)))))
  (cond (decide (b = (7 : Int)))
  (some (.inr (.inr (.inl (a.1, o, c, d, e, f, g, h, i, j, k, l, m, n, p, q, r, s, t, u, v, w, y, z, aa, ab, ac, ad, a.2.2.1, a.2.2.2.1, a.2.2.2.2.1, a.2.2.2.2.2)))))
  (cond (decide (b = (12 : Int)))
  (some (.inr (.inr (.inl (a.1, o, c, d, e, f, g, h, i, j, k, l, m, n, p, q, r, s, t, u, v, w, y, z, aa, ab, ac, ad, a.2.2.1, a.2.2.2.1, a.2.2.2.2.1, a.2.2.2.2.2)))))
  (cond (decide (b = (13 : Int)))
  (some (.inr (.inr (.inl (a.1, o, c, d, e, f, g, h, i, j, k, l, m, n, p, q, r, s, t, u, v, w, y, z, aa, ab, ac, ad, a.2.2.1, a.2.2.2.1, a.2.2.2.2.1, a.2.2.2.2.2)))))
  (cond (decide (b = (14 : Int)))
  (some (.inr (.inr (.inl (a.1, o, c, d, e, f, g, h, i, j, k, l, m, n, p, q, r, s, t, u, v, w, y, z, aa, ab, ac, ad, a.2.2.1, a.2.2.2.1, a.2.2.2.2.1, a.2.2.2.2.2)))))
  (cond (decide (b = (21 : Int)))
  (some (.inr (.inr (.inl (a.1, o, c, d, e, f, g, h, i, j, k, l, m, n, p, q, r, s, t, u, v, w, y, z, aa, ab, ac, ad, a.2.2.1, a.2.2.2.1, a.2.2.2.2.1, a.2.2.2.2.2)))))
  (cond (decide (b = (15 : Int)))
  (some (.inr (.inr (.inr (.inl (a.1, o, c, d, e, f, g, h, i, j, k, l, m, n, p, q, r, s, t, u, v, w, y, z, aa, ab, ac, ad, a.2.2.1, a.2.2.2.1, a.2.2.2.2.1, a.2.2.2.2.2))))))
  (some (.inr (.inr (.inr (.inr ((a.1, o, c, d, e, f, g, h, i, j, k, l, m, n, p, q, r, s, t, u, v, w, y, z, aa, ab, ac, ad, a.2.2.1, a.2.2.2.1, a.2.2.2.2.1, a.2.2.2.2.2))))))))))))))))))) : Option ((Ty16) ⊕ (Ty17) ⊕ (Ty16) ⊕ (Ty16) ⊕ (Ty16)))
  fun fM =>
  (match fM with
  | .inl fN =>
  (un8 fN fun bq br bs bt bu bv bw bx fO =>
  un8 fO fun bz bA bB bC bD bE bF bG fP =>
  un8 fP fun bH bI bJ bK bL bM bN bO fQ =>
  un fQ fun bP fR =>
  un fR fun bQ fS =>
  un fS fun bR fT =>
  un fT fun bS fU =>
  un fU fun bT fV =>
  un fV fun bU fW =>
  un fW fun bV bW =>
  (cond (decide (a.2.1 = (0 : Int)))
  (Option.bind (f4 (bq, b, a.2.1, br, bs, bt, bu, bv, bw, bx, bz, bA, bB, bC, bD, bE, bF, bG, bH, bI, bJ, bK, bL, bM, bN, bO, bP, bQ, bR, ae, af, ag, ah, ai, aj, ak, al, am, an, ao, ap, aq, ar, au, av, aw, ax, ay, az, aA, aB, aC, aD, aE, aF, aG, aH, aI, aJ, aK, aL, aM, aN, bS, aO, aP, aQ, aR, aS, aT, aU, aV, aW, aX, aY, aZ, a0, a1, a2, a3, a4, a5, a6, a7, a8, a9, ba, bb, bc, bd, be, bf, bg, bT, bU, bV, bW)) fun fX =>
  (un8 fX fun fY fZ ga gb gc gd ge gf gg =>
  un8 gg fun gh gi gj gk gl gm gn go gp =>
  un8 gp fun gq gr gs gt gu gv gw gx gy =>
  un8 gy fun gz gA gB gC gD gE gF gG gH =>
  un8 gH fun gI gJ gK gL gM gN gO gP gQ =>
  un8 gQ fun gR gS gT gU gV gW gX gY gZ =>
  un8 gZ fun g0 g1 g2 g3 g4 g5 g6 g7 g8 =>
  un8 g8 fun g9 ha hb hc hd he hf hg hh =>
  un8 hh fun hi hj hk hl hm hn ho hp hq =>
  un8 hq fun hr hs ht hu hv hw hx hy hz =>
  un8 hz fun hA hB hC hD hE hF hG hH hI =>
  un8 hI fun hJ hK hL hM hN hO hP hQ hR =>
  un hR fun hS hT =>
  (Option.bind (f3 (fY, gb, gc, gd, ge, gf, gh, gi, gj, gk, gl, gm, gn, go, hO, hP, hQ, hS)) fun hU =>
  (un8 hU fun hV hW hX hY hZ h0 h1 h2 h3 =>
  un8 h3 fun h4 h5 h6 h7 h8 h9 ia ib ic =>
  un ic fun id ie =>
  (some (.inl (hV, fZ, ga, hW, hX, hY, hZ, h0, h1, h2, h4, h5, h6, h7, h8, h9, gq, gr, gs, gt, gu, gv, gw, gx, gz, gA, gB, gC, gD, gE, gF, gG, gI, gJ, gK, gL, gM, gN, gO, gP, gR, gS, gT, gU, gV, gW, gX, gY, g0, g1, g2, g3, g4, g5, g6, g7, g9, ha, hb, hc, hd, he, hf, hg, hi, hj, hk, hl, hm, hn, ho, hp, hr, hs, ht, hu, hv, hw, hx, hy, hA, hB, hC, hD, hE, hF, hG, hH, hJ, hK, hL, hM, hN, ia, ib, id, ie, hT)))))))
  (some (.inl (bq, b, a.2.1, br, bs, bt, bu, bv, bw, bx, bz, bA, bB, bC, bD, bE, bF, bG, bH, bI, bJ, bK, bL, bM, bN, bO, bP, bQ, bR, ae, af, ag, ah, ai, aj, ak, al, am, an, ao, ap, aq, ar, au, av, aw, ax, ay, az, aA, aB, aC, aD, aE, aF, aG, aH, aI, aJ, aK, aL, aM, aN, bS, aO, aP, aQ, aR, aS, aT, aU, aV, aW, aX, aY, aZ, a0, a1, a2, a3, a4, a5, a6, a7, a8, a9, ba, bb, bc, bd, be, bf, bg, bT, bU, bV, bW, ([] : List Int))))))
  | .inr ig =>
  (match ig with
  | .inl ih =>
  (un8 ih fun ii ij ik il im io ip iq ir =>
  un8 ir fun is it iu iv iw ix iy iz iA =>
  un8 iA fun iB iC iD iE iF iG iH iI iJ =>
  un8 iJ fun iK iL iM iN iO iP iQ iR iS =>
  (some (.inr (.inl (ii, b, a.2.1, ij, ik, il, im, io, ip, iq, is, it, iu, iv, iw, ix, iy, iz, iB, iC, iD, iE, iF, iG, iH, iI, iK, iL, iM, ae, af, ag, ah, ai, aj, ak, al, am, an, ao, ap, aq, ar, au, av, aw, ax, ay, az, aA, aB, aC, aD, aE, aF, aG, aH, aI, aJ, aK, aL, aM, aN, iN, aO, aP, aQ, aR, aS, aT, aU, aV, aW, aX, aY, aZ, a0, a1, a2, a3, a4, a5, a6, a7, a8, a9, ba, bb, bc, bd, be, bf, bg, iO, iP, iQ, iR, iS)))))
  | .inr iT =>
  (match iT with
  | .inl iU =>
  (un8 iU fun iV iW iX iY iZ i0 i1 i2 i3 =>
  un8 i3 fun i4 i5 i6 i7 i8 i9 ja jb jc =>
  un8 jc fun jd je jf jg jh ji jj jk jl =>
  un jl fun jm jn =>
  un jn fun jo jp =>
  un jp fun jq jr =>
  un jr fun js jt =>
  un jt fun ju jv =>
  un jv fun jw jx =>
  un jx fun jy jz =>
  (some (.inl (iV, b, a.2.1, iW, iX, iY, iZ, i0, i1, i2, i4, i5, i6, i7, i8, i9, ja, jb, jd, je, jf, jg, jh, ji, jj, jk, jm, jo, jq, ae, af, ag, ah, ai, aj, ak, al, am, an, ao, ap, aq, ar, au, av, aw, ax, ay, az, aA, aB, aC, aD, aE, aF, aG, aH, aI, aJ, aK, aL, aM, aN, js, aO, aP, aQ, aR, aS, aT, aU, aV, aW, aX, aY, aZ, a0, a1, a2, a3, a4, a5, a6, a7, a8, a9, ba, bb, bc, bd, be, bf, bg, ju, jw, jy, jz, ([] : List Int)))))
  | .inr jA =>
  (match jA with
  | .inl jB =>
  (un8 jB fun jC jD jE jF jG jH jI jJ jK =>
  un8 jK fun jL jM jN jO jP jQ jR jS jT =>
  un8 jT fun jU jV jW jX jY jZ j0 j1 j2 =>
  un j2 fun j3 j4 =>
  un j4 fun j5 j6 =>
  un j6 fun j7 j8 =>
  un j8 fun j9 ka =>
  un ka fun kb kc =>
  un kc fun kd ke =>
  un ke fun kf kg =>
  (some (.inr (.inr (.inl (jC, b, a.2.1, jD, jE, jF, jG, jH, jI, jJ, jL, jM, jN, jO, jP, jQ, jR, jS, jU, jV, jW, jX, jY, jZ, j0, j1, j3, j5, j7, ae, af, ag, ah, ai, aj, ak, al, am, an, ao, ap, aq, ar, au, av, aw, ax, ay, az, aA, aB, aC, aD, aE, aF, aG, aH, aI, aJ, aK, aL, aM, aN, j9, aO, aP, aQ, aR, aS, aT, aU, aV, aW, aX, aY, aZ, a0, a1, a2, a3, a4, a5, a6, a7, a8, a9, ba, bb, bc, bd, be, bf, bg, kb, kd, kf, kg))))))
  | .inr kh =>
  (un8 kh fun ki kj kk kl km kn ko kp kq =>
  un8 kq fun kr ks kt ku kv kw kx ky kz =>
  un8 kz fun kA kB kC kD kE kF kG kH kI =>
  un kI fun kJ kK =>
  un kK fun kL kM =>
  un kM fun kN kO =>
  un kO fun kP kQ =>
  un kQ fun kR kS =>
  un kS fun kT kU =>
  un kU fun kV kW =>
  (some (.inr (.inr (.inr ((ki, b, a.2.1, kj, kk, kl, km, kn, ko, kp, kr, ks, kt, ku, kv, kw, kx, ky, kA, kB, kC, kD, kE, kF, kG, kH, kJ, kL, kN, ae, af, ag, ah, ai, aj, ak, al, am, an, ao, ap, aq, ar, au, av, aw, ax, ay, az, aA, aB, aC, aD, aE, aF, aG, aH, aI, aJ, aK, aL, aM, aN, kP, aO, aP, aQ, aR, aS, aT, aU, aV, aW, aX, aY, aZ, a0, a1, a2, a3, a4, a5, a6, a7, a8, a9, ba, bb, bc, bd, be, bf, bg, kR, kT, kV, kW)))))))))))) : Option ((Ty13) ⊕ (Ty13) ⊕ (Ty14) ⊕ (Ty14)))
  fun kX =>
  (match kX with
  | .inl kY =>
  (un8 kY fun kZ k0 k1 k2 k3 k4 k5 k6 k7 =>
  un8 k7 fun k8 k9 la lb lc ld le lf lg =>
  un8 lg fun lh li lj lk ll lm ln lo lp =>
  un8 lp fun lq lr ls lt lu lv lw lx ly =>
  un8 ly fun lz lA lB lC lD lE lF lG lH =>
  un8 lH fun lI lJ lK lL lM lN lO lP lQ =>
  un8 lQ fun lR lS lT lU lV lW lX lY lZ =>
  un8 lZ fun l0 l1 l2 l3 l4 l5 l6 l7 l8 =>
  un8 l8 fun l9 ma mb mc md me mf mg mh =>
  un8 mh fun mi mj mk ml mm mn mo mp mq =>
  un8 mq fun mr ms mt mu mv mw mx my mz =>
  un8 mz fun mA mB mC mD mE mF mG mH mI =>
  un mI fun mJ mK =>
  (Option.bind (f5 (kZ, lv, lw, lx, lz, lA, lB, lC, lD, lE, lF, lG, lI, lJ, lK, lL, lM, lN, mF, mG, mH, mJ)) fun mL =>
  (un8 mL fun mM mN mO mP mQ mR mS mT mU =>
  un8 mU fun mV mW mX mY mZ m0 m1 m2 m3 =>
  un m3 fun m4 m5 =>
  un m5 fun m6 m7 =>
  un m7 fun m8 m9 =>
  un m9 fun na nb =>
  un nb fun nc nd =>
  (some (.inl (mM, k0, k1, k2, k3, k4, k5, k6, k8, k9, la, lb, lc, ld, le, lf, lh, li, lj, lk, ll, lm, ln, lo, lq, lr, ls, lt, lu, mN, mO, mP, mQ, mR, mS, mT, mV, mW, mX, mY, mZ, m0, m1, m2, m4, m6, lO, lP, lR, lS, lT, lU, lV, lW, lX, lY, l0, l1, l2, l3, l4, l5, l6, l7, l9, ma, mb, mc, md, me, mf, mg, mi, mj, mk, ml, mm, mn, mo, mp, mr, ms, mt, mu, mv, mw, mx, my, mA, mB, mC, mD, mE, m8, na, nc, nd, mK))))))
  | .inr ne =>
  (match ne with
  | .inl nf =>
  (un8 nf fun ng nh ni nj nk nl nm nn no =>
  un8 no fun np nq nr ns nt nu nv nw nx =>
  un8 nx fun ny nz nA nB nC nD nE nF nG =>
  un8 nG fun nH nI nJ nK nL nM nN nO nP =>
  un8 nP fun nQ nR nS nT nU nV nW nX nY =>
  un8 nY fun nZ n0 n1 n2 n3 n4 n5 n6 n7 =>
  un8 n7 fun n8 n9 oa ob oc od oe og oh =>
  un8 oh fun oi oj ok ol om on oo op oq =>
  un8 oq fun os ot ou ov ow ox oy oz oA =>
  un8 oA fun oB oC oD oE oF oG oH oI oJ =>
  un8 oJ fun oK oL oM oN oO oP oQ oR oS =>
  un8 oS fun oT oU oV oW oX oY oZ o0 o1 =>
  un o1 fun o2 o3 =>
  (some (.inr ((ng, nh, ni, nj, nk, nl, nm, nn, np, nq, nr, ns, nt, nu, nv, nw, ny, nz, nA, nB, nC, nD, nE, nF, nH, nI, nJ, nK, nL, nM, nN, nO, nQ, nR, nS, nT, nU, nV, nW, nX, nZ, n0, n1, n2, n3, n4, n5, n6, n8, n9, oa, ob, oc, od, oe, og, oi, oj, ok, ol, om, on, oo, op, os, ot, ou, ov, ow, ox, oy, oz, oB, oC, oD, oE, oF, oG, oH, oI, oK, oL, oM, oN, oO, oP, oQ, oR, oT, oU, oV, oW, oX, oY, oZ, o0, o2, o3)))))
  | .inr o4 =>
  (match o4 with
  | .inl o5 =>
  (un8 o5 fun o6 o7 o8 o9 pa pb pc pd pe =>
  un8 pe fun pf pg ph pi pj pk pl pm pn =>
  un8 pn fun po pp pq pr ps pt pu pv pw =>
  un8 pw fun px py pz pA pB pC pD pE pF =>
  un8 pF fun pG pH pI pJ pK pL pM pN pO =>
  un8 pO fun pP pQ pR pS pT pU pV pW pX =>
  un8 pX fun pY pZ p0 p1 p2 p3 p4 p5 p6 =>
  un8 p6 fun p7 p8 p9 qa qb qc qd qe qf =>
  un8 qf fun qg qh qi qj qk ql qm qn qo =>
  un8 qo fun qp qq qr qs qt qu qv qw qx =>
  un8 qx fun qy qz qA qB qC qD qE qF qG =>
  un8 qG fun qH qI qJ qK qL qM qN qO qP =>
  (Option.bind (f3 (o6, o9, pa, pb, pc, pd, pf, pg, ph, pi, pj, pk, pl, pm, qM, qN, qO, qP)) fun qQ =>
  (un8 qQ fun qR qS qT qU qV qW qX qY qZ =>
  un8 qZ fun q0 q1 q2 q3 q4 q5 q6 q7 q8 =>
  un q8 fun q9 ra =>
  (Option.bind (f5 (qR, pC, pD, pE, pG, pH, pI, pJ, pK, pL, pM, pN, pP, pQ, pR, pS, pT, pU, q6, q7, q9, ra)) fun rb =>
  (un8 rb fun rc rd re rf rg rh ri rj rk =>
  un8 rk fun rl rm rn ro rp rq rr rs rt =>
  un rt fun ru rv =>
  un rv fun rw rx =>
  un rx fun ry rz =>
  un rz fun rA rB =>
  un rB fun rC rD =>
  (some (.inl (rc, o7, o8, qS, qT, qU, qV, qW, qX, qY, q0, q1, q2, q3, q4, q5, po, pp, pq, pr, ps, pt, pu, pv, px, py, pz, pA, pB, rd, re, rf, rg, rh, ri, rj, rl, rm, rn, ro, rp, rq, rr, rs, ru, rw, pV, pW, pY, pZ, p0, p1, p2, p3, p4, p5, p7, p8, p9, qa, qb, qc, qd, qe, qg, qh, qi, qj, qk, ql, qm, qn, qp, qq, qr, qs, qt, qu, qv, qw, qy, qz, qA, qB, qC, qD, qE, qF, qH, qI, qJ, qK, qL, ry, rA, rC, rD, ([] : List Int)))))))))
  | .inr rE =>
  (un8 rE fun rF rG rH rI rJ rK rL rM rN =>
  un8 rN fun rO rP rQ rR rS rT rU rV rW =>
  un8 rW fun rX rY rZ r0 r1 r2 r3 r4 r5 =>
  un8 r5 fun r6 r7 r8 r9 sa sb sc sd se =>
  un8 se fun sf sg sh si sj sk sl sm sn =>
  un8 sn fun so sp sq sr ss st su sv sw =>
  un8 sw fun sx sy sz sA sB sC sD sE sF =>
  un8 sF fun sG sH sI sJ sK sL sM sN sO =>
  un8 sO fun sP sQ sR sS sT sU sV sW sX =>
  un8 sX fun sY sZ s0 s1 s2 s3 s4 s5 s6 =>
  un8 s6 fun s7 s8 s9 ta tb tc td te tf =>
  un8 tf fun tg th ti tj tk tl tm tn tp =>
  (Option.bind (f3 (rF, rI, rJ, rK, rL, rM, rO, rP, rQ, rR, rS, rT, rU, rV, tl, tm, tn, tp)) fun tq =>
  (un8 tq fun tr ts tt tu tv tw tx ty tz =>
  un8 tz fun tA tB tC tD tE tF tG tH tI =>
  un tI fun tJ tK =>
  (some (.inl (tr, rG, rH, ts, tt, tu, tv, tw, tx, ty, tA, tB, tC, tD, tE, tF, rX, rY, rZ, r0, r1, r2, r3, r4, r6, r7, r8, r9, sa, sb, sc, sd, sf, sg, sh, si, sj, sk, sl, sm, so, sp, sq, sr, ss, st, su, sv, sx, sy, sz, sA, sB, sC, sD, sE, sG, sH, sI, sJ, sK, sL, sM, sN, sP, sQ, sR, sS, sT, sU, sV, sW, sY, sZ, s0, s1, s2, s3, s4, s5, s7, s8, s9, ta, tb, tc, td, te, tg, th, ti, tj, tk, tG, tH, tJ, tK, ([] : List Int))))))))))) : Option ((Ty13) ⊕ (Ty13)))
  fun tL =>
  (match tL with
  | .inl tM =>
  (un8 tM fun bX bi bj bY bZ b0 b1 b2 tN =>
  un8 tN fun b3 b4 b5 b6 b7 b8 b9 ca tO =>
  un8 tO fun cb cc cd ce cf cg ch ci tP =>
  un8 tP fun cj ck cl cm cn co cp cq tQ =>
  un8 tQ fun cr cs ct cu cv cw cx cy tR =>
  un8 tR fun cz cA cB cC cD cE cF cG tS =>
  un8 tS fun cH cI cJ cK cL cM cN cO tT =>
  un8 tT fun cP cQ cR cS cT cU cV cW tU =>
  un8 tU fun cX cY cZ c0 c1 c2 c3 c4 tV =>
  un8 tV fun c5 c6 c7 c8 c9 da db dc tW =>
  un8 tW fun dd de df dg dh di dj dk tX =>
  un8 tX fun dl dm dn dp dq dr ds dt tY =>
  un tY fun du dv =>
  (Option.bind
  (cond (decide (bi = (14 : Int)))
  (Option.bind (f5 (bX, cF, cG, cH, cI, cJ, cK, cL, cM, cN, cO, cP, cQ, cR, cS, cT, cU, cV, dr, ds, dt, du)) fun tZ =>
  (un8 tZ fun t0 t1 t2 t3 t4 t5 t6 t7 t8 =>
  un8 t8 fun t9 ua ub uc ud ue uf ug uh =>
  un uh fun ui uj =>
  un uj fun uk ul =>
  un ul fun um uo =>
  un uo fun up uq =>
  un uq fun ur us =>
  (some (t0, t1, t2, t3, t4, t5, t6, t7, t9, ua, ub, uc, ud, ue, uf, ug, ui, uk, um, up, ur, us))))
  (some (bX, cF, cG, cH, cI, cJ, cK, cL, cM, cN, cO, cP, cQ, cR, cS, cT, cU, cV, dr, ds, dt, du)))
  fun ut =>
  (un8 ut fun dw dx dy dz dA dB dC dD uu =>
  un8 uu fun dE dF dG dH dI dJ dK dL uv =>
  un uv fun dM uw =>
  un uw fun dN ux =>
  un ux fun dO uy =>
  un uy fun dP uz =>
  un uz fun dQ dR =>
  (cond (decide (bj = (0 : Int)))
  (Option.bind (f6 (dw, bi, bj, bY, bZ, b0, b1, b2, b3, b4, b5, b6, b7, b8, b9, ca, cb, cc, cd, ce, cf, cg, ch, ci, cj, ck, cl, cm, cn, co, cp, cq, cr, cs, ct, cu, cv, cw, cx, cy, cz, cA, cB, cC, cD, cE, dx, dy, dz, dA, dB, dC, dD, dE, dF, dG, dH, dI, dJ, dK, dL, dM, dN, cW, cX, cY, cZ, c0, c1, c2, c3, c4, c5, c6, c7, c8, c9, da, db, dc, dd, de, df, dg, dh, di, dj, dk, dl, dm, dn, dp, dq, dO, dP, dQ, dv, dR)) fun uA =>
  (un8 uA fun uB uC uD uE uF uG uH uI uJ =>
  un8 uJ fun uK uL uM uN uO uP uQ uR uS =>
  un8 uS fun uT uU uV uW uX uY uZ u0 u1 =>
  un8 u1 fun u2 u3 u4 u5 u6 u7 u8 u9 va =>
  un8 va fun vb vc vd ve vf vg vh vi vj =>
  un8 vj fun vk vl vm vn vo vp vq vr vs =>
  un8 vs fun vt vu vv vw vx vy vz vA vB =>
  un8 vB fun vC vD vE vF vG vH vI vJ vK =>
  un8 vK fun vL vM vN vO vP vQ vR vS vT =>
  un8 vT fun vU vV vW vX vY vZ v0 v1 v2 =>
  un8 v2 fun v3 v4 v5 v6 v7 v8 v9 wa wb =>
  un8 wb fun wc wd we wf wg wh wi wj wk =>
  un wk fun wl wm =>
  un wm fun wn wo =>
  un wo fun wp wq =>
  (some (uB, uC, uD, uE, uF, uG, uH, uI, uK, uL, uM, uN, uO, uP, uQ, uR, uT, uU, uV, uW, uX, uY, uZ, u0, u2, u3, u4, u5, u6, u7, u8, u9, vb, vc, vd, ve, vf, vg, vh, vi, vk, vl, vm, vn, vo, vp, vq, vr, vt, vu, vv, vw, vx, vy, vz, vA, vC, vD, vE, vF, vG, vH, vI, vJ, vL, vM, vN, vO, vP, vQ, vR, vS, vU, vV, vW, vX, vY, vZ, v0, v1, v3, v4, v5, v6, v7, v8, v9, wa, wc, wd, we, wf, wg, wh, wi, wj, wn, wl, wp, wq))))
  (some (dw, bi, bj, bY, bZ, b0, b1, b2, b3, b4, b5, b6, b7, b8, b9, ca, cb, cc, cd, ce, cf, cg, ch, ci, cj, ck, cl, cm, cn, co, cp, cq, cr, cs, ct, cu, cv, cw, cx, cy, cz, cA, cB, cC, cD, cE, dx, dy, dz, dA, dB, dC, dD, dE, dF, dG, dH, dI, dJ, dK, dL, dM, dN, cW, cX, cY, cZ, c0, c1, c2, c3, c4, c5, c6, c7, c8, c9, da, db, dc, dd, de, df, dg, dh, di, dj, dk, dl, dm, dn, dp, dq, dO, dP, dQ, dR, dv, ([] : List Int), ([] : List ((List UInt8) × (Int × (Int × Unit))))))))))
  | .inr wr =>
  (un8 wr fun ws wt wu wv ww wx wy wz wA =>
  un8 wA fun wB wC wD wE wF wG wH wI wJ =>
  un8 wJ fun wK wL wM wN wO wP wQ wR wS =>
  un8 wS fun wT wU wV wW wX wY wZ w0 w1 =>
  un8 w1 fun w2 w3 w4 w5 w6 w7 w8 w9 xa =>
  un8 xa fun xb xc xd xe xf xg xh xi xj =>
  un8 xj fun xk xl xm xn xo xp xq xr xs =>
  un8 xs fun xt xu xv xw xx xy xz xA xB =>
  un8 xB fun xC xD xE xF xG xH xI xJ xK =>
  un8 xK fun xL xM xN xO xP xQ xR xS xT =>
  un8 xT fun xU xV xW xX xY xZ x0 x1 x2 =>
  un8 x2 fun x3 x4 x5 x6 x7 x8 x9 ya yb =>
  un yb fun yc yd =>
  (some (ws, wt, wu, wv, ww, wx, wy, wz, wB, wC, wD, wE, wF, wG, wH, wI, wK, wL, wM, wN, wO, wP, wQ, wR, wT, wU, wV, wW, wX, wY, wZ, w0, w2, w3, w4, w5, w6, w7, w8, w9, xb, xc, xd, xe, xf, xg, xh, xi, xk, xl, xm, xn, xo, xp, xq, xr, xt, xu, xv, xw, xx, xy, xz, xA, xC, xD, xE, xF, xG, xH, xI, xJ, xL, xM, xN, xO, xP, xQ, xR, xS, xU, xV, xW, xX, xY, xZ, x0, x1, x3, x4, x5, x6, x7, x8, x9, ya, yc, yd, ([] : List Int), ([] : List ((List UInt8) × (Int × (Int × Unit))))))))))))
def nfs_flow_res_v1 (N : Nat) (x : Ty14) : Option (Ty108) := nfs_flow_res_v1_a N (nfs_flow_uint_v1 N) (nfs_flow_attr_v1 N) (nfs_flow_handle_v2 N) (nfs_flow_maybe_v1 N) (nfs_flow_fh_v1 N) (nfs_flow_wcc_v1 N) (nfs_flow_more_v1 N) x
abbrev Ty109 : Type := Int × Int × Bool × Int × Int × Int × Int × Int × Int × Int × Int × Int × Int × Int × Int × Bool × Int × Int × Int × Int × Int × Int × Int × Int × Int × Int × Int × Int × Bool × Int × Int × Int × Bool × Int × Int × Int × Int × Int × Int × Int × Int × Int × Int × Int × Int × Bool × Int × Int × Int × Bool × Int × Int × Int × Int × Int × Int × Int × Int × Int × Int × Int × Int × Bool × Int × (List UInt8) × Int × Bool × Int × Int × Int × Int × Int × Int × Int × Int × Int × Int × Int × Int × Int × Int × Int × Int × Int × Int × Int × Int × Int × Bool × Bool × Bool × Bool × (List Int)
abbrev Ty110 : Type := Int × Int × Bool × Int × Int × Int × Int × Int × Int × Int × Int × Int × Int × Int × Int × Bool × Int × Int × Int × Int × Int × Int × Int × Int × Int × Int × Int × Int × Bool × Int × Int × Int × Bool × Int × Int × Int × Int × Int × Int × Int × Int × Int × Int × Int × Int × Bool × Int × Int × Int × Bool × Int × Int × Int × Int × Int × Int × Int × Int × Int × Int × Int × Int × Bool × Int × (List UInt8) × Int × Bool × Int × Int × Int × Int × Int × Int × Int × Int × Int × Int × Int × Int × Int × Int × Int × Int × Int × Int × Int × Int × Int × Bool × Bool × Bool × Bool × Bool × (List Int) × (List Int) × (List ((List UInt8) × (Int × (Int × Unit))))
def nfs_takes_api_NfsRes_a (N : Nat) (f0 : Ty63) (f1 : Ty14 → Option (Ty108)) (f2 : Ty69) (x : Ty109) : Option (Ty110) :=
  (un8 x fun bm bn bo bp bq br bs bt bu =>
  un8 bu fun bv bw bx bz bA bB bC bD bE =>
  un8 bE fun bF bG bH bI bJ bK bL bM bN =>
  un8 bN fun bO bP bQ bR bS bT bU bV bW =>
  un8 bW fun bX bY bZ b0 b1 b2 b3 b4 b5 =>
  un8 b5 fun b6 b7 b8 b9 ca cb cc cd ce =>
  un8 ce fun cf cg ch ci cj ck cl cm cn =>
  un8 cn fun co cp cq cr cs ct cu cv cw =>
  un8 cw fun cx cy cz cA cB cC cD cE cF =>
  un8 cF fun cG cH cI cJ cK cL cM cN cO =>
  un8 cO fun cP cQ cR cS cT cU cV cW cX =>
  un cX fun cY cZ =>
  un cZ fun c0 c1 =>
  un c1 fun c2 c3 =>
  un c3 fun c4 c5 =>
  (Option.bind (f0 c5) fun c6 =>
  (Option.bind (f1 (false, bm, bn, bo, bp, bq, br, bs, bt, bv, bw, bx, bz, bA, bB, bC, bD, bF, bG, bH, bI, bJ, bK, bL, bM, bO, bP, bQ, bR, bS, bT, bU, bV, bX, bY, bZ, b0, b1, b2, b3, b4, b6, b7, b8, b9, ca, cb, cc, cd, cf, cg, ch, ci, cj, ck, cl, cm, co, cp, cq, cr, cs, ct, cu, cv, cx, cy, cz, cA, cB, cC, cD, cE, cG, cH, cI, cJ, cK, cL, cM, cN, cP, cQ, cR, cS, cT, cU, cV, cW, cY, c0, c2, c4, (0 : Int), (0 : Int), (0 : Int), c6)) fun c7 =>
  (un8 c7 fun c8 b c d e f g h c9 =>
  un8 c9 fun i j k l m n o p da =>
  un8 da fun q r s t u v w y db =>
  un8 db fun z aa ab ac ad ae af ag dc =>
  un8 dc fun ah ai aj ak al am an ao dd =>
  un8 dd fun ap aq ar au av aw ax ay de =>
  un8 de fun az aA aB aC aD aE aF aG df =>
  un8 df fun aH aI aJ aK aL aM aN aO dg =>
  un8 dg fun aP aQ aR aS aT aU aV aW dh =>
  un8 dh fun aX aY aZ a0 a1 a2 a3 a4 di =>
  un8 di fun a5 a6 a7 a8 a9 ba bb bc dj =>
  un8 dj fun bd be bf bg bh bi bj bk dk =>
  un dk fun bl dl =>
  un dl fun dm dn =>
  un dn fun dp dq =>
  (Option.bind
  (cond (!c8)
  (Option.bind (f2 (bi, bj, bk, bl)) fun a =>
  (some ((decide (a.1 = (0 : Int))), b, c, d, e, f, g, h, i, j, k, l, m, n, o, p, q, r, s, t, u, v, w, y, z, aa, ab, ac, ad, ae, af, ag, ah, ai, aj, ak, al, am, an, ao, ap, aq, ar, au, av, aw, ax, ay, az, aA, aB, aC, aD, aE, aF, aG, aH, aI, aJ, aK, aL, aM, aN, aO, aP, aQ, aR, aS, aT, aU, aV, aW, aX, aY, aZ, a0, a1, a2, a3, a4, a5, a6, a7, a8, a9, ba, bb, bc, bd, be, bf, bg, bh, a.2.1, a.2.2.1, a.2.2.2.1, a.2.2.2.2)))
  (some (false, b, c, d, e, f, g, h, i, j, k, l, m, n, o, p, q, r, s, t, u, v, w, y, z, aa, ab, ac, ad, ae, af, ag, ah, ai, aj, ak, al, am, an, ao, ap, aq, ar, au, av, aw, ax, ay, az, aA, aB, aC, aD, aE, aF, aG, aH, aI, aJ, aK, aL, aM, aN, aO, aP, aQ, aR, aS, aT, aU, aV, aW, aX, aY, aZ, a0, a1, a2, a3, a4, a5, a6, a7, a8, a9, ba, bb, bc, bd, be, bf, bg, bh, bi, bj, bk, bl)))
  fun dr =>
  (un8 dr fun ds dt du dv dw dx dy dz dA =>
  un8 dA fun dB dC dD dE dF dG dH dI dJ =>
  un8 dJ fun dK dL dM dN dO dP dQ dR dS =>
  un8 dS fun dT dU dV dW dX dY dZ d0 d1 =>
  un8 d1 fun d2 d3 d4 d5 d6 d7 d8 d9 ea =>
  un8 ea fun eb ec ed ee ef eg eh ei ej =>
  un8 ej fun ek el em en eo ep eq er es =>
  un8 es fun et eu ev ew ex ey ez eA eB =>
  un8 eB fun eC eD eE eF eG eH eI eJ eK =>
  un8 eK fun eL eM eN eO eP eQ eR eS eT =>
  un8 eT fun eU eV eW eX eY eZ e0 e1 e2 =>
  un8 e2 fun e3 e4 e5 e6 e7 e8 e9 fa fb =>
  (some (dt, du, dv, dw, dx, dy, dz, dB, dC, dD, dE, dF, dG, dH, dI, dK, dL, dM, dN, dO, dP, dQ, dR, dT, dU, dV, dW, dX, dY, dZ, d0, d2, d3, d4, d5, d6, d7, d8, d9, eb, ec, ed, ee, ef, eg, eh, ei, ek, el, em, en, eo, ep, eq, er, et, eu, ev, ew, ex, ey, ez, eA, eC, eD, eE, eF, eG, eH, eI, eJ, eL, eM, eN, eO, eP, eQ, eR, eS, eU, eV, eW, eX, eY, eZ, e0, e1, e3, e4, e5, e6, e7, ds, dm, dp, dq))))))))
def nfs_takes_api_NfsRes (N : Nat) (x : Ty109) : Option (Ty110) := nfs_takes_api_NfsRes_a N xdr_NewReader (nfs_flow_res_v1 N) xdr_Reader_Done x
def slices_Equal_api_Entry_api_Entry_b0 (N : Nat) (next : (List ((List UInt8) × (Int × (Int × Unit)))) × (List ((List UInt8) × (Int × (Int × Unit)))) × Int × Int → Option (Unit ⊕ Unit)) (x : (List ((List UInt8) × (Int × (Int × Unit)))) × (List ((List UInt8) × (Int × (Int × Unit)))) × Int × Int) : Option (Unit ⊕ Unit) :=
  (cond (decide (x.2.2.2 < x.2.2.1))
  (cond ((decide ((0 : Int) ≤ x.2.2.2)) && (decide (x.2.2.2 < (((List.length x.1) : Nat) : Int))))
  ((let a : ((List UInt8) × (Int × (Int × Unit))) := (List.getD x.1 (Int.toNat x.2.2.2) (EK.dflt (.pair .str (.pair (.int .u64) (.pair (.int .u64) .unit)))))
  (cond ((decide ((0 : Int) ≤ x.2.2.2)) && (decide (x.2.2.2 < (((List.length x.2.1) : Nat) : Int))))
  ((let b : ((List UInt8) × (Int × (Int × Unit))) := (List.getD x.2.1 (Int.toNat x.2.2.2) (EK.dflt (.pair .str (.pair (.int .u64) (.pair (.int .u64) .unit)))))
  (cond (!((decide (a.1 = b.1)) && ((decide (a.2.1 = b.2.1)) && ((decide (a.2.2.1 = b.2.2.1)) && true))))
  (some (.inl ()))
  (next (x.1, x.2.1, x.2.2.1, (wrapF .i64 (x.2.2.2 + (1 : Int))))))))
  none)))
  none)
  (some (.inr (()))))
def slices_Equal_api_Entry_api_Entry_l0 (N : Nat) : (List ((List UInt8) × (Int × (Int × Unit)))) × (List ((List UInt8) × (Int × (Int × Unit)))) × Int × Int → Option (Unit ⊕ Unit) := loopF (slices_Equal_api_Entry_api_Entry_b0 N) N
def slices_Equal_api_Entry_api_Entry (N : Nat) (x : (List ((List UInt8) × (Int × (Int × Unit)))) × (List ((List UInt8) × (Int × (Int × Unit))))) : Option (Bool) :=
  (cond (!(decide ((((List.length x.1) : Nat) : Int) = (((List.length x.2) : Nat) : Int))))
  (some false)
  (Option.bind (slices_Equal_api_Entry_api_Entry_l0 N (x.1, x.2, (((List.length x.1) : Nat) : Int), (0 : Int))) fun a =>
  (match a with
  | .inl b =>
  (some false)
  | .inr c =>
  (some true))))
abbrev Ty111 : Type := (List ((List UInt8) × (Int × (Int × Unit)))) × (List ((List UInt8) × (Int × (Int × Unit)))) → Option (Bool)
abbrev Ty112 : Type := Int × Int × Bool × Int × Int × Int × Int × Int × Int × Int × Int × Int × Int × Int × Int × Bool × Int × Int × Int × Int × Int × Int × Int × Int × Int × Int × Int × Int × Bool × Int × Int × Int × Bool × Int × Int × Int × Int × Int × Int × Int × Int × Int × Int × Int × Int × Bool × Int × Int × Int × Bool × Int × Int × Int × Int × Int × Int × Int × Int × Int × Int × Int × Int × Bool × (List Int) × Int × (List UInt8) × Int × Bool × (List Int) × Int × Int × (List ((List UInt8) × (Int × (Int × Unit)))) × Int × Int × Int × Int × Int × Int × Int × Int × Int × Int × Int × Int × Int × Int × Int × Int × Int × Int × Int × Bool × Bool × Bool × Bool × Int × Int × Bool × Int × Int × Int × Int × Int × Int × Int × Int × Int × Int × Int × Int × Bool × Int × Int × Int × Int × Int × Int × Int × Int × Int × Int × Int × Int × Bool × Int × Int × Int × Bool × Int × Int × Int × Int × Int × Int × Int × Int × Int × Int × Int × Int × Bool × Int × Int × Int × Bool × Int × Int × Int × Int × Int × Int × Int × Int × Int × Int × Int × Int × Bool × (List Int) × Int × (List UInt8) × Int × Bool × (List Int) × Int × Int × (List ((List UInt8) × (Int × (Int × Unit)))) × Int × Int × Int × Int × Int × Int × Int × Int × Int × Int × Int × Int × Int × Int × Int × Int × Int × Int × Int × Bool × Bool × Bool × Bool
def nfs_sameRes_a (N : Nat) (f0 : Ty91) (f1 : Ty111) (x : Ty112) : Option (Bool) :=
  (un8 x fun a b c d e f g h i =>
  un8 i fun j k l m n o p q r =>
  un8 r fun s t u v w y z aa ab =>
  un8 ab fun ac ad ae af ag ah ai aj ak =>
  un8 ak fun al am an ao ap aq ar au av =>
  un8 av fun aw ax ay az aA aB aC aD aE =>
  un8 aE fun aF aG aH aI aJ aK aL aM aN =>
  un8 aN fun aO aP aQ aR aS aT aU aV aW =>
  un8 aW fun aX aY aZ a0 a1 a2 a3 a4 a5 =>
  un8 a5 fun a6 a7 a8 a9 ba bb bc bd be =>
  un8 be fun bf bg bh bi bj bk bl bm bn =>
  un8 bn fun bo bp bq br bs bt bu bv bw =>
  un8 bw fun bx bz bA bB bC bD bE bF bG =>
  un8 bG fun bH bI bJ bK bL bM bN bO bP =>
  un8 bP fun bQ bR bS bT bU bV bW bX bY =>
  un8 bY fun bZ b0 b1 b2 b3 b4 b5 b6 b7 =>
  un8 b7 fun b8 b9 ca cb cc cd ce cf cg =>
  un8 cg fun ch ci cj ck cl cm cn co cp =>
  un8 cp fun cq cr cs ct cu cv cw cx cy =>
  un8 cy fun cz cA cB cC cD cE cF cG cH =>
  un8 cH fun cI cJ cK cL cM cN cO cP cQ =>
  un8 cQ fun cR cS cT cU cV cW cX cY cZ =>
  un8 cZ fun c0 c1 c2 c3 c4 c5 c6 c7 c8 =>
  un c8 fun c9 da =>
  un da fun db dc =>
  un dc fun dd de =>
  un de fun df dg =>
  un dg fun dh di =>
  (Option.bind
  (cond (decide (a = bv))
  (cond (decide (b = bx))
  (cond (c == bz)
  (cond ((decide (d = bA)) && ((decide (e = bB)) && ((decide (f = bC)) && ((decide (g = bD)) && ((decide (h = bE)) && ((decide (j = bF)) && ((decide (k = bH)) && ((decide (l = bI)) && ((decide (m = bJ)) && ((decide (n = bK)) && ((decide (o = bL)) && ((decide (p = bM)) && true))))))))))))
  (cond (q == bN)
  (cond ((decide (s = bO)) && ((decide (t = bQ)) && ((decide (u = bR)) && ((decide (v = bS)) && ((decide (w = bT)) && ((decide (y = bU)) && ((decide (z = bV)) && ((decide (aa = bW)) && ((decide (ac = bX)) && ((decide (ad = bZ)) && ((decide (ae = b0)) && ((decide (af = b1)) && true))))))))))))
  (cond ((ag == b2) && ((decide (ah = b3)) && ((decide (ai = b4)) && ((decide (aj = b5)) && ((al == b6) && (((decide (am = b8)) && ((decide (an = b9)) && ((decide (ao = ca)) && ((decide (ap = cb)) && ((decide (aq = cc)) && ((decide (ar = cd)) && ((decide (au = ce)) && ((decide (aw = cf)) && ((decide (ax = ch)) && ((decide (ay = ci)) && ((decide (az = cj)) && ((decide (aA = ck)) && true)))))))))))) && true))))))
  (cond ((aB == cl) && ((decide (aC = cm)) && ((decide (aD = cn)) && ((decide (aF = co)) && ((aG == cq) && (((decide (aH = cr)) && ((decide (aI = cs)) && ((decide (aJ = ct)) && ((decide (aK = cu)) && ((decide (aL = cv)) && ((decide (aM = cw)) && ((decide (aO = cx)) && ((decide (aP = cz)) && ((decide (aQ = cA)) && ((decide (aR = cB)) && ((decide (aS = cC)) && ((decide (aT = cD)) && true)))))))))))) && true))))))
  (cond (aU == cE)
  (Option.bind (f0 (aV, cF)) fun dj =>
  (cond dj
  (cond (decide (aX = cG))
  (cond (decide (aY = cI))
  (cond (decide (aZ = cJ))
  (cond (a0 == cK)
  (Option.bind (f0 (a1, cL)) fun dk =>
  (cond dk
  (cond (decide (a2 = cM))
  (cond (decide (a3 = cN))
  (Option.bind (f1 (a4, cO)) fun dl =>
  (cond dl
  (cond ((decide (a6 = cP)) && ((decide (a7 = cR)) && ((decide (a8 = cS)) && ((decide (a9 = cT)) && ((decide (ba = cU)) && ((decide (bb = cV)) && ((decide (bc = cW)) && true)))))))
  (cond ((decide (bd = cX)) && ((decide (bf = cY)) && ((decide (bg = c0)) && ((decide (bh = c1)) && ((decide (bi = c2)) && ((decide (bj = c3)) && ((decide (bk = c4)) && ((decide (bl = c5)) && ((decide (bm = c6)) && ((decide (bo = c7)) && true))))))))))
  (some ((decide (bp = c9)) && ((decide (bq = db)) && ((br == dd) && ((bs == df) && ((bt == dh) && ((bu == di) && true)))))))
  (some false))
  (some false))
  (some false)))
  (some false))
  (some false))
  (some false)))
  (some false))
  (some false))
  (some false))
  (some false))
  (some false)))
  (some false))
  (some false))
  (some false))
  (some false))
  (some false))
  (some false))
  (some false))
  (some false))
  (some false))
  fun dm =>
  (some dm)))
def nfs_sameRes (N : Nat) (x : Ty112) : Option (Bool) := nfs_sameRes_a N bytes_Equal (slices_Equal_api_Entry_api_Entry N) x
abbrev Ty113 : Type := Ty103 → Option (Bool × (List Int))
abbrev Ty114 : Type := Int × Int × Bool × Int × Int × Int × Int × Int × Int × Int × Int × Int × Int × Int × Int × Bool × Int × Int × Int × Int × Int × Int × Int × Int × Int × Int × Int × Int × Bool × Int × Int × Int × Bool × Int × Int × Int × Int × Int × Int × Int × Int × Int × Int × Int × Int × Bool × Int × Int × Int × Bool × Int × Int × Int × Int × Int × Int × Int × Int × Int × Int × Int × Int × Bool × (List Int) × Int × (List UInt8) × Int × Bool × (List Int) × Int × Int × (List ((List UInt8) × (Int × (Int × Unit)))) × Int × Int × Int × Int × Int × Int × Int × Int × Int × Int × Int × Int × Int × Int × Int × Int × Int × Int × Int × Bool × Bool × Bool × Bool × Int × Int × Bool × Int × Int × Int × Int × Int × Int × Int × Int × Int × Int × Int × Int × Bool × Int × Int × Int × Int × Int × Int × Int × Int × Int × Int × Int × Int × Bool × Int × Int × Int × Bool × Int × Int × Int × Int × Int × Int × Int × Int × Int × Int × Int × Int × Bool × Int × Int × Int × Bool × Int × Int × Int × Int × Int × Int × Int × Int × Int × Int × Int × Int × Bool × Int × (List UInt8) × Int × Bool × Int × Int × Int × Int × Int × Int × Int × Int × Int × Int × Int × Int × Int × Int × Int × Int × Int × Int × Int × Int × Int × Bool × Bool × Bool × Bool
def nfs_put_api_NfsRes_a (N : Nat) (f0 : Ty113) (f1 : Ty109 → Option (Ty110)) (f2 : Ty112 → Option (Bool)) (x : Ty114) : Option (Int × (List Int)) :=
  (un8 x fun b c d e f g h i bl =>
  un8 bl fun j k l m n o p q bm =>
  un8 bm fun r s t u v w y z bn =>
  un8 bn fun aa ab ac ad ae af ag ah bo =>
  un8 bo fun ai aj ak al am an ao ap bp =>
  un8 bp fun aq ar au av aw ax ay az bq =>
  un8 bq fun aA aB aC aD aE aF aG aH br =>
  un8 br fun aI aJ aK aL aM aN aO aP bs =>
  un8 bs fun aQ aR aS aT aU aV aW aX bt =>
  un8 bt fun aY aZ a0 a1 a2 a3 a4 a5 bu =>
  un8 bu fun a6 a7 a8 a9 ba bb bc bd bv =>
  un8 bv fun be bf bg bh bi bj bk bw bx =>
  un8 bx fun bz bA bB bC bD bE bF bG bH =>
  un8 bH fun bI bJ bK bL bM bN bO bP bQ =>
  un8 bQ fun bR bS bT bU bV bW bX bY bZ =>
  un8 bZ fun b0 b1 b2 b3 b4 b5 b6 b7 b8 =>
  un8 b8 fun b9 ca cb cc cd ce cf cg ch =>
  un8 ch fun ci cj ck cl cm cn co cp cq =>
  un8 cq fun cr cs ct cu cv cw cx cy cz =>
  un8 cz fun cA cB cC cD cE cF cG cH cI =>
  un8 cI fun cJ cK cL cM cN cO cP cQ cR =>
  un8 cR fun cS cT cU cV cW cX cY cZ c0 =>
  un8 c0 fun c1 c2 c3 c4 c5 c6 c7 c8 c9 =>
  un c9 fun da db =>
  un db fun dc dd =>
  (Option.bind (f0 (b, c, d, e, f, g, h, i, j, k, l, m, n, o, p, q, r, s, t, u, v, w, y, z, aa, ab, ac, ad, ae, af, ag, ah, ai, aj, ak, al, am, an, ao, ap, aq, ar, au, av, aw, ax, ay, az, aA, aB, aC, aD, aE, aF, aG, aH, aI, aJ, aK, aL, aM, aN, aO, aP, aQ, aR, aS, aT, aU, aV, aW, aX, aY, aZ, a0, a1, a2, a3, a4, a5, a6, a7, a8, a9, ba, bb, bc, bd, be, bf, bg, bh, bi, bj, bk)) fun a =>
  (cond (!a.1)
  (some ((221 : Int), ([] : List Int)))
  (Option.bind (f1 (bw, bz, bA, bB, bC, bD, bE, bF, bG, bI, bJ, bK, bL, bM, bN, bO, bP, bR, bS, bT, bU, bV, bW, bX, bY, b0, b1, b2, b3, b4, b5, b6, b7, b9, ca, cb, cc, cd, ce, cf, cg, ci, cj, ck, cl, cm, cn, co, cp, cr, cs, ct, cu, cv, cw, cx, cy, cA, cB, cC, cD, cE, cF, cG, cH, cJ, cK, cL, cM, cN, cO, cP, cQ, cS, cT, cU, cV, cW, cX, cY, cZ, c1, c2, c3, c4, c5, c6, c7, c8, da, dc, dd, a.2)) fun de =>
  (un8 de fun df dg dh di dj dk dl dm dn =>
  un8 dn fun dp dq dr ds dt du dv dw dx =>
  un8 dx fun dy dz dA dB dC dD dE dF dG =>
  un8 dG fun dH dI dJ dK dL dM dN dO dP =>
  un8 dP fun dQ dR dS dT dU dV dW dX dY =>
  un8 dY fun dZ d0 d1 d2 d3 d4 d5 d6 d7 =>
  un8 d7 fun d8 d9 ea eb ec ed ee ef eg =>
  un8 eg fun eh ei ej ek el em en eo ep =>
  un8 ep fun eq er es et eu ev ew ex ey =>
  un8 ey fun ez eA eB eC eD eE eF eG eH =>
  un8 eH fun eI eJ eK eL eM eN eO eP eQ =>
  un eQ fun eR eS =>
  un eS fun eT eU =>
  un eU fun eV eW =>
  un eW fun eX eY =>
  un eY fun eZ e0 =>
  un e0 fun e1 e2 =>
  un e2 fun e3 e4 =>
  (Option.bind
  (cond (!eZ)
  (some true)
  (Option.bind (f2 (b, c, d, e, f, g, h, i, j, k, l, m, n, o, p, q, r, s, t, u, v, w, y, z, aa, ab, ac, ad, ae, af, ag, ah, ai, aj, ak, al, am, an, ao, ap, aq, ar, au, av, aw, ax, ay, az, aA, aB, aC, aD, aE, aF, aG, aH, aI, aJ, aK, aL, aM, aN, aO, aP, aQ, aR, aS, aT, aU, aV, aW, aX, aY, aZ, a0, a1, a2, a3, a4, a5, a6, a7, a8, a9, ba, bb, bc, bd, be, bf, bg, bh, bi, bj, bk, df, dg, dh, di, dj, dk, dl, dm, dp, dq, dr, ds, dt, du, dv, dw, dy, dz, dA, dB, dC, dD, dE, dF, dH, dI, dJ, dK, dL, dM, dN, dO, dQ, dR, dS, dT, dU, dV, dW, dX, dZ, d0, d1, d2, d3, d4, d5, d6, d8, d9, ea, eb, ec, ed, ee, ef, eh, ei, ej, ek, el, em, en, e1, eo, eq, er, es, e3, et, eu, e4, ev, ew, ex, ez, eA, eB, eC, eD, eE, eF, eG, eI, eJ, eK, eL, eM, eN, eO, eP, eR, eT, eV, eX)) fun e5 =>
  (some (!e5))))
  fun e6 =>
  (cond e6
  (some ((221 : Int), ([] : List Int)))
  (some ((0 : Int), a.2)))))))))
def nfs_put_api_NfsRes (N : Nat) (x : Ty114) : Option (Int × (List Int)) := nfs_put_api_NfsRes_a N (nfs_lays_api_NfsRes N) (nfs_takes_api_NfsRes N) (nfs_sameRes N) x
abbrev Ty115 : Type := Ty114 → Option (Int × (List Int))
def nfs_PutRes_a (N : Nat) (f0 : Int → Option (Bool)) (f1 : Ty115) (x : Ty103) : Option (Int × (List Int)) :=
  (un8 x fun a c d e f g h i j =>
  un8 j fun k l m n o p q r s =>
  un8 s fun t u v w y z aa ab ac =>
  un8 ac fun ad ae af ag ah ai aj ak al =>
  un8 al fun am an ao ap aq ar au av aw =>
  un8 aw fun ax ay az aA aB aC aD aE aF =>
  un8 aF fun aG aH aI aJ aK aL aM aN aO =>
  un8 aO fun aP aQ aR aS aT aU aV aW aX =>
  un8 aX fun aY aZ a0 a1 a2 a3 a4 a5 a6 =>
  un8 a6 fun a7 a8 a9 ba bb bc bd be bf =>
  un8 bf fun bg bh bi bj bk bl bm bn bo =>
  un bo fun bp bq =>
  un bq fun br bs =>
  un bs fun bt bu =>
  un bu fun bv bw =>
  un bw fun bx bz =>
  un bz fun bA bB =>
  (Option.bind (f0 a) fun bC =>
  (cond (!bC)
  (some ((220 : Int), ([] : List Int)))
  (Option.bind (f1 (a, c, d, e, f, g, h, i, k, l, m, n, o, p, q, r, t, u, v, w, y, z, aa, ab, ad, ae, af, ag, ah, ai, aj, ak, am, an, ao, ap, aq, ar, au, av, ax, ay, az, aA, aB, aC, aD, aE, aG, aH, aI, aJ, aK, aL, aM, aN, aP, aQ, aR, aS, aT, aU, aV, aW, aY, aZ, a0, a1, a2, a3, a4, a5, a7, a8, a9, ba, bb, bc, bd, be, bg, bh, bi, bj, bk, bl, bm, bn, bp, br, bt, bv, bx, bA, bB, a, (0 : Int), false, (0 : Int), (0 : Int), (0 : Int), (0 : Int), (0 : Int), (0 : Int), (0 : Int), (0 : Int), (0 : Int), (0 : Int), (0 : Int), (0 : Int), false, (0 : Int), (0 : Int), (0 : Int), (0 : Int), (0 : Int), (0 : Int), (0 : Int), (0 : Int), (0 : Int), (0 : Int), (0 : Int), (0 : Int), false, (0 : Int), (0 : Int), (0 : Int), false, (0 : Int), (0 : Int), (0 : Int), (0 : Int), (0 : Int), (0 : Int), (0 : Int), (0 : Int), (0 : Int), (0 : Int), (0 : Int), (0 : Int), false, (0 : Int), (0 : Int), (0 : Int), false, (0 : Int), (0 : Int), (0 : Int), (0 : Int), (0 : Int), (0 : Int), (0 : Int), (0 : Int), (0 : Int), (0 : Int), (0 : Int), (0 : Int), false, (0 : Int), ([] : List UInt8), (0 : Int), false, (0 : Int), (0 : Int), (0 : Int), (0 : Int), (0 : Int), (0 : Int), (0 : Int), (0 : Int), (0 : Int), (0 : Int), (0 : Int), (0 : Int), (0 : Int), (0 : Int), (0 : Int), (0 : Int), (0 : Int), (0 : Int), (0 : Int), (0 : Int), (0 : Int), false, false, false, false)) fun b =>
  (some (b.1, b.2))))))
def nfs_PutRes (N : Nat) (x : Ty103) : Option (Int × (List Int)) := nfs_PutRes_a N nfs_Known (nfs_put_api_NfsRes N) x
def granarylaw22_num (x : Int) : Option (Int) :=
  (some x)
def nfs_Status (x : Int) : Option (Int) :=
  (cond (decide (x = (0 : Int)))
  (some (0 : Int))
  (cond (decide (x = (7 : Int)))
  (some (2 : Int))
  (cond (decide (x = (8 : Int)))
  (some (17 : Int))
  (cond (decide (x = (151 : Int)))
  (some (20 : Int))
  (cond (decide (x = (152 : Int)))
  (some (21 : Int))
  (cond (decide (x = (2 : Int)))
  (some (22 : Int))
  (cond (decide (x = (157 : Int)))
  (some (22 : Int))
  (cond (decide (x = (122 : Int)))
  (some (22 : Int))
  (cond (decide (x = (130 : Int)))
  (some (22 : Int))
  (cond (decide (x = (153 : Int)))
  (some (27 : Int))
  (cond (decide (x = (154 : Int)))
  (some (28 : Int))
  (cond (decide (x = (5 : Int)))
  (some (28 : Int))
  (cond (decide (x = (155 : Int)))
  (some (30 : Int))
  (cond (decide (x = (123 : Int)))
  (some (31 : Int))
  (cond (decide (x = (131 : Int)))
  (some (63 : Int))
  (cond (decide (x = (1 : Int)))
  (some (63 : Int))
  (cond (decide (x = (132 : Int)))
  (some (66 : Int))
  (cond (decide (x = (150 : Int)))
  (some (70 : Int))
  (cond (decide (x = (121 : Int)))
  (some (10001 : Int))
  (cond (decide (x = (156 : Int)))
  (some (10002 : Int))
  (some (10006 : Int))))))))))))))))))))))
def nfs_StatusOf (N : Nat) (x : Int × Nat) : Option (Int) := nfs_Status x.1
abbrev Ty116 : Type := Ty66 → Option (Int × (List Int))
abbrev Ty117 : Type := Int × (List Int) → Option (Ty96)
abbrev Ty118 : Type := Ty103 → Option (Int × (List Int))
def granarylaw22_live_a (N : Nat) (f0 : Ty116) (f1 : Ty117) (f2 : Ty118) (f3 : Int → Option (Int)) (f4 : Int → Option (Bool)) (f5 : Int × Nat → Option (Int)) (x : Unit) : Option (Bool) :=
  (let b : List Int := ([(104 : Int)] : List Int)
  (cond (cond ((decide (1 ≤ (List.length b))) && true) true false)
  (Option.bind (f0 ((3 : Int), (List.take 1 (List.drop 0 b)), ([97] : List UInt8), ([] : List Int), ([] : List UInt8), (0 : Int), (0 : Int), (0 : Int), (0 : Int), (0 : Int), (0 : Int), (0 : Int), false, (0 : Int), (0 : Int), (0 : Int), (0 : Int), (0 : Int), ([] : List Int), (0 : Int), (0 : Int), ([] : List UInt8), (0 : Int), (0 : Int))) fun a =>
  (Option.bind (f1 ((3 : Int), a.2)) fun g =>
  (un8 g fun y h z aa ab ac ad ae i =>
  un8 i fun af ag ah ai aj ak al am j =>
  un8 j fun an ao ap aq ar k au av aw =>
  (let c : List Int := ([(104 : Int)] : List Int)
  (let d : List Int := ([(97 : Int)] : List Int)
  (cond (cond ((decide (1 ≤ (List.length c))) && ((decide (1 ≤ (List.length d))) && true)) true false)
  (Option.bind (f0 ((7 : Int), (List.take 1 (List.drop 0 c)), ([] : List UInt8), ([] : List Int), ([] : List UInt8), (0 : Int), (0 : Int), (0 : Int), (0 : Int), (0 : Int), (0 : Int), (0 : Int), false, (0 : Int), (0 : Int), (0 : Int), (2 : Int), (0 : Int), (List.take 1 (List.drop 0 d)), (0 : Int), (0 : Int), ([] : List UInt8), (0 : Int), (0 : Int))) fun l =>
  (Option.bind (f2 ((1 : Int), (70 : Int), false, (0 : Int), (0 : Int), (0 : Int), (0 : Int), (0 : Int), (0 : Int), (0 : Int), (0 : Int), (0 : Int), (0 : Int), (0 : Int), (0 : Int), false, (0 : Int), (0 : Int), (0 : Int), (0 : Int), (0 : Int), (0 : Int), (0 : Int), (0 : Int), (0 : Int), (0 : Int), (0 : Int), (0 : Int), false, (0 : Int), (0 : Int), (0 : Int), false, (0 : Int), (0 : Int), (0 : Int), (0 : Int), (0 : Int), (0 : Int), (0 : Int), (0 : Int), (0 : Int), (0 : Int), (0 : Int), (0 : Int), false, (0 : Int), (0 : Int), (0 : Int), false, (0 : Int), (0 : Int), (0 : Int), (0 : Int), (0 : Int), (0 : Int), (0 : Int), (0 : Int), (0 : Int), (0 : Int), (0 : Int), (0 : Int), false, ([] : List Int), (0 : Int), ([] : List UInt8), (0 : Int), false, ([] : List Int), (0 : Int), (0 : Int), ([] : List ((List UInt8) × (Int × (Int × Unit)))), (0 : Int), (0 : Int), (0 : Int), (0 : Int), (0 : Int), (0 : Int), (0 : Int), (0 : Int), (0 : Int), (0 : Int), (0 : Int), (0 : Int), (0 : Int), (0 : Int), (0 : Int), (0 : Int), (0 : Int), (0 : Int), (0 : Int), false, false, false, false)) fun e =>
  (Option.bind (f0 ((2 : Int), ([] : List Int), ([] : List UInt8), ([] : List Int), ([] : List UInt8), (16 : Int), (0 : Int), (0 : Int), (0 : Int), (0 : Int), (1000000001 : Int), (0 : Int), false, (0 : Int), (0 : Int), (0 : Int), (0 : Int), (0 : Int), ([] : List Int), (0 : Int), (0 : Int), ([] : List UInt8), (0 : Int), (0 : Int))) fun f =>
  (Option.bind (f0 ((17 : Int), ([] : List Int), ([] : List UInt8), ([] : List Int), ([] : List UInt8), (0 : Int), (0 : Int), (0 : Int), (0 : Int), (0 : Int), (0 : Int), (0 : Int), false, (0 : Int), (0 : Int), (0 : Int), (0 : Int), (0 : Int), ([] : List Int), (0 : Int), (0 : Int), ([] : List UInt8), (0 : Int), (0 : Int))) fun m =>
  (Option.bind
  (Option.bind (f3 a.1) fun n =>
  (cond (decide (n = (0 : Int)))
  (cond (decide ((List.map (fun (n : Int) => UInt8.ofNat n.toNat) a.2) = ([0, 0, 0, 1, 104, 0, 0, 0, 0, 0, 0, 1, 97, 0, 0, 0] : List UInt8)))
  (Option.bind (f3 k) fun o =>
  (cond (decide (o = (0 : Int)))
  (cond (decide (h = ([97] : List UInt8)))
  (Option.bind (f3 l.1) fun p =>
  (cond (decide (p = (221 : Int)))
  (Option.bind (f3 e.1) fun q =>
  (cond (decide (q = (0 : Int)))
  (cond (decide ((List.map (fun (n : Int) => UInt8.ofNat n.toNat) e.2) = ([0, 0, 0, 70] : List UInt8)))
  (Option.bind (f3 f.1) fun r =>
  (cond (decide (r = (0 : Int)))
  (cond (decide ((((List.length f.2) : Nat) : Int) = (40 : Int)))
  (Option.bind (f3 m.1) fun s =>
  (cond (decide (s = (220 : Int)))
  (Option.bind (f4 (21 : Int)) fun t =>
  (cond t
  (Option.bind (f4 (22 : Int)) fun u =>
  (cond (!u)
  (Option.bind (f5 ((150 : Int), 1)) fun v =>
  (some (decide (v = (70 : Int)))))
  (some false)))
  (some false)))
  (some false)))
  (some false))
  (some false)))
  (some false))
  (some false)))
  (some false)))
  (some false))
  (some false)))
  (some false))
  (some false)))
  fun w =>
  (some w))))))
  none))))))
  none))
def granarylaw22_live (N : Nat) (x : Unit) : Option (Bool) := granarylaw22_live_a N (nfs_PutArgs N) (nfs_GetArgs N) (nfs_PutRes N) granarylaw22_num nfs_Known (nfs_StatusOf N) x
def granaryref22_Status (x : Int) : Option (Int) :=
  (cond (decide (x = (0 : Int)))
  (some (0 : Int))
  (cond (decide (x = (7 : Int)))
  (some (2 : Int))
  (cond (decide (x = (8 : Int)))
  (some (17 : Int))
  (cond (decide (x = (151 : Int)))
  (some (20 : Int))
  (cond (decide (x = (152 : Int)))
  (some (21 : Int))
  (cond (decide (x = (2 : Int)))
  (some (22 : Int))
  (cond (decide (x = (157 : Int)))
  (some (22 : Int))
  (cond (decide (x = (122 : Int)))
  (some (22 : Int))
  (cond (decide (x = (130 : Int)))
  (some (22 : Int))
  (cond (decide (x = (153 : Int)))
  (some (27 : Int))
  (cond (decide (x = (154 : Int)))
  (some (28 : Int))
  (cond (decide (x = (5 : Int)))
  (some (28 : Int))
  (cond (decide (x = (155 : Int)))
  (some (30 : Int))
  (cond (decide (x = (123 : Int)))
  (some (31 : Int))
  (cond (decide (x = (131 : Int)))
  (some (63 : Int))
  (cond (decide (x = (1 : Int)))
  (some (63 : Int))
  (cond (decide (x = (132 : Int)))
  (some (66 : Int))
  (cond (decide (x = (150 : Int)))
  (some (70 : Int))
  (cond (decide (x = (121 : Int)))
  (some (10001 : Int))
  (cond (decide (x = (156 : Int)))
  (some (10002 : Int))
  (some (10006 : Int))))))))))))))))))))))
def granarylaw22_wrapped_b0 (N : Nat) (next : Int × Int × Nat × Int → Option ((Int × Nat))) (x : Int × Int × Nat × Int) : Option ((Int × Nat)) :=
  (cond (decide (x.2.2.2 < x.1))
  (next (x.1, x.2.1, (x.2.2.1 + 1), (wrapF .i64 (x.2.2.2 + (1 : Int)))))
  (some (x.2.1, x.2.2.1)))
def granarylaw22_wrapped_l0 (N : Nat) : Int × Int × Nat × Int → Option ((Int × Nat)) := loopF (granarylaw22_wrapped_b0 N) N
def granarylaw22_wrapped (N : Nat) (x : Int × Int) : Option (Int × Nat) :=
  (Option.bind (granarylaw22_wrapped_l0 N (x.2, x.1, 0, (0 : Int))) fun a =>
  (some (a.1, a.2)))
def nfs_StatusOf_v1 (N : Nat) (x : Unit) : Option (Int) := some 0
def nfs_StatusOf_v2 (N : Nat) (x : Int × Nat) : Option (Int) := some 10006
end
end Go.Rf.W
