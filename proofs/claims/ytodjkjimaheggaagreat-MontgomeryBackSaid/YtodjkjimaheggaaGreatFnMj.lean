/- A product through the radix: its code is put, the second half. -/
import Derived.Test.YtodjkjimaheggaaGreatFnMi
namespace Go.Proofs.YtodjkjimaheggaaGreat
open Go.Sv
set_option linter.unusedSimpArgs false
set_option maxRecDepth 10000
section put
variable {G : z03} {K : LV → z03 → Prop} {e P st : Nat} {ops : List Lo} {deep R : Int} {d a b n t : Pc}
theorem down_any (hd:0≤deep∧deep≤50) (hna:-1000000≤n.at_∧n.at_≤1000000) (ht:-1000000≤t.at_∧t.at_≤1000000) (hn:0≤n.size∧n.size≤1000000) (hP:G[P]?=some (.cells (prS e d a b n t R) st)) (hPe:P≠e) (h:EmH G e ops deep) (hl:ops.length≤800000)
  (k:∀ G',EmH G' e (ops++(z9l n t n.size R deep).flat) deep→Kp e G G'→K (.tup []) G'):z0k Tryz.prog (.fn 76) [.ptr P 0] G K:=by
 refine z01 r_montgomery_product_down k_montgomery_product_down (by simp) ?_
 have hQ:=hP
 unfold prS at hP
 have lP:=(List.getElem?_eq_some_iff.1 hP).1
 have le:e < G.length:=by obtain⟨_,_,h,_⟩:=id h; exact (List.getElem?_eq_some_iff.1 h).1
 have z0:(G++[LObj.cells [.ptr P 0] 0])[G.length]?=some (.cells [.ptr P 0] 0):=List.getElem?_concat_length
 have q0:(G++[LObj.cells [.ptr P 0] 0])[P]?=_:=(oldP lP).trans hQ
 have p0:(G++[LObj.cells [.ptr P 0] 0])[P]?=_:=(oldP lP).trans hP
 have h0:=h.app [LObj.cells [.ptr P 0] 0]
 have k0:=Kp.app' e G [LObj.cells [.ptr P 0] 0]
 have hze:G.length≠e:=by omega
 simp[z2e,↓oldP lP,hP]
 generalize G++[LObj.cells [.ptr P 0] 0]=G0 at *
 generalize G.length=z at *
 refine z3q (p:=t) (by omega) h0 (by omega) fun G1 h1 k1=>?_
 have z1:=k1.cells hze z0
 have q1:=k1.cells hPe q0
 have p1:=k1.cells hPe p0
 simp[z1,p1]
 refine zg6 h1 (by simp; omega) fun G2 h2 k2=>?_
 have z2:=k2.cells hze z1
 have q2:=k2.cells hPe q1
 have p2:=k2.cells hPe p1
 simp[z2,p2]
 refine z3q (p:=n) (by omega) h2 (by simp; omega) fun G3 h3 k3=>?_
 have z3:=k3.cells hze z2
 have q3:=k3.cells hPe q2
 have p3:=k3.cells hPe p2
 simp[z3,p3]
 refine z6v h3 (by simp; omega) fun G4 h4 k4=>?_
 have z4:=k4.cells hze z3
 have q4:=k4.cells hPe q3
 have p4:=k4.cells hPe p3
 simp[z4,p4]
 refine zoi q4 hPe h4 (by simp; omega) fun G5 h5 k5=>?_
 have z5:=k5.cells hze z4
 have q5:=k5.cells hPe q4
 have p5:=k5.cells hPe p4
 simp[z5,p5]
 repeat (refine⟨by omega,?_⟩)
 refine zcr (fst:=[]) (cap:=[.ptr z 0]) (B:=frZ (z9y n t R deep)) (by omega) h5 (by simp[sumL]; omega) (by rw[flat_frL]; simp[z9y,sumL]) (fun G6 ops6 K' h6 k6 l6 hk=>?_) fun G6 h6 k6=>?_
 ·rw[flat_frL] at hk
  exact zvm hna ht (k6.cells hze z5) hze (k6.cells hPe q5) hPe h6 l6 hk
 have z6:=k6.cells hze z5
 have q6:=k6.cells hPe q5
 have p6:=k6.cells hPe p5
 simp[z6,p6]
 have hlB:(lpT deep (n.size - 1) (frZ (z9y n t R deep))).flat.length≤100:=by rw[z43]; split <;> simp[flat_frL,z9y,sumL]
 refine ztg ht hn q6 hPe h6 (by simp[sumL]; omega) fun G7 h7 k7=>?_
 have z7:=k7.cells hze z6
 have p7:=k7.cells hPe p6
 simp[z7,p7]
 repeat (refine⟨by omega,?_⟩)
 refine z63 (p:=t) (by omega) h7 (by simp[topL,sumL]; omega) fun G8 h8 k8=>?_
 have z8:=k8.cells hze z7
 have p8:=k8.cells hPe p7
 simp[z8,p8]
 repeat (refine⟨by omega,?_⟩)
 refine z3q (p:=t) (by omega) h8 (by simp[topL,sumL]; omega) fun G9 h9 k9=>?_
 have z9:=k9.cells hze z8
 have p9:=k9.cells hPe p8
 simp[z9,p9]
 refine zds h9 (by simp[topL,sumL]; omega) fun G10 h10 k10=>?_
 have z10:=k10.cells hze z9
 have p10:=k10.cells hPe p9
 simp[z10,p10]
 refine z63 (p:=t) (by omega) h10 (by simp[topL,sumL]; omega) fun G11 h11 k11=>?_
 simp
 refine k G11 ?_ (k0.trans (k1.trans (k2.trans (k3.trans (k4.trans (k5.trans (k6.trans (k7.trans (k8.trans (k9.trans (k10.trans k11)))))))))))
 unfold z9l
 rw[z1e,z1e,flat_frL,flat_frL]
 simpa using h11
theorem zx2 {z y sz sy f:Nat} {cap:List LV} {x:List Lo} {j:Int} (hn:-1000000≤n.at_∧n.at_≤1000000) (ht:-1000000≤t.at_∧t.at_≤1000000) (hz:G[z]?=some (.cells [.ptr P 0] sz)) (hze:z≠e) (hy:G[y]?=some (.cells [.fn (.func f) [] cap] sy)) (hye:y≠e) (hP:G[P]?=some (.cells (prS e d a b n t R) st)) (hPe:P≠e) (h:EmH G e ops deep) (hl:ops.length≤900001)
  (limb:∀ (G1:z03) (ops1:List Lo) (K':LV→z03→Prop),EmH G1 e ops1 deep→Kp e G G1→ops1.length≤900010→(∀ G2,EmH G2 e (ops1++x) deep→Kp e G1 G2→K' (.tup []) G2)→z0k Tryz.prog (.fn f) (.i j::cap) G1 K')
  (k:∀ G',EmH G' e (ops++(zb6 n t R j++x)) deep→Kp e G G'→K (.tup []) G'):z0k Tryz.prog (.fn 180) [.i j,.ptr z 0,.ptr y 0] G K:=by
 refine z01 r_montgomery_product_less_1 k_montgomery_product_less_1 (by simp) ?_
 unfold prS at hP
 simp[z21,hz,hP]
 refine z3q (p:=t) (by omega) h (by omega) fun G1 h1 k1=>?_
 have z1:=k1.cells hze hz
 have y1:=k1.cells hye hy
 have p1:=k1.cells hPe hP
 simp[z1,p1]
 refine z3q (p:=n) (by omega) h1 (by simp; omega) fun G2 h2 k2=>?_
 have z2:=k2.cells hze z1
 have y2:=k2.cells hye y1
 have p2:=k2.cells hPe p1
 simp[z2,p2]
 refine za1 h2 (by simp; omega) fun G3 h3 k3=>?_
 have y3:=k3.cells hye y2
 simp[y3]
 refine limb G3 _ _ h3 (k1.trans (k2.trans k3)) (by simp; omega) fun G4 h4 k4=>?_
 simp
 refine k G4 (by simpa [zb6] using h4) (k1.trans (k2.trans (k3.trans k4)))
theorem zph {f:Nat} {cap:List LV} {x:List Lo} (hx:x.length≤10) (hd:0≤deep∧deep≤50) (hna:-1000000≤n.at_∧n.at_≤1000000) (ht:-1000000≤t.at_∧t.at_≤1000000) (hP:G[P]?=some (.cells (prS e d a b n t R) st)) (hPe:P≠e) (h:EmH G e ops deep) (hl:ops.length≤800000)
  (limb:∀ (G1:z03) (ops1:List Lo) (K':LV→z03→Prop),EmH G1 e ops1 (deep+1)→Kp e G G1→ops1.length≤900010→(∀ G2,EmH G2 e (ops1++x) (deep+1)→Kp e G1 G2→K' (.tup []) G2)→z0k Tryz.prog (.fn f) (.i deep::cap) G1 K')
  (k:∀ G',EmH G' e (ops++(z9n n t n.size R deep x).flat) deep→Kp e G G'→K (.tup []) G'):z0k Tryz.prog (.fn 138) [.ptr P 0,.fn (.func f) [] cap] G K:=by
 refine z01 r_montgomery_product_less k_montgomery_product_less (by simp) ?_
 have hQ:=hP
 unfold prS at hP
 have lP:=(List.getElem?_eq_some_iff.1 hP).1
 have le:e < G.length:=by obtain⟨_,_,h,_⟩:=id h; exact (List.getElem?_eq_some_iff.1 h).1
 have z0:(G++[LObj.cells [.ptr P 0] 0,LObj.cells [.fn (.func f) [] cap] 0])[G.length]?=some (.cells [.ptr P 0] 0):=by simp
 have y0:(G++[LObj.cells [.ptr P 0] 0,LObj.cells [.fn (.func f) [] cap] 0])[G.length+1]?=some (.cells [.fn (.func f) [] cap] 0):=by simp
 have q0:(G++[LObj.cells [.ptr P 0] 0,LObj.cells [.fn (.func f) [] cap] 0])[P]?=_:=(oldP lP).trans hQ
 have p0:(G++[LObj.cells [.ptr P 0] 0,LObj.cells [.fn (.func f) [] cap] 0])[P]?=_:=(oldP lP).trans hP
 have h0:=h.app [LObj.cells [.ptr P 0] 0,LObj.cells [.fn (.func f) [] cap] 0]
 have k0:=Kp.app' e G [LObj.cells [.ptr P 0] 0,LObj.cells [.fn (.func f) [] cap] 0]
 have hze:G.length≠e:=by omega
 have hye:G.length+1≠e:=by omega
 simp[z2f,↓oldP lP,hP]
 generalize G++[LObj.cells [.ptr P 0] 0,LObj.cells [.fn (.func f) [] cap] 0]=G0 at *
 generalize G.length+1=y at *
 generalize G.length=z at *
 refine z6v h0 (by omega) fun G1 h1 k1=>?_
 have z1:=k1.cells hze z0
 have y1:=k1.cells hye y0
 have q1:=k1.cells hPe q0
 have p1:=k1.cells hPe p0
 simp[z1,p1]
 refine zcr (fst:=[]) (cap:=[.ptr z 0,.ptr y 0]) (B:=frZ (zb6 n t R deep++x)) (by omega) h1 (by simp; omega) (by rw[flat_frL]; simp[zb6]; omega) (fun G3 ops3 K' h3 k3 l3 hk=>?_) fun G5 h5 k5=>?_
 ·rw[flat_frL] at hk
  exact zx2 hna ht (k3.cells hze z1) hze (k3.cells hye y1) hye (k3.cells hPe q1) hPe h3 l3 (fun G4 ops4 K4 h4 k4 l4 hk4=>limb G4 ops4 K4 h4 (k0.trans (k1.trans (k3.trans k4))) l4 hk4) hk
 simp
 refine k G5 ?_ (k0.trans (k1.trans k5))
 unfold z9n
 rw[z1e,flat_frL]
 simpa using h5
theorem last_any (hd:0≤deep∧deep≤50) (hda:-1000000≤d.at_∧d.at_≤1000000) (hna:-1000000≤n.at_∧n.at_≤1000000) (ht:-1000000≤t.at_∧t.at_≤1000000) (hn:0≤n.size∧n.size≤1000000) (hP:G[P]?=some (.cells (prS e d a b n t R) st)) (hPe:P≠e) (h:EmH G e ops deep) (hl:ops.length≤700000)
  (k:∀ G',EmH G' e (ops++(zeq d n t n.size R deep).flat) deep→Kp e G G'→K (.tup []) G'):z0k Tryz.prog (.fn 77) [.ptr P 0] G K:=by
 refine z01 r_montgomery_product_last k_montgomery_product_last (by simp) ?_
 have hQ:=hP
 unfold prS at hP
 have lP:=(List.getElem?_eq_some_iff.1 hP).1
 have le:e < G.length:=by obtain⟨_,_,h,_⟩:=id h; exact (List.getElem?_eq_some_iff.1 h).1
 have z0:(G++[LObj.cells [.ptr P 0] 0])[G.length]?=some (.cells [.ptr P 0] 0):=List.getElem?_concat_length
 have q0:(G++[LObj.cells [.ptr P 0] 0])[P]?=_:=(oldP lP).trans hQ
 have p0:(G++[LObj.cells [.ptr P 0] 0])[P]?=_:=(oldP lP).trans hP
 have h0:=h.app [LObj.cells [.ptr P 0] 0]
 have k0:=Kp.app' e G [LObj.cells [.ptr P 0] 0]
 have hze:G.length≠e:=by omega
 simp[z2i,↓oldP lP,hP]
 generalize G++[LObj.cells [.ptr P 0] 0]=G0 at *
 generalize G.length=z at *
 have hL:∀ x:List Lo,x.length≤10→(z9n n t n.size R deep x).flat.length≤100:=fun x hx=>by
  unfold z9n; rw[z1e,flat_frL,z43]; split <;> simp[flat_frL,zb6]; omega
 refine zph (x:=[]) (by simp) hd hna ht q0 hPe h0 (by omega) (fun G1 ops1 K' h1 k1 l1 hk=>?_) fun G1 h1 k1=>?_
 ·refine z01 r_montgomery_product_last_1 k_montgomery_product_last_1 (by simp) ?_
  simp[z20]
  exact hk G1 (by simpa using h1) (Kp.refl _ _)
 have z1:=k1.cells hze z0
 have q1:=k1.cells hPe q0
 have p1:=k1.cells hPe p0
 have l1:=hL [] (by simp)
 simp[z1,p1]
 refine z3q (p:=t) (by omega) h1 (by simp; omega) fun G2 h2 k2=>?_
 have z2:=k2.cells hze z1
 have q2:=k2.cells hPe q1
 have p2:=k2.cells hPe p1
 simp[z2,p2]
 refine za1 h2 (by simp; omega) fun G3 h3 k3=>?_
 have z3:=k3.cells hze z2
 have q3:=k3.cells hPe q2
 have p3:=k3.cells hPe p2
 simp[z3,p3]
 refine zph (x:=[cSel (R+6) (R+10) (R+7) (R+6),cSt d deep 0 (R+6)]) (by simp) hd hna ht q3 hPe h3 (by simp; omega) (fun G4 ops4 K' h4 k4 l4 hk=>?_) fun G4 h4 k4=>?_
 ·refine z01 r_montgomery_product_last_2 k_montgomery_product_last_2 (by simp) ?_
  have z4:=k4.cells hze z3
  have p4:=k4.cells hPe p3
  simp[z1w,z4,p4]
  refine Sel_any h4 (by omega) fun G5 h5 k5=>?_
  have z5:=k5.cells hze z4
  have p5:=k5.cells hPe p4
  simp[z5,p5]
  refine z63 (p:=d) (by omega) h5 (by simp; omega) fun G6 h6 k6=>?_
  simp
  exact hk G6 (by simpa using h6) (k5.trans k6)
 simp
 refine k G4 ?_ (k0.trans (k1.trans (k2.trans (k3.trans k4))))
 unfold zeq
 rw[z1e,z1e,flat_frL]
 simpa using h4
end put
end Go.Proofs.YtodjkjimaheggaaGreat
