/- A product through the radix: the code for places. -/
import Derived.Test.YtodjkjimaheggaaGreatFnMj
namespace Go.Proofs.YtodjkjimaheggaaGreat
open Go.Sv
set_option linter.unusedSimpArgs false
set_option maxRecDepth 10000
def zce (k:Int):Int:=if k < 1 then 0 else k+2
def ziw (deep regs:Int):Bool:=decide (0≤deep) && (decide (deep≤6) && (decide (16≤regs) && decide (regs≤50)))
theorem z6o {G:z03} {K:LV→z03→Prop} {n:Int} (hn:n≤1000000000) (k:K (.i (zce n)) G):z0k Tryz.prog (.fn 21) [.i n] G K:=by
 refine z01 r_montgomery_Need k_montgomery_Need (by simp) ?_
 unfold zce at k
 by_cases g:n < 1
 ·rw[if_pos g] at k
  simpa [z2t,g] using k
 ·rw[if_neg g] at k
  simp[z2t,g]
  exact⟨by omega,k⟩
theorem zak {G:z03} {K:LV→z03→Prop} {a b:Int} (k:K (.bool (ziw a b)) G):z0k Tryz.prog (.fn 67) [.i a,.i b] G K:=by
 refine z01 r_montgomery_Allowed k_montgomery_Allowed (by simp) ?_
 unfold ziw at k
 by_cases g1:0≤a <;> by_cases g2:a≤6 <;> by_cases g3:16≤b <;> by_cases g4:b≤50 <;> simpa [z3w,g1,g2,g3,g4] using k
theorem zhs {G:z03} {K:LV→z03→Prop} {p:Pc} {at_ size:Int} (h:-1000000000≤p.at_+at_∧p.at_+at_≤1000000000) (k:K (.agg (Pc.f ⟨p.buf,p.at_+at_,size⟩)) (G++[LObj.cells p.f 0,LObj.cells [.i p.buf,.i (p.at_+at_),.i size] 1])):z0k Tryz.prog (.fn 68) [.agg p.f,.i at_,.i size] G K:=by
 refine z01 r_expand_Part k_expand_Part (by simp) ?_
 simp[z8e,Pc.f]
 exact⟨by omega,by simpa [Pc.f] using k⟩
theorem Loop_len {G:z03} {K:LV→z03→Prop} {e:Nat} {ops:List Lo} {deep times:Int} {f:Nat} {fst cap:List LV} {B:Fr Lo} (hd:0≤deep∧deep≤100) (h:EmH G e ops deep) (hl:ops.length≤900000) (hB:B.flat.length≤50000)
  (hb:∀ (G1:z03) (ops1:List Lo) (K':LV→z03→Prop),EmH G1 e ops1 (deep+1)→Kp e G G1→ops1.length≤ops.length+1→(∀ G2,EmH G2 e (ops1++B.flat) (deep+1)→Kp e G1 G2→K' (.tup []) G2)→z0k Tryz.prog (.fn f) (fst++.i deep::cap) G1 K')
  (k:∀ G',EmH G' e (ops++(lpT deep times B).flat) deep→Kp e G G'→K (.tup []) G'):z0k Tryz.prog (.fn 73) [.ptr e 0,.i times,.fn (.func f) fst cap] G K:=by
 refine zpe hd h (by omega) (fun hlt=>k G (by rw[z43,if_pos hlt,List.append_nil]; exact h) (Kp.refl _ _)) fun hge G1 h1 k1=>hb G1 _ _ h1 k1 (by simp) fun G2 h2 k2=>⟨_,by simp; omega,h2,fun G3 h3 k3=>k G3 ?_ (k1.trans (k2.trans k3))⟩
 rw[z43,if_neg (by omega)]
 simpa using h3
section put
variable {G : z03} {K : LV → z03 → Prop} {e P st : Nat} {ops : List Lo} {deep R : Int} {d a b n t : Pc}
theorem Fill_any {p:Pc} {x:Int} (hd:0≤deep∧deep≤50) (hp:-1000000≤p.at_∧p.at_≤1000000) (h:EmH G e ops deep) (hl:ops.length≤800000)
  (k:∀ G',EmH G' e (ops++(zer p x deep).flat) deep→Kp e G G'→K (.tup []) G'):z0k Tryz.prog (.fn 72) [.ptr e 0,.agg p.f,.i x] G K:=by
 refine z01 r_expand_Emit_Fill k_expand_Emit_Fill (by simp) ?_
 have le:e < G.length:=by obtain⟨_,_,h,_⟩:=id h; exact (List.getElem?_eq_some_iff.1 h).1
 have z0:(G++[LObj.cells [.ptr e 0] 0,LObj.cells p.f 0,LObj.cells [.i x] 0])[G.length]?=some (.cells [.ptr e 0] 0):=by simp
 have y0:(G++[LObj.cells [.ptr e 0] 0,LObj.cells p.f 0,LObj.cells [.i x] 0])[G.length+1]?=some (.cells p.f 0):=by simp
 have x0:(G++[LObj.cells [.ptr e 0] 0,LObj.cells p.f 0,LObj.cells [.i x] 0])[G.length+2]?=some (.cells [.i x] 0):=by simp
 have h0:=h.app [LObj.cells [.ptr e 0] 0,LObj.cells p.f 0,LObj.cells [.i x] 0]
 have k0:=Kp.app' e G [LObj.cells [.ptr e 0] 0,LObj.cells p.f 0,LObj.cells [.i x] 0]
 have hze:G.length≠e:=by omega
 have hye:G.length+1≠e:=by omega
 have hxe:G.length+2≠e:=by omega
 unfold Pc.f at y0 x0 z0 h0 k0
 simp[z4l,Pc.f]
 generalize G++[LObj.cells [.ptr e 0] 0,LObj.cells [.i p.buf,.i p.at_,.i p.size] 0,LObj.cells [.i x] 0]=G0 at *
 generalize G.length+2=w at *
 generalize G.length+1=y at *
 generalize G.length=z at *
 refine zcr (fst:=[]) (cap:=[.ptr z 0,.ptr y 0,.ptr w 0]) (B:=frZ [cSt p deep 0 x]) (by omega) h0 (by omega) (by rw[flat_frL]; simp) (fun G3 ops3 K' h3 k3 l3 hk=>?_) fun G5 h5 k5=>?_
 ·rw[flat_frL] at hk
  refine z01 r_expand_Emit_Fill_1 k_expand_Emit_Fill_1 (by simp) ?_
  have z3:=k3.cells hze z0
  have y3:=k3.cells hye y0
  have x3:=k3.cells hxe x0
  simp[z3y,z3,y3,x3]
  refine z63 (p:=p) (by omega) h3 (by omega) fun G4 h4 k4=>?_
  simp
  exact hk G4 h4 k4
 simp
 exact k G5 h5 (k0.trans k5)
theorem zvd {z sz:Nat} {i:Int} (hd:0≤deep∧deep≤50) (ha:-1000000≤a.at_∧a.at_≤1000000) (hb:-1000000≤b.at_∧b.at_≤1000000) (hna:-1000000≤n.at_∧n.at_≤1000000) (ht:-1000000≤t.at_∧t.at_≤1000000) (hn:0≤n.size∧n.size≤1000000) (hz:G[z]?=some (.cells [.ptr P 0] sz)) (hze:z≠e) (hP:G[P]?=some (.cells (prS e d a b n t R) st)) (hPe:P≠e) (h:EmH G e ops deep) (hl:ops.length≤700000)
  (k:∀ G',EmH G' e (ops++((z4g a b t n.size R deep i).cat (z9l n t n.size R deep)).flat) deep→Kp e G G'→K (.tup []) G'):z0k Tryz.prog (.fn 74) [.i i,.ptr z 0] G K:=by
 refine z01 r_montgomery_Into_1 k_montgomery_Into_1 (by simp) ?_
 simp[z4e,hz]
 have hL:(z4g a b t n.size R deep i).flat.length≤100:=by
  unfold z4g; rw[z1e,z1e,flat_frL,z43]; split <;> simp[flat_frL,z4t,sumL,topL]
 refine ztn hd ha hb ht hn hP hPe h (by omega) fun G1 h1 k1=>?_
 have z1:=k1.cells hze hz
 have q1:=k1.cells hPe hP
 simp[z1]
 refine down_any hd hna ht hn q1 hPe h1 (by simp; omega) fun G2 h2 k2=>?_
 simp
 refine k G2 ?_ (k1.trans k2)
 rw[z1e]
 simpa using h2
end put
def za7 (d a b n w:Pc) (deep R:Int):Bool:=decide (1≤n.size) && (decide (d.size=n.size) && (decide (a.size=n.size) && (decide (b.size=n.size) && (decide (zce n.size≤w.size) && ziw deep R))))
noncomputable def zng (d a b n w:Pc) (deep R:Int):List Lo:=if za7 d a b n w deep R=true then (zhf d a b n ⟨w.buf,w.at_,zce n.size⟩ n.size R deep).flat else []
def hpM (d a b n w:Pc) (deep R:Int) (i st:Nat):z03 :=
 [.cells [.i d.buf,.i d.at_,.i n.size] 0,.cells [.i a.buf,.i a.at_,.i n.size] 0,.cells [.i b.buf,.i b.at_,.i n.size] 0,.cells [.i n.buf,.i n.at_,.i n.size] 0,.cells [.i w.buf,.i w.at_,.i w.size] 0,.cells [.nilSl,.i deep] 0,.cells [.ptr 9 0] 1,
  .cells [.i w.buf,.i w.at_,.i w.size] 0,.cells [.i w.buf,.i w.at_,.i (zce n.size)] 1,
  .cells [.ptr 5 0,.i d.buf,.i d.at_,.i n.size,.i a.buf,.i a.at_,.i n.size,.i b.buf,.i b.at_,.i n.size,.i n.buf,.i n.at_,.i n.size,.i w.buf,.i w.at_,.i (zce n.size),.i (if 0 < i then R else 0),.i (if 1 < i then R+1 else 0),.i (if 2 < i then R+2 else 0),.i (if 3 < i then R+3 else 0),.i (if 4 < i then R+4 else 0),.i (if 5 < i then R+5 else 0),.i (if 6 < i then R+6 else 0),.i (if 7 < i then R+7 else 0),.i (if 8 < i then R+8 else 0),.i (if 9 < i then R+9 else 0),.i (if 10 < i then R+10 else 0)] st,
  .dyn [.ptr 9 16,.ptr 9 17,.ptr 9 18,.ptr 9 19,.ptr 9 20,.ptr 9 21,.ptr 9 22,.ptr 9 23,.ptr 9 24,.ptr 9 25,.ptr 9 26] 11 1 0 0]
theorem zcj {d a b n w:Pc} {deep R:Int} (hda:-1000000≤d.at_∧d.at_≤1000000) (ha:-1000000≤a.at_∧a.at_≤1000000) (hb:-1000000≤b.at_∧b.at_≤1000000) (hna:-1000000≤n.at_∧n.at_≤1000000) (hw:-1000000≤w.at_∧w.at_≤1000000) (hn:n.size≤1000000) :
  FnV Tryz.prog 23 [.agg d.f,.agg a.f,.agg b.f,.agg n.f,.agg w.f,.i deep,.i R] (.lst (loC (zng d a b n w deep R)) (zng d a b n w deep R).length 8):=by
 refine FnV.mk (by simp[LV.dat,z0s]) (z01 r_montgomery_Into k_montgomery_Into (by simp) ?_)
 have bad:za7 d a b n w deep R=false→zng d a b n w deep R=[]:=fun h=>by unfold zng; rw[h]; simp
 by_cases g1:n.size < 1
 ·rw[bad (by simp[za7]; omega)]; simp[z1j,Pc.f,g1,loC]
 by_cases g2:d.size=n.size
 rotate_left
 ·rw[bad (by simp[za7]; omega)]; simp[z1j,Pc.f,g1,g2,loC]
 by_cases g3:a.size=n.size
 rotate_left
 ·rw[bad (by simp[za7]; omega)]; simp[z1j,Pc.f,g1,g2,g3,loC]
 by_cases g4:b.size=n.size
 rotate_left
 ·rw[bad (by simp[za7]; omega)]; simp[z1j,Pc.f,g1,g2,g3,g4,loC]
 simp[z1j,Pc.f,g1,g2,g3,g4]
 refine z6o (by omega) ?_
 by_cases g5:w.size < zce n.size
 ·rw[bad (by simp[za7]; omega)]; simp[g5,loC]
 simp[g5]
 refine zak ?_
 by_cases g6:ziw deep R=true
 rotate_left
 ·rw[bad (by simp[za7,g6])]; simp[g6,loC]
 simp[g6]
 refine z6o (by omega) ?_
 simp
 refine zhs (p:=w) (by omega) ?_
 simp[Pc.f]
 have hR:16≤R∧R≤50∧0≤deep∧deep≤6:=by simp[ziw] at g6; omega
 refine z0m (fun ρ D G' N=>∃ i st:Nat,D=[]∧N+i=11∧lk ρ 6=.i R∧lk ρ 10=.ptr 3 0∧lk ρ 15=.i n.size∧lk ρ 16=.ptr 6 0∧lk ρ 100=.dy 10 0∧lk ρ 101=.i 11∧lk ρ 102=.i i∧G'=hpM d a b n w deep R i st) (N:=11)
  ⟨0,0,rfl,by omega,by simp,by simp,by simp,by simp,by simp,by simp,by simp,by simp[hpM]⟩ ?_
 rintro N ρ D G5 ⟨i,st,rfl,hN,a6,a10,a15,a16,a100,a101,a102,rfl⟩ Nx hNx
 by_cases g:i < 11
 ·have hi:i=0∨i=1∨i=2∨i=3∨i=4∨i=5∨i=6∨i=7∨i=8∨i=9∨i=10:=by omega
  rcases hi with rfl | rfl | rfl | rfl | rfl | rfl | rfl | rfl | rfl | rfl | rfl
  all_goals simp[a6,a10,a15,a16,a100,a101,a102,hpM]
  ·try (refine⟨by omega,?_⟩)
   exact hNx _ _ _ ⟨N - 1,by omega,1,st+1,rfl,by omega,by simp[a6],by simp[a10],by simp[a15],by simp[a16],by simp[a100],by simp[a101],by simp,by simp[hpM]⟩
  ·try (refine⟨by omega,?_⟩)
   exact hNx _ _ _ ⟨N - 1,by omega,2,st+1,rfl,by omega,by simp[a6],by simp[a10],by simp[a15],by simp[a16],by simp[a100],by simp[a101],by simp,by simp[hpM]⟩
  ·try (refine⟨by omega,?_⟩)
   exact hNx _ _ _ ⟨N - 1,by omega,3,st+1,rfl,by omega,by simp[a6],by simp[a10],by simp[a15],by simp[a16],by simp[a100],by simp[a101],by simp,by simp[hpM]⟩
  ·try (refine⟨by omega,?_⟩)
   exact hNx _ _ _ ⟨N - 1,by omega,4,st+1,rfl,by omega,by simp[a6],by simp[a10],by simp[a15],by simp[a16],by simp[a100],by simp[a101],by simp,by simp[hpM]⟩
  ·try (refine⟨by omega,?_⟩)
   exact hNx _ _ _ ⟨N - 1,by omega,5,st+1,rfl,by omega,by simp[a6],by simp[a10],by simp[a15],by simp[a16],by simp[a100],by simp[a101],by simp,by simp[hpM]⟩
  ·try (refine⟨by omega,?_⟩)
   exact hNx _ _ _ ⟨N - 1,by omega,6,st+1,rfl,by omega,by simp[a6],by simp[a10],by simp[a15],by simp[a16],by simp[a100],by simp[a101],by simp,by simp[hpM]⟩
  ·try (refine⟨by omega,?_⟩)
   exact hNx _ _ _ ⟨N - 1,by omega,7,st+1,rfl,by omega,by simp[a6],by simp[a10],by simp[a15],by simp[a16],by simp[a100],by simp[a101],by simp,by simp[hpM]⟩
  ·try (refine⟨by omega,?_⟩)
   exact hNx _ _ _ ⟨N - 1,by omega,8,st+1,rfl,by omega,by simp[a6],by simp[a10],by simp[a15],by simp[a16],by simp[a100],by simp[a101],by simp,by simp[hpM]⟩
  ·try (refine⟨by omega,?_⟩)
   exact hNx _ _ _ ⟨N - 1,by omega,9,st+1,rfl,by omega,by simp[a6],by simp[a10],by simp[a15],by simp[a16],by simp[a100],by simp[a101],by simp,by simp[hpM]⟩
  ·try (refine⟨by omega,?_⟩)
   exact hNx _ _ _ ⟨N - 1,by omega,10,st+1,rfl,by omega,by simp[a6],by simp[a10],by simp[a15],by simp[a16],by simp[a100],by simp[a101],by simp,by simp[hpM]⟩
  ·try (refine⟨by omega,?_⟩)
   exact hNx _ _ _ ⟨N - 1,by omega,11,st+1,rfl,by omega,by simp[a6],by simp[a10],by simp[a15],by simp[a16],by simp[a100],by simp[a101],by simp,by simp[hpM]⟩
 ·have hi:i=11:=by omega
  subst hi
  have q0:(hpM d a b n w deep R 11 st)[9]?=some (.cells (prS 5 d a b n ⟨w.buf,w.at_,zce n.size⟩ R) st):=by simp[hpM,prS,g2,g3,g4]
  have e0:EmH (hpM d a b n w deep R 11 st) 5 [] deep:=⟨0,.nilSl,rfl,StD.nil⟩
  have z0:(hpM d a b n w deep R 11 st)[6]?=some (.cells [.ptr 9 0] 1):=rfl
  have n0:(hpM d a b n w deep R 11 st)[3]?=some (.cells [.i n.buf,.i n.at_,.i n.size] 0):=rfl
  generalize hpM d a b n w deep R 11 st=G0 at *
  generalize ht:(⟨w.buf,w.at_,zce n.size⟩:Pc)=t at *
  have hta:-1000000≤t.at_∧t.at_≤1000000:=by rw[←ht]; exact hw
  have hns:0≤n.size∧n.size≤1000000:=by omega
  have p0:=q0
  unfold prS at p0
  simp[a6,a10,a15,a16,a100,a101,a102,z0,p0]
  refine z6v e0 (by simp) fun G1 h1 k1=>?_
  have z1:=k1.cells (by decide) z0
  have n1:=k1.cells (by decide) n0
  have q1:=k1.cells (by decide) q0
  have p1:=k1.cells (by decide) p0
  simp[a6,a10,a15,a16,z1,p1,n1]
  refine z3q (p:=n) (by omega) h1 (by simp) fun G2 h2 k2=>?_
  have z2:=k2.cells (by decide) z1
  have q2:=k2.cells (by decide) q1
  have p2:=k2.cells (by decide) p1
  simp[a6,a10,a15,a16,z2,p2]
  refine zsa (by omega) h2 (by simp) fun G3 h3 k3=>?_
  have z3:=k3.cells (by decide) z2
  have q3:=k3.cells (by decide) q2
  have p3:=k3.cells (by decide) p2
  simp[a6,a10,a15,a16,z3,p3]
  have hL0:(z90 (R+10) (R+1)).length≤100:=by rw[z90]; simp[zeo,zgq]
  refine Fill_any (p:=t) (by omega) hta h3 (by simp; omega) fun G4 h4 k4=>?_
  have z4:=k4.cells (by decide) z3
  have q4:=k4.cells (by decide) q3
  have p4:=k4.cells (by decide) p3
  have hL1:(zer t R deep).flat.length≤100:=by unfold zer; rw[z43]; split <;> simp[flat_frL]
  simp[a6,a10,a15,a16,z4,p4]
  have hL2:(z4g a b t n.size R (deep+1) deep).flat.length≤100:=by
   unfold z4g; rw[z1e,z1e,flat_frL,z43]; split <;> simp[flat_frL,z4t,sumL,topL]
  have hL3:(z9l n t n.size R (deep+1)).flat.length≤100:=by
   unfold z9l; rw[z1e,z1e,flat_frL,z43]; split <;> simp[flat_frL,z9y,sumL,topL]
  refine Loop_len (fst:=[]) (cap:=[.ptr 6 0]) (B:=(z4g a b t n.size R (deep+1) deep).cat (z9l n t n.size R (deep+1))) (by omega) h4 (by simp; omega) (by rw[z1e]; simp; omega) (fun G5 ops5 K' h5 k5 l5 hk=>?_) fun G5 h5 k5=>?_
  ·exact zvd (deep:=deep+1) (by omega) ha hb hna hta hns (k5.cells (by decide) z4) (by decide) (k5.cells (by decide) q4) (by decide) h5 (by simp at l5; omega) hk
  have z5:=k5.cells (by decide) z4
  have q5:=k5.cells (by decide) q4
  have hL4:(lpT deep n.size ((z4g a b t n.size R (deep+1) deep).cat (z9l n t n.size R (deep+1)))).flat.length≤300:=by
   rw[z43]; split
   ·simp
   ·rw[z1e]; simp; omega
  simp[a6,a10,a15,a16,z5]
  refine last_any (by omega) hda hna hta hns q5 (by decide) h5 (by simp; omega) fun G6 h6 k6=>?_
  have z6:=k6.cells (by decide) z5
  have q6:=k6.cells (by decide) q5
  unfold prS at q6
  have hC:zng d a b n w deep R=[cK R 0,cLd (R+10) n (-1) 0]++z90 (R+10) (R+1)++((zer t R deep).flat++((lpT deep n.size ((z4g a b t n.size R (deep+1) deep).cat (z9l n t n.size R (deep+1)))).flat++(zeq d n t n.size R deep).flat)):=by
   unfold zng
   rw[if_pos (by simp[za7,g2,g3,g4,g6]; omega),ht]
   unfold zhf
   rw[z1e,z1e,z1e,flat_frL]
  obtain⟨st6,v,e1,e2⟩:=h6
  simp[-borR,a6,a10,a15,a16,z6,q6,e1]
  rw[hC]
  simpa using borR_lst e2.bor
end Go.Proofs.YtodjkjimaheggaaGreat
