/- Naturals of the program: what the functions come to. -/
import Derived.Test.YtnbnhnjffiagmaaGreatFnG
import Derived.Test.YtnbnhnjffiagmaaGreatSvG3
namespace Go.Proofs.YtnbnhnjffiagmaaGreat
open Go.Sv
set_option linter.unusedSimpArgs false
def c_nat_pairs:LC:=(.seq (.ops [.z 3 (.box (.t 0)),.z 4 (.box (.t 1)),.z 5 (.box (.t 2)),.z 6 (.move (.c .nilFn))]) (.seq (.ops [.z 7 (.alloc [.nilFn]),⟨none,none,.store 1 (.t 7) (.c (.fn (.func 128) [] []))⟩]) (.seq (.ops [.z 8 (.mkFunc 129 [] [.t 5,.t 7,.t 3,.t 4]),.m 6 8]) .ret)))
theorem r_nat_pairs:resFn Tryz.prog 87=some ⟨9,c_nat_pairs.r,[.tmp 6]⟩:=by kernel_rfl
theorem k_nat_pairs:c_nat_pairs.ok=true:=by kernel_rfl
def c_nat_pairs_1:LC:=(.seq (.ops [.z 4 (.move (.c (.u 0)))]) (.seq (.seq (.ops [.m 5 1,.m 6 0,.z 7 (.lenSl (.t 6)),.z 8 (.bin .lss false 3 (.t 5) (.t 7))]) (.cond (.t 8) (.seq (.ops [.m 9 0,.m 10 1,.z 11 (.ixAddr 1 (.t 9) (.t 10)),.l 12 11,.m 4 12]) .ret) .skip)) (.seq (.ops [.z 4 (.move (.c (.u 0)))]) .ret)))
theorem r_nat_pairs_1:resFn Tryz.prog 128=some ⟨13,c_nat_pairs_1.r,[.tmp 4]⟩:=by kernel_rfl
theorem k_nat_pairs_1:c_nat_pairs_1.ok=true:=by kernel_rfl
def c_nat_pairs_2:LC:=(.seq (.ops [.l 7 1,.z 8 (.move (.c (.i 0)))]) (.block 0 (.loop (.seq (.ops [.z 9 (.bin .lss false 3 (.t 8) (.t 7))]) (.seq (.cond (.t 9) .skip (.exit 0)) (.seq (.block 1 (.seq (.ops [.m 10 8,.m 6 10]) (.seq (.draw [(.m 11 0,[]),(.l 12 2,[]),(.l 13 3,[]),(.m 14 6,[]),(.l 16 2,[]),(.l 17 4,[]),(.m 18 6,[]),(.z 15 (.callV (.t 12) [.t 13,.t 14]),[(.l 17 4,false),(.l 16 2,false)]),(.z 19 (.callV (.t 16) [.t 17,.t 18]),[]),(.z 20 (.callV (.t 11) [.t 15,.t 19]),[]),(.z 21 (.un .not (.t 20)),[])]) (.cond (.t 21) .ret .skip)))) (.ops [.z 22 (.bin .add true 3 (.t 8) (.c (.i 1))),.m 8 22])))))))
theorem r_nat_pairs_2:resFn Tryz.prog 129=some ⟨23,c_nat_pairs_2.r,[]⟩:=by kernel_rfl
theorem k_nat_pairs_2:c_nat_pairs_2.ok=true:=by kernel_rfl
def c_nat_Compare:LC:=(.seq (.ops [.z 4 (.move (.c (.i 0)))]) (.seq (.ops [.z 5 (.alloc [(.i 0)]),⟨none,none,.store 1 (.t 5) (.c (.i 0))⟩]) (.seq (.seq (.ops [.m 8 0,.m 9 1,.m 10 0,.z 11 (.lenSl (.t 10)),.m 12 1,.z 13 (.lenSl (.t 12)),.z 14 (.maxi true (.t 11) (.t 13)),.z 15 (.callV (.c (.fn (.func 87) [] [])) [.t 8,.t 9,.t 14])]) (.block 0 (.rangeF (.t 15) [16,17] (.seq (.ops [.m 6 16]) (.ops [.m 7 17])) (.block 1 (.block 2 (.seq (.ops [.m 19 6,.m 20 7,.z 21 (.bin .lss false 28 (.t 19) (.t 20)),.m 18 21]) (.cond (.t 18) (.ops [⟨none,none,.store 1 (.t 5) (.c (.i (-1)))⟩]) (.seq (.ops [.m 23 6,.m 24 7,.z 25 (.bin .gtr false 28 (.t 23) (.t 24)),.m 22 25]) (.cond (.t 22) (.ops [⟨none,none,.store 1 (.t 5) (.c (.i 1))⟩]) .skip))))))))) (.seq (.ops [.l 26 5,.m 4 26]) .ret))))
theorem r_nat_Compare:resFn Tryz.prog 53=some ⟨27,c_nat_Compare.r,[.tmp 4]⟩:=by kernel_rfl
theorem k_nat_Compare:c_nat_Compare.ok=true:=by kernel_rfl
def c_nat_Add:LC:=(.seq (.ops [.z 4 (.move (.c .nilSl))]) (.seq (.ops [.z 5 (.alloc [.nilSl])]) (.seq (.ops [.z 6 (.alloc [(.bool false)]),⟨none,none,.store 1 (.t 6) (.c (.bool false))⟩]) (.seq (.seq (.ops [.m 10 0,.m 11 1,.m 12 0,.z 13 (.lenSl (.t 12)),.m 14 1,.z 15 (.lenSl (.t 14)),.z 16 (.maxi true (.t 13) (.t 15)),.z 17 (.bin .add true 3 (.t 16) (.c (.i 1))),.z 18 (.callV (.c (.fn (.func 87) [] [])) [.t 10,.t 11,.t 17])]) (.block 0 (.rangeF (.t 18) [19,20] (.seq (.ops [.m 7 19]) (.ops [.m 8 20])) (.block 1 (.seq (.ops [.z 9 (.move (.c (.u 0)))]) (.seq (.ops [.m 22 7,.m 23 8,.l 24 6,.z 25 (.callV (.c (.fn (.func 141) [] [])) [.t 22,.t 23,.t 24]),.m 21 25,.z 26 (.extract 0 (.t 21)),.z 27 (.extract 1 (.t 21)),.m 9 26,⟨none,none,.store 1 (.t 6) (.t 27)⟩]) (.ops [.l 28 5,.m 29 9,.z 30 (.buildSl 1 1 [(.u 0)] [(0,1,.t 29)]),.z 31 (.appG 1 (.t 28) (.t 30)),⟨none,none,.store 1 (.t 5) (.t 31)⟩]))))))) (.seq (.ops [.l 32 5,.z 33 (.callV (.c (.fn (.func 42) [] [])) [.t 32]),.m 4 33]) .ret)))))
theorem r_nat_Add:resFn Tryz.prog 97=some ⟨34,c_nat_Add.r,[.tmp 4]⟩:=by kernel_rfl
theorem k_nat_Add:c_nat_Add.ok=true:=by kernel_rfl
def c_nat_Sub:LC:=(.seq (.ops [.z 4 (.move (.c .nilSl)),.z 5 (.move (.c (.i 0)))]) (.seq (.ops [.z 6 (.alloc [.nilSl])]) (.seq (.ops [.z 7 (.alloc [(.bool false)]),⟨none,none,.store 1 (.t 7) (.c (.bool false))⟩]) (.seq (.seq (.ops [.m 11 0,.m 12 1,.m 13 0,.z 14 (.lenSl (.t 13)),.m 15 1,.z 16 (.lenSl (.t 15)),.z 17 (.maxi true (.t 14) (.t 16)),.z 18 (.callV (.c (.fn (.func 87) [] [])) [.t 11,.t 12,.t 17])]) (.block 0 (.rangeF (.t 18) [19,20] (.seq (.ops [.m 8 19]) (.ops [.m 9 20])) (.block 1 (.seq (.ops [.z 10 (.move (.c (.u 0)))]) (.seq (.ops [.m 22 8,.m 23 9,.l 24 7,.z 25 (.callV (.c (.fn (.func 164) [] [])) [.t 22,.t 23,.t 24]),.m 21 25,.z 26 (.extract 0 (.t 21)),.z 27 (.extract 1 (.t 21)),.m 10 26,⟨none,none,.store 1 (.t 7) (.t 27)⟩]) (.ops [.l 28 6,.m 29 10,.z 30 (.buildSl 1 1 [(.u 0)] [(0,1,.t 29)]),.z 31 (.appG 1 (.t 28) (.t 30)),⟨none,none,.store 1 (.t 6) (.t 31)⟩]))))))) (.seq (.seq (.ops [.l 32 7]) (.cond (.t 32) (.seq (.ops [.z 4 (.move (.c .nilSl)),.z 5 (.move (.c (.i 2)))]) .ret) .skip)) (.seq (.ops [.l 33 6,.z 34 (.callV (.c (.fn (.func 42) [] [])) [.t 33]),.m 4 34,.z 5 (.move (.c (.i 0)))]) .ret))))))
theorem r_nat_Sub:resFn Tryz.prog 142=some ⟨35,c_nat_Sub.r,[.tmp 4,.tmp 5]⟩:=by kernel_rfl
theorem k_nat_Sub:c_nat_Sub.ok=true:=by kernel_rfl
theorem nat_at_ok (a:List UInt64) (i:Nat):FnS Tryz.prog 128 [LU a,.i i] (.u (a.getD i 0)) []:=by
 refine FnS.val rfl (call_body r_nat_pairs_1 k_nat_pairs_1 (by simp) ?_)
 by_cases h:i < a.length
 ·simp[c_nat_pairs_1,h]
 ·have h2:a[i]?=none:=by simp; omega
  simp[c_nat_pairs_1,h,h2]
def PairCap (pn pf pa pb:Nat) (m:Nat) (a b:List UInt64) (G:LHeap):Prop :=
 (∃ s,G[pn]?=some (.cells [.i m] s))∧(∃ s,G[pf]?=some (.cells [.fn (.func 128) [] []] s))∧(∃ s,G[pa]?=some (.cells [LU a] s))∧∃ s,G[pb]?=some (.cells [LU b] s)
theorem nat_pairs_iter (pn pf pa pb m:Nat) (a b:List UInt64) (hm:m≤2000000):IterS Tryz.prog 129 [] [.ptr pn 0,.ptr pf 0,.ptr pa 0,.ptr pb 0] (PairCap pn pf pa pb m a b) m (fun i=>[.u (a.getD i 0),.u (b.getD i 0)]):=by
 intro t J B G K hJ h0 hstep hend hbrk
 refine call_body r_nat_pairs_2 k_nat_pairs_2 (by simp) ?_
 obtain⟨⟨_,g1⟩,_⟩:=hJ 0 G h0
 simp[c_nat_pairs_2,g1]
 refine loop_nx (fun ρ D G N=>∃ i:Nat,D=[]∧N+i=m∧lk ρ 0=.fn (.yield t) [] []∧lk ρ 1=.ptr pn 0∧lk ρ 2=.ptr pf 0∧lk ρ 3=.ptr pa 0∧lk ρ 4=.ptr pb 0∧lk ρ 7=.i m∧lk ρ 8=.i i∧J i G) (N:=m) ⟨0,by simpa using h0⟩ ?_
 rintro N ρ D G ⟨i,rfl,hN,e0,e1,e2,e3,e4,e7,e8,hj⟩ Nx hNx
 obtain⟨⟨_,j1⟩,⟨_,j2⟩,⟨_,j3⟩,⟨_,j4⟩⟩:=hJ i G hj
 simp only[LU] at j3 j4
 by_cases hz:N=0
 ·have hi:i=m:=by omega
  subst hi
  simp[e7,e8]
  exact hend _ hj
 ·have hi:i < m:=by omega
  simp[e0,e2,e3,e4,e7,e8,hi,j2,j3,j4]
  refine CallL_F (nat_at_ok a i) (by simp) ?_
  simp[e2,e4,j2,j4]
  refine CallL_F (nat_at_ok b i) (by simp) ?_
  simp
  refine hstep i G _ hi hj (fun G' hj'=>?_) (fun G' hb=>?_)
  ·simp[e8]
   refine⟨by omega,hNx _ _ _ ⟨N - 1,by omega,i+1,rfl,by omega,by simp[e0],by simp[e1],by simp[e2],by simp[e3],by simp[e4],by simp[e7],by simp,hj'⟩⟩
  ·simp
   exact hbrk _ hb
theorem nat_pairs_ok {G:LHeap} {K:LV→LHeap→Prop} (a b:List UInt64) (n:Int) (k:K (.fn (.func 129) [] [.ptr (G.length+2) 0,.ptr (G.length+3) 0,.ptr G.length 0,.ptr (G.length+1) 0]) (G++[.cells [LU a] 0,.cells [LU b] 0,.cells [.i n] 0,.cells [.fn (.func 128) [] []] 1])):CallL Tryz.prog (.fn 87) [LU a,LU b,.i n] G K:=by
 refine call_body r_nat_pairs k_nat_pairs (by simp) ?_
 simp[c_nat_pairs]
 simpa using k
theorem nat_Compare_ok (a b:List UInt64) (ha:a.length≤1000000) (hb:b.length≤1000000):FnS Tryz.prog 53 [LU a,LU b] (.i (cmpN (val a) (val b))) []:=by
 refine FnS.val rfl (call_body r_nat_Compare k_nat_Compare (by simp) ?_)
 simp[c_nat_Compare]
 have hmx:max (a.length:Int) b.length=(max a.length b.length:Nat):=by omega
 rw[hmx]
 refine nat_pairs_ok a b _ ?_
 simp
 refine W_iter (fn':=129) (first:=[]) (cap:=[.ptr 3 0,.ptr 4 0,.ptr 1 0,.ptr 2 0]) (by simp) (nat_pairs_iter 3 4 1 2 (max a.length b.length) a b (by omega)) rfl rfl (fun _=>rfl) (by simp)
  (fun i G=>PairCap 3 4 1 2 (max a.length b.length) a b G∧∃ s,G[0]?=some (.cells [.i (cmpN (val (a.take i)) (val (b.take i)))] s)) (fun _ _=>False) (fun _ _ h=>h.1) ?_ ?_ (fun _ _ _ h=>h) ?_ ?_ (fun _ _ h=>h.elim)
 ·intro x y
  refine⟨⟨⟨_,rfl⟩,⟨_,rfl⟩,⟨_,rfl⟩,⟨_,rfl⟩⟩,_,by simp[cmpN]; rfl⟩
 ·rintro i G' x ⟨⟨h1,h2,h3,h4⟩,h5⟩
  simp only[List.length_nil,List.length_append,List.length_cons]
  refine⟨⟨?_,?_,?_,?_⟩,?_⟩ <;> (rw[gset_ne (by decide)]; assumption)
 ·rintro i G2 G1 L hi ⟨⟨h1,h2,h3,h4⟩,s,h5⟩ hL hD
  have hx:∀ x,(G1.set 0 x)[6]?=some L∧(G1.set 0 x)[5]?=some (.defd true)∧PairCap 3 4 1 2 (max a.length b.length) a b (G1.set 0 x):=by
   intro x
   refine⟨by rw[gset_ne (by decide)]; exact hL,by rw[gset_ne (by decide)]; exact hD,?_,?_,?_,?_⟩ <;> (rw[gset_ne (by decide)]; assumption)
  have hc:=cmp_next a b i
  generalize a.getD i 0=x at *
  generalize b.getD i 0=y at *
  have hs0:∀ c,∃ s',(G1.set 0 (.cells [.i c] (s+1)))[0]?=some (.cells [.i c] s'):=fun c=>⟨_,gset h5 _⟩
  simp[setPsL,h5]
  refine⟨fun l1=>?_,fun l1=>⟨fun l2=>?_,fun l2=>?_⟩⟩
  ·obtain⟨_,_,x3⟩:=hx (.cells [.i (-1)] (s+1))
   rw[if_pos l1] at hc
   refine⟨by simpa using hL,by simpa using hD,x3,?_⟩
   rw[hc]; exact hs0 _
  ·obtain⟨_,_,x3⟩:=hx (.cells [.i 1] (s+1))
   rw[if_neg (UInt64.not_lt.2 l1),if_pos l2] at hc
   refine⟨by simpa using hL,by simpa using hD,x3,?_⟩
   rw[hc]; exact hs0 _
  ·rw[if_neg (UInt64.not_lt.2 l1),if_neg (UInt64.not_lt.2 l2)] at hc
   exact⟨by simpa using hL,by simpa using hD,⟨h1,h2,h3,h4⟩,hc.symm⟩
 ·rintro G' ⟨_,s,h5⟩ hD
  rw[List.take_of_length_le (by omega),List.take_of_length_le (by omega)] at h5
  simp at hD
  simp[h5,hD]
def RowC (p0 p1 lim:Nat) (S:Bool→List UInt64→Prop) (G:LHeap):Prop :=
 ∃ c v out,(∃ s,G[p0]?=some (.cells [v] s))∧(∃ s,G[p1]?=some (.cells [.bool c] s))∧RowAt G v out∧(∀ q,q < lim→∀ k,v≠.dy q k)∧S c out
theorem PairCap.set {pn pf pa pb m:Nat} {a b:List UInt64} {G:LHeap} (h:PairCap pn pf pa pb m a b G) {q:Nat} (hq:pn≠q∧pf≠q∧pa≠q∧pb≠q) (x:LObj):PairCap pn pf pa pb m a b (G.set q x):=by
 obtain⟨h1,h2,h3,h4⟩:=h
 obtain⟨q1,q2,q3,q4⟩:=hq
 refine⟨?_,?_,?_,?_⟩
 ·rw[gset_ne q1]; exact h1
 ·rw[gset_ne q2]; exact h2
 ·rw[gset_ne q3]; exact h3
 ·rw[gset_ne q4]; exact h4
theorem RowC.set {p0 p1 lim q:Nat} {S:Bool→List UInt64→Prop} {G:LHeap} (h:RowC p0 p1 lim S G) (h0:p0≠q) (h1:p1≠q) (hl:q < lim) (x:LObj):RowC p0 p1 lim S (G.set q x):=by
 obtain⟨c,v,out,⟨s0,h5⟩,⟨s1,h6⟩,h7,h8,h9⟩:=h
 exact⟨c,v,out,⟨s0,by rw[gset_ne h0]; exact h5⟩,⟨s1,by rw[gset_ne h1]; exact h6⟩,h7.set (fun k=>h8 _ hl k),h8,h9⟩
theorem nat_Add_ok (a b:List UInt64) (ha:a.length≤1000000) (hb:b.length≤1000000):FnS Tryz.prog 97 [LU a,LU b] (.dy 0 0) [RU (toL (val a+val b))]:=by
 refine FnS.row (call_body r_nat_Add k_nat_Add (by simp) ?_)
 simp[c_nat_Add]
 refine⟨by omega,?_⟩
 have hmx:max (a.length:Int) b.length+1=(max a.length b.length+1:Nat):=by omega
 rw[hmx]
 refine nat_pairs_ok a b _ ?_
 simp
 refine W_iter (fn':=129) (first:=[]) (cap:=[.ptr 4 0,.ptr 5 0,.ptr 2 0,.ptr 3 0]) (by simp) (nat_pairs_iter 4 5 2 3 (max a.length b.length+1) a b (by omega)) rfl rfl (fun _=>rfl) (by simp)
  (fun i G=>PairCap 4 5 2 3 (max a.length b.length+1) a b G∧RowC 0 1 8 (fun c out=>out.length=i∧val out+2 ^ (64 * i) * c.toNat=val (a.take i)+val (b.take i)) G) (fun _ _=>False) (fun _ _ h=>h.1) ?_ ?_ (fun _ _ _ h=>h) ?_ ?_ (fun _ _ h=>h.elim)
 ·intro x y
  exact⟨⟨⟨_,rfl⟩,⟨_,rfl⟩,⟨_,rfl⟩,⟨_,rfl⟩⟩,false,.nilSl,[],⟨_,rfl⟩,⟨_,rfl⟩,.inl ⟨rfl,rfl⟩,by simp,rfl,by simp[val]⟩
 ·rintro i G' x ⟨h1,h2⟩
  exact⟨h1.set (by simp) x,h2.set (by simp) (by simp) (by simp) x⟩
 ·rintro i G2 G1 L hi ⟨⟨⟨t4,g4⟩,⟨t5,g5⟩,⟨t2,g2⟩,⟨t3,g3⟩⟩,c,v,out,⟨s0,h5⟩,⟨s1,h6⟩,h7,h8,h9,h10⟩ hL hD
  simp at hL hD
  have hst:=add_step h9 h10
  generalize a.getD i 0=x at *
  generalize b.getD i 0=y at *
  simp[setPsL,h6]
  refine CallL_F (word_Add_ok x y c) (by simp) ?_
  obtain⟨r,hr⟩:∃ r,addC x y c=r:=⟨_,rfl⟩
  rw[hr] at hst ⊢
  have k0:∀ x,(G1.set 1 x)[0]?=some (.cells [v] s0):=fun x=>by rw[gset_ne (by decide)]; exact h5
  simp[h6,k0]
  have k:∀ (x z:LObj) (q:Nat) (ob:LObj),G1[q]?=some ob→q≠1→((G1.set 1 x)++[z])[q]?=some ob:=fun x z q ob h hq=>gapp (by rw[gset_ne hq]; exact h) _
  refine appL_row ((h7.set (fun k=>h8 _ (by decide) k)).app _) (xs:=[r.1]) rfl (by simp) (by omega) (fun v' G' hr' hfr=>?_)
  obtain⟨w0,m0⟩:=hfr 0 _ (k _ _ 0 _ h5 (by decide)) (h8 0 (by decide))
  obtain⟨w1,m1⟩:=hfr 1 _ (gapp (gset h6 _) _) (h8 1 (by decide))
  obtain⟨w2,m2⟩:=hfr 2 _ (k _ _ 2 _ g2 (by decide)) (h8 2 (by decide))
  obtain⟨w3,m3⟩:=hfr 3 _ (k _ _ 3 _ g3 (by decide)) (h8 3 (by decide))
  obtain⟨w4,m4⟩:=hfr 4 _ (k _ _ 4 _ g4 (by decide)) (h8 4 (by decide))
  obtain⟨w5,m5⟩:=hfr 5 _ (k _ _ 5 _ g5 (by decide)) (h8 5 (by decide))
  obtain⟨w6,m6⟩:=hfr 6 _ (k _ _ 6 _ hD (by decide)) (h8 6 (by decide))
  obtain⟨w7,m7⟩:=hfr 7 _ (k _ _ 7 _ hL (by decide)) (h8 7 (by decide))
  have hvc:=hr'.cells
  simp only[LV.cells] at hvc
  simp[w0,hvc,w6,w7]
  refine⟨PairCap.set ⟨⟨_,w4⟩,⟨_,w5⟩,⟨_,w2⟩,⟨_,w3⟩⟩ (by simp) _,r.2,v',_,⟨_,gset w0 _⟩,⟨_,by rw[gset_ne (by decide)]; exact w1⟩,hr'.set (fun k=>m0 k),?_,by simp[h9],hst⟩
  intro q hq k
  match q,hq with
  | 0,_=>exact m0 k
  | 1,_=>exact m1 k
  | 2,_=>exact m2 k
  | 3,_=>exact m3 k
  | 4,_=>exact m4 k
  | 5,_=>exact m5 k
  | 6,_=>exact m6 k
  | 7,_=>exact m7 k
 ·rintro G' ⟨_,c,v,out,⟨s0,h5⟩,_,h7,h8,h9,h10⟩ hD
  simp at hD
  simp[h5]
  rw[val_take_big (by omega),val_take_big (by omega)] at h10
  refine CallL_row (nat_Trim_ok out (by omega)) (bors1 h7.bor) ?_
  rw[add_end (m:=max a.length b.length) rfl (by omega) (by omega) h10]
  have hD':=fun x=>gapp hD x
  simp[hD']
  exact .inr ⟨G'.length,0,0,rfl,by rw[gset_ne (by have:=(List.getElem?_eq_some_iff.1 hD).1; omega)]; simp[RU]⟩
theorem nat_Sub_ok (a b:List UInt64) (ha:a.length≤1000000) (hb:b.length≤1000000):FnS Tryz.prog 142 [LU a,LU b] (.tup [.dy 0 0,.i (if val a < val b then 2 else 0)]) [RU (if val a < val b then [] else toL (val a - val b))]:=by
 refine FnS.rowE (call_body r_nat_Sub k_nat_Sub (by simp) ?_)
 simp[c_nat_Sub]
 have hmx:max (a.length:Int) b.length=(max a.length b.length:Nat):=by omega
 rw[hmx]
 refine nat_pairs_ok a b _ ?_
 simp
 refine W_iter (fn':=129) (first:=[]) (cap:=[.ptr 4 0,.ptr 5 0,.ptr 2 0,.ptr 3 0]) (by simp) (nat_pairs_iter 4 5 2 3 (max a.length b.length) a b (by omega)) rfl rfl (fun _=>rfl) (by simp)
  (fun i G=>PairCap 4 5 2 3 (max a.length b.length) a b G∧RowC 0 1 8 (fun c out=>out.length=i∧val out+val (b.take i)=val (a.take i)+2 ^ (64 * i) * c.toNat) G) (fun _ _=>False) (fun _ _ h=>h.1) ?_ ?_ (fun _ _ _ h=>h) ?_ ?_ (fun _ _ h=>h.elim)
 ·intro x y
  exact⟨⟨⟨_,rfl⟩,⟨_,rfl⟩,⟨_,rfl⟩,⟨_,rfl⟩⟩,false,.nilSl,[],⟨_,rfl⟩,⟨_,rfl⟩,.inl ⟨rfl,rfl⟩,by simp,rfl,by simp[val]⟩
 ·rintro i G' x ⟨h1,h2⟩
  exact⟨h1.set (by simp) x,h2.set (by simp) (by simp) (by simp) x⟩
 ·rintro i G2 G1 L hi ⟨⟨⟨t4,g4⟩,⟨t5,g5⟩,⟨t2,g2⟩,⟨t3,g3⟩⟩,c,v,out,⟨s0,h5⟩,⟨s1,h6⟩,h7,h8,h9,h10⟩ hL hD
  simp at hL hD
  have hst:=sub_step h9 h10
  generalize a.getD i 0=x at *
  generalize b.getD i 0=y at *
  simp[setPsL,h6]
  refine CallL_F (word_Sub_ok x y c) (by simp) ?_
  obtain⟨r,hr⟩:∃ r,subC x y c=r:=⟨_,rfl⟩
  rw[hr] at hst ⊢
  have k0:∀ x,(G1.set 1 x)[0]?=some (.cells [v] s0):=fun x=>by rw[gset_ne (by decide)]; exact h5
  simp[h6,k0]
  have k:∀ (x z:LObj) (q:Nat) (ob:LObj),G1[q]?=some ob→q≠1→((G1.set 1 x)++[z])[q]?=some ob:=fun x z q ob h hq=>gapp (by rw[gset_ne hq]; exact h) _
  refine appL_row ((h7.set (fun k=>h8 _ (by decide) k)).app _) (xs:=[r.1]) rfl (by simp) (by omega) (fun v' G' hr' hfr=>?_)
  obtain⟨w0,m0⟩:=hfr 0 _ (k _ _ 0 _ h5 (by decide)) (h8 0 (by decide))
  obtain⟨w1,m1⟩:=hfr 1 _ (gapp (gset h6 _) _) (h8 1 (by decide))
  obtain⟨w2,m2⟩:=hfr 2 _ (k _ _ 2 _ g2 (by decide)) (h8 2 (by decide))
  obtain⟨w3,m3⟩:=hfr 3 _ (k _ _ 3 _ g3 (by decide)) (h8 3 (by decide))
  obtain⟨w4,m4⟩:=hfr 4 _ (k _ _ 4 _ g4 (by decide)) (h8 4 (by decide))
  obtain⟨w5,m5⟩:=hfr 5 _ (k _ _ 5 _ g5 (by decide)) (h8 5 (by decide))
  obtain⟨w6,m6⟩:=hfr 6 _ (k _ _ 6 _ hD (by decide)) (h8 6 (by decide))
  obtain⟨w7,m7⟩:=hfr 7 _ (k _ _ 7 _ hL (by decide)) (h8 7 (by decide))
  have hvc:=hr'.cells
  simp only[LV.cells] at hvc
  simp[w0,hvc,w6,w7]
  refine⟨PairCap.set ⟨⟨_,w4⟩,⟨_,w5⟩,⟨_,w2⟩,⟨_,w3⟩⟩ (by simp) _,r.2,v',_,⟨_,gset w0 _⟩,⟨_,by rw[gset_ne (by decide)]; exact w1⟩,hr'.set (fun k=>m0 k),?_,by simp[h9],hst⟩
  intro q hq k
  match q,hq with
  | 0,_=>exact m0 k
  | 1,_=>exact m1 k
  | 2,_=>exact m2 k
  | 3,_=>exact m3 k
  | 4,_=>exact m4 k
  | 5,_=>exact m5 k
  | 6,_=>exact m6 k
  | 7,_=>exact m7 k
 ·rintro G' ⟨_,c,v,out,⟨s0,h5⟩,⟨s1,h6⟩,h7,h8,h9,h10⟩ hD
  simp at hD
  obtain⟨e1,e2⟩:=sub_end (by omega) (by omega) h9 h10
  cases c with
  | true =>
   have hlt:=e1.1 rfl
   simp[h6,hD,hlt,RowAt]
  | false =>
   have hlt:¬ val a < val b:=fun h=>by simpa using e1.2 h
   simp[h6,h5,hlt]
   refine CallL_row (nat_Trim_ok out (by omega)) (bors1 h7.bor) ?_
   rw[e2 rfl]
   have hD':=fun x=>gapp hD x
   simp[hD']
   exact .inr ⟨G'.length,0,0,rfl,by rw[gset_ne (by have:=(List.getElem?_eq_some_iff.1 hD).1; omega)]; simp[RU]⟩
end Go.Proofs.YtnbnhnjffiagmaaGreat
