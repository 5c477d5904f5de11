/- Kernels: which variables must have as many limbs. -/
import Derived.Test.YtodjkjimaheggaaGreatFnKa
namespace Go.Proofs.YtodjkjimaheggaaGreat
open Go.Sv
set_option linter.unusedSimpArgs false
set_option maxRecDepth 10000
def z6s:LC:=(.seq (.ops [.z 0 (.move (.c .nilMap))]) (.seq (.ops [.z 1 (.move (.c (.fn (.func 207) [] [])))]) (.seq (.ops [.z 2 (.mkMap0),⟨none,none,.mapUpd (.int .i64) (.t 2) (.c (.i 6)) (.c (.fn (.func 208) [] []))⟩,⟨none,none,.mapUpd (.int .i64) (.t 2) (.c (.i 14)) (.c (.fn (.func 209) [] []))⟩,⟨none,none,.mapUpd (.int .i64) (.t 2) (.c (.i 8)) (.c (.fn (.func 210) [] []))⟩,⟨none,none,.mapUpd (.int .i64) (.t 2) (.c (.i 9)) (.c (.fn (.func 211) [] []))⟩,.m 3 1,⟨none,none,.mapUpd (.int .i64) (.t 2) (.c (.i 10)) (.t 3)⟩,.m 4 1,⟨none,none,.mapUpd (.int .i64) (.t 2) (.c (.i 11)) (.t 4)⟩,.m 5 1,⟨none,none,.mapUpd (.int .i64) (.t 2) (.c (.i 12)) (.t 5)⟩,⟨none,none,.mapUpd (.int .i64) (.t 2) (.c (.i 13)) (.c (.fn (.func 212) [] []))⟩,.m 6 2,.m 0 6]) .ret)))
theorem r_lengths_alike:z0f Tryz.prog 198=some ⟨7,z6s.r,[.tmp 0]⟩:=by kernel_rfl
theorem k_lengths_alike:z6s.ok=true:=by kernel_rfl
def z59:LC:=(.seq (.ops [.z 1 (.box (.t 0)),.z 2 (.move (.c .nilSl))]) (.seq (.ops [.f 3 1 1,.l 4 3,.f 5 3 1,.l 6 5,.f 7 4 1,.l 8 7,.f 9 5 1,.l 10 9,.z 11 (.buildSl 1 4 [(.i 0),(.i 0),(.i 0),(.i 0)] [(0,1,.t 4),(1,1,.t 6),(2,1,.t 8),(3,1,.t 10)]),.m 2 11]) .ret))
theorem r_lengths_alike_1:z0f Tryz.prog 207=some ⟨12,z59.r,[.tmp 2]⟩:=by kernel_rfl
theorem k_lengths_alike_1:z59.ok=true:=by kernel_rfl
def z4u:LC:=(.seq (.ops [.z 1 (.box (.t 0)),.z 2 (.move (.c .nilSl))]) (.seq (.ops [.f 3 3 1,.l 4 3,.f 5 4 1,.l 6 5,.z 7 (.buildSl 1 2 [(.i 0),(.i 0)] [(0,1,.t 4),(1,1,.t 6)]),.m 2 7]) .ret))
theorem r_lengths_alike_2:z0f Tryz.prog 208=some ⟨8,z4u.r,[.tmp 2]⟩:=by kernel_rfl
theorem k_lengths_alike_2:z4u.ok=true:=by kernel_rfl
def z58:LC:=(.seq (.ops [.z 1 (.box (.t 0)),.z 2 (.move (.c .nilSl))]) (.seq (.ops [.f 3 1 1,.l 4 3,.f 5 2 1,.l 6 5,.z 7 (.buildSl 1 2 [(.i 0),(.i 0)] [(0,1,.t 4),(1,1,.t 6)]),.m 2 7]) .ret))
theorem r_lengths_alike_3:z0f Tryz.prog 209=some ⟨8,z58.r,[.tmp 2]⟩:=by kernel_rfl
theorem k_lengths_alike_3:z58.ok=true:=by kernel_rfl
def z5h:LC:=(.seq (.ops [.z 1 (.box (.t 0)),.z 2 (.move (.c .nilSl))]) (.seq (.ops [.f 3 1 1,.l 4 3,.f 5 3 1,.l 6 5,.f 7 4 1,.l 8 7,.z 9 (.buildSl 1 3 [(.i 0),(.i 0),(.i 0)] [(0,1,.t 4),(1,1,.t 6),(2,1,.t 8)]),.m 2 9]) .ret))
theorem r_lengths_alike_4:z0f Tryz.prog 210=some ⟨10,z5h.r,[.tmp 2]⟩:=by kernel_rfl
theorem k_lengths_alike_4:z5h.ok=true:=by kernel_rfl
def z5g:LC:=(.seq (.ops [.z 1 (.box (.t 0)),.z 2 (.move (.c .nilSl))]) (.seq (.ops [.f 3 1 1,.l 4 3,.f 5 5 1,.l 6 5,.z 7 (.buildSl 1 2 [(.i 0),(.i 0)] [(0,1,.t 4),(1,1,.t 6)]),.m 2 7]) .ret))
theorem r_lengths_alike_5:z0f Tryz.prog 211=some ⟨8,z5g.r,[.tmp 2]⟩:=by kernel_rfl
theorem k_lengths_alike_5:z5g.ok=true:=by kernel_rfl
def z56:LC:=(.seq (.ops [.z 1 (.box (.t 0)),.z 2 (.move (.c .nilSl))]) (.seq (.ops [.f 3 1 1,.l 4 3,.f 5 3 1,.l 6 5,.f 7 5 1,.l 8 7,.z 9 (.buildSl 1 3 [(.i 0),(.i 0),(.i 0)] [(0,1,.t 4),(1,1,.t 6),(2,1,.t 8)]),.m 2 9]) .ret))
theorem r_lengths_alike_6:z0f Tryz.prog 212=some ⟨10,z56.r,[.tmp 2]⟩:=by kernel_rfl
theorem k_lengths_alike_6:z56.ok=true:=by kernel_rfl
def z50:LC:=(.seq (.ops [.z 4 (.move (.c (.bool false)))]) (.seq (.draw [(.l 5 1,[]),(.m 6 0,[]),(.z 7 (.ixAddr 3 (.t 5) (.t 6)),[]),(.f 8 0 7,[]),(.l 9 8,[]),(.l 10 1,[]),(.l 11 2,[]),(.z 12 (.ixAddr 1 (.t 11) (.c (.i 0))),[]),(.l 13 12,[]),(.z 14 (.ixAddr 3 (.t 10) (.t 13)),[]),(.f 15 0 14,[]),(.l 16 15,[]),(.z 17 (.bin .neq false 3 (.t 9) (.t 16)),[]),(.m 4 17,[])]) .ret))
theorem r_lengths_agree_1:z0f Tryz.prog 199=some ⟨18,z50.r,[.tmp 4]⟩:=by kernel_rfl
theorem k_lengths_agree_1:z50.ok=true:=by kernel_rfl
def z0y:LC:=(.seq (.ops [.z 2 (.box (.t 0)),.z 3 (.box (.t 1)),.z 4 (.move (.c (.bool false)))]) (.seq (.draw [(.f 10 0 3,[]),(.l 11 10,[]),(.z 9 (.callV (.c (.fn (.func 198) [] [])) []),[(.l 11 10,false)]),(.z 12 (.lookup (.int .i64) .nilFn true (.t 9) (.t 11)),[]),(.m 8 12,[]),(.z 13 (.extract 0 (.t 8)),[]),(.z 14 (.extract 1 (.t 8)),[]),(.m 5 13,[]),(.m 6 14,[])]) (.seq (.seq (.ops [.m 15 6,.z 16 (.un .not (.t 15))]) (.cond (.t 16) (.seq (.ops [.z 4 (.move (.c (.bool true)))]) .ret) .skip)) (.seq (.ops [.m 17 5,.z 18 (.loadN 7 (.t 3)),.z 19 (.callV (.t 17) [.t 18]),.z 7 (.alloc [.nilSl]),⟨none,none,.store 1 (.t 7) (.t 19)⟩]) (.seq (.ops [.l 20 7,.z 21 (.mkFunc 199 [] [.t 2,.t 7]),.z 22 (.callV (.c (.fn (.func 169) [] [])) [.t 20,.t 21]),.z 23 (.un .not (.t 22)),.m 4 23]) .ret)))))
theorem r_lengths_agree:z0f Tryz.prog 191=some ⟨24,z0y.r,[.tmp 4]⟩:=by kernel_rfl
theorem k_lengths_agree:z0y.ok=true:=by kernel_rfl
def zbd:List (LV×LV×Nat):=[(.i 6,.fn (.func 208) [] [],0),(.i 14,.fn (.func 209) [] [],1),(.i 8,.fn (.func 210) [] [],2),(.i 9,.fn (.func 211) [] [],3),(.i 10,.fn (.func 207) [] [],4),(.i 11,.fn (.func 207) [] [],5),(.i 12,.fn (.func 207) [] [],6),(.i 13,.fn (.func 212) [] [],7)]
theorem z11 {G:z03} {K:LV→z03→Prop} (k:K (.map G.length) (G++[.map zbd 8 8])):z0k Tryz.prog (.fn 198) [] G K:=by
 refine z01 r_lengths_alike k_lengths_alike (by simp) ?_
 simp[z6s]
 exact k
theorem zdz (o:Ko):FnV Tryz.prog 207 [.agg o.f] (.lst ([o.d,o.a,o.b,o.c].map .i) 4 1):=by
 refine FnV.mk (by simp[LV.dat,dats]) (z01 r_lengths_alike_1 k_lengths_alike_1 (by simp) ?_)
 simp[z59,Ko.f,borR,bor]
theorem zrm (o:Ko):FnV Tryz.prog 208 [.agg o.f] (.lst ([o.a,o.b].map .i) 2 1):=by
 refine FnV.mk (by simp[LV.dat,dats]) (z01 r_lengths_alike_2 k_lengths_alike_2 (by simp) ?_)
 simp[z4u,Ko.f,borR,bor]
theorem zre (o:Ko):FnV Tryz.prog 209 [.agg o.f] (.lst ([o.d,o.e].map .i) 2 1):=by
 refine FnV.mk (by simp[LV.dat,dats]) (z01 r_lengths_alike_3 k_lengths_alike_3 (by simp) ?_)
 simp[z58,Ko.f,borR,bor]
theorem zry (o:Ko):FnV Tryz.prog 210 [.agg o.f] (.lst ([o.d,o.a,o.b].map .i) 3 1):=by
 refine FnV.mk (by simp[LV.dat,dats]) (z01 r_lengths_alike_4 k_lengths_alike_4 (by simp) ?_)
 simp[z5h,Ko.f,borR,bor]
theorem zsb (o:Ko):FnV Tryz.prog 211 [.agg o.f] (.lst ([o.d,o.c].map .i) 2 1):=by
 refine FnV.mk (by simp[LV.dat,dats]) (z01 r_lengths_alike_5 k_lengths_alike_5 (by simp) ?_)
 simp[z5g,Ko.f,borR,bor]
theorem zs5 (o:Ko):FnV Tryz.prog 212 [.agg o.f] (.lst ([o.d,o.a,o.c].map .i) 3 1):=by
 refine FnV.mk (by simp[LV.dat,dats]) (z01 r_lengths_alike_6 k_lengths_alike_6 (by simp) ?_)
 simp[z56,Ko.f,borR,bor]
def inV (vs:List Vr) (v:Int):Prop:=0≤v∧v < vs.length
theorem inV.at {vs:List Vr} {v:Int} (h:inV vs v):∃ k:Nat,v=k∧k < vs.length∧vs[k]?=some (gv vs v.toNat):=by
 obtain⟨k,rfl⟩:=Int.eq_ofNat_of_zero_le h.1
 have h2:=h.2
 exact⟨k,rfl,by omega,by rw[Int.toNat_natCast]; exact zbw (by omega)⟩
theorem zoq {G:z03} {p q st st':Nat} {vs:List Vr} {L:List Int} (v:Int) {K:LV→z03→Prop} (hp:G[p]?=some (.cells [.lst (vsC vs) vs.length 3] st)) (hq:G[q]?=some (.cells [.lst (L.map .i) L.length 1] st'))
  (hv:inV vs v) (hL:inV vs (L.headD 0)) (h0:L≠[]) (k:K (.bool (decide (z32 vs v≠z32 vs (L.headD 0)))) G):z0k Tryz.prog (.fn 199) [.i v,.ptr p 0,.ptr q 0] G K:=by
 refine z01 r_lengths_agree_1 k_lengths_agree_1 (by simp) ?_
 cases L with
 | nil=>exact absurd rfl h0
 | cons y L =>
  simp only[List.headD_cons] at hL k
  obtain⟨a,rfl,ha,ea⟩:=hv.at
  obtain⟨b,rfl,hb,eb⟩:=hL.at
  have q1:=zqf ea
  have q2:=zqf eb
  simp only[Int.toNat_natCast] at q1 q2
  simp only[z32,Int.toNat_natCast] at k
  simp[z50,hp,hq,ha,hb]
  simp[z05 q1,z05 q2,hp,hq,ha,hb]
  rw[←decide_not]
  exact k
theorem zp6 (L:List Int) (x:Int→Int) (y:Int):(!(L.any fun v=>decide (x v≠y)))=L.all fun v=>decide (x v=y):=by
 induction L with
 | nil=>rfl
 | cons a L ih =>
  simp only[List.any_cons,List.all_cons,Bool.not_or,ih]
  by_cases h:x a=y <;> simp[h]
theorem z9k (vs:List Vr) (o:Ko) (hv:∀ v∈z2m o,inV vs v):FnS Tryz.prog 191 [.lst (vsC vs) vs.length 3,.agg o.f] (.bool (zd4 vs o)) []:=by
 refine FnS.val rfl (z01 r_lengths_agree k_lengths_agree (by simp) ?_)
 have hC:o.f=[.i o.kind,.i o.d,.i o.e,.i o.a,.i o.b,.i o.c,.u o.imm]:=rfl
 have fin:∀ L:List Int,L≠[]→z2m o=L→∀ {G:z03} {p q st st':Nat} {K:LV→z03→Prop},G[p]?=some (.cells [.lst (vsC vs) vs.length 3] st)→G[q]?=some (.cells [.lst (L.map .i) L.length 1] st')→K (.bool (!zd4 vs o)) G →
   z0k Tryz.prog (.fn 169) [.lst (L.map .i) L.length 1,.fn (.func 199) [] [.ptr p 0,.ptr q 0]] G K:=by
  intro L h0 he G p q st st' K hp hq k
  rw[he] at hv
  have h1:inV vs (L.headD 0):=by
   cases L with
   | nil=>exact absurd rfl h0
   | cons y L=>exact hv y (List.mem_cons_self ..)
  have hl:L.length≤9223372036854775807:=by
   rw[←he]; unfold z2m; repeat' split
   all_goals simp
  refine z68 (p:=fun v=>decide (z32 vs v≠z32 vs (L.headD 0))) hl (fun v hm K' k'=>zoq v hp hq (hv v hm) h1 h0 k') ?_
  have:=zp6 L (z32 vs) (z32 vs (L.headD 0))
  rw[←Bool.not_not (L.any _),this]
  rw[zd4,he] at k
  exact k
 by_cases h6:o.kind=6
 ·have he:z2m o=[o.a,o.b]:=by simp[z2m,h6]
  simp[z0y,hC,h6]
  refine z11 ?_
  simp[zbd]
  have hf:=zrm o
  rw[hC,h6] at hf
  refine z1p hf rfl ?_
  simp
  refine fin [o.a,o.b] (by simp) he rfl rfl ?_
  simp
 by_cases h14:o.kind=14
 ·have he:z2m o=[o.d,o.e]:=by simp[z2m,h14]
  simp[z0y,hC,h14]
  refine z11 ?_
  simp[zbd]
  have hf:=zre o
  rw[hC,h14] at hf
  refine z1p hf rfl ?_
  simp
  refine fin [o.d,o.e] (by simp) he rfl rfl ?_
  simp
 by_cases h8:o.kind=8
 ·have he:z2m o=[o.d,o.a,o.b]:=by simp[z2m,h8]
  simp[z0y,hC,h8]
  refine z11 ?_
  simp[zbd]
  have hf:=zry o
  rw[hC,h8] at hf
  refine z1p hf rfl ?_
  simp
  refine fin [o.d,o.a,o.b] (by simp) he rfl rfl ?_
  simp
 by_cases h9:o.kind=9
 ·have he:z2m o=[o.d,o.c]:=by simp[z2m,h9]
  simp[z0y,hC,h9]
  refine z11 ?_
  simp[zbd]
  have hf:=zsb o
  rw[hC,h9] at hf
  refine z1p hf rfl ?_
  simp
  refine fin [o.d,o.c] (by simp) he rfl rfl ?_
  simp
 by_cases h10:o.kind=10
 ·have he:z2m o=[o.d,o.a,o.b,o.c]:=by simp[z2m,h10]
  simp[z0y,hC,h10]
  refine z11 ?_
  simp[zbd]
  have hf:=zdz o
  rw[hC,h10] at hf
  refine z1p hf rfl ?_
  simp
  refine fin [o.d,o.a,o.b,o.c] (by simp) he rfl rfl ?_
  simp
 by_cases h11:o.kind=11
 ·have he:z2m o=[o.d,o.a,o.b,o.c]:=by simp[z2m,h11]
  simp[z0y,hC,h11]
  refine z11 ?_
  simp[zbd]
  have hf:=zdz o
  rw[hC,h11] at hf
  refine z1p hf rfl ?_
  simp
  refine fin [o.d,o.a,o.b,o.c] (by simp) he rfl rfl ?_
  simp
 by_cases h12:o.kind=12
 ·have he:z2m o=[o.d,o.a,o.b,o.c]:=by simp[z2m,h12]
  simp[z0y,hC,h12]
  refine z11 ?_
  simp[zbd]
  have hf:=zdz o
  rw[hC,h12] at hf
  refine z1p hf rfl ?_
  simp
  refine fin [o.d,o.a,o.b,o.c] (by simp) he rfl rfl ?_
  simp
 by_cases h13:o.kind=13
 ·have he:z2m o=[o.d,o.a,o.c]:=by simp[z2m,h13]
  simp[z0y,hC,h13]
  refine z11 ?_
  simp[zbd]
  have hf:=zs5 o
  rw[hC,h13] at hf
  refine z1p hf rfl ?_
  simp
  refine fin [o.d,o.a,o.c] (by simp) he rfl rfl ?_
  simp
 have he:z2m o=[]:=by simp[z2m,h6,h14,h8,h9,h10,h11,h12,h13]
 simp[z0y,hC,h6,h14,h8,h9,h10,h11,h12,h13]
 refine z11 ?_
 simp[zbd,h6,h14,h8,h9,h10,h11,h12,h13]
 simp[zd4,he]
end Go.Proofs.YtodjkjimaheggaaGreat
