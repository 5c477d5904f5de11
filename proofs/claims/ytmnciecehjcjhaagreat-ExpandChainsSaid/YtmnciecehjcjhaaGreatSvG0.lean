/- Texts of the evaluator, of the logic over it, of plain arithmetic. -/
import Derived.AtR
import Derived.Laws.Sem
import Derived.Laws.World
import Derived.KernelRfl
import Derived.Below
import Derived.Laws.Strings
import Derived.Laws.StructEq
import Derived.Lib.Strings
import Derived.Lib.ConvBytes
import Derived.Laws.BytesArg
import Derived.Laws.RangeString
import Derived.MapKept
import Derived.Laws.Append
import Derived.Laws.AppendOwn
import Derived.Laws.Externs
import Derived.RangeFuncIn
import Derived.RangeFuncRecord
set_option linter.unusedSimpArgs false
set_option linter.defProp false
namespace Go.Sv
variable{g j vI:Nat}{C:Program}{G:World}{K:Bool}{V:TypeId}{vT:Type}{vR:Array Value}{vQ:Option Nat}{vM:Value}
noncomputable section
abbrev Jx:=@List.getElem?_eq_some_iff
abbrev Jy:=@List.getElem?_set_ne
abbrev Jz:=@Bool.and_eq_true
abbrev J0:=@List.getD_eq_getElem?_getD
abbrev J1:=@List.getElem?_set_self
abbrev J2:=@if_neg
abbrev J3:=@Int.eq_ofNat_of_zero_le
abbrev J4:=@Nat.le_refl
abbrev J5:=@List.getElem?_eq_getElem
abbrev J6:=@List.getElem?_append_left
abbrev J7:=@List.length_append
abbrev J8:=@if_pos
abbrev J9:=@List.mem_cons
abbrev Ka:=@Nat.ble_eq_true_of_le
abbrev Kb:=@decide_eq_true_eq
abbrev Kc:=@Nat.eq_of_beq_eq_true
abbrev Kd:=@Nat.le_of_ble_eq_true
abbrev Ke:=@List.getElem?_concat_length
abbrev Kf:=@List.take_of_length_le
abbrev Kg:=@List.mem_of_getElem?
abbrev Kh:=@List.getElem?_cons_succ
abbrev Ki:=@Nat.mul_le_mul_right
abbrev Kj:=@List.getElem?_append_right
abbrev Kk:=@List.eq_nil_of_length_eq_zero
abbrev Kl:=@List.mem_cons_of_mem
abbrev Km:=@List.getElem?_cons_zero
abbrev Kn:=@List.length_cons
abbrev Kq:=@Int.ofNat_eq_natCast
abbrev Kr:=@Nat.lt_of_lt_of_le
abbrev Ks:=@List.mem_append
abbrev Kt:=@Nat.mod_eq_of_lt
abbrev Ku:=@Nat.add_mul
abbrev Kw:=@Nat.zero_add
abbrev Kx:=@List.mem_cons_self
abbrev Ky:=@Int.toNat_natCast
abbrev Kz:=@List.append_assoc
abbrev K0:=@Nat.beq_refl
abbrev K2:=@List.cons_append
abbrev K3:=@Array.getD_eq_getD_getElem?
abbrev K4:=@Nat.le_trans
abbrev K5:=@List.any_eq_true
abbrev K6:=@List.take_succ_eq_append_getElem
abbrev K7:=@Nat.lt_succ_self
abbrev K8:=@Bool.or_eq_true
abbrev K9:=@List.map_set
abbrev La:=@List.set_eq_take_append_cons_drop
abbrev Le:=@decide_eq_false_iff_not
abbrev Lf:=@List.append_nil
abbrev Lh:=@List.drop_eq_getElem_cons
abbrev Li:=@Bool.eq_iff_iff
abbrev Lj:=@Int.natCast_nonneg
abbrev Lk:=@List.getElem?_toArray
abbrev Ll:=@decide_eq_true
abbrev Ln:=@Option.getD_some
abbrev Lp:=@List.not_mem_nil
abbrev Lq:=@List.all_eq_true
abbrev Lr:=@List.getElem?_map
abbrev Ls:=@Nat.pow_le_pow_right
abbrev Lt:=@Array.getElem?_eq_getElem
abbrev Lu:=@UInt64.lt_iff_toNat_lt
abbrev Lv:=@List.drop_of_length_le
abbrev Lw:=@Nat.mul_le_mul
abbrev Ly:=@Nat.add_assoc
abbrev Lz:=@List.getElem?_take_of_lt
abbrev L0:=@Array.toList_map
abbrev L3:=@UInt64.toNat_ofNat'
abbrev L4:=@List.mem_range
abbrev L5:=@List.mem_iff_getElem
abbrev L6:=@Option.map_some
abbrev L7:=@List.length_set
abbrev L8:=@Int.emod_eq_of_lt
abbrev L9:=@Bool.not_eq_true'
abbrev Ma:=@List.mem_iff_getElem?
abbrev Mb:=@List.length_nil
abbrev Mc:=@UInt64.toNat_inj
abbrev Md:=@UInt64.toNat_add
abbrev Me:=@List.length_take
abbrev Mf:=@List.all_cons
abbrev Mg:=@List.drop_zero
abbrev Mh:=@Nat.min_eq_left
abbrev Mi:=@Nat.le_max_left
abbrev Mj:=@List.mem_append_right
abbrev Ml:=@Bool.false_eq_true
abbrev Mm:=@Array.eq_empty_of_size_eq_zero
abbrev Mn:=@Nat.zero_mul
abbrev Mo:=@Nat.mul_comm
abbrev Mp:=@List.map_cons
abbrev Mq:=@Array.size_append
abbrev Mr:=@List.take_left'
abbrev Mt:=@List.replicate_succ
abbrev Mu:=@UInt64.le_iff_toNat_le
abbrev Mv:=@Nat.pow_succ
abbrev Mw:=@Nat.lt_or_ge
abbrev My:=@List.take_length
abbrev Mz:=@if_false
abbrev M0:=@Array.getElem?_append_left
abbrev M3:=@List.getElem?_eq_none
abbrev M4:=@of_decide_eq_true
abbrev M5:=@if_true
abbrev M6:=@Nat.zero_le
abbrev M7:=@Nat.le_of_eq
abbrev M8:=@Nat.add_zero
abbrev M9:=@Nat.le_max_right
abbrev Na:=@List.getElem_mem
abbrev Nb:=@BitVec.toNat_ofNat
abbrev Nc:=@List.set_append_right
abbrev Nd:=@or_false
abbrev Nf:=@Nat.mul_add
abbrev Ng:=@Array.toList_append
abbrev Nh:=@decide_eq_false
abbrev Ni:=@List.map_append
abbrev Nj:=@List.pairwise_cons
abbrev Nk:=@Nat.pow_add
abbrev Nl:=@Nat.mul_one
abbrev Nm:=@List.mem_map
abbrev Nn:=@List.flatMap_cons
abbrev Np:=@List.any_eq_false
abbrev Nq:=@Array.getElem?_eq_none
abbrev Nr:=@List.replicate_append_replicate
abbrev Ns:=@beq_iff_eq
abbrev Nt:=@UInt64.toNat_sub
abbrev Nu:=@Array.toList_inj
abbrev Nv:=@Bool.true_and
abbrev Nw:=@List.take_append_of_le_length
abbrev Ny:=@List.mem_append_left
abbrev Nz:=@Nat.not_lt_zero
abbrev N0:=@List.nil_append
abbrev N1:=@Nat.succ_mul
abbrev N5:=@Nat.sub_self
abbrev N6:=@Nat.le_of_lt
abbrev N7:=@Int.le_trans
abbrev N8:=@Nat.le_of_mul_le_mul_right
abbrev N9:=@List.take_zero
abbrev Oa:=@List.take_take
abbrev Ob:=@List.set_cons_zero
abbrev Oc:=@List.getElem?_drop
abbrev Od:=@Int.tdiv_eq_ediv_of_nonneg
abbrev Oe:=@Nat.one_mul
abbrev Of:=@Nat.le_succ
abbrev Og:=@List.getElem?_set
abbrev Oh:=@List.all_eq_false
abbrev Oi:=@UInt64.not_lt
abbrev Oj:=@Nat.mul_assoc
def J{p:Prop}(h:p:=by omega):p:=h
def N{p:Prop}(h:p:=by simp):p:=h
def Aa{p:Prop}(h:p:=by kernel_rfl):p:=h
def Ab{p:Prop}(h:p:=by simp;omega):p:=h
def Ac{p:Prop}(h:p:=by decide):p:=h
def Ad{p:Prop}(h:p:=by simp[Op.operands]):p:=h
def Ae{p:Prop}(h:p:=by simp[D]):p:=h
def Af{p:Prop}(h:p:=by cases h):p:=h
def Ah{p:Prop}(h:p:=by simp[execOp,g]):p:=h
def Ai{p:Prop}(h:p:=by rw[g];omega):p:=h
def Ak{p:Prop}(h:p:=by simp[E]):p:=h
def Al{p:Prop}(h:p:=by simp[z]):p:=h
def Am{p:Prop}(h:p:=by simp[H]):p:=h
def An{p:Prop}(h:p:=by cases e):p:=h
def Ao{p:Prop}(h:p:=by simp[F]):p:=h
def Aq{p:Prop}(h:p:=by simp only[IntKind.wrap,IntKind.bits,IntKind.signed];simp;omega):p:=h
def Ar{p:Prop}(h:p:=by simpa using h):p:=h
def As{p:Prop}(h:p:=by simp[C]):p:=h
def At{p:Prop}(h:p:=by simp[A]):p:=h
def Au{p:Prop}(h:p:=by obtain⟨_,_,h,_⟩:=id h;exact (Jx.1 h).1):p:=h
def Av{p:Prop}(h:p:=by dsimp only;omega):p:=h
def Aw{p:Prop}(h:p:=by simp[B]):p:=h
def Ax{p:Prop}(h:p:=by simp[U2,Yo,bc,jp,jn,jw,bv]):p:=h
def Ay{p:Prop}(h:p:=by simp[j]):p:=h
def A1{p:Prop}(h:p:=by simp[g]):p:=h
def Ba{p:Prop}(h:p:=by rw[g];simp):p:=h
def Bb{p:Prop}(h:p:=by (try simp only[J7]);omega):p:=h
def Bc{p:Prop}(h:p:=by simpa using g):p:=h
def Bd{p:Prop}(h:p:=by simp only[Sem.run_bind,z,Result.andThen_ok,Sem.run_pure]):p:=h
def Be{p:Prop}(h:p:=by simp[g,Rm,oX,Ko.f]):p:=h
def Bh{p:Prop}(h:p:=by simp[M]):p:=h
def Bi{p:Prop}(h:p:=by simp[dats,LV.dat,Oq,Uy,Uk]):p:=h
def Bk{p:Prop}(h:p:=by simp[Builtin.len_,Pv hu,goInt]):p:=h
def Bl{p:Prop}(h:p:=by simp[dats,LV.dat,Xd]):p:=h
def Bm{p:Prop}(h:p:=by simp[K]):p:=h
def Bn{p:Prop}(h:p:=by simp[G]):p:=h
def Bo{p:Prop}(h:p:=by split<;>constructor):p:=h
def Bq{p:Prop}(h:p:=by simp[dats,LV.dat]):p:=h
def Br{p:Prop}(h:p:=by simp[dats,LV.dat,Tb,Ko.f,oX,gD]):p:=h
def Bs{p:Prop}(h:p:=by have:o<H.next+1:=ho;omega):p:=h
def Bt{p:Prop}(h:p:=by simp[Va];omega):p:=h
def Bu{p:Prop}(h:p:=by simp at h):p:=h
def Bv{p:Prop}(h:p:=by simpa using j):p:=h
def Bx{p:Prop}(h:p:=by dsimp;omega):p:=h
def By{p:Prop}(h:p:=by rw[←q',h1]at e;exact ho _ _ _ _ (Option.some.inj e).symm):p:=h
def B1{p:Prop}(h:p:=by simp at e):p:=h
def B3{p:Prop}(h:p:=by simp[dats,LV.dat,Tb,Ko.f]):p:=h
def Ca{p:Prop}(h:p:=by simp[Oq]):p:=h
def Cb{p:Prop}(h:p:=by cases h;rfl):p:=h
def Cc{p:Prop}(h:p:=by rw[Pa O];exact L):p:=h
def Cd{p:Prop}(h:p:=by simpa using E):p:=h
def Ch{p:Prop}(h:p:=by simp[gg]):p:=h
def Ci{p:Prop}(h:p:=by unfold Qc;rw[J8 gv,U];rfl):p:=h
def Ck{p:Prop}(h:p:=by rw[j,C]):p:=h
def Cl{p:Prop}(h:p:=by simp only[Kq];omega):p:=h
def Cm{p:Prop}(h:p:=by simp[LV.dat,dats]):p:=h
def Cn{p:Prop}(h:p:=by simpa using z):p:=h
def Co{p:Prop}(h:p:=by simp[B,O]):p:=h
def Cp{p:Prop}(h:p:=by simp only[Pl];unfold Ou;rw[z]):p:=h
def Cq{p:Prop}(h:p:=by rw[C,Q];exact F):p:=h
def Cr{p:Prop}(h:p:=by simpa using G):p:=h
def Cs{p:Prop}(h:p:=by rw[g];decide):p:=h
def Ct{p:Prop}(h:p:=by cases op<;>rfl):p:=h
def Cu{p:Prop}(h:p:=by simp[I]):p:=h
def Cv{p:Prop}(h:p:=by rw[B,J7,ns];exact O):p:=h
def Cw{p:Prop}(h:p:=by simp[Pd]at h;omega):p:=h
def Cy{p:Prop}(h:p:=by rw[Q];exact U):p:=h
def Da{p:Prop}(h:p:=by simpa using A):p:=h
def Db{p:Prop}(h:p:=by show w.a+x+k≤w.a+(2*n+2*(m+1));omega):p:=h
def Dc{p:Prop}(h:p:=by rw[aa hl.2.2 hx,aa hl.2.1 hx,aa hl.2.2 hx,aa hl.2.1 hx];exact h.low x hx):p:=h
def Dd{p:Prop}(h:p:=by simp[Yh]):p:=h
def De{p:Prop}(h:p:=by simp[R]):p:=h
def Df{p:Prop}(h:p:=by simp[v7]):p:=h
def Dh{p:Prop}(h:p:=by show 0≤(a.k:Int);omega):p:=h
def Di{p:Prop}(h:p:=by simp[builtin]):p:=h
def Dk{p:Prop}(h:p:=by rw[←r6.length];exact r1):p:=h
def Dl{p:Prop}(h:p:=by rw[J7,h2,hx,Ku];omega):p:=h
def Dm{p:Prop}(h:p:=by have:=g.b;simpa [Pn.p] using this):p:=h
def Do{p:Prop}(h:p:=by simp[dats,LV.dat,Tb]):p:=h
def Dp{p:Prop}(h:p:=by simpa [binOp] using j):p:=h
def Dq{p:Prop}(h:p:=by rw[hg o rfl];exact r2):p:=h
def Dr{p:Prop}(h:p:=by rw[Zx];exact .int k _):p:=h
def Ds{p:Prop}(h:p:=by simpa using r1):p:=h
def Dt{p:Prop}(h:p:=by simpa using hi):p:=h
def Du{p:Prop}(h:p:=by simp[e]):p:=h
def Dv{p:Prop}(h:p:=by simp[P,P8,pW,T]):p:=h
def Dw{p:Prop}(h:p:=by simp[Rf]):p:=h
def Dx{p:Prop}(h:p:=by simp only[Kn];omega):p:=h
def Dy{p:Prop}(h:p:=by show Int.ofNat (a.toNat ||| b.toNat)<_;simp only[Kq];omega):p:=h
def Ea{p:Prop}(h:p:=by show Int.ofNat (a.toNat &&& b.toNat)<_;simp only[Kq];omega):p:=h
def Eb{p:Prop}(h:p:=by rw[J7,Me,U];show min (len*j) l.length+n*j=(len+n)*j;omega):p:=h
def Ec{p:Prop}(h:p:=by have:=List.findIdx_le_length (p:=p) (xs:=l);omega):p:=h
def Ed{p:Prop}(h:p:=by simpa [Op.operands] using j):p:=h
def Ee{p:Prop}(h:p:=by simp[Q]):p:=h
def Eh{p:Prop}(h:p:=by unfold Yf;cases keep<;>simp):p:=h
def Ei{p:Prop}(h:p:=by simp[h.l,h.i]):p:=h
def Ek{p:Prop}(h:p:=by simp[binOp,Op.intArith];rfl):p:=h
def El{p:Prop}(h:p:=by rw[O];exact R):p:=h
def Em{p:Prop}(h:p:=by have:=(hm.ev.row e).1;omega):p:=h
def En{p:Prop}(h:p:=by simp[execOp,A,z]):p:=h
def Eo{p:Prop}(h:p:=by simp only[Km,Option.some.injEq]at h;subst h;exact⟨_,rfl,e⟩):p:=h
def Ep{p:Prop}(h:p:=by rw[Pa A];exact K):p:=h
def Er{p:Prop}(h:p:=by simp[a2]):p:=h
def Es{p:Prop}(h:p:=by simp[Z]):p:=h
def Et{p:Prop}(h:p:=by rw[w7_val];omega):p:=h
def Eu{p:Prop}(h:p:=by simp[dats,LV.dat,Uy,zcf]):p:=h
def Ev{p:Prop}(h:p:=by rw[←h3];exact gg):p:=h
def Ew{p:Prop}(h:p:=by simp[binOp,Op.intCmp];rfl):p:=h
def Ey{p:Prop}(h:p:=by rw[J6 (Jx.1 e).1];exact e):p:=h
def Fa{p:Prop}(h:p:=by simp[dats,LV.dat,Uy,Uk]):p:=h
def Fb{p:Prop}(h:p:=by simp[h.i]):p:=h
def Fe{p:Prop}(h:p:=by simp[Y]):p:=h
def Ff{p:Prop}(h:p:=by rw[j,C,E]):p:=h
def Fh{p:Prop}(h:p:=by have:=congrArg List.length hd;simp at this;omega):p:=h
def Fi{p:Prop}(h:p:=by cases g):p:=h
def Fk{p:Prop}(h:p:=by simp[zeroValue,kw hi,g]):p:=h
def Fl{p:Prop}(h:p:=by simp[U]):p:=h
def Fo{p:Prop}(h:p:=by rw[zs2];rfl):p:=h
def Fp{p:Prop}(h:p:=by have:=(D1.lt e).1;omega):p:=h
def Fq{p:Prop}(h:p:=by rw[Pa I,jG Q];exact T):p:=h
def Ft{p:Prop}(h:p:=by unfold Ot;split<;>simp):p:=h
def Fu{p:Prop}(h:p:=by simpa using hm):p:=h
def Fv{p:Prop}(h:p:=by simp[getObj,Sem.run,X]):p:=h
def Fw{p:Prop}(h:p:=by rw[K0,show Nat.ble len Ry=true from Ka C];rfl):p:=h
def Fx{p:Prop}(h:p:=by have:=C.1;have:=C.2;simp only[bq]at *;omega):p:=h
def Fy{p:Prop}(h:p:=by simp[Pd];omega):p:=h
def Ga{p:Prop}(h:p:=by rw[q];rfl):p:=h
def Gb{p:Prop}(h:p:=by simpa using H):p:=h
def Gc{p:Prop}(h:p:=by simpa using C):p:=h
def Ge{p:Prop}(h:p:=by simp[binOp,Op.intCmp]):p:=h
def Gf{p:Prop}(h:p:=by simp[Pn.p]):p:=h
def Gh{p:Prop}(h:p:=by rw[hb _ _ C];exact h2):p:=h
def Gi{p:Prop}(h:p:=by have:s.data.toList.length=s.size:=rfl;omega):p:=h
def Gk{p:Prop}(h:p:=by simp[Ub,U,Yc];omega):p:=h
def Gl{p:Prop}(h:p:=by simp[Op.operands,e]):p:=h
def Gm{p:Prop}(h:p:=by rw[Fr.cat,Fr.stp,Fr.stp,stp_cat r g];omega):p:=h
def Gn{p:Prop}(h:p:=by cases q):p:=h
def Gp{p:Prop}(h:p:=by simpa using e):p:=h
def Gq{p:Prop}(h:p:=by simp[V]):p:=h
def Gr{p:Prop}(h:p:=by simp[T]):p:=h
def Gs{p:Prop}(h:p:=by rw[h]):p:=h
def Gt{p:Prop}(h:p:=by show w.a+2*h+2*m≤w.a+(2*n+2*(m+1));omega):p:=h
def Gu{p:Prop}(h:p:=by simp[J0,hj]):p:=h
def Gv{p:Prop}(h:p:=by simp only[c7];omega):p:=h
def Gw{p:Prop}(h:p:=by rw[y3,z3]):p:=h
def Gx{p:Prop}(h:p:=by simp[hs.len]):p:=h
def Gy{p:Prop}(h:p:=by have:=u.toNat_lt;simp only[Kq];omega):p:=h
def Ha{p:Prop}(h:p:=by simp[Py]at h;omega):p:=h
def Hc{p:Prop}(h:p:=by simp only[Kq];exact Int.ofNat_lt.2 F):p:=h
def Hd{p:Prop}(h:p:=by show y+1≤2*9223372036854775808;omega):p:=h
def He{p:Prop}(h:p:=by show x+1≤2*9223372036854775808;omega):p:=h
def Hf{p:Prop}(h:p:=by simp[c7]):p:=h
def Hh{p:Prop}(h:p:=by simp[Rb]):p:=h
def Hi{p:Prop}(h:p:=by simp[R7]):p:=h
def Hk{p:Prop}(h:p:=by simp[Qg,hi]):p:=h
def Hm{p:Prop}(h:p:=by show s.i+1≤_;omega):p:=h
def Hn{p:Prop}(h:p:=by rw[gA];simp):p:=h
def Ho{p:Prop}(h:p:=by rw[Q,z1]):p:=h
def Hq{p:Prop}(h:p:=by simp[stepG,stepG.exec,Frame.atR]):p:=h
def Hr{p:Prop}(h:p:=by simp[R3,(zep j ops l _ (i+1) 0).1]):p:=h
def Hs{p:Prop}(h:p:=by simp[LV.dat,Yt]):p:=h
def Ht{p:Prop}(h:p:=by rw[hx];exact List.mem_flatMap.2 ⟨_,N,gg⟩):p:=h
inductive Tr (α:Type) where
 |e
 |n (v:Option α) (l r:Tr α)
structure GetF (α:Type) where run:Tr α→Option α
structure SetF (α:Type) where run:α→Tr α→Tr α
def getF{g:Type}:List Bool→GetF g
 |[]=>⟨λt=>Tr.rec none (λv _ _ _ _=>v) t⟩
 |b::p=>match b with
  |true=>⟨λt=>Tr.rec none (λ_ l _ _ _=>(getF p).run l) t⟩
  |false=>⟨λt=>Tr.rec none (λ_ _ r _ _=>(getF p).run r) t⟩
def du{g:Type}:List Bool→SetF g
 |[]=>⟨λa t=>Tr.rec (.n (some a) .e .e) (λ_ l r _ _=>.n (some a) l r) t⟩
 |b::p=>match b with
  |true=>⟨λa t=>Tr.rec (.n none ((du p).run a .e) .e) (λv l r _ _=>.n v ((du p).run a l) r) t⟩
  |false=>⟨λa t=>Tr.rec (.n none .e ((du p).run a .e)) (λv l r _ _=>.n v l ((du p).run a r)) t⟩
def On(p:List Bool)(t:Tr vT):Option vT:=(getF p).run t
def P7(a:vT)(p:List Bool)(t:Tr vT):Tr vT:=(du p).run a t
def znv:Nat→Nat→List Bool
 |0,_=>[]
 |f+1,k=>match k with
  |0=>[]
  |k+1=>Nat.beq (Nat.mod k 2) 0::znv f (Nat.div k 2)
def O1(k:Nat):List Bool:=znv (Nat.succ k) k
def Ry:Nat:=1000000000
def Su{g:Type}:List g→Nat→Tr g→Tr g
 |[],_,t=>t
 |a::l,i,t=>Su l (i+1) (P7 a (O1 i) t)
inductive AV where
 |bool (b:Bool)
 |int (k:IntKind) (n:Int)
 |str (len n:Nat)
 |nilPtr
 |ptr (o v i:Nat)
 |nilSl
 |sl (o v i len esz:Nat) (room:Option Nat)
 |emp
 |nilMap
 |map (o:Nat)
 |nilFn
 |fn (f:Fn) (first cap:List AV)
 |nilIf
 |iface (t:TypeId) (v:AV)
 |agg (cs:List AV)
 |tup (vs:List AV)
 deriving Inhabited
def AV.cells:AV→Option (List AV)
 |.agg cs=>some cs
 |.tup _=>none
 |v=>some [v]
def Qe:List UInt8→Nat
 |[]=>0
 |b::l=>b.toNat+256*Qe l
def oj:Value→Option AV
 |.bool b=>some (.bool b)
 |.int k n=>some (.int k n)
 |.string s=>some (.str s.data.toList.length (Qe s.data.toList))
 |.pointer none=>some .nilPtr
 |.slice none 0 0=>some .nilSl
 |.map none=>some .nilMap
 |.nilFunc=>some .nilFn
 |.nilIface=>some .nilIf
 |_=>none
def Vk:List Value→Option (List AV)
 |[]=>some []
 |v::l=>match oj v with
  |none=>none
  |some a=>match Vk l with
   |none=>none
   |some r=>some (a::r)
def X5:Value→Option AV
 |.agg g=>(Vk g.toList).map .agg
 |.tuple j=>if j.size=0 then some (.tup []) else none
 |v=>oj v
inductive AObj where
 |cells (c:Tr AV) (len ver:Nat) (ro:Bool)
 |map (es:List (AV×AV×Nat)) (clock:Nat)
 |iter (len n pos:Nat)
 |loop (st:LoopState) (pend:Option Code) (f nt:Nat) (env:Tr AV) (ps:Array Tmp) (assign body:Code) (defers:Nat)
 |defd (isOpen:Bool)
structure Heap where
 t:Tr AObj
 next:Nat
def Heap.get(H:Heap)(o:Nat):Option AObj:=On (O1 o) H.t
def Heap.put(H:Heap)(o:Nat)(x:AObj):Heap:=⟨P7 x (O1 o) H.t,H.next⟩
def Heap.push(H:Heap)(x:AObj):Heap:=⟨P7 x (O1 H.next) H.t,H.next+1⟩
def Tv(c:Tr AV):Nat→Nat→Option (List AV)
 |_,0=>some []
 |i,n+1=>match On (O1 i) c with
  |none=>none
  |some a=>match Tv c (i+1) n with
   |none=>none
   |some l=>some (a::l)
def Sd(j:Heap)(o v i n:Nat):Option (List AV) :=
 match j.get o with
 |some (.cells c len g _)=>match Nat.beq v g with
  |true=>match Nat.ble (Nat.add i n) len with
   |true=>Tv c i n
   |false=>none
  |false=>none
 |_=>none
def Wx(j:Heap)(o v i:Nat)(l:List AV):Option Heap :=
 match j.get o with
 |some (.cells c len g false)=>match Nat.beq v g with
  |true=>match Nat.ble (Nat.add i l.length) len with
   |true=>some (j.put o (.cells (Su l i c) len g false))
   |false=>none
  |false=>none
 |_=>none
def newObj(g:Heap)(l:List AV):Option (Nat×Heap):=some (g.next,g.push (.cells (Su l 0 .e) l.length 0 false))
inductive Tgt where
 |fn (f:Nat)
 |yield (l:Nat)
inductive OR where
 |no
 |val (v:AV) (H:Heap)
 |call (t:Tgt) (args:List AV)
structure OpdF where run:Tr AV→Option AV
structure OpF where run:Tr AV→Heap→OR
def Tc:AV:=.tup []
def O8(x:Operand):OpdF :=
 match x with
 |.tmp t=>match Nat.ble t Ry with
  |true=>⟨λg=>Option.rec (some Tc) (λv=>some v) (On (O1 t) g)⟩
  |false=>⟨λ_=>none⟩
 |.const v=>match X5 v with
  |some a=>⟨λ_=>some a⟩
  |none=>⟨λ_=>none⟩
 |.func f=>⟨λ_=>some (.fn (.func f) [] [])⟩
 |.global _=>⟨λ_=>none⟩
structure OpdsF where run:Tr AV→Option (List AV)
def opds:List Operand→OpdsF
 |[]=>⟨λ_=>some []⟩
 |x::l=>⟨λg=>match (O8 x).run g with
  |none=>none
  |some a=>match (opds l).run g with
   |none=>none
   |some r=>some (a::r)⟩
def Pk:OpF:=⟨λ_ _=>.no⟩
def ret1(g:Heap)(o:Option AV):OR:=match o with
 |some v=>.val v g
 |none=>.no
def Ro(x:Operand)(f:Heap→AV→OR):OpF:=⟨λg j=>Option.rec .no (λa=>f j a) ((O8 x).run g)⟩
def Uq(x y:Operand)(f:Heap→AV→AV→OR):OpF:=⟨λg j=>Option.rec .no (λa=>Option.rec .no (λb=>f j a b) ((O8 y).run g)) ((O8 x).run g)⟩
def Qg(g:Program)(t:TypeId):Option Nat:=(g.info? t).map (·.size)
def Ua(g:Program)(t:TypeId):Option Bool:=match g.underlying t with
 |some (.struct _)|some (.array _ _)=>some true
 |some _=>some false
 |none=>none
def Tz(g:Program)(t:TypeId):Option (List AV):=match g.info? t with
 |some i=>match i.zero with
  |some v=>match Vk v.cells.toList with
   |some l=>if l.length=i.size then some l else none
   |none=>none
  |none=>none
 |none=>none
def znk(g:Program)(t:TypeId):Option AV:=match g.info? t with
 |some i=>match i.zero with
  |some v=>X5 v
  |none=>none
 |none=>none
def X7(j:Heap)(l:List AV):OR:=match newObj j l with
 |some (o,g)=>.val (.ptr o 0 0) g
 |none=>.no
def cu:IntKind→Nat
 |.i8=>0 |.i16=>1 |.i32=>2 |.i64=>3 |.u8=>4 |.u16=>5 |.u32=>6 |.u64=>7
def Yw(k g:IntKind):Bool:=Nat.beq (cu k) (cu g)
def eqI(a b:Int):Bool:=match a,b with
 |.ofNat x,.ofNat y=>Nat.beq x y
 |.negSucc x,.negSucc y=>Nat.beq x y
 |_,_=>false
def wv(a b:Int):Bool:=match a,b with
 |.ofNat x,.ofNat y=>Nat.blt x y
 |.negSucc x,.negSucc y=>Nat.blt y x
 |.negSucc _,.ofNat _=>true
 |.ofNat _,.negSucc _=>false
def Yi:IntKind→Nat
 |.i8=>128 |.u8=>128 |.i16=>32768 |.u16=>32768 |.i32=>2147483648 |.u32=>2147483648
 |.i64=>9223372036854775808 |.u64=>9223372036854775808
def V7(k:IntKind)(n:Int):Int:=match n with
 |.ofNat m=>match Nat.blt m (Yi k) with
  |true=>.ofNat m
  |false=>k.wrap (.ofNat m)
 |.negSucc m=>k.wrap (.negSucc m)
def V2(k:IntKind):Nat:=Nat.mul 2 (Yi k)
def Zw(f:Nat→Nat→Nat)(k:IntKind)(a b:Int):Option AV:=match a,b with
 |.ofNat x,.ofNat y=>match Nat.blt x (V2 k) with
  |true=>match Nat.blt y (V2 k) with
   |true=>some (.int k (V7 k (.ofNat (f x y))))
   |false=>none
  |false=>none
 |_,_=>none
def dt(b:Int):Bool:=match b with
 |.ofNat n=>Nat.beq n 0
 |_=>false
def zoh(op:BinOp)(k:IntKind)(a b:Int):Option AV :=
 match op with
 |.add=>some (.int k (V7 k (Int.add a b)))
 |.sub=>some (.int k (V7 k (Int.sub a b)))
 |.mul=>some (.int k (V7 k (Int.mul a b)))
 |.quo=>match dt b with
  |true=>none
  |false=>some (.int k (V7 k (Int.tdiv a b)))
 |.rem=>match dt b with
  |true=>none
  |false=>some (.int k (Int.tmod a b))
 |.and=>Zw Nat.land k a b
 |.or=>Zw Nat.lor k a b
 |.xor=>Zw Nat.xor k a b
 |.andNot=>Zw (λx y=>Nat.xor x (Nat.land x y)) k a b
 |.eql=>some (.bool (eqI a b))
 |.neq=>some (.bool (!(eqI a b)))
 |.lss=>some (.bool (wv a b))
 |.leq=>some (.bool (!(wv b a)))
 |.gtr=>some (.bool (wv b a))
 |.geq=>some (.bool (!(wv a b)))
 |_=>none
def Rv(a b:Nat):Nat:=match Nat.ble a b with
 |true=>a
 |false=>b
def zlp(op:BinOp)(k:IntKind)(a:Int)(y:Int):Option AV :=
 match a,y with
 |.ofNat x,.ofNat y=>match op with
  |.shl=>some (.int k (V7 k (.ofNat (Nat.mul x (Nat.pow 2 (Rv y k.bits))))))
  |.shr=>some (.int k (.ofNat (Nat.div x (Nat.pow 2 (Rv y k.bits)))))
  |_=>none
 |_,_=>none
def W8:Nat→Nat→List Nat
 |0,_=>[]
 |len+1,n=>Nat.mod n 256::W8 len (Nat.div n 256)
def kc:List Nat→List Nat→Bool
 |_,[]=>false
 |[],_::_=>true
 |a::x,b::y=>Nat.blt a b || (Nat.beq a b&&kc x y)
def zs7(op:BinOp)(g a j b:Nat):Option AV :=
 match op with
 |.add=>match Nat.ble (Nat.add g j) Ry with
  |true=>some (.str (Nat.add g j) (Nat.add a (Nat.mul b (Nat.pow 256 g))))
  |false=>none
 |.eql=>some (.bool (Nat.beq g j&&Nat.beq a b))
 |.neq=>some (.bool (!(Nat.beq g j&&Nat.beq a b)))
 |.lss=>some (.bool (kc (W8 g a) (W8 j b)))
 |.gtr=>some (.bool (!(kc (W8 g a) (W8 j b) || (Nat.beq g j&&Nat.beq a b))))
 |.leq=>some (.bool (kc (W8 g a) (W8 j b) || (Nat.beq g j&&Nat.beq a b)))
 |.geq=>some (.bool (!(kc (W8 g a) (W8 j b))))
 |_=>none
def Zf(l:List AV)(g n:Nat):Option (List AV):=match Nat.ble (Nat.add g n) l.length with
 |true=>some ((l.drop g).take n)
 |false=>none
def fk(z:Bool)(g:Nat)(l:List AV)(j:Nat):Option AV :=
 match z with
 |true=>match Zf l j g with
  |some r=>some (.agg r)
  |none=>none
 |false=>l[j]?
def zrl(j:Program)(t:TypeId)(l:List AV)(g:Nat):Option AV :=
 match Ua j t,Qg j t with
 |some z,some n=>fk z n l g
 |_,_=>none
def di(z:Program)(f:TypeId→AV→AV→Option Bool)(g j:List AV):List Field→Option Bool
 |[]=>some true
 | fd :: l => match fd.name != "_" with
  |true=>match zrl z fd.type g fd.offset,zrl z fd.type j fd.offset with
   |some a,some b=>match f fd.type a b with
    |some true=>di z f g j l
    |some false=>some false
    |none=>none
   |_,_=>none
  |false=>di z f g j l
def nc(z:Program)(f:TypeId→AV→AV→Option Bool)(t:TypeId)(n:Nat)(g j:List AV):List Nat→Option Bool
 |[]=>some true
 |i::l=>match zrl z t g (Nat.mul i n),zrl z t j (Nat.mul i n) with
  |some a,some b=>match f t a b with
   |some true=>nc z f t n g j l
   |some false=>some false
   |none=>none
  |_,_=>none
def ar(z:Program)(f:TypeId→AV→AV→Option Bool)(t:TypeId)(a b:AV):Option Bool:=match z.underlying t,a,b with
  |some .bool,.bool x,.bool y=>some (x==y)
  |some (.int _),.int k x,.int A y=>match Yw k A with
   |true=>some (eqI x y)
   |false=>none
  |some .string,.str B x,.str C y=>some (Nat.beq B C&&Nat.beq x y)
  |some (.pointer _),.nilPtr,.nilPtr=>some true
  |some (.pointer _),.nilPtr,.ptr _ _ _=>some false
  |some (.pointer _),.ptr _ _ _,.nilPtr=>some false
  |some (.interface _),.nilIf,.nilIf=>some true
  |some (.interface _),.nilIf,.iface _ _=>some false
  |some (.interface _),.iface _ _,.nilIf=>some false
  |some (.slice _),.nilSl,.nilSl=>some true
  |some (.slice _),.nilSl,.sl _ _ _ _ _ _=>some false
  |some (.slice _),.sl _ _ _ _ _ _,.nilSl=>some false
  |some (.slice _),.nilSl,.emp=>some false
  |some (.slice _),.emp,.nilSl=>some false
  |some (.map _ _),.nilMap,.nilMap=>some true
  |some (.map _ _),.nilMap,.map _=>some false
  |some (.map _ _),.map _,.nilMap=>some false
  |some (.func _ _ _),.nilFn,.nilFn=>some true
  |some (.func _ _ _),.nilFn,.fn _ _ _=>some false
  |some (.func _ _ _),.fn _ _ _,.nilFn=>some false
  |some (.struct D),.agg g,.agg j=>match z.stoodInHeld t with
   |true=>none
   |false=>di z f g j D.toList
  |some (.array n e),.agg g,.agg j=>match Qg z e with
   |some s=>nc z f e s g j (List.range n)
   |none=>none
  |_,_,_=>none
def eqT(g:Program):Nat→TypeId→AV→AV→Option Bool
 |0=>λ_ _ _=>none
 |d+1=>ar g (eqT g d)
def zis(g:Program)(j:Bool)(t:TypeId)(a b:AV):Bool:=match a,b with
 |.nilIf,.nilIf=>j
 |.agg _,.agg _=>!(g.eqGuardType g.depth t)
 |_,_=>true
def Tg(g:Program)(j:Bool)(t:TypeId)(a b:AV):Option Bool:=match zis g j t a b with
 |true=>eqT g 20 t a b
 |false=>none
def zb:Option Bool→Option AV
 |some b=>some (.bool (!b))
 |none=>none
def yesB:Option Bool→Option AV
 |some b=>some (.bool b)
 |none=>none
def Xy:Operand→Bool
 |.const _=>true
 |_=>false
def Qv(A:Program)(op:BinOp)(B:Bool)(t:TypeId)(a b:AV):Option AV :=
 match a,b with
 |.int k x,.int g y=>match op with
  |.shl=>zlp .shl k x y
  |.shr=>zlp .shr k x y
  |op=>match Yw k g with
   |true=>zoh op k x y
   |false=>none
 |.str j x,.str z y=>zs7 op j x z y
 |a,b=>match op with
  |.eql=>yesB (Tg A B t a b)
  |.neq=>zb (Tg A B t a b)
  |_=>none
def unA(op:UnOp)(a:AV):Option AV :=
 match op,a with
 |.neg,.int k n=>some (.int k (V7 k (Int.sub 0 n)))
 |.xor,.int k n=>some (.int k (k.wrap (BitVec.ofInt k.bits (if k.signed then -1 else k.max) ^^^ BitVec.ofInt k.bits n).toNat))
 |.not,.bool b=>some (.bool (!b))
 |_,_=>none
def Vd:List AV→Nat→List AV→List AV
 |g,_,[]=>g
 |g,i,a::l=>Vd (g.set i a) (i+1) l
structure Part where
 off:Nat
 size:Nat
 v:OpdF
def aq(cs:List AV):List Part→Tr AV→Option (List AV)
 |[],_=>some cs
 |p::g,j=>match p.v.run j with
  |none=>none
  |some a=>match a.cells with
   |none=>none
   |some l=>match Nat.beq l.length p.size with
    |true=>match Nat.ble (Nat.add p.off p.size) cs.length with
     |true=>aq (Vd cs p.off l) g j
     |false=>none
    |false=>none
def ju(g:Nat→Option (Nat×Nat)):List (Nat×Operand)→Option (List Part)
 |[]=>some []
 |(i,x)::l=>match g i with
  |none=>none
  |some (o,s)=>match ju g l with
   |none=>none
   |some r=>some (⟨o,s,O8 x⟩::r)
def za8(g:Program):List Field→Option (List (Nat×Nat))
 |[]=>some []
 |f::l=>match Qg g f.type with
  |none=>none
  |some s=>match za8 g l with
   |none=>none
   |some r=>some ((f.offset,s)::r)
def zh4(D:Program)(t:TypeId)(g:Array (Nat×Operand)):OpF :=
 match Tz D t with
 |none=>Pk
 |some C=>match D.underlying t with
  |some (.struct j)=>match za8 D j.toList with
   |none=>Pk
   |some pl=>match ju (pl[·]?) g.toList with
    |none=>Pk
    |some B=>⟨λE F=>match aq C B E with
     |some l=>.val (.agg l) F
     |none=>.no⟩
  |some (.array _ A)=>match Qg D A with
   |none=>Pk
   |some z=>match ju (λi=>some (i*z,z)) g.toList with
    |none=>Pk
    |some B=>⟨λE F=>match aq C B E with
     |some l=>.val (.agg l) F
     |none=>.no⟩
  |_=>Pk
def Up(l:List AV):Nat→List AV
 |0=>[]
 |n+1=>l++Up l n
def uq(A:Program)(t:TypeId)(len:Nat)(z:Array (Nat×Operand)):OpF :=
 match A.underlying t with
 |some (.slice j)=>match Qg A j with
  |none=>Pk
  |some g=>match Tz A j with
   |none=>Pk
   |some D=>if len*g≤2^20∧0<g then
     match ju (λi=>some (i*g,g)) z.toList with
     |none=>Pk
     |some B=>⟨λE F=>match aq (Up D len) B E with
      |some l=>match newObj F l with
       |some (o,C)=>.val (.sl o 0 0 len g (some len)) C
       |none=>.no
      |none=>.no⟩
    else Pk
 |_=>Pk
def znh(j:Program)(t:TypeId)(x:Operand):OpF :=
 match Ua j t,Qg j t with
 |some true,some n=>Ro x λg a=>match a with
  |.ptr o v i=>match Sd g o v i n with
   |some l=>.val (.agg l) g
   |none=>.no
  |_=>.no
 |some false,some _=>Ro x λg a=>match a with
  |.ptr o v i=>match Sd g o v i 1 with
   |some [c]=>.val c g
   |_=>.no
  |_=>.no
 |_,_=>Pk
def zkv(j:Program)(t:TypeId)(x y:Operand):OpF :=
 match Qg j t with
 |some n=>Uq x y λz a b=>match a with
  |.ptr o v i=>match b.cells with
   |some l=>match Nat.beq l.length n with
    |true=>match Wx z o v i l with
     |some g=>.val Tc g
     |none=>.no
    |false=>.no
   |none=>.no
  |_=>.no
 |none=>Pk
def zn(g:Heap)(a:AV):OR:=match a with
 |.ptr o v i=>.val (.ptr o v i) g
 |.iface t v=>.val (.iface t v) g
 |.fn (.func f) l c=>.val (.fn (.func f) l c) g
 |.map o=>.val (.map o) g
 |_=>.no
def W6(P:Program)(src dst:TypeId)(x:Operand):OpF :=
 match P.underlying src,P.underlying dst with
 |some _,some (.int k)=>Ro x λH a=>match a with
  |.int _ n=>.val (.int k (V7 k n)) H
  |_=>.no
 |some (.slice e),some .string=>match P.underlying e with
  |some (.int .u8)=>Ro x λH a=>match a with
   |.nilSl=>.val (.str 0 0) H
   |.sl o v i len 1 _=>match Sd H o v i len with
    |some l=>match bytesA l with
     |some n=>.val (.str len n) H
     |none=>.no
    |none=>.no
   |_=>.no
  |_=>Pk
 |some _,some .string=>Ro x λH a=>match a with
  |.str l n=>.val (.str l n) H
  |_=>.no
 |some _,some (.slice e)=>match P.underlying e,Qg P e with
  |some (.int .u8),some 1=>Ro x λH a=>match a with
   |.str len n=>match newObj H ((W8 len n).map λ(b:Nat)=>AV.int .u8 (Int.ofNat b)) with
    |some (o,H')=>.val (.sl o 0 0 len 1 none) H'
    |none=>.no
   |_=>.no
  |_,_=>Pk
 |_,_=>Pk
where
 bytesA:List AV→Option Nat
  |[]=>some 0
  |.int .u8 (.ofNat b)::l=>if Nat.blt b 256 then match bytesA l with
   |some n=>some (b+256*n)
   |none=>none
   else none
  |_=>none
def z8d(g:Program)(t:TypeId)(x:Operand):OpF :=
 match g.underlying t with
 |some (.interface _)=>Pk
 |some _=>Ro x λj a=>.val (.iface t a) j
 |none=>Pk
def zbc(f:Fn)(first cap:Array Operand):OpF :=
 ⟨λg j=>match (opds first.toList).run g with
  |some l=>match (opds cap.toList).run g with
   |some r=>.val (.fn f l r) j
   |none=>.no
  |none=>.no⟩
def Y1(g:Heap):OR:=.val (.map g.next) (g.push (.map [] 0))
def te(j:Program)(t:TypeId)(r:Option Operand):OpF :=
 match r with
 |none=>⟨λ_ g=>Y1 g⟩
 |some x=>match j.underlying t with
  |some (.map _ _)=>Ro x λg a=>match a with
   |.int _ _=>Y1 g
   |_=>.no
  |_=>Pk
def vy(j:Program)(t:TypeId)(l c:Operand):OpF :=
 match j.underlying t with
 |some (.slice g)=>match j.info? g with
  |none=>Pk
  |some i=>match Tz j g with
   |none=>Pk
   |some A=>if 0<i.size∧i.bytes≤2^16 then Uq l c λB a b=>match a,b with
    |.int .i64 (.ofNat l),.int .i64 (.ofNat c)=>match Nat.ble l c with
     |true=>match Nat.ble c 1048576 with
      |true=>match newObj B (Up A c) with
       |some (o,z)=>.val (.sl o 0 0 l i.size (some c)) z
       |none=>.no
      |false=>.no
     |false=>.no
    |_,_=>.no
    else Pk
 |_=>Pk
structure OptF where run:Tr AV→Option (Option Nat)
def Rp:Option Operand→OptF
 |none=>⟨λ_=>some none⟩
 |some x=>⟨λg=>match (O8 x).run g with
  |some (.int _ (.ofNat n))=>some (some n)
  |_=>none⟩
def fq(l h m o v i g:Nat):AV :=
 match Nat.beq l m with
 |true=>match Nat.beq l 0 with
  |true=>.sl o v i 0 g (some 0)
  |false=>.emp
 |false=>.sl o v (Nat.add i (Nat.mul l g)) (Nat.sub h l) g (some (Nat.sub m l))
def tz(l h j:Nat)(A:Option Nat)(o v i g:Nat)(z:Option Nat):Option AV :=
 match Nat.ble l h with
 |false=>none
 |true=>match Nat.ble h j with
  |false=>none
  |true=>match A with
   |some m=>match Nat.ble h m with
    |false=>none
    |true=>match Nat.ble m j with
     |false=>none
     |true=>some (fq l h m o v i g)
   |none=>match z with
    |some r=>some (fq l h r o v i g)
    |none=>match Nat.beq l 0 with
     |true=>some (.sl o v i h g none)
     |false=>match Nat.beq l h with
      |true=>some .emp
      |false=>some (.sl o v (Nat.add i (Nat.mul l g)) (Nat.sub h l) g none)
def Wf(g:Nat)(z hi mx:Option Nat)(o v i len j:Nat)(room:Option Nat):Option AV :=
 match Nat.beq j g with
 |false=>none
 |true=>tz (z.getD 0) (hi.getD len) (room.getD len) mx o v i j room
def ny(P:Program)(t:TypeId)(x:Operand)(j hi mx:Option Operand):OpF :=
 match P.underlying t with
 |some .string=>match mx with
  |some _=>Pk
  |none=>⟨λA D=>match (O8 x).run A,(Rp j).run A,(Rp hi).run A with
   |some (.str len n),some j,some hi =>
    let l:=j.getD 0;let h:=hi.getD len
    match Nat.ble l h with
    |true=>match Nat.ble h len with
     |true=>.val (.str (Nat.sub h l) (Nat.mod (Nat.div n (Nat.pow 256 l)) (Nat.pow 256 (Nat.sub h l)))) D
     |false=>.no
    |false=>.no
   |_,_,_=>.no⟩
 |some (.slice z)=>if mx.isSome&&hi.isNone then Pk else match Qg P z with
  |none=>Pk
  |some g=>⟨λA D=>match (O8 x).run A,(Rp j).run A,(Rp hi).run A,(Rp mx).run A with
   |some (.sl o v i len E B),some j,some hi,some mx=>ret1 D (Wf g j hi mx o v i len E B)
   |some .nilSl,some j,some hi,some none=>match Nat.beq (Nat.add (j.getD 0) (hi.getD 0)) 0 with
    |true=>.val .nilSl D
    |false=>.no
   |some .emp,some j,some hi,some none=>match Nat.beq (Nat.add (j.getD 0) (hi.getD 0)) 0 with
    |true=>.val .emp D
    |false=>.no
   |_,_,_,_=>.no⟩
 |some (.array n z)=>if mx.isSome&&hi.isNone then Pk else match Qg P z with
  |none=>Pk
  |some g=>⟨λA D=>match (O8 x).run A,(Rp j).run A,(Rp hi).run A,(Rp mx).run A with
   |some (.ptr o v i),some j,some hi,some mx=>match D.get o with
    |some (.cells _ C F false)=>match Nat.beq v F with
     |true=>match Nat.ble (Nat.add i (Nat.mul n g)) C with
      |true=>ret1 D (Wf g j hi mx o v i n g (some n))
      |false=>.no
     |false=>.no
    |_=>.no
   |_,_,_,_=>.no⟩
 |_=>Pk
def z4m(z:Program)(s:TypeId)(x:Operand)(f:Nat):OpF :=
 match z.underlying s with
 |some (.struct g)=>match g[f]? with
  |none=>Pk
  |some fd=>match Qg z fd.type with
   |none=>Pk
   |some 0=>Pk
   |some _=>let j:=fd.offset;Ro x λA a=>match a with
    |.ptr o v i=>.val (.ptr o v (Nat.add i j)) A
    |_=>.no
 |_=>Pk
def zg3(z:Program)(t:TypeId)(x:Operand)(f:Nat):OpF :=
 match z.underlying t with
 |some (.struct g)=>match g[f]? with
  |none=>Pk
  |some fd=>match Ua z fd.type,Qg z fd.type with
   |some A,some n=>let j:=fd.offset;Ro x λB a=>match a with
    |.agg l=>ret1 B (fk A n l j)
    |_=>.no
   |_,_=>Pk
 |_=>Pk
def z4i(B:Program)(t:TypeId)(x A:Operand):OpF :=
 match B.underlying t with
 |some (.slice g)=>match Qg B g with
  |none=>Pk
  |some j=>Uq x A λC a b=>match a,b with
   |.sl o v i len z _,.int _ (.ofNat n)=>match Nat.blt n len with
    |true=>match Nat.beq z j with
     |true=>.val (.ptr o v (Nat.add i (Nat.mul n z))) C
     |false=>.no
    |false=>.no
   |_,_=>.no
 |some (.array len g)=>match Qg B g with
  |none=>Pk
  |some j=>Uq x A λC a b=>match a,b with
   |.ptr o v i,.int _ (.ofNat n)=>match Nat.blt n len with
    |true=>.val (.ptr o v (Nat.add i (Nat.mul n j))) C
    |false=>.no
   |_,_=>.no
 |_=>Pk
def zfp(A:Program)(t:TypeId)(x z:Operand):OpF :=
 match A.underlying t with
 |some .string=>Uq x z λB a b=>match a,b with
  |.str len n,.int _ (.ofNat i)=>match Nat.blt i len with
   |true=>.val (.int .u8 (Int.ofNat (Nat.mod (Nat.div n (Nat.pow 256 i)) 256))) B
   |false=>.no
  |_,_=>.no
 |some (.array len g)=>match Ua A g,Qg A g with
  |some C,some j=>Uq x z λB a b=>match a,b with
   |.agg l,.int _ (.ofNat n)=>match Nat.blt n len with
    |true=>ret1 B (fk C j l (Nat.mul n j))
    |false=>.no
   |_,_=>.no
  |_,_=>Pk
 |_=>Pk
def og(d:TypeDesc)(a b:AV):Option Bool:=match d,a,b with
 |.int _,.int k a,.int g b=>match Yw k g with
  |true=>some (eqI a b)
  |false=>none
 |.string,.str j a,.str z b=>some (Nat.beq j z&&Nat.beq a b)
 |.bool,.bool a,.bool b=>some (a==b)
 |_,_,_=>none
def Vz(g:Program)(t:TypeId):Option TypeDesc:=match g.underlying t with
 |some .bool=>some .bool
 |some (.int k)=>some (.int k)
 |some .string=>some .string
 |_=>none
def uy(d:TypeDesc)(k:AV):List (AV×AV×Nat)→Option (Option AV)
 |[]=>some none
 |(g,v,_)::l=>match og d k g with
  |some true=>some (some v)
  |some false=>uy d k l
  |none=>none
def u7(d:TypeDesc)(k v:AV)(g:Nat):List (AV×AV×Nat)→Option (List (AV×AV×Nat)×Bool)
 |[]=>some ([(k,v,g)],true)
 |(j,z,b)::l=>match og d k j with
  |some true=>some ((k,v,b)::l,false)
  |some false=>match u7 d k v g l with
   |some (r,n)=>some ((j,z,b)::r,n)
   |none=>none
  |none=>none
def zgk(d:TypeDesc)(k:AV):List (AV×AV×Nat)→Option (List (AV×AV×Nat))
 |[]=>some []
 |(g,j,b)::l=>match og d k g with
  |some true=>some l
  |some false=>match zgk d k l with
   |some r=>some ((g,j,b)::r)
   |none=>none
  |none=>none
def ztz(j:Heap)(a:AV):Option (List (AV×AV×Nat)):=match a with
 |.nilMap=>some []
 |.map o=>match j.get o with
  |some (.map g _)=>some g
  |_=>none
 |_=>none
def yc(z:Program)(t:TypeId)(x A:Operand)(ok:Bool):OpF :=
 match z.underlying t with
 |some (.map j g)=>match Vz z j,znk z g with
  |some d,some D=>Uq x A λB a b=>match ztz B a with
   |none=>.no
   |some C=>match uy d b C with
    |some (some v)=>.val (if ok then .tup [v,.bool true] else v) B
    |some none=>.val (if ok then .tup [D,.bool false] else D) B
    |none=>.no
  |_,_=>Pk
 |_=>Pk
def z4j(D:Program)(t:TypeId)(m k x:Operand):OpF :=
 match D.underlying t with
 |some (.map z _)=>match Vz D z with
  |some d=>⟨λA B=>match (O8 m).run A,(O8 k).run A,(O8 x).run A with
   |some (.map o),some k,some v=>match B.get o with
    |some (.map C g)=>match u7 d k v g C with
     |some (j,true)=>.val Tc (B.put o (.map j (Nat.add g 1)))
     |some (j,false)=>.val Tc (B.put o (.map j g))
     |none=>.no
    |_=>.no
   |_,_,_=>.no⟩
  |none=>Pk
 |_=>Pk
def rangeF(j:Program)(t:TypeId)(x:Operand):OpF :=
 match j.underlying t with
 |some .string=>Ro x λg a=>match a with
  |.str len n=>.val (.ptr g.next 0 0) (g.push (.iter len n 0))
  |_=>.no
 |_=>Pk
def zvq(x:Operand)(g:Bool):OpF :=
 if g then Ro x λz a=>match a with
  |.ptr o 0 0=>match z.get o with
   |some (.iter len n j)=>match Nat.blt j len with
    |true=>match Nat.blt (Nat.mod (Nat.div n (Nat.pow 256 j)) 256) 128 with
     |true=>.val (.tup [.bool true,.int .i64 (Int.ofNat j),.int .i32 (Int.ofNat (Nat.mod (Nat.div n (Nat.pow 256 j)) 256))]) (z.put o (.iter len n (Nat.add j 1)))
     |false=>.no
    |false=>.val (.tup [.bool false]) z
   |_=>.no
  |_=>.no
 else Pk
def yx(z:Program)(x:Operand)(g:TypeId)(ok:Bool):OpF :=
 match z.underlying g with
 |some (.interface _)=>Pk
 |some _=>match znk z g with
  |none=>Pk
  |some A=>Ro x λj a=>match a with
   |.nilIf=>if ok then .val (.tup [A,.bool false]) j else .no
   |.iface t v=>match Nat.beq t g with
    |true=>.val (if ok then .tup [v,.bool true] else v) j
    |false=>if ok then .val (.tup [A,.bool false]) j else .no
   |_=>.no
 |none=>Pk
def zel(x:Operand)(i:Nat):OpF:=Ro x λg a=>match a with
 |.tup l=>ret1 g l[i]?
 |_=>.no
def Wc(z:Program)(t:TypeId)(x:Operand):OpF :=
 match z.underlying t with
 |some .string=>Ro x λg a=>match a with
  |.str l _=>.val (.int .i64 (Int.ofNat l)) g
  |_=>.no
 |some (.slice _)=>Ro x λg a=>match a with
  |.sl _ _ _ len _ _=>.val (.int .i64 (Int.ofNat len)) g
  |.nilSl=>.val (.int .i64 0) g
  |.emp=>.val (.int .i64 0) g
  |_=>.no
 |some (.map _ _)=>Ro x λg a=>match a with
  |.nilMap=>.val (.int .i64 0) g
  |.map o=>match g.get o with
   |some (.map j _)=>.val (.int .i64 (Int.ofNat j.length)) g
   |_=>.no
  |_=>.no
 |some (.array n _)=>Ro x λg _=>.val (.int .i64 (Int.ofNat n)) g
 |_=>Pk
def Xu(j:Program)(t:TypeId)(x:Operand):OpF :=
 match j.underlying t with
 |some (.slice _)=>Ro x λg a=>match a with
  |.nilSl=>.val (.int .i64 0) g
  |.sl _ _ _ _ _ (some r)=>.val (.int .i64 (Int.ofNat r)) g
  |_=>.no
 |_=>Pk
def X6(g:Bool):AV→AV→Option AV
 |.int k x,.int j y=>match Yw k j with
  |true=>match g with
   |true=>match wv x y with
    |true=>some (.int k y)
    |false=>some (.int k x)
   |false=>match wv y x with
    |true=>some (.int k y)
    |false=>some (.int k x)
  |false=>none
 |_,_=>none
def Zs(g:Bool):AV→List AV→Option AV
 |a,[]=>some a
 |a,b::l=>match X6 g a b with
  |some c=>Zs g c l
  |none=>none
def U7(j:Bool)(g:List Operand):OpF:=⟨λz A=>match (opds g).run z with
 |some (.int k n::l)=>ret1 A (Zs j (.int k n) l)
 |_=>.no⟩
def gq(z:Heap)(g:Nat):AV→Option (Nat×List AV)
 |.nilSl=>some (0,[])
 |.emp=>some (0,[])
 |.sl o v i len j _=>match Nat.beq j g with
  |true=>match Sd z o v i (Nat.mul len g) with
   |some l=>some (len,l)
   |none=>none
  |false=>none
 |.str len n=>if Nat.beq g 1 then some (len,(W8 len n).map λ(b:Nat)=>AV.int .u8 (Int.ofNat b)) else none
 |_=>none
def Z6(z:Heap)(n g:Nat)(l:List AV):OR :=
 match newObj z l with
 |some (o,j)=>.val (.sl o 0 0 n g none) j
 |none=>.no
def Xh(D:Heap)(j:Nat)(s:AV)(n:Nat)(A:List AV):OR :=
 match Nat.beq n 0 with
 |true=>match s with
  |.nilSl=>.val .nilSl D
  |.emp=>.val .emp D
  |.sl o v i len g B=>.val (.sl o v i len g B) D
  |_=>.no
 |false=>match s with
  |.nilSl=>Z6 D n j A
  |.sl o v i len g B=>match Nat.beq g j&&Nat.ble len Ry with
   |false=>.no
   |true=>match B with
    |some r=>match Nat.ble (Nat.add len n) r with
     |true=>match Wx D o v (Nat.add i (Nat.mul len g)) A with
      |some E=>.val (.sl o v i (Nat.add len n) g (some r)) E
      |none=>.no
     |false=>match Sd D o v i (Nat.mul len j) with
      |some F=>Z6 D (Nat.add len n) j (F++A)
      |none=>.no
    |none=>match D.get o with
     |some (.cells c z C false)=>match Nat.beq v C with
      |false=>.no
      |true=>match Nat.ble (Nat.add i (Nat.mul (Nat.add len n) g)) z with
       |true=>match Wx D o v (Nat.add i (Nat.mul len g)) A with
        |some E=>.val (.sl o v i (Nat.add len n) g none) E
        |none=>.no
       |false=>match Nat.beq i 0 with
        |false=>.no
        |true=>match Nat.beq (Nat.mul len g) z with
         |false=>.no
         |true=>.val (.sl o (Nat.add C 1) 0 (Nat.add len n) g none) (D.put o (.cells (Su A z c) (Nat.add z A.length) (Nat.add C 1) false))
     |_=>.no
  |_=>.no
def zkg(P:Program)(g:TypeId)(s x:Operand):OpF :=
 match P.info? g,Tz P g with
 |some i,some j=>if 0<i.size∧i.bytes≤65536 then Uq s x λz a b=>match b with
   |.int .i64 (.ofNat n)=>match Nat.ble n 1048576 with
    |true=>Xh z i.size a n (Up j n)
    |false=>.no
   |_=>.no
  else Pk
 |_,_=>Pk
def vj(P:Program)(g:TypeId)(s x:Operand):OpF :=
 match P.info? g,Tz P g with
 |some i,some _=>if 0<i.size∧i.bytes≤65536 then Uq s x λj a b=>match gq j i.size b with
   |some (n,l)=>match Nat.ble n 1048576 with
    |true=>Xh j i.size a n l
    |false=>.no
   |none=>.no
  else Pk
 |_,_=>Pk
def zf2(P:Program)(z:Array TypeId)(j:Array Operand):OpF :=
 match z.toList,j.toList with
 |[st,A],[s,x]=>match P.underlying st,P.underlying A with
  |some (.slice g),some (.int _)=>zkg P g s x
  |some (.slice g),some (.slice _)=>vj P g s x
  |some (.slice g),some .string=>vj P g s x
  |_,_=>Pk
 |_,_=>Pk
def zvo(P:Program)(C:Array TypeId)(j:Array Operand):OpF :=
 match C.toList,j.toList with
 |[st,_],[d,x]=>match P.underlying st with
  |some (.slice z)=>match Qg P z with
   |none=>Pk
   |some g=>if 0<g then Uq d x λB a b=>match gq B g b with
    |some (n,l)=>match a with
     |.nilSl=>.val (.int .i64 0) B
     |.emp=>.val (.int .i64 0) B
     |.sl o v i len A _=>match Nat.beq A g with
      |true=>match Wx B o v i (l.take (Nat.mul (Rv n len) g)) with
       |some D=>.val (.int .i64 (Int.ofNat (Rv n len))) D
       |none=>.no
      |false=>.no
     |_=>.no
    |none=>.no
    else Pk
  |_=>Pk
 |_,_=>Pk
def zmq(B:Program)(C:Array TypeId)(z:Array Operand):OpF :=
 match C.toList,z.toList with
 |[st],[x]=>match B.underlying st with
  |some (.slice g)=>match Qg B g,Tz B g with
   |some j,some F=>if 0<j then Ro x λD a=>match a with
    |.nilSl=>.val Tc D
    |.emp=>.val Tc D
    |.sl o v i len A _=>match Nat.beq A j with
     |true=>match Wx D o v i (Up F len) with
      |some E=>.val Tc E
      |none=>.no
     |false=>.no
    |_=>.no
    else Pk
   |_,_=>Pk
  |_=>Pk
 |_,_=>Pk
def zff(D:Program)(B:Array TypeId)(j:Array Operand):OpF :=
 match B.toList,j.toList with
 |[mt,_],[m,k]=>match D.underlying mt with
  |some (.map z _)=>match Vz D z with
   |some d=>Uq m k λE a b=>match a with
    |.map o=>match E.get o with
     |some (.map C g)=>match zgk d b C with
      |some A=>.val Tc (E.put o (.map A g))
      |none=>.no
     |_=>.no
    |_=>.no
   |none=>Pk
  |_=>Pk
 |_,_=>Pk
def pg(g:Program)(f:Nat):Bool:=match g.funcs[f]? with
 | some fn => fn.name != "runtime.NumGoroutine" && fn.body.isSome
 |none=>false
def zg9(j:Program)(t:TypeId)(g:String):Option Nat:=match j.info? t with
 |some i=>match i.methods.find? (·.name==g) with
  |some m=>if m.path.isEmpty then match m.func,j.underlying t with
   |some (f,true),some (.pointer _)=>some f
   |some (_,false),some (.pointer _)=>none
   |some (f,false),some _=>some f
   |_,_=>none
   else none
  |none=>none
 |none=>none
def kh(g:Program)(f:AV)(args:List AV):OR:=match f with
 |.fn (.func f) first cap=>if pg g f then .call (.fn f) (first++args++cap) else .no
 |.fn (.yield l) [] _=>.call (.yield l) args
 |_=>.no
def zd9(P:Program)(f:Nat):Bool:=match P.funcs[f]? with
 | some fn => fn.name == "maps.clone" && fn.origin == "" && fn.body.isNone
 |none=>false
def zqh(g:Heap):List AV→OR
 |[.iface t (.map o)]=>match g.get o with
  |some (.map j z)=>.val (.iface t (.map g.next)) (g.push (.map j z))
  |_=>.no
 |_=>.no
def zg1(j:Program)(A:Heap)(z:AV)(g:List AV):OR:=match z with
 |.fn (.func f) [] []=>match zd9 j f with
  |true=>zqh A g
  |false=>kh j z g
 |_=>kh j z g
def bw(j:Program)(c:Call):OpF :=
 match c.callee with
 |.builtin b=>match b with
  |.len=>match c.argTypes.toList,c.args.toList with
   |[t],[x]=>Wc j t x
   |_,_=>Pk
  |.cap=>match c.argTypes.toList,c.args.toList with
   |[t],[x]=>Xu j t x
   |_,_=>Pk
  |.max=>U7 true c.args.toList
  |.min=>U7 false c.args.toList
  |.append=>zf2 j c.argTypes c.args
  |.copy=>zvo j c.argTypes c.args
  |.clear=>zmq j c.argTypes c.args
  |.delete=>zff j c.argTypes c.args
  |_=>Pk
 |.value f=>⟨λz A=>match (O8 f).run z with
  |some B=>match (opds c.args.toList).run z with
   |some l=>zg1 j A B l
   |none=>.no
  |none=>.no⟩
 |.invoke r g=>⟨λz _=>match (O8 r).run z with
  |some (.iface t v)=>match zg9 j t g with
   |some f=>match (opds c.args.toList).run z with
    |some l=>if pg j f then .call (.fn f) (v::l) else .no
    |none=>.no
   |none=>.no
  |_=>.no⟩
def Pp(P:Program)(o:Op):OpF :=
 match o with
 |.move x |.assign x=>Ro x λj a=>.val a j
 |.pick c a b=>⟨λz j=>match (O8 c).run z with
  |some (.bool true)=>ret1 j ((O8 a).run z)
  |some (.bool false)=>ret1 j ((O8 b).run z)
  |_=>.no⟩
 |.alloc t=>match Tz P t with
  |some l=>⟨λ_ j=>X7 j l⟩
  |none=>Pk
 |.box _ x=>Ro x λj a=>match a.cells with
  |some l=>X7 j l
  |none=>.no
 |.build t g=>zh4 P t g
 |.buildSlice t len g=>uq P t len g
 |.load t a=>znh P t a
 |.store t a x=>zkv P t a x
 |.nilCheck x=>Ro x zn
 |.binOp op t x y _=>let D:=Xy x || Xy y;Uq x y λj a b=>ret1 j (Qv P op D t a b)
 |.unOp op _ x=>Ro x λj a=>ret1 j (unA op a)
 |.convert s d x=>W6 P s d x
 |.makeInterface t x=>z8d P t x
 |.makeFunc f first cap=>match f with
  |.yield _=>Pk
  |f=>zbc f first cap
 |.makeMap t r=>te P t r
 |.makeSlice t l c=>vy P t l c
 |.slice t x A hi B=>ny P t x A hi B
 |.fieldAddr s x f=>z4m P s x f
 |.field t x f=>zg3 P t x f
 |.indexAddr t x i=>z4i P t x i
 |.index t x i=>zfp P t x i
 |.lookup t x i ok=>yc P t x i ok
 |.mapUpdate t m k x |.insert t m k x=>z4j P t m k x
 |.range t x=>rangeF P t x
 |.next C s=>zvq C s
 |.typeAssert x _ t ok=>yx P x t ok
 |.extract t i=>zel t i
 |.call c=>bw P c
 |_=>Pk
inductive RV where
 |no
 |ok (v:AV) (H:Heap)
abbrev R9:=Tgt→List AV→Heap→RV
inductive OE where
 |no
 |ok (E:Tr AV) (H:Heap)
structure SeqF where run:R9→Tr AV→Heap→OE
structure PutF where run:AV→Tr AV→Tr AV
def Sf(n:Nat)(d:Option Tmp):Option PutF :=
 match d with
 |none=>some ⟨λ_ g=>g⟩
 |some d=>if d<n then some ⟨λa g=>P7 a (O1 d) g⟩ else none
structure GuardF where run:Tr AV→Bool
def Tw(ops:Array Oper)(o:Oper):GuardF :=
 match o.guard with
 |none=>⟨λ_=>true⟩
 |some (j,g)=>match (ops[j]?).bind (·.dst) with
  |none=>⟨λ_=>false⟩
  |some d=>if d≤Ry then ⟨λz=>match On (O1 d) z with
   |some (.bool b)=>match b with
    |true=>g
    |false=>!g
   |_=>false⟩ else ⟨λ_=>false⟩
def Sg(P:Program)(n:Nat)(ops:Array Oper)(o:Oper):SeqF :=
 match Sf n o.dst with
 |none=>⟨λ_ _ _=>.no⟩
 |some p=>⟨λc z A=>Bool.rec (.ok (p.run Tc z) A)
   (OR.rec .no (λv j=>.ok (p.run v z) j) (λt g=>RV.rec .no (λv j=>.ok (p.run v z) j) (c t g A)) ((Pp P o.op).run z A))
   ((Tw ops o).run z)⟩
def js(B:Program)(n:Nat)(ops:Array Oper):List Oper→SeqF
 |[]=>⟨λ_ g j=>.ok g j⟩
 |o::l=>⟨λc g j=>OE.rec .no (λz A=>(js B n ops l).run c z A) ((Sg B n ops o).run c g j)⟩
inductive Cls where
 |quiet|rd|ch|al
def zky(g:Program)(t:TypeId):Bool:=match g.underlying t with
 |some (.map _ _)=>true
 |_=>false
def zmf(g:Program)(t:TypeId):Bool:=match g.underlying t with
 |some (.array _ _)=>true
 |_=>false
def we(g:Program)(t:TypeId):Bool:=match g.underlying t with
 |some (.slice _)=>true
 |_=>false
def zd1(g:Program)(c:Call):Cls:=match c.callee with
 |.builtin .len=>match c.argTypes.toList with
  |[t]=>if zky g t then .rd else .quiet
  |_=>.ch
 |.builtin .cap |.builtin .max |.builtin .min=>.quiet
 |_=>.ch
def cls(g:Program)(o:Op):Cls :=
 match o with
 |.move _ |.assign _ |.pick _ _ _ |.build _ _ |.nilCheck _ |.binOp _ _ _ _ _ |.unOp _ _ _ |.makeInterface _ _ |.makeFunc _ _ _ |.fieldAddr _ _ _
 |.field _ _ _ |.indexAddr _ _ _ |.index _ _ _ |.typeAssert _ _ _ _ |.extract _ _=>.quiet
 |.slice t _ _ _ _=>if zmf g t then .rd else .quiet
 |.convert s d _=>if we g d then .ch else if we g s then .rd else .quiet
 |.load _ _ |.lookup _ _ _ _=>.rd
 |.call c=>zd1 g c
 |.alloc _ |.box _ _ |.buildSlice _ _ _ |.makeSlice _ _ _ |.makeMap _ _=>.al
 |_=>.ch
def vq(g:List Nat):List Edge→Nat
 |[]=>0
 |e::l=>match Region.binds .any e with
  |true=>Nat.lor (Nat.lor (2^e.on) (g.getD e.on 0)) (vq g l)
  |false=>vq g l
def zkr:List Nat→Nat
 |[]=>0
 |t::l=>Nat.lor (2^t) (zkr l)
def vu:List Operand→List Nat
 |[]=>[]
 |.tmp t::l=>t::vu l
 |_::l=>vu l
def Vq(ops:Array Oper)(o:Oper):List Nat :=
 vu o.op.operands.toList++(match o.guard with
  |some (g,_)=>((ops[g]?).bind (·.dst)).toList
  |none=>[])
structure DOp where
 o:Oper
 i:Nat
 m:Nat
 lm:Nat
 c:Cls
def R3(j:Program)(ops:Array Oper):List Oper→List Nat→Nat→List DOp
 |[],_,_=>[]
 |o::l,g,i=>⟨o,i,vq g o.after.toList,zkr (Vq ops o),cls j o.op⟩::R3 j ops l (g++[vq g o.after.toList]) (i+1)
def Ou(x:DOp):Bool:=match x.c with
 |.ch=>true
 |_=>false
def U5(x:DOp):Bool:=match x.c with
 |.rd=>true
 |.al=>true
 |_=>false
def znw(x:DOp):Bool:=match x.c with
 |.quiet=>true
 |_=>false
def zq6(x y:DOp):Bool:=match y.o.dst with
 |none=>true
 |some d=>match Nat.testBit x.lm d with
  |false=>true
  |true=>match Nat.beq x.i y.i with
   |true=>!(U5 x)
   |false=>match Nat.testBit x.m y.i with
    |true=>true
    |false=>match Nat.testBit y.m x.i with
     |true=>!(U5 x)
     |false=>false
def Ww{g:Type}(f:g→Bool):List g→Bool
 |[]=>true
 |a::l=>match f a with
  |true=>Ww f l
  |false=>false
def qg(g:List DOp):Bool:=Ww (λx=>Ww (zq6 x) g) g
def zn6:List DOp→Nat→Bool
 |[],_=>true
 |x::l,seen=>match x.o.dst with
  |none=>zn6 l seen
  |some d=>match Nat.testBit seen d with
   |true=>false
   |false=>zn6 l (Nat.lor (2^d) seen)
def Qn:List DOp→Nat→Nat→Option Nat
 |[],seen,_=>some seen
 |x::l,seen,g=>match Nat.beq (Nat.land x.m seen) x.m with
  |false=>none
  |true=>match Nat.testBit seen x.i with
   |true=>none
   |false=>match znw x with
    |true=>Qn l (Nat.lor (2^x.i) seen) g
    |false=>match Nat.beq (Nat.land g x.m) g with
     |false=>none
     |true=>match Ou x with
      |true=>Qn l (Nat.lor (2^x.i) seen) (Nat.lor (2^x.i) g)
      |false=>Qn l (Nat.lor (2^x.i) seen) g
def Pl{g:Type}(f:g→Bool):List g→List g
 |[]=>[]
 |a::l=>match f a with
  |true=>a::Pl f l
  |false=>Pl f l
def rank(x:DOp):List DOp→Nat
 |[]=>0
 |c::l=>match Nat.testBit x.m c.i with
  |true=>Nat.succ (rank x l)
  |false=>rank x l
def dz(j g:List DOp)(p:Nat):List DOp:=Pl (λx=>match Ou x with
 |true=>false
 |false=>Nat.beq (rank x g) p) j
def zka(z g:List DOp):List DOp→Nat→List DOp
 |[],_=>[]
 |c::j,p=>c::(dz z g p++zka z g j (p+1))
def zv5(j g:List DOp):List DOp:=dz j g 0++zka j g g 1
def Z8{g:Type}(f:g→g→Bool):List g→List g→Bool
 |[],[]=>true
 |a::l,b::r=>match f a b with
  |true=>Z8 f l r
  |false=>false
 |_,_=>false
def Sl:Nat→AV→AV→Bool
 |0,_,_=>false
 |n+1,a,b=>match a,b with
  |.bool x,.bool y=>x==y
  |.int k x,.int C y=>Yw k C&&eqI x y
  |.str l x,.str m y=>Nat.beq l m&&Nat.beq x y
  |.nilPtr,.nilPtr=>true
  |.ptr o v i,.ptr g j z=>Nat.beq o g&&Nat.beq v j&&Nat.beq i z
  |.nilSl,.nilSl=>true
  |.sl o v i l e r,.sl g j z D E F=>Nat.beq o g&&Nat.beq v j&&Nat.beq i z&&Nat.beq l D&&Nat.beq e E&&r==F
  |.emp,.emp=>true
  |.nilMap,.nilMap=>true
  |.map o,.map g=>Nat.beq o g
  |.nilFn,.nilFn=>true
  |.fn (.func f) x y,.fn (.func G) A B=>Nat.beq f G&&Z8 (Sl n) x A&&Z8 (Sl n) y B
  |.fn (.yield f) x y,.fn (.yield G) A B=>Nat.beq f G&&Z8 (Sl n) x A&&Z8 (Sl n) y B
  |.nilIf,.nilIf=>true
  |.iface t v,.iface H j=>Nat.beq t H&&Sl n v j
  |.agg x,.agg y=>Z8 (Sl n) x y
  |.tup x,.tup y=>Z8 (Sl n) x y
  |_,_=>false
def Pg:AV→Option Nat
 |.ptr o _ _=>some o
 |.sl o _ _ _ _ _=>some o
 |.map o=>some o
 |_=>none
def Rz(id:Nat):AV→AV
 |.ptr _ v i=>.ptr id v i
 |.sl _ v i l e r=>.sl id v i l e r
 |.map _=>.map id
 |v=>v
def zo5(c g:Tr AV)(len:Nat):Bool:=match Tv c 0 len,Tv g 0 len with
 |some l,some j=>Z8 (Sl 30) l j
 |_,_=>false
def eqObj:AObj→AObj→Bool
 |.cells c len z B,.cells C g j A=>Nat.beq len g&&Nat.beq z j&&B==A&&zo5 c C len
 |.map [] k,.map [] D=>Nat.beq k D
 |_,_=>false
def Yq(b:Bool)(x y:vT):Bool:=match b with
 |true=>true
 |false=>@decide (x=y) (Classical.propDecidable _)
def zte(v g:AV)(z j:Heap):Bool:=match Pg v with
 |none=>false
 |some id=>match Yq (Sl 30 v (Rz id g)) v (Rz id g) with
  |false=>false
  |true=>match z.get id,j.get z.next with
   |some a,some b=>Yq (eqObj a b) a b
   |_,_=>false
structure ChkF where run:Tr AV→Heap→Bool
def Zt(P:Program)(ops:Array Oper)(x:DOp):ChkF :=
 match x.o.dst with
 |none=>⟨λ_ _=>false⟩
 |some d=>⟨λj A=>match (Tw ops x.o).run j with
  |false=>true
  |true=>match On (O1 d) j with
   |none=>false
   |some v=>match (Pp P x.o.op).run j A with
    |.val g z=>match x.c with
     |.al=>zte v g A z
     |_=>Yq (Sl 30 v g) v g
    |_=>false⟩
def pz(g:Program)(ops:Array Oper):List DOp→ChkF
 |[]=>⟨λ_ _=>true⟩
 |x::l=>⟨λj z=>match (Zt g ops x).run j z with
  |true=>(pz g ops l).run j z
  |false=>false⟩
def V5(P:Program)(n:Nat)(ops:Array Oper):List DOp→List DOp→SeqF
 |[],_=>⟨λ_ B C=>.ok B C⟩
 |x::l,g=>match x.c with
  |.quiet=>⟨λk B C=>OE.rec .no (λz A=>(V5 P n ops l g).run k z A) ((Sg P n ops x.o).run k B C)⟩
  |.rd=>⟨λk B C=>OE.rec .no (λz A=>(V5 P n ops l (x::g)).run k z A) ((Sg P n ops x.o).run k B C)⟩
  |.al=>⟨λk B C=>OE.rec .no (λz A=>Bool.rec .no ((V5 P n ops l (x::g)).run k z A) ((pz P ops (x::g)).run z A)) ((Sg P n ops x.o).run k B C)⟩
  |.ch =>
   let j:=Pl (λy=>!(Nat.testBit x.m y.i)) g
   ⟨λk B C=>OE.rec .no (λz A=>Bool.rec .no ((V5 P n ops l j).run k z A) ((pz P ops j).run z A)) ((Sg P n ops x.o).run k B C)⟩
def zw5(n:Nat)(j g:List DOp):Bool:=match Qn g 0 0 with
 |none=>false
 |some s=>match Nat.beq s (Nat.sub (2^n) 1) with
  |false=>false
  |true=>match zn6 j 0 with
   |false=>false
   |true=>qg j
def zo(A:Program)(n:Nat)(ops:Array Oper):SeqF :=
 let z:=R3 A ops ops.toList [] 0;let g:=Pl Ou z;let j:=zv5 z g
 match zw5 ops.size z j with
 |true=>V5 A n ops j []
 |false=>⟨λ_ _ _=>.no⟩
inductive Ex where
 |normal
 |exit (id:Nat)
 |ret
inductive Res where
 |no
 |ok (x:Ex) (E:Tr AV) (D:List Nat) (H:Heap)
structure CodeF where run:R9→Nat→Option Nat→Tr AV→List Nat→Heap→Res
def xe:CodeF:=⟨λ_ _ _ _ _ _=>.no⟩
def bi(f:Tr AV→List Nat→Heap→Res):Nat→Tr AV→List Nat→Heap→Res
 |0,_,_,_=>.no
 |m+1,A,B,C=>match f A B C with
  |.no=>.no
  |.ok x g j z=>match x with
   |.normal=>bi f m g j z
   |x=>.ok x g j z
def zd6(f n:Nat)(j:Array Tmp)(assign body:Code)(z:Option Nat)(A:Tr AV)(B:List Nat)(g:Heap):Option (Nat×List Nat×Heap) :=
 match z with
 |none=>some (Nat.add g.next 1,g.next::B,(g.push (.defd true)).push (.loop .ready none f n A j assign body g.next))
 |some l=>match g.get l with
  |some (.loop _ _ _ _ _ _ _ _ d)=>some (g.next,B,g.push (.loop .ready none f n A j assign body d))
  |_=>none
def exOf:Code→Option Ex
 |.ret=>some .ret
 |.exit id=>some (.exit id)
 |_=>none
def zjq(l:Nat)(z:Heap):Option (Option Code×Heap):=match z.get l with
 |some (.loop st g f n A j a b d)=>match st with
  |.busy=>none
  |_=>some (g,z.put l (.loop .exhausted g f n A j a b d))
 |_=>none
def Rn(P:Program)(f n:Nat):Code→CodeF
 |.skip=>⟨λ_ _ _ j A B=>.ok .normal j A B⟩
 |.region _ ops draw =>
  let s:=match draw with
   |true=>zo P n ops
   |false=>js P n ops ops.toList
  ⟨λk _ _ j A B=>match s.run k j B with
   |.no=>.no
   |.ok D z=>.ok .normal D A z⟩
 |.seq a b=>⟨λk m g j A B=>Res.rec .no (λx D C z=>Ex.rec ((Rn P f n b).run k m g D C z) (λid=>.ok (.exit id) D C z) (.ok .ret D C z) x)
   ((Rn P f n a).run k m g j A B)⟩
 |.cond c a b=>⟨λk m g j A B=>match (O8 c).run j with
  |some (.bool t)=>match t with
   |true=>(Rn P f n a).run k m g j A B
   |false=>(Rn P f n b).run k m g j A B
  |_=>.no⟩
 |.block id c=>⟨λk m g j A B=>match (Rn P f n c).run k m g j A B with
  |.no=>.no
  |.ok x D C z=>match x with
   |.exit E=>match Nat.beq E id with
    |true=>.ok .normal D C z
    |false=>.ok (.exit E) D C z
   |x=>.ok x D C z⟩
 |.loop c=>⟨λk m g j A B=>bi ((Rn P f n c).run k m g) m j A B⟩
 |.rangeFunc H I a b=>⟨λk _ g j A B=>match (O8 H).run j with
  |none=>.no
  |some gv=>match zd6 f n I a b g j A B with
   |none=>.no
   |some (l,C,z)=>match kh P gv [.fn (.yield l) [] []] with
    |.call (.fn H) F=>match k (.fn H) F z with
     |.no=>.no
     |.ok _ K=>match zjq l K with
      |none=>.no
      |some (none,G)=>.ok .normal j C G
      |some (some c,G)=>match exOf c with
       |none=>.no
       |some x=>.ok x j C G
    |_=>.no⟩
 |.exit id=>⟨λ_ _ _ j A B=>.ok (.exit id) j A B⟩
 |.scope c=>⟨λk m g j A B=>(Rn P f n c).run k m g j A B⟩
 |.label _=>⟨λ_ _ _ j A B=>.ok .normal j A B⟩
 |.ret=>⟨λ_ _ _ j A B=>.ok .ret j A B⟩
 |_=>xe
structure ResF where run:Tr AV→Heap→Option AV
def resF(z:Program)(r:ResultVar):ResF :=
 match r with
 |.tmp t=>⟨λg _=>(O8 (.tmp t)).run g⟩
 |.cell a t=>match Ua z t,Qg z t with
  |some true,some n=>⟨λg j=>match (O8 (.tmp a)).run g with
   |some (.ptr o v i)=>match Sd j o v i n with
    |some l=>some (.agg l)
    |none=>none
   |_=>none⟩
  |some false,some _=>⟨λg j=>match (O8 (.tmp a)).run g with
   |some (.ptr o v i)=>match Sd j o v i 1 with
    |some [c]=>some c
    |_=>none
   |_=>none⟩
  |_,_=>⟨λ_ _=>none⟩
structure RessF where run:Tr AV→Heap→Option (List AV)
def wr(g:Program):List ResultVar→RessF
 |[]=>⟨λ_ _=>some []⟩
 |r::l=>⟨λj z=>match (resF g r).run j z with
  |none=>none
  |some a=>match (wr g l).run j z with
   |none=>none
   |some b=>some (a::b)⟩
def z88:List Nat→Heap→Option Heap
 |[],g=>some g
 |d::l,g=>match g.get d with
  |some (.defd true)=>z88 l (g.put d (.defd false))
  |_=>none
structure FunF where run:R9→Nat→List AV→Heap→RV
def zfk(A:Program)(f:Nat):FunF :=
 match A.funcs[f]? with
 |none=>⟨λ_ _ _ _=>.no⟩
 |some fn=>match fn.body with
  |none=>⟨λ_ _ _ _=>.no⟩
  |some j=>if fn.ntmps≤Ry then
   ⟨λk m g C=>match Nat.ble g.length fn.ntmps with
    |false=>.no
    |true=>match (Rn A f fn.ntmps j).run k m none (Su g 0 .e) [] C with
     |.no=>.no
     |.ok x D E B=>match x with
      |.exit _=>.no
      |_=>match z88 E B with
       |none=>.no
       |some z=>match (wr A fn.results.toList).run D z with
        |some [v]=>.ok v z
        |some l=>.ok (.tup l) z
        |none=>.no⟩
   else ⟨λ_ _ _ _=>.no⟩
def zt7:List Tmp→List AV→Nat→Tr AV→Option (Tr AV)
 |[],[],_,g=>some g
 |p::j,a::as,n,g=>match Nat.blt p n with
  |true=>zt7 j as n (P7 a (O1 p) g)
  |false=>none
 |_,_,_,_=>none
def zpk(l:Nat)(z:Heap):Option Heap:=match z.get l with
 |some (.loop .ready g f n A j a b d)=>some (z.put l (.loop .busy g f n A j a b d))
 |_=>none
def zfm(l:Nat)(x:Ex)(j:Heap):RV:=match j.get l with
 |some (.loop _ _ f n z g a b d)=>match x with
  |.normal=>.ok (.bool true) (j.put l (.loop .ready none f n z g a b d))
  |.ret=>.ok (.bool false) (j.put l (.loop .done (some .ret) f n z g a b d))
  |.exit id=>.ok (.bool false) (j.put l (.loop .done (some (.exit id)) f n z g a b d))
 |_=>.no
def Tp(P:Program)(O:R9):Nat→R9
 |0=>λ_ _ _=>.no
 |m+1=>λt g z=>match t with
  |.fn f=>match O (.fn f) g z with
   |.ok v A=>.ok v A
   |.no=>(zfk P f).run (Tp P O m) m g z
  |.yield l=>match z.get l with
   |some (.loop .ready none f n G B a b _)=>match zt7 B.toList g n G with
    |none=>.no
    |some C=>match (Rn P f n a).run (Tp P O m) m (some l) C [] z with
     |.ok .normal D [] E=>match zpk l E with
      |none=>.no
      |some j=>match (Rn P f n b).run (Tp P O m) m (some l) D [] j with
       |.no=>.no
       |.ok x _ H F=>match H with
        |[]=>zfm l x F
        |_=>.no
     |_=>.no
   |_=>.no
def noO:R9:=λ_ _ _=>.no
def runA(g:Program)(j:R9)(m f:Nat):Bool:=match Tp g j m (.fn f) [] ⟨.e,0⟩ with
 |.ok (.bool true) _=>true
 |_=>false
end
variable{D vX:Heap}{E:AV}{O vC:Tr AV}{R:List AV}
section
open Go.RowKit (Below)
section tries
variable {α : Type}
def Yn(p:List Bool):On p (Tr.e:Tr α)=none:=by
 cases p with
 |nil=>rfl
 |cons b p=>cases b<;>rfl
def zfs(p:List Bool)(v:Option α)(l r:Tr α):On (true::p) (.n v l r)=On p l:=rfl
def zq(p:List Bool)(v:Option α)(l r:Tr α):On (false::p) (.n v l r)=On p r:=rfl
def zhx(a:α):P7 a [] .e=.n (some a) .e .e:=rfl
def zj5(a:α)(p:List Bool):P7 a (true::p) .e=.n none (P7 a p .e) .e:=rfl
def zk9(a:α)(p:List Bool):P7 a (false::p) .e=.n none .e (P7 a p .e):=rfl
def zqo(a:α)(p:List Bool)(v:Option α)(l r:Tr α):P7 a (true::p) (.n v l r)=.n v (P7 a p l) r:=rfl
def zpg(a:α)(p:List Bool)(v:Option α)(l r:Tr α):P7 a (false::p) (.n v l r)=.n v l (P7 a p r):=rfl
def z2t(a:α):∀(p:List Bool) (t:Tr α),On p (P7 a p t)=some a
 |[],.e=>rfl
 |[],.n _ _ _=>rfl
 |true::p,.e=>by rw[zj5,zfs];exact z2t a p _
 |false::p,.e=>by rw[zk9,zq];exact z2t a p _
 |true::p,.n v l r=>by rw[zqo,zfs];exact z2t a p _
 |false::p,.n v l r=>by rw[zpg,zq];exact z2t a p _
def z52(a:α):∀(p q:List Bool) (t:Tr α),p≠q→On q (P7 a p t)=On q t
 |[],[],_,h=>absurd rfl h
 |[],true::q,.e,_=>by rw[zhx,zfs,Yn,Yn]
 |[],false::q,.e,_=>by rw[zhx,zq,Yn,Yn]
 |[],true::q,.n _ _ _,_=>rfl
 |[],false::q,.n _ _ _,_=>rfl
 |true::p,[],.e,_=>rfl
 |false::p,[],.e,_=>rfl
 |true::p,[],.n _ _ _,_=>rfl
 |false::p,[],.n _ _ _,_=>rfl
 |true::p,true::q,.e,h=>by rw[zj5,zfs,z52 a p q _ (λe=>h (by rw[e])),Yn,Yn]
 |true::p,false::q,.e,_=>by rw[zj5,zq,Yn,Yn]
 |false::p,true::q,.e,_=>by rw[zk9,zfs,Yn,Yn]
 |false::p,false::q,.e,h=>by rw[zk9,zq,z52 a p q _ (λe=>h (by rw[e])),Yn,Yn]
 |true::p,true::q,.n _ l _,h=>by rw[zqo,zfs,zfs];exact z52 a p q l (λe=>h (by rw[e]))
 |true::p,false::q,.n _ _ _,_=>rfl
 |false::p,true::q,.n _ _ _,_=>rfl
 |false::p,false::q,.n _ _ r,h=>by rw[zpg,zq,zq];exact z52 a p q r (λe=>h (by rw[e]))
def pathF_inj:∀(f j g k:Nat),g<f→k<j→znv f g=znv j k→g=k
 |0,_,g,k,B,_,_=>J
 |_,0,g,k,_,C,_=>J
 |f+1,j+1,0,0,_,_,_=>rfl
 |f+1,j+1,0,k+1,_,_,h=>by simp[znv]at h
 |f+1,j+1,g+1,0,_,_,h=>by simp[znv]at h
 |f+1,j+1,g+1,k+1,B,C,h=>by
  simp only[znv,List.cons.injEq]at h;obtain⟨z,A⟩:=h;have D:Nat.div g 2=g/2:=rfl;have E:Nat.div k 2=k/2:=rfl;have F:Nat.mod g 2=g%2:=rfl;have G:Nat.mod k 2=k%2:=rfl;rw[D,E]at A;rw[F,G]at z;have:=pathF_inj f j (g/2) (k/2) J J A;have q:∀x:Nat,Nat.beq x 0=true↔x=0:=λx=>by cases x<;>simp[Nat.beq]
  have H:(g%2=0↔k%2=0):=by
   rw[←q,←q,z]
  omega
def zsn{k:Nat}(h:O1 g=O1 k):g=k :=
 pathF_inj _ _ g k (K7 _) (K7 _) h
def zgq{k:Nat}(a:α)(t:Tr α) :
  On (O1 k) (P7 a (O1 g) t)=if k=g then some a else On (O1 k) t:=by
 by_cases h:k=g
 ·subst h;rw[J8 rfl];exact z2t a _ t
 ·rw[J2 h];exact z52 a _ _ t (λe=>h (zsn e.symm))
def z9q(g:Nat)(a:α)(t:Tr α):On (O1 g) (P7 a (O1 g) t)=some a:=z2t a _ t
def zm{k:Nat}(h:k≠g)(a:α)(t:Tr α) :
  On (O1 k) (P7 a (O1 g) t)=On (O1 k) t:=by rw[zgq,J2 h]
def get_ofList:∀(l:List α) (i:Nat) (t:Tr α) (k:Nat),
  On (O1 k) (Su l i t)=if i≤k∧k<i+l.length then l[k-i]? else On (O1 k) t
 |[],i,t,k=>by simp only[Su,Mb];rw[J2 J]
 |a::l,i,t,k=>by
  simp only[Kn];rw[Su,get_ofList l (i+1) _ k];by_cases g:i+1≤k∧k<i+1+l.length
  ·rw[J8 g,J8 J];have:k-i=(k-(i+1))+1:=J
   rw[this,Kh]
  ·rw[J2 g,zgq];by_cases j:k=i
   ·subst j;rw[J8 rfl,J8 J];simp
   ·rw[J2 j,J2 J]
end tries
def kr{c:Tr AV}:∀{n i:Nat} {l:List AV},Tv c i n=some l→l.length=n∧∀g,g<n→On (O1 (i+g)) c=l[g]?
 |0,i,l,h=>by
  simp only[Tv,Option.some.injEq]at h;subst h;exact⟨rfl,λg j=>J⟩
 |n+1,i,l,h=>by
  simp only[Tv]at h;split at h
  ·cases h
  ·rename_i a z;split at h
   ·cases h
   ·rename_i r A;cases h;obtain⟨B,C⟩:=kr A;refine⟨Aw,λg j=>?_⟩;cases g with
    |zero=>simpa using z
    |succ g=>have:=C g J;rw[Kh,←this];congr 2;omega
structure Loc where
 b:Nat
 d:Nat
 n:Nat
 sz:Nat
structure CM where
 f:Nat→Nat→Option Loc
 nx:Nat
instance:CoeFun CM (λ_=>Nat→Nat→Option Loc):=⟨CM.f⟩
def CM.keep(gg C:CM):Prop:=∀o v L,gg o v=some L→C o v=some L
structure CM.le (C C':CM):Prop where
 keep:C.keep C'
 nx:C.nx≤C'.nx
 new:∀o v L,C' o v=some L→(∃v' L',C o v'=some L')∨C.nx≤o
def CM.le_refl(C:CM):C.le C:=⟨λ_ _ _ h=>h,J4 _,λ_ v L h=>.inl ⟨v,L,h⟩⟩
def CM.le_trans{A B C:CM}(h:A.le B)(k:B.le C):A.le C:=by
 refine⟨λo v L e=>k.keep o v L (h.keep o v L e),K4 h.nx k.nx,λo v L e=>?_⟩;rcases k.new o v L e with ⟨v',L',e'⟩|e'
 ·exact h.new o v' L' e'
 ·exact .inr (K4 h.nx e')
inductive FR (C:CM):Fn→Fn→Prop where
 |same (f:Fn) (h:∀l,f≠.yield l):FR C f f
 |yield {l:Nat} {L:Loc} (h:C l 0=some L):FR C (.yield l) (.yield L.b)
def FR.mono{C C':CM}(h:C.keep C'){f g:Fn}:FR C f g→FR C' f g
 |.same f hf=>.same f hf
 |.yield e=>.yield (h _ _ _ e)
def AV.one:AV→Bool
 |.agg _=>false
 |.tup _=>false
 |_=>true
mutual
inductive VR (C:CM):AV→Value→Prop where
 |bool (b:Bool):VR C (.bool b) (.bool b)
 |int (k:IntKind) (n:Int):VR C (.int k n) (.int k n)
 |str {len n:Nat} {s:ByteArray} (h1:s.data.toList.length=len) (h2:Qe s.data.toList=n):VR C (.str len n) (.string s)
 |nilPtr:VR C .nilPtr (.pointer none)
 |ptr {o v i:Nat} {L:Loc} (h:C o v=some L):VR C (.ptr o v i) (.pointer (some ⟨L.b,L.d+i,none⟩))
 |nilSl:VR C .nilSl (.slice none 0 0)
 |sl {o v i len esz:Nat} {room:Option Nat} {L:Loc} {cap:Nat} (h:C o v=some L) (h1:i+len*esz≤L.n) (h2:L.d+i+cap*esz≤L.sz) (h3:len≤cap)
   (h4:∀r,room=some r→cap=r∧i+r*esz≤L.n) (h5:room=none→L.d+i+cap*esz=L.sz) :
   VR C (.sl o v i len esz room) (.slice (some ⟨L.b,L.d+i,none⟩) len cap)
 |emp {a:Addr} {cap:Nat}:VR C .emp (.slice (some a) 0 cap)
 |nilMap:VR C .nilMap (.map none)
 |map {o:Nat} {L:Loc} (h:C o 0=some L):VR C (.map o) (.map (some L.b))
 |nilFn:VR C .nilFn .nilFunc
 |fn {f g:Fn} {l r:List AV} {l' r':Array Value} (h:FR C f g) (hl:VRs C l l'.toList) (hr:VRs C r r'.toList):VR C (.fn f l r) (.func g l' r')
 |nilIf:VR C .nilIf .nilIface
 |iface {t:TypeId} {a:AV} {v:Value} (h:VR C a v):VR C (.iface t a) (.iface t v)
 |agg {l:List AV} {vs:Array Value} (h:VRs C l vs.toList) (h1:∀a∈l,a.one=true):VR C (.agg l) (.agg vs)
 |tup {l:List AV} {vs:Array Value} (h:VRs C l vs.toList):VR C (.tup l) (.tuple vs)
inductive VRs (C:CM):List AV→List Value→Prop where
 |nil:VRs C [] []
 |cons {a:AV} {v:Value} {l:List AV} {r:List Value} (h:VR C a v) (hs:VRs C l r):VRs C (a::l) (v::r)
end
mutual
def VR.mono'{gg C:CM}(h:gg.keep C):∀{a:AV} {v:Value},VR gg a v→VR C a v
 |_,_,.bool b=>.bool b
 |_,_,.int k n=>.int k n
 |_,_,.str h1 h2=>.str h1 h2
 |_,_,.nilPtr=>.nilPtr
 |_,_,.ptr e=>.ptr (h _ _ _ e)
 |_,_,.nilSl=>.nilSl
 |_,_,.sl e h1 h2 h3 h4 h5=>.sl (h _ _ _ e) h1 h2 h3 h4 h5
 |_,_,.emp=>.emp
 |_,_,.nilMap=>.nilMap
 |_,_,.map e=>.map (h _ _ _ e)
 |_,_,.nilFn=>.nilFn
 |_,_,.fn hf hl hr=>.fn (hf.mono h) (VRs.mono' h hl) (VRs.mono' h hr)
 |_,_,.nilIf=>.nilIf
 |_,_,.iface e=>.iface (VR.mono' h e)
 |_,_,.agg e h1=>.agg (VRs.mono' h e) h1
 |_,_,.tup e=>.tup (VRs.mono' h e)
def VRs.mono'{gg C:CM}(h:gg.keep C):∀{l:List AV} {r:List Value},VRs gg l r→VRs C l r
 |_,_,.nil=>.nil
 |_,_,.cons e es=>.cons (VR.mono' h e) (VRs.mono' h es)
end
def VR.mono{C C':CM}(h:C.le C'){a:AV}{v:Value}(k:VR C a v):VR C' a v:=k.mono' h.keep
def VRs.mono{C C':CM}(h:C.le C'){a:List AV}{v:List Value}(k:VRs C a v):VRs C' a v:=k.mono' h.keep
def VRs.length{C:CM}:∀{l:List AV} {r:List Value},VRs C l r→l.length=r.length
 |_,_,.nil=>rfl
 |_,_,.cons _ es=>by simp[VRs.length es]
def VRs.get{C:CM}:∀{l:List AV} {r:List Value},VRs C l r→∀{i:Nat} {a:AV},l[i]?=some a→∃v,r[i]?=some v∧VR C a v
 |_,_,.nil,i,a,h=>Bu
 |_,_,.cons e es,0,a,h=>Eo
 |_,_,.cons e es,i+1,a,h=>by simp only[Kh]at h ⊢;exact VRs.get es h
def VRs.mk{gg:CM}:∀{l:List AV} {r:List Value},l.length=r.length→(∀(i:Nat) (a:AV),l[i]?=some a→∃v,r[i]?=some v∧VR gg a v)→VRs gg l r
 |[],[],_,_=>.nil
 |[],_::_,h,_=>Bu
 |_::_,[],h,_=>Bu
 |a::l,v::r,h,k=>by
  obtain⟨v',C,hr⟩:=k 0 a rfl;simp only[Km,Option.some.injEq]at C;subst C;exact .cons hr (VRs.mk Ar (λi a hi=>by have:=k (i+1) a Dt;simpa using this))
def VRs.append{C:CM}:∀{l:List AV} {r:List Value} {l':List AV} {r':List Value},VRs C l r→VRs C l' r'→VRs C (l++l') (r++r')
 |_,_,_,_,.nil,k=>k
 |_,_,_,_,.cons e es,k=>.cons e (VRs.append es k)
def VRs.drop{C:CM}:∀{l:List AV} {r:List Value},VRs C l r→∀n,VRs C (l.drop n) (r.drop n)
 |_,_,h,0=>h
 |_,_,.nil,_+1=>.nil
 |_,_,.cons _ es,n+1=>VRs.drop es n
def VRs.take{C:CM}:∀{l:List AV} {r:List Value},VRs C l r→∀n,VRs C (l.take n) (r.take n)
 |_,_,_,0=>.nil
 |_,_,.nil,_+1=>.nil
 |_,_,.cons e es,n+1=>.cons e (VRs.take es n)
def VR.one{C:CM}{a:AV}{v:Value}(h:VR C a v):v.oneCell'=a.one:=by cases h<;>rfl
def zl1{C:CM}{v:Value}{a:AV}(h:oj v=some a):VR C a v∧a.one=true:=by
 unfold oj at h;split at h<;>first
  |(cases h;done)
  |(cases h;exact⟨by constructor<;>rfl,rfl⟩)
  |(cases h;exact⟨by constructor,rfl⟩)
def Y0{C:CM}:∀{l:List Value} {r:List AV},Vk l=some r→VRs C r l∧∀a∈r,a.one=true
 |[],r,h=>by cases h;exact⟨.nil,N⟩
 |v::l,r,h=>by
  simp only[Vk]at h;split at h
  ·cases h
  ·rename_i a g;split at h
   ·cases h
   ·rename_i E j;cases h;obtain⟨z,A⟩:=Y0 (C:=C) j;obtain⟨B,D⟩:=zl1 (C:=C) g;exact⟨.cons B z,by simpa using ⟨D,A⟩⟩
def zfq{C:CM}{v:Value}{a:AV}(h:X5 v=some a):VR C a v:=by
 unfold X5 at h;split at h
 ·rename_i j;cases g:Vk j.toList with
  |none=>simp[g]at h
  |some r =>
   simp only[g,L6,Option.some.injEq]at h;subst h;obtain⟨z,A⟩:=Y0 (C:=C) g;exact .agg z A
 ·rename_i B;split at h
  ·rename_i D;cases h;have:B=#[]:=Mm D;subst this;exact .tup .nil
  ·cases h
 ·exact (zl1 h).1
def VR.cells{C:CM}{a:AV}{v:Value}(h:VR C a v){l:List AV}(hl:a.cells=some l):VRs C l v.cells.toList∧∀x∈l,x.one=true:=by
 cases h with
 |agg h h1=>simp only[AV.cells,Option.some.injEq]at hl;subst hl;exact⟨by simpa [Value.cells] using h,h1⟩
 |tup h=>simp[AV.cells]at hl
 |_=>simp only[AV.cells,Option.some.injEq]at hl;subst hl;exact⟨by simp only[Value.cells];exact .cons (by constructor<;>assumption) .nil,by simp[AV.one]⟩
def Zv(C:CM)(c:Tr AV)(len:Nat)(g:Array Value)(d:Nat):Prop :=
 ∀i,i<len→∃a,On (O1 i) c=some a∧a.one=true∧∃v,g[d+i]?=some v∧VR C a v
inductive MR (C:CM):List (AV×AV×Nat)→List MapEntry→Prop where
 |nil:MR C [] []
 |cons {k v:AV} {b:Nat} {e:MapEntry} {l:List (AV×AV×Nat)} {r:List MapEntry} (hk:VR C k e.key) (hv:VR C v e.val) (hb:e.born=b) (h:MR C l r):MR C ((k,v,b)::l) (e::r)
def OVR(g:CM)(a:Option AV)(v:Value):Prop:=match a with
 |some a=>VR g a v
 |none=>v=undef
def ER(n:Nat)(j:CM)(E:Tr AV)(g:Array Value):Prop :=
 g.size=n∧n≤Ry∧∀t,t≤Ry→OVR j (On (O1 t) E) (g.getD t undef)
def Rk(E:Nat)(A:CM)(w:World)(o:Nat):AObj→Prop
 |.cells c len B I=>∀g,A o B=some g→g.n=len∧(I=false→E≤g.b)∧g.d+len≤g.sz∧∃C e F hi,w.heap[g.b]?=some (.cells C e (F,hi))∧g.sz≤C.size ∧
   (∀i,g.d≤i→i<g.sz→¬(F≤i∧i<hi))∧Zv A c len C g.d
 |.map K L=>∀g,A o 0=some g→E≤g.b∧∃j:Array MapEntry,w.heap[g.b]?=some (.map j L)∧MR A K j.toList
 |.iter len n D=>∀g,A o 0=some g→E≤g.b∧g.d=0∧∃s:ByteArray,w.heap[g.b]?=some (.stringIter s D)∧s.data.toList.length=len∧Qe s.data.toList=n
 |.loop st z f n O M a b d=>∀g,A o 0=some g→E≤g.b∧∃G H,A d 0=some H∧w.heap[g.b]?=some (.loop { state:=st,pending:=z,fn:=f,tmps:=G,params:=M,assign:=a,body:=b,defers:=H.b })∧ER n A O G
 |.defd op=>∀g,A o 0=some g→E≤g.b∧w.heap[g.b]?=some (.deferred (if op then some [] else none))
structure Rel (w0:World) (C:CM) (H:Heap) (w:World):Prop where
 nx:C.nx=H.next
 low:Below w0.heap.size w0 w
 fresh:∀o v L,C o v=some L→o<H.next
 lt:∀o v L,C o v=some L→L.b<w.heap.size
 excl:∀o v L o' v' L',C o v=some L→C o' v'=some L'→L.b=L'.b→w0.heap.size≤L.b→o=o'
 obj:∀o ob,o<H.next→H.get o=some ob→Rk w0.heap.size C w o ob
 top:∀o c len ver ro,o<H.next→H.get o=some (.cells c len ver ro)→∀v L,C o v=some L→v≤ver
end
variable{I:CM}
section
open Go.RowKit (Below)
def CM.ext(gg:CM)(o v:Nat)(L:Loc):CM:=⟨λC v'=>if C=o∧v'=v then some L else gg C v',max gg.nx (o+1)⟩
def CM.ext_same(C:CM)(o v:Nat)(L:Loc):C.ext o v L o v=some L:=by simp[CM.ext]
def CM.ext_ne(C:CM){o v:Nat}(L:Loc)(h:¬(j=o∧vI=v)):C.ext o v L j vI=C j vI:=by simp only[CM.ext];rw[J2 h]
def CM.le_ext{C:CM}{o v:Nat}(L:Loc)(h:C o v=none)(hn:(∃v' L',C o v'=some L')∨C.nx≤o):C.le (C.ext o v L):=by
 refine⟨λo' v' L' h'=>?_,Mi _ _,λo' v' L' h'=>?_⟩
 ·by_cases e:o'=o∧v'=v
  ·obtain⟨rfl,rfl⟩:=e;rw[h]at h';cases h'
  ·rw[CM.ext_ne C L e];exact h'
 ·by_cases e:o'=o∧v'=v
  ·obtain⟨rfl,rfl⟩:=e;exact hn
  ·rw[CM.ext_ne C L e]at h';exact .inl ⟨v',L',h'⟩
def MR.mono'{gg C:CM}(h:gg.keep C):∀{l:List (AV×AV×Nat)} {r:List MapEntry},MR gg l r→MR C l r
 |_,_,.nil=>.nil
 |_,_,.cons hk hv hb hs=>.cons (hk.mono' h) (hv.mono' h) hb (MR.mono' h hs)
def OVR.mono'{gg C:CM}(h:gg.keep C){a:Option AV}{v:Value}(k:OVR gg a v):OVR C a v:=by
 cases a with
 |none=>exact k
 |some a=>exact VR.mono' h k
def ER.mono'{gg C:CM}(h:gg.keep C){n:Nat}{E:Tr AV}{tm:Array Value}(k:ER n gg E tm):ER n C E tm :=
 ⟨k.1,k.2.1,λt ht=>(k.2.2 t ht).mono' h⟩
def Zv.mono'{gg C:CM}(h:gg.keep C){c:Tr AV}{len:Nat}{vs:Array Value}{d:Nat}(k:Zv gg c len vs d):Zv C c len vs d :=
 λi hi=>let ⟨a,h1,h2,v,h3,h4⟩:=k i hi;⟨a,h1,h2,v,h3,h4.mono' h⟩
def MR.mono{C:CM}(h:C.le I){l:List (AV×AV×Nat)}{r:List MapEntry}(k:MR C l r):MR I l r:=k.mono' h.keep
def ER.mono{C:CM}(h:C.le I){n:Nat}{E:Tr AV}(k:ER n C E vR):ER n I E vR:=k.mono' h.keep
def Zv.mono{C:CM}(h:C.le I){c:Tr AV}{len:Nat}{d:Nat}(k:Zv C c len vR d):Zv I c len vR d:=k.mono' h.keep
def Rk.frame'{B:Nat}{C':CM}{w w':World}{o:Nat}{ob:AObj}(h:Rk B I w o ob)(hc:I.keep C')(hn:∀v L,C' o v=some L→I o v=some L)
  (hb:∀v L,I o v=some L→w'.heap[L.b]?=w.heap[L.b]?):Rk B C' w' o ob:=by
 cases ob with
 |cells c len gA ro =>
  intro L hL;have C:=hn _ _ hL;obtain⟨h1,h2,h3,vs,e,lo,hi,h4,h5,h6,h7⟩:=h L C;exact⟨h1,h2,h3,vs,e,lo,hi,by rw[hb _ _ C];exact h4,h5,h6,h7.mono' hc⟩
 |map es ck =>
  intro L hL;have C:=hn _ _ hL;obtain⟨h1,gg,h2,h3⟩:=h L C;exact⟨h1,gg,Gh,h3.mono' hc⟩
 |iter len n pos =>
  intro L hL;have C:=hn _ _ hL;obtain⟨h1,h0,s,h2,h3⟩:=h L C;exact⟨h1,h0,s,Gh,h3⟩
 |loop st pend f n E ps a b d =>
  intro L hL;have C:=hn _ _ hL;obtain⟨h1,tm,Ld,h2,h3,h4⟩:=h L C;exact⟨h1,tm,Ld,hc _ _ _ h2,by rw[hb _ _ C];exact h3,h4.mono' hc⟩
 |defd op =>
  intro L hL;have C:=hn _ _ hL;obtain⟨h1,h2⟩:=h L C;exact⟨h1,Gh⟩
def Rk.frame{B:Nat}{C:CM}{w w':World}{o:Nat}{ob:AObj}(h:Rk B I w o ob)(hc:I.le C)(hn:∀v L,C o v=some L→I o v=some L)
  (hb:∀v L,I o v=some L→w'.heap[L.b]?=w.heap[L.b]?):Rk B C w' o ob:=h.frame' hc.keep hn hb
def Heap.get_push_same(H:Heap)(x:AObj):(H.push x).get H.next=some x:=z9q _ _ _
def Heap.get_push_ne(H:Heap)(x:AObj){o:Nat}(ho:o<H.next):(H.push x).get o=H.get o :=
 zm J _ _
def Heap.get_put_same(H:Heap)(o:Nat)(x:AObj):(H.put o x).get o=some x:=z9q _ _ _
def Heap.get_put_ne(H:Heap){o:Nat}(x:AObj)(gg:j≠o):(H.put o x).get j=H.get j:=zm gg _ _
def z5x(w:World)(x:Obj){k:Nat}(h:k<w.heap.size):(w.alloc x).heap[k]?=w.heap[k]?:=Below.heap_alloc w x k h
def eo(w:World)(x:Obj):(w.alloc x).heap[w.heap.size]?=some x:=by
 show (w.heap.push x)[w.heap.size]?=some x;simp
def Rel.next_none{C:World}{H:Heap}{w:World}(h:Rel C I H w)(v:Nat):I H.next v=none:=by
 cases e:I H.next v with
 |none=>rfl
 |some L=>have:=h.fresh _ _ _ e;omega
def Rel.push{w0:World}{gB:CM}{H:Heap}{w:World}(h:Rel w0 gB H w)(ob:AObj)(x:Obj)(n sz:Nat)
  (gC:Rk w0.heap.size (gB.ext H.next 0 ⟨w.heap.size,0,n,sz⟩) (w.alloc x) H.next ob) :
  Rel w0 (gB.ext H.next 0 ⟨w.heap.size,0,n,sz⟩) (H.push ob) (w.alloc x)∧gB.le (gB.ext H.next 0 ⟨w.heap.size,0,n,sz⟩):=by
 have hle:gB.le (gB.ext H.next 0 ⟨w.heap.size,0,n,sz⟩):=CM.le_ext _ (h.next_none 0) (.inr (M7 h.nx));refine⟨⟨by show max gB.nx (H.next+1)=H.next+1;rw[h.nx];exact Nat.max_eq_right (Of _),h.low.alloc h.low.size x,?_,?_,?_,?_,?_⟩,hle⟩
 ·intro o v L C;show o<H.next+1;by_cases e:o=H.next∧v=0
  ·omega
  ·rw[CM.ext_ne _ _ e]at C;have:=h.fresh _ _ _ C;omega
 ·intro o v L C;rw[World.size_alloc];by_cases e:o=H.next∧v=0
  ·obtain⟨rfl,rfl⟩:=e;rw[CM.ext_same]at C;cases C;exact K7 _
  ·rw[CM.ext_ne _ _ e]at C;have:=h.lt _ _ _ C;omega
 ·intro o v L o' v' L' C gg hb hB;by_cases e:o=H.next∧v=0<;>by_cases e':o'=H.next∧v'=0
  ·omega
  ·obtain⟨rfl,rfl⟩:=e;rw[CM.ext_same]at C;cases C;rw[CM.ext_ne _ _ e']at gg;have:=h.lt _ _ _ gg;dsimp at hb;omega
  ·obtain⟨rfl,rfl⟩:=e';rw[CM.ext_same]at gg;cases gg;rw[CM.ext_ne _ _ e]at C;have:=h.lt _ _ _ C;dsimp at hb;omega
  ·rw[CM.ext_ne _ _ e]at C;rw[CM.ext_ne _ _ e']at gg;exact h.excl _ _ _ _ _ _ C gg hb hB
 ·intro o gD ho hg;by_cases e:o=H.next
  ·subst e;rw[Heap.get_push_same]at hg;cases hg;exact gC
  ·have gA:o<H.next:=Bs
   rw[Heap.get_push_ne _ _ gA]at hg;refine (h.obj _ _ gA hg).frame hle (λv L C=>?_) (λv L C=>z5x _ _ (h.lt _ _ _ C))
   rwa [CM.ext_ne _ _ J]at C
 ·intro o c len gF ro ho hg v L C;by_cases e:o=H.next
  ·subst e;by_cases ev:v=0
   ·omega
   ·rw[CM.ext_ne _ _ J]at C;have:=h.fresh _ _ _ C;omega
  ·have gA:o<H.next:=Bs
   rw[Heap.get_push_ne _ _ gA]at hg;rw[CM.ext_ne _ _ J]at C;exact h.top _ _ _ _ _ gA hg _ _ C
def Rel.put{w0:World}{gH:CM}{H:Heap}{w w':World}(h:Rel w0 gH H w){o:Nat}(ho:o<H.next)(ob:AObj)(gA:Below w0.heap.size w0 w')
  (gD:w.heap.size≤w'.heap.size) (gF:∀o' v L,o'≠o→gH o' v=some L→w'.heap[L.b]?=w.heap[L.b]?) (gG:Rk w0.heap.size gH w' o ob)
  (gB:∀c len gg ro,ob=.cells c len gg ro→∀v L,gH o v=some L→v≤gg):Rel w0 gH (H.put o ob) w':=by
 refine⟨h.nx,gA,h.fresh,λo v L hL=>Kr (h.lt o v L hL) gD,h.excl,?_,?_⟩
 ·intro o' gI C hg;by_cases e:o'=o
  ·subst e;rw[Heap.get_put_same]at hg;cases hg;exact gG
  ·have gC:o'<H.next:=C;rw[Heap.get_put_ne H ob e]at hg;exact (h.obj _ _ C hg).frame (CM.le_refl gH) (λv L hL=>hL) (λv L hL=>gF _ _ _ e hL)
 ·intro o' c len gg ro C hg v L hL;by_cases e:o'=o
  ·subst e;rw[Heap.get_put_same]at hg;cases hg;exact gB _ _ _ _ rfl v L hL
  ·have gC:o'<H.next:=C;rw[Heap.get_put_ne H ob e]at hg;exact h.top _ _ _ _ _ C hg _ _ hL
def Rel.drew{w0:World}{C:CM}{H:Heap}{w:World}(h:Rel w0 C H w):Rel w0 C H w.drew :=
 ⟨h.nx,h.low.drew,h.fresh,h.lt,h.excl,λo ob ho hg=>(h.obj o ob ho hg).frame (CM.le_refl C) (λ_ _ hL=>hL) (λ_ _ _=>rfl),h.top⟩
def z7q(B:Program)(w:World)(a:Addr):∀(n i:Nat) (g:Array Value) (r:List Value),r.length=n→(∀z,z<n→w.cell? (a.add (i+z))=r[z]?) →
  (loadCellsFrom a i n g).run B w=.ok (g++r.toArray) w
 |0,i,g,r,j,_=>by
  have:r=[]:=Kk j;subst this;simp[loadCellsFrom]
 |n+1,i,g,r,j,h=>by
  cases r with
  |nil=>simp at j
  |cons v r =>
   have A:w.cell? (a.add i)=some v:=by simpa using h 0 J
   simp only[loadCellsFrom,Sem.run_bind,run_load,A,Result.andThen_ok];rw[z7q B w a n (i+1) (g.push v) r Bv (λz C=>by
    have:=h (z+1) J;rw[show i+1+z=i+(z+1) from J,this,Kh])]
   simp
def z8b(A:Program)(w:World)(a:Addr)(n:Nat)(r:List Value)(j:r.length=n)(h:∀g,g<n→w.cell? (a.add g)=r[g]?) :
  (loadCells a n).run A w=.ok r.toArray w:=by
 unfold loadCells;rw[z7q A w a n 0 #[] r j (λg z=>by rw[Kw];exact h g z)];simp
def qk(b d i g:Nat):(⟨b,d+i,none⟩:Addr).add g=⟨b,d+(i+g),none⟩:=by
 unfold Addr.add;by_cases h:g=0
 ·subst h;simp
 ·rw[J2 h];simp[Ly]
def zfz{w:World}{b i:Nat}{e:TypeId}{g:Nat×Nat}(h:w.heap[b]?=some (.cells vR e g)):w.cell? ⟨b,i,none⟩=vR[i]?:=by
 simp[World.cell?,h]
def Rel.read{w0:World}{C:CM}{H:Heap}{w:World}(h:Rel w0 C H w)(P:Program){o v i n:Nat}{l:List AV}(hr:Sd H o v i n=some l){L:Loc}(hL:C o v=some L) :
  ∃vs:List Value,(loadCells ⟨L.b,L.d+i,none⟩ n).run P w=.ok vs.toArray w∧VRs C l vs∧(∀a∈l,a.one=true)∧l.length=n∧i+n≤L.n ∧
   (∀j,j<n→w.cell? ⟨L.b,L.d+(i+j),none⟩=vs[j]?):=by
 unfold Sd at hr;split at hr
 ·rename_i c len gG ro hg;split at hr
  ·rename_i hv;have gB:=Kc hv;subst gB;split at hr
   ·rename_i hle;have gF:i+n≤len:=Kd hle;have gC:=h.obj o _ (h.fresh _ _ _ hL) hg;obtain⟨h1,_,h3,vs,e,lo,hi,h4,h5,h6,h7⟩:=gC L hL;obtain⟨k1,k2⟩:=kr hr;have hex:∀j,j<n→∃a,l[j]?=some a∧a.one=true∧∃x,vs[L.d+(i+j)]?=some x∧VR C a x:=by
     intro j hj;obtain⟨a,q1,q2,x,q3,q4⟩:=h7 (i+j) J;exact⟨a,by rw[←k2 j hj];exact q1,q2,x,q3,q4⟩
    have gH:L.d+(i+n)≤vs.size:=J
    let r:List Value:=(List.range n).map λj=>vs.getD (L.d+(i+j)) undef
    have gD:r.length=n:=by simp[r]
    have gg:∀j,j<n→vs[L.d+(i+j)]?=r[j]?:=by
     intro j hj;simp only[r,Lr,List.getElem?_range hj,L6];rw[Lt J,K3,Lt J];rfl
    refine⟨r,?_,?_,?_,k1,J,?_⟩
    ·exact z8b P w _ n r gD (λj hj=>by rw[qk,zfz h4];exact gg j hj)
    ·refine VRs.mk J (λj a hj=>?_);have gA:j<n:=by have:=(Jx.1 hj).1;omega
     obtain⟨a',q1,_,x,q3,q4⟩:=hex j gA;rw[hj]at q1;cases q1;exact⟨x,by rw[←gg j gA];exact q3,q4⟩
    ·intro a ha;obtain⟨j,hj,rfl⟩:=List.getElem_of_mem ha;obtain⟨a',q1,q2,_⟩:=hex j J;rw[J5 hj]at q1;cases q1;exact q2
    ·intro j hj;rw[zfz h4];exact gg j hj
   ·cases hr
  ·cases hr
 ·cases hr
def z7a(P:Program)(a:Addr):∀(r:List Value) (i:Nat) (w:World) (A:Array Value) (e:TypeId) (B hi:Nat),a.spot=none→w.heap[a.block]?=some (.cells A e (B,hi)) →
  (∀v∈r,v.oneCell'=true)→a.off+i+r.length≤A.size→(∀z,a.off+i≤z→z<a.off+i+r.length→¬(B≤z∧z<hi)) →
  ∃w' j,(storeCells a r i).run P w=.ok () w'∧w'.heap[a.block]?=some (.cells j e (B,hi))∧j.size=A.size∧(∀k,k≠a.block→w'.heap[k]?=w.heap[k]?) ∧
   w'.heap.size=w.heap.size∧w'.os=w.os∧w'.tape=w.tape∧w'.output=w.output∧(∀z,j[z]?=if a.off+i≤z∧z<a.off+i+r.length then r[z-(a.off+i)]? else A[z]?)
 |[],i,w,A,e,B,hi,_,E,_,_,_=>by
  refine⟨w,A,rfl,E,rfl,λ_ _=>rfl,rfl,rfl,rfl,rfl,λz=>?_⟩;rw[J2 N]
 |v::r,i,w,A,e,B,hi,Q,E,M,H,I=>by
  simp only[Kn]at H I;have g:a.add i=⟨a.block,a.off+i,none⟩:=by
   unfold Addr.add;by_cases h:i=0
   ·subst h;simp;cases a;simp_all
   ·rw[J2 h]
  have C : w.cell? (a.add i) = some (A[a.off + i]' J) := by
   rw[g,zfz E,Lt]
  have K:w.frozen? (a.add i)=false:=by
   rw[g];simp only[World.frozen?,E];have:=I (a.off+i) J J;simp only[Bool.and_eq_false_iff,Le];omega
  have F:(store (a.add i) v).run P w=.ok () (w.setCell (a.add i) v):=by
   rw[run_store P w _ v .plain (M v N),C];simp[K]
  have G:(w.setCell (a.add i) v).heap[a.block]?=some (.cells (A.setIfInBounds (a.off+i) v) e (B,hi)):=by
   rw[g];simp only[World.setCell,Array.getElem?_modify,M5,E,L6];simp
  obtain⟨w',j,R,T,U,V,X,Y,Z,h8,h9⟩:=z7a P a r (i+1) (w.setCell (a.add i) v) _ e B hi Q G (λx hx=>M x (by simp[hx]))
   (by rw[Array.size_setIfInBounds];omega) (λz L D=>I z J J)
  refine⟨w',j,?_,T,by rw[U,Array.size_setIfInBounds],?_,?_,Y,Z,h8,?_⟩
  ·simp only[storeCells,Sem.run_bind,F,Result.andThen_ok];exact R
  ·intro k O;rw[V k O];exact Below.heap_setCell w (a.add i) v k (by rw[g];exact O)
  ·rw[X,World.size_setCell]
  ·intro z;rw[h9 z];by_cases L:a.off+(i+1)≤z∧z<a.off+(i+1)+r.length
   ·rw[J8 L,J8 Dx];have:z-(a.off+i)=(z-(a.off+(i+1)))+1:=J
    rw[this,Kh]
   ·rw[J2 L,Array.getElem?_setIfInBounds];by_cases D:a.off+i=z
    ·subst D;rw[J8 rfl,J8 J,J8 Dx];simp
    ·rw[J2 D,J2 Dx]
def VRs.get'{C:CM}{l:List AV}{r:List Value}(h:VRs C l r){i:Nat}(hi:i<l.length):∃a v,l[i]?=some a∧r[i]?=some v∧VR C a v:=by
 obtain⟨v,h1,h2⟩:=h.get (J5 hi);exact⟨_,v,J5 hi,h1,h2⟩
def VRs.one{C:CM}:∀{l:List AV} {r:List Value},VRs C l r→(∀a∈l,a.one=true)→∀v∈r,v.oneCell'=true
 |_,_,.nil,_,v,hv=>by simp at hv
 |_,_,.cons e es,h,v,hv=>by
  rcases J9.1 hv with rfl|hv
  ·rw[e.one];exact h _ N
  ·exact VRs.one es (λa ha=>h a (by simp[ha])) v hv
def Zv.lay{C:CM}{c:Tr AV}{len:Nat}{gg:Array Value}{d i:Nat}{l:List AV}{r:List Value}(h:Zv C c len vR d)(hv:VRs C l r)(h1:∀a∈l,a.one=true)
  (hi:i≤len) (_hle:i+l.length≤j) (gC:j≤len∨j=i+l.length)
  (gB:∀gD,gg[gD]?=if d+i≤gD∧gD<d+i+r.length then r[gD-(d+i)]? else vR[gD]?):Zv C (Su l i c) j gg d:=by
 intro k hk;rw[get_ofList l i c k];have hlen:=hv.length;rw[gB];by_cases gA:i≤k∧k<i+l.length
 ·rw[J8 gA,J8 J];obtain⟨a,v,q1,q2,q3⟩:=hv.get' (i:=k-i) J;refine⟨a,q1,h1 a (Kg q1),v,?_,q3⟩;rw[show d+k-(d+i)=k-i from J];exact q2
 ·rw[J2 gA,J2 J];exact h k J
def Rel.write{w0:World}{C:CM}{H:Heap}{w:World}(h:Rel w0 C H w)(P:Program){o v i:Nat}{l:List AV}(hw:Wx H o v i l=some vX){L:Loc}(hL:C o v=some L)
  {r:List Value} (hr:VRs C l r) (h1:∀a∈l,a.one=true):∃w',(storeCells ⟨L.b,L.d+i,none⟩ r).run P w=.ok () w'∧Rel w0 C vX w':=by
 unfold Wx at hw;split at hw
 ·rename_i c len gI hg;split at hw
  ·rename_i hv;have gA:=Kc hv;subst gA;split at hw
   ·rename_i hle;have gg:i+l.length≤len:=Kd hle;cases hw;have ho:=h.fresh _ _ _ hL;have gB:=h.obj o _ ho hg;obtain⟨q1,q2,q3,vs,e,lo,hi,q4,q5,q6,q7⟩:=gB L hL;have gK:=hr.length;obtain⟨w',gC,k1,k2,k3,k4,k5,k6,k7,k8,k9⟩:=z7a P ⟨L.b,L.d+i,none⟩ r 0 w vs e lo hi rfl q4 (hr.one h1) Bx (λgL hj gD=>by dsimp at hj gD;exact q6 gL J J);refine⟨w',k1,h.put ho _ ?_ J ?_ ?_ ?_⟩
    ·exact h.low.trans ⟨k6,k7,k8,J,λk hk=>k4 k (by dsimp;have:=q2 rfl;omega)⟩
    ·intro o' v' L' gF j;refine k4 _ (λe'=>gF ?_);exact (h.excl _ _ _ _ _ _ hL j e'.symm (q2 rfl)).symm
    ·intro L' j;rw[hL]at j;cases j;refine⟨q1,q2,q3,gC,e,lo,hi,k2,J,q6,q7.lay hr h1 J gg (.inl (J4 _)) (λgL=>?_)⟩;rw[k9 gL];rfl
    ·intro c' gG gH gM he v' L' j;cases he;exact h.top _ _ _ _ _ ho hg _ _ j
   ·cases hw
  ·cases hw
 ·cases hw
def Rel.newRow{w0:World}{C:CM}{H:Heap}{w:World}(h:Rel w0 C H w){l:List AV}{o:Nat}(hn:newObj H l=some (o,vX))(e:TypeId)(fz:Nat×Nat){vs:Array Value}
  (hle:l.length≤vs.size) (hv:VRs C l (vs.toList.take l.length)) (h1:∀a∈l,a.one=true) (gA:∀i,i<vs.size→¬(fz.1≤i∧i<fz.2)) :
  ∃C',C.le C'∧Rel w0 C' vX (w.alloc (.cells vs e fz))∧C' o 0=some ⟨w.heap.size,0,l.length,vs.size⟩:=by
 unfold Sv.newObj at hn;cases hn;have gg:C.le (C.ext H.next 0 ⟨w.heap.size,0,l.length,vs.size⟩):=CM.le_ext _ (h.next_none 0) (.inr (M7 h.nx));refine⟨C.ext H.next 0 ⟨w.heap.size,0,l.length,vs.size⟩,gg,(h.push _ _ l.length vs.size ?_).1,CM.ext_same _ _ _ _⟩;intro L hL;rw[CM.ext_same]at hL;cases hL;refine⟨rfl,λ_=>h.low.size,Bx,vs,e,fz.1,fz.2,eo _ _,J4 _,λi _ hi=>gA i hi,?_⟩;intro k hk;rw[get_ofList l 0 .e k,J8 J];obtain⟨a,v,q1,q2,q3⟩:=hv.get' (i:=k) hk;refine⟨a,by simpa using q1,h1 a (Kg q1),v,?_,q3.mono gg⟩;rw[Lz hk]at q2;simpa using q2
end
section
open Go.RowKit (Below)
section sem
variable {P : Program} {w : World}
def Pv{t:TypeId}{d:TypeDesc}(h:P.underlying t=some d):(underlying t).run P w=.ok d w:=by
 simp[underlying,h]
def kw{t:TypeId}{i:TypeInfo}(h:P.info? t=some i):(typeInfo t).run P w=.ok i w:=by
 simp[typeInfo,h]
def T4{t:TypeId}{n:Nat}(h:Qg P t=some n):(sizeOf t).run P w=.ok n w:=by
 unfold Qg at h;cases hi:P.info? t with
 |none=>simp[hi]at h
 |some i=>simp only[hi,L6,Option.some.injEq]at h;simp[sizeOf,kw hi,h]
def z7w{t:TypeId}{b:Bool}(h:Ua P t=some b):(isAgg t).run P w=.ok b w:=by
 unfold Ua at h;cases hu:P.underlying t with
 |none=>simp[hu]at h
 |some d=>cases d<;>simp[hu]at h<;>subst h<;>simp[isAgg,Pv hu]
def vx{t:TypeId}{l:List AV}(h:Tz P t=some l):∃v i,(zeroValue t).run P w=.ok v w∧Vk v.cells.toList=some l∧P.info? t=some i∧l.length=i.size:=by
 unfold Tz at h;cases hi:P.info? t with
 |none=>simp[hi]at h
 |some i =>
  simp only[hi]at h;cases g:i.zero with
  |none=>simp[g]at h
  |some v =>
   simp only[g]at h;cases j:Vk v.cells.toList with
   |none=>simp[j]at h
   |some r =>
    simp only[j]at h;split at h
    ·cases h;rename_i z;exact⟨v,i,Fk,j,rfl,z⟩
    ·cases h
def zma{t:TypeId}{a:AV}(h:znk P t=some a):∃v,(zeroValue t).run P w=.ok v w∧X5 v=some a:=by
 unfold znk at h;cases hi:P.info? t with
 |none=>simp[hi]at h
 |some i =>
  simp only[hi]at h;cases g:i.zero with
  |none=>simp[g]at h
  |some v=>simp only[g]at h;exact⟨v,Fk,h⟩
end sem
def wh(g:CM)(j:Tr AV)(z:Operand→Value):Prop:=∀x a,(O8 x).run j=some a→VR g a (z x)
def z8f{n:Nat}{E:Tr AV}{a:Act}(h:ER n I E a.tmps):wh I E a.eval:=by
 intro x A g;cases x with
 |tmp t =>
  unfold O8 at g;dsimp only at g;split at g
  ·rename_i j;have:=h.2.2 t (Kd j);dsimp only at g;show VR I A (a.tmps.getD t undef);cases z:On (O1 t) E with
   |none=>rw[z]at g this;cases g;rw[show a.tmps.getD t undef=undef from this];exact .tup .nil
   |some b=>rw[z]at g this;cases g;exact this
  ·cases g
 |const v =>
  unfold O8 at g;dsimp only at g;split at g
  ·rename_i b j;cases g;exact zfq j
  ·cases g
 |global B=>cases g
 |func f=>cases g;exact .fn (.same _ (λl e=>An)) .nil .nil
def xz{B:CM}{C:Tr AV}{D:Operand→Value}(h:wh B C D):∀{j:List Operand} {l:List AV},(opds j).run C=some l→VRs B l (j.map D)
 |[],l,g=>by cases g;exact .nil
 |x::j,l,g=>by
  unfold opds at g;dsimp only at g;split at g
  ·cases g
  ·rename_i a z;split at g
   ·cases g
   ·rename_i r A;cases g;exact .cons (h _ _ z) (xz h A)
def bo(P:Program)(A:World)(C:CM)(w:World)(z:Sem Next)(v:AV)(B:Heap):Prop :=
 ∃g j x,C.le g∧Rel A g B j∧VR g v x∧(z.run P w=.ok (.value x) j∨(z.run P w=.ok .skip j∧x=undef))
def CallOk(P:Program)(A:CM)(w:World)(z:Sem Next)(t:Tgt)(g:List AV):Prop :=
 ∃j:List Value,VRs A g j∧((∃f,t=.fn f∧z.run P w=.ok (.enter f j.toArray) w)∨(∃l B,t=.yield l∧A l 0=some B∧z.run P w=(Instr.yield B.b j.toArray).run P w))
def Sk(P:Program)(z:World)(C:CM)(w:World)(j:Sem Next):OR→Prop
 |.no=>True
 |.val v A=>bo P z C w j v A
 |.call t g=>CallOk P C w j t g
def Pe(P:Program)(f:OpF)(nx:(Operand→Value)→Sem Next):Prop :=
 ∀g j z w A B,Rel g j z w→wh j A B→Sk P g j w (nx B) (f.run A z)
def Pq(P:Program)(nx:(Operand→Value)→Sem Next):Pe P Pk nx:=λ_ _ _ _ _ _ _ _=>trivial
def Ug{P:Program}{x:Operand}{f:Heap→AV→OR}{nx:(Operand→Value)→Sem Next}
  (h:∀g C j w z a,Rel g C j w→VR C a (z x)→Sk P g C w (nx z) (f j a)):Pe P (Ro x f) nx:=by
 intro g C j w E z A B;show Sk P g C w (nx z) (Option.rec OR.no (λa=>f j a) ((O8 x).run E));cases D:(O8 x).run E with
 |none=>exact trivial
 |some a=>exact h _ _ _ _ _ _ A (B _ _ D)
def Zu{P:Program}{x y:Operand}{f:Heap→AV→AV→OR}{nx:(Operand→Value)→Sem Next}
  (h:∀g C A w j a b,Rel g C A w→VR C a (j x)→VR C b (j y)→Sk P g C w (nx j) (f A a b)):Pe P (Uq x y f) nx:=by
 intro g C A w B j D z;show Sk P g C w (nx j) (Option.rec OR.no (λa=>Option.rec OR.no (λb=>f A a b) ((O8 y).run B)) ((O8 x).run B));cases E:(O8 x).run B with
 |none=>exact trivial
 |some a =>
  cases F:(O8 y).run B with
  |none=>exact trivial
  |some b=>exact h _ _ _ _ _ _ _ D (z _ _ E) (z _ _ F)
def Re{P:Program}{C:CM}{w:World}{nx:Sem Next}{v:AV}{x:Value}(j:Rel G C D w)(z:VR C v x)(g:nx.run P w=.ok (.value x) w) :
  bo P G C w nx v D:=⟨C,w,x,CM.le_refl C,j,z,.inl g⟩
def zir(P:Program)(x:Operand):Pe P (Ro x λz a=>.val a z) (λA=>pure (.value (A x))) :=
 Ug λ_ _ _ _ _ _ g j=>Re g j rfl
def zsc(P:Program)(c a b:Operand):Pe P (Pp P (.pick c a b)) (λC=>do pure (.value (if ←asBool (C c) then C a else C b))):=by
 intro F K I w D C E z;show Sk P F K w _ (match (O8 c).run D with
  |some (.bool true)=>ret1 I ((O8 a).run D)
  |some (.bool false)=>ret1 I ((O8 b).run D)
  |_=>.no)
 split
 ·rename_i A;have g:=z _ _ A;cases G:(O8 a).run D with
  |none=>exact trivial
  |some v =>
   have B:=z _ _ G;refine Re E B ?_;cases j:C c<;>rw[j]at g<;>cases g;simp[asBool,j]
 ·rename_i A;have g:=z _ _ A;cases H:(O8 b).run D with
  |none=>exact trivial
  |some v =>
   have B:=z _ _ H;refine Re E B ?_;cases j:C c<;>rw[j]at g<;>cases g;simp[asBool,j]
 ·exact trivial
def zm0{P:Program}{C:CM}{w:World}(I:Rel G C D w)(t:TypeId){l:List AV}(F:VRs C l vR.toList)(K:∀a∈l,a.one=true)
  {H:Sem Next} (j:H.run P w=.ok (.value (.pointer (some ⟨w.heap.size,0,none⟩))) (w.alloc (.cells vR t))):Sk P G C w H (X7 D l):=by
 unfold X7;cases L:newObj D l with
 |none=>exact trivial
 |some r =>
  obtain⟨o,O⟩:=r;have g:l.length=vR.toList.length:=F.length;have z:l.length=vR.size:=Bc
  obtain⟨M,A,B,E⟩:=I.newRow L t (0,0) (vs:=vR) J (by rw[g,My];exact F) K N;exact⟨M,_,_,A,B,by simpa using VR.ptr (i:=0) E,.inl j⟩
def zoz(P:Program)(t:TypeId):Pe P (Pp P (.alloc t)) (λ_=>do pure (.value (←Instr.alloc t true (.tuple #[])))):=by
 intro g G j w H M z I;show Sk P g G w _ (OpF.run (match Tz P t with
  |some l=>⟨λ_ j=>X7 j l⟩
  |none=>Pk) H j)
 cases A:Tz P t with
 |none=>exact trivial
 |some l =>
  obtain⟨v,i,B,D,K,L⟩:=vx (w:=w) A;obtain⟨E,F⟩:=Y0 (C:=G) D;refine zm0 z t E F ?_;simp[Instr.alloc,B,newVar,newRow]
def zto(P:Program)(t:TypeId)(x:Operand):Pe P (Pp P (.box t x)) (λC=>do pure (.value (←Instr.box t (C x)))):=by
 refine Ug λD E F w C a g j=>?_
 cases z:a.cells with
 |none=>exact trivial
 |some l =>
  obtain⟨A,B⟩:=j.cells z;exact zm0 g t A B (by simp[Instr.box,newVar,newRow])
def zrs(P:Program)(t:TypeId)(x:Operand):Pe P (znh P t x) (λF=>do pure (.value (←Instr.loadAt t (F x)))):=by
 unfold znh;split
 ·rename_i n A G;refine Ug λK R T w F a g j=>?_
  split
  ·rename_i o v i;split
   ·rename_i l B;generalize L:F x=M at j;cases j with
    |ptr C =>
     obtain⟨D,H,E,I,O,_⟩:=g.read P B C;refine Re g (.agg (vs:=D.toArray) Cd I) ?_;simp[Instr.loadAt,Instr.sureAddr,loadVar,z7w A,T4 G,H]
   ·exact trivial
  ·exact trivial
 ·rename_i n A G;refine Ug λK R T w F a g j=>?_
  split
  ·rename_i o v i;split
   ·rename_i c B;generalize L:F x=M at j;cases j with
    |ptr C =>
     obtain⟨D,H,E,I,O,U,Q⟩:=g.read P B C;have z:=Q 0 J
     match D,E with
     |[u],.cons hu .nil =>
      refine Re g hu ?_;simp only[M8,Km]at z;simp[Instr.loadAt,Instr.sureAddr,loadVar,z7w A,z]
   ·exact trivial
  ·exact trivial
 ·exact Pq P _
def zou(P:Program)(t:TypeId)(x y:Operand):Pe P (zkv P t x y) (λj=>do Instr.storeAt t (j x) (j y);pure .skip):=by
 unfold zkv;split
 ·rename_i n B;refine Zu λO M U w j a b C z D=>?_
  split
  ·rename_i o v i;split
   ·rename_i l E;split
    ·rename_i F;split
     ·rename_i Q hw;generalize R:j x=T at z;cases z with
      |ptr G =>
       obtain⟨A,H⟩:=D.cells E;obtain⟨I,K,L⟩:=C.write P hw G A H;refine⟨M,I,undef,CM.le_refl M,L,.tup .nil,.inr ⟨?_,rfl⟩⟩;have g:(j y).cells.size=n:=by have:=A.length;have:=Kc F;simp at *;omega
       simp[Instr.storeAt,Instr.sureAddr,storeVar,T4 B,g,K]
     ·exact trivial
    ·exact trivial
   ·exact trivial
  ·exact trivial
 ·exact Pq P _
def zhe(P:Program)(x:Operand)(o:Oper)(A:o.op=.nilCheck x):Pe P (Ro x zn) (λD=>execOp D o):=by
 refine Ug λF G H w D a B j=>?_
 unfold zn;split
 ·generalize z:D x=C at j;have g:=j;cases j with
  |ptr E=>exact Re B g En
 ·generalize z:D x=C at j;have g:=j;cases j with
  |iface h=>exact Re B g En
 ·generalize z:D x=C at j;have g:=j;cases j with
  |fn h=>cases h with
   |same=>exact Re B g En
 ·generalize z:D x=C at j;have g:=j;cases j with
  |map E=>exact Re B g En
 ·exact trivial
end
section
open Go.RowKit (Below)
def z67{k g:IntKind}(h:Yw k g=true):k=g:=by
 cases k<;>cases g<;>first|rfl|(exact absurd h Ac)
def xy(a b:Int):eqI a b=(a==b):=by
 cases a<;>cases b
 ·rename_i x y;show Nat.beq x y=_;rw[Li];simp[Nat.beq_eq];omega
 ·show false=_;symm;rw[beq_eq_false_iff_ne];intro h;cases h
 ·show false=_;symm;rw[beq_eq_false_iff_ne];intro h;cases h
 ·rename_i x y;show Nat.beq x y=_;rw[Li];simp[Nat.beq_eq]
def Tj{a b:Nat}:Nat.blt a b=decide (a<b):=by
 rw[Li];simp[Nat.blt,Nat.ble_eq];omega
def pj(a b:Int):wv a b=decide (a<b):=by
 cases a<;>cases b
 ·rename_i x y;show Nat.blt x y=_;rw[Tj,decide_eq_decide];simp
 ·rename_i x y;show false=_;symm;rw[Le];have:=Int.negSucc_lt_zero y;simp;omega
 ·rename_i x y;show true=_;symm;rw[decide_eq_true_iff];have:=Int.negSucc_lt_zero x;simp;omega
 ·rename_i x y;show Nat.blt y x=_;rw[Tj,decide_eq_decide];omega
def z6x(k:IntKind):2^k.bits=V2 k:=by cases k<;>rfl
def Zx(k:IntKind)(n:Int):V7 k n=k.wrap n:=by
 cases n with
 |negSucc m=>rfl
 |ofNat m =>
  unfold V7;dsimp only;split
  ·rename_i h;have g:m<Yi k:=by rw[Tj]at h;simpa using h
   cases k<;>simp only[Yi]at g<;>simp only[IntKind.wrap,IntKind.bits,IntKind.signed]<;>simp<;>omega
  ·rfl
def zq7(b:Int):dt b=true↔b=0:=by
 cases b with
 |ofNat n=>simp[dt,Nat.beq_eq]
 |negSucc n=>simp[dt]
section bits
variable {k : IntKind} {x y : Nat}
def w8(w x:Nat):BitVec.ofInt w (Int.ofNat x)=BitVec.ofNat w x:=by
 show BitVec.ofInt w ((x:Nat):Int)=_;exact BitVec.ofInt_natCast w x
def au(g:x<V2 k)(j:y<V2 k):(BitVec.ofInt k.bits (Int.ofNat x) &&& BitVec.ofInt k.bits (Int.ofNat y)).toNat=Nat.land x y:=by
 rw[←z6x]at g j;rw[w8,w8,BitVec.toNat_and,Nb,Nb,Kt g,Kt j];rfl
def np(g:x<V2 k)(j:y<V2 k):(BitVec.ofInt k.bits (Int.ofNat x) ||| BitVec.ofInt k.bits (Int.ofNat y)).toNat=Nat.lor x y:=by
 rw[←z6x]at g j;rw[w8,w8,BitVec.toNat_or,Nb,Nb,Kt g,Kt j];rfl
def ga(g:x<V2 k)(j:y<V2 k):(BitVec.ofInt k.bits (Int.ofNat x) ^^^ BitVec.ofInt k.bits (Int.ofNat y)).toNat=Nat.xor x y:=by
 rw[←z6x]at g j;rw[w8,w8,BitVec.toNat_xor,Nb,Nb,Kt g,Kt j];rfl
def zp4(g:x<V2 k)(_hy:y<V2 k) :
  (BitVec.ofInt k.bits (Int.ofNat x) &&& ~~~(BitVec.ofInt k.bits (Int.ofNat y))).toNat=Nat.xor x (Nat.land x y):=by
 rw[←z6x]at g;rw[w8,w8];apply Nat.eq_of_testBit_eq;intro i;rw[BitVec.testBit_toNat,BitVec.getLsbD_and,BitVec.getLsbD_not,BitVec.getLsbD_ofNat,BitVec.getLsbD_ofNat];show _=(x ^^^ (x &&& y)).testBit i;rw[Nat.testBit_xor,Nat.testBit_and];by_cases hi:i<k.bits
 ·simp only[hi,decide_true,Nv];cases x.testBit i<;>cases y.testBit i<;>rfl
 ·have:x.testBit i=false:=Nat.testBit_lt_two_pow (Kr g (Ls J J));simp[this,hi]
end bits
def zfx(a b:Nat):Rv a b=min a b:=by
 unfold Rv;split
 ·rename_i h;have:=Kd h;omega
 ·rename_i h;have:¬a≤b:=λg=>by rw[Ka g]at h;cases h
  omega
def zah{P:Program}{w:World}{f:Nat→Nat→Nat}{op:BinOp}{k:IntKind}{a b:Int}{v:AV}(h:Zw f k a b=some v)
  (z:∀x y:Nat,x<V2 k→y<V2 k→(Op.intBits op k (Int.ofNat x) (Int.ofNat y)).run P w=.ok (.int k (k.wrap (Int.ofNat (f x y)))) w) :
  ∃n,v=.int k n∧(Op.intBits op k a b).run P w=.ok (.int k n) w:=by
 unfold Zw at h;split at h
 ·rename_i x y;split at h
  ·rename_i g;split at h
   ·rename_i j;cases h;rw[Tj]at g j;exact⟨_,rfl,by rw[z x y Bc Bv,Zx]⟩
   ·cases h
  ·cases h
 ·cases h
def zrp(P:Program)(w:World){op:BinOp}{k:IntKind}{a b:Int}{v:AV}(t:TypeId)(h:zoh op k a b=some v) :
  ∃x,(binOp op t (.int k a) (.int k b)).run P w=.ok x w∧∀g,VR g v x:=by
 cases op<;>simp only[zoh]at h
 case add=>cases h;exact⟨_,Ek,λg=>Dr⟩
 case sub=>cases h;exact⟨_,Ek,λg=>Dr⟩
 case mul=>cases h;exact⟨_,Ek,λg=>Dr⟩
 case quo =>
  split at h
  ·cases h
  ·rename_i B;cases h;have C:b≠0:=λe=>by rw[(zq7 b).2 e]at B;cases B
   exact⟨.int k (k.wrap (a.tdiv b)),by simp[binOp,Op.intDiv,C],λg=>Dr⟩
 case rem =>
  split at h
  ·cases h
  ·rename_i B;cases h;have C:b≠0:=λe=>by rw[(zq7 b).2 e]at B;cases B
   exact⟨.int k (a.tmod b),by simp[binOp,Op.intDiv,C],λg=>.int k _⟩
 case and =>
  obtain⟨n,rfl,j⟩:=zah (P:=P) (w:=w) (op:=.and) h (λx y z A=>by simp only[Op.intBits,au z A];rfl);exact⟨_,Dp,λg=>.int k n⟩
 case or =>
  obtain⟨n,rfl,j⟩:=zah (P:=P) (w:=w) (op:=.or) h (λx y z A=>by simp only[Op.intBits,np z A];rfl);exact⟨_,Dp,λg=>.int k n⟩
 case xor =>
  obtain⟨n,rfl,j⟩:=zah (P:=P) (w:=w) (op:=.xor) h (λx y z A=>by simp only[Op.intBits,ga z A];rfl);exact⟨_,Dp,λg=>.int k n⟩
 case andNot =>
  obtain⟨n,rfl,j⟩:=zah (P:=P) (w:=w) (op:=.andNot) h (λx y z A=>by simp only[Op.intBits,zp4 z A];rfl);exact⟨_,Dp,λg=>.int k n⟩
 case eql=>cases h;exact⟨_,Ew,λg=>by rw[xy];exact .bool _⟩
 case neq=>cases h;exact⟨.bool (a != b),Ge,λg=>by rw[xy];exact .bool _⟩
 case lss=>cases h;exact⟨_,Ew,λg=>by rw[pj];exact .bool _⟩
 case gtr=>cases h;exact⟨_,Ew,λg=>by rw[pj];exact .bool _⟩
 case leq =>
  cases h;refine⟨.bool (decide (a≤b)),Ge,λg=>?_⟩;rw[pj,show (!decide (b<a))=decide (a≤b) from by rw[Li];simp];exact .bool _
 case geq =>
  cases h;refine⟨.bool (decide (a ≥ b)),Ge,λg=>?_⟩;rw[pj,show (!decide (a<b))=decide (a ≥ b) from by rw[Li];simp];exact .bool _
 all_goals cases h
def zh9(A:Program)(w:World){op:BinOp}(g:op=.shl∨op=.shr){k j:IntKind}{a b:Int}{v:AV}(t:TypeId)(h:zlp op k a b=some v) :
  ∃x,(binOp op t (.int k a) (.int j b)).run A w=.ok x w∧∀z,VR z v x:=by
 unfold zlp at h;split at h
 ·rename_i x y;rcases g with rfl|rfl
  ·simp only[Option.some.injEq]at h;subst h;refine⟨.int k (k.wrap (Int.ofNat x*2^(min y k.bits))),?_,λz=>?_⟩
   ·have:¬((Int.ofNat y)<0):=N
    simp only[binOp,Op.shift];rw[J2 this];rfl
   ·rw[Zx,zfx];have:Int.ofNat (x.mul (Nat.pow 2 (min y k.bits)))=Int.ofNat x*2^(min y k.bits):=by
     show ((x*2^(min y k.bits):Nat):Int)=_;simp
    rw[this];exact .int k _
  ·simp only[Option.some.injEq]at h;subst h;refine⟨.int k ((Int.ofNat x).fdiv (2^(min y k.bits))),?_,λz=>?_⟩
   ·have:¬((Int.ofNat y)<0):=N
    simp only[binOp,Op.shift];rw[J2 this];rfl
   ·rw[zfx];have:Int.ofNat (x.div (Nat.pow 2 (min y k.bits)))=(Int.ofNat x).fdiv (2^(min y k.bits)):=by
     show ((x/2^(min y k.bits):Nat):Int)=((x:Nat):Int).fdiv (2^(min y k.bits));have e:((2:Int)^(min y k.bits))=((2^(min y k.bits):Nat):Int):=N
     rw[e,Int.fdiv_eq_ediv_of_nonneg _ (Lj _)];rfl
    rw[this];exact .int k _
 ·cases h
end
section
open Go.RowKit (Below)
def packL_append:∀a b:List UInt8,Qe (a++b)=Qe a+Qe b*256^a.length
 |[],b=>by simp[Qe]
 |x::a,b=>by
  simp only[K2,Qe,packL_append a b,Kn,Mv];rw[Nf,Ly,Mo (256^a.length) 256,Nat.mul_left_comm 256]
def packL_inj:∀{a b:List UInt8},a.length=b.length→Qe a=Qe b→a=b
 |[],[],_,_=>rfl
 |[],_::_,h,_=>Bu
 |_::_,[],h,_=>Bu
 |x::a,y::b,h,k=>by
  simp only[Qe]at k;have z:=x.toNat_lt;have A:=y.toNat_lt;have g:x.toNat=y.toNat:=J
  have j:Qe a=Qe b:=J
  rw[packL_inj Ar j,UInt8.toNat_inj.1 g]
def packL_drop:∀(i:Nat) (l:List UInt8),Qe (l.drop i)=Qe l/256^i
 |0,l=>N
 |i+1,[]=>by simp[Qe]
 |i+1,b::l=>by
  rw[List.drop_succ_cons,packL_drop i l];have g:=b.toNat_lt;simp only[Qe,Mv];rw[Mo (256^i) 256,←Nat.div_div_eq_div_mul]
  congr 1
  omega
def packL_take:∀(i:Nat) (l:List UInt8),Qe (l.take i)=Qe l%256^i
 |0,l=>by simp[Qe,Nat.mod_one]
 |i+1,[]=>by simp[Qe]
 |i+1,b::l=>by
  rw[List.take_succ_cons];simp only[Qe];rw[packL_take i l,Mv,Mo (256^i) 256];have g:=b.toNat_lt;rw[Nat.mod_mul,Nat.add_mul_mod_self_left,Kt g,Nat.add_mul_div_left _ _ J,Nat.div_eq_of_lt g,Kw]
def zha{l:List UInt8}{i:Nat}{b:UInt8}(h:l[i]?=some b):Qe l/256^i%256=b.toNat:=by
 rw[←packL_drop];have hi:=(Jx.1 h).1;rw[Lh hi,Qe,(Jx.1 h).2];have g:=b.toNat_lt;omega
def unpack_pack:∀l:List UInt8,W8 l.length (Qe l)=l.map (·.toNat)
 |[]=>rfl
 |b::l=>by
  have z:=b.toNat_lt;simp only[Kn,W8,Qe,Mp];have g:Nat.mod (b.toNat+256*Qe l) 256=b.toNat:=by show (b.toNat+256*Qe l)%256=_;omega
  have j:Nat.div (b.toNat+256*Qe l) 256=Qe l:=by show (b.toNat+256*Qe l)/256=_;omega
  rw[g,j,unpack_pack l]
def less_spec:∀a b:List UInt8,Op.bytesLess a b=kc (a.map (·.toNat)) (b.map (·.toNat))
 |_,[]=>by simp[Op.bytesLess,kc]
 |[],_::_=>by simp[Op.bytesLess,kc]
 |x::a,y::b=>by
  simp only[Op.bytesLess,kc,Mp,less_spec a b,Tj];have g:decide (x<y)=decide (x.toNat<y.toNat):=by rw[decide_eq_decide];exact UInt8.lt_iff_toNat_lt
  have j:(x==y)=Nat.beq x.toNat y.toNat:=by
   rw[Li];simp[Nat.beq_eq,UInt8.toNat_inj]
  rw[g,j]
def zd7{a b:ByteArray}:(a.toList==b.toList)=(Nat.beq a.data.toList.length b.data.toList.length&&Nat.beq (Qe a.data.toList) (Qe b.data.toList)):=by
 rw[ByteArray.toList_eq,ByteArray.toList_eq,Li];simp only[Ns,Jz,Nat.beq_eq];exact⟨λh=>by rw[h];exact⟨rfl,rfl⟩,λ⟨g,j⟩=>packL_inj g j⟩
def zry{a b:ByteArray}:Op.bytesLess a.toList b.toList=kc (W8 a.data.toList.length (Qe a.data.toList)) (W8 b.data.toList.length (Qe b.data.toList)):=by
 rw[ByteArray.toList_eq,ByteArray.toList_eq,less_spec,unpack_pack,unpack_pack]
def zfr(a b:ByteArray):(a++b).data.toList=a.data.toList++b.data.toList:=by
 simp
def zsd(D:Program)(w:World){op:BinOp}{x y:ByteArray}{v:AV}(t:TypeId)
  (h:zs7 op x.data.toList.length (Qe x.data.toList) y.data.toList.length (Qe y.data.toList)=some v) :
  ∃u,(binOp op t (.string x) (.string y)).run D w=.ok u w∧∀z,VR z v u:=by
 have A:binOp op t (.string x) (.string y)=Op.stringOp op x y∨op=.shl∨op=.shr:=by cases op<;>simp[binOp]
 rcases A with A|rfl|rfl
 ·rw[A];have he:=zd7 (a:=x) (b:=y);have j:=zry (a:=x) (b:=y);unfold Op.stringOp;cases op<;>simp only[zs7]at h
  case add =>
   split at h
   ·rename_i B;cases h;have g:=Kd B;have C:x.size+y.size≤Ry:=g;refine⟨.string (x++y),?_,λz=>.str ?_ ?_⟩
    ·dsimp only;rw[J2]
     ·rfl
     ·simp only[IntKind.max,IntKind.signed,IntKind.bits,M5];unfold Ry at C;omega
    ·rw[zfr,J7];rfl
    ·rw[zfr,packL_append];rfl
   ·cases h
  case eql=>cases h;exact⟨_,rfl,λz=>by rw[←he];exact .bool _⟩
  case neq=>cases h;exact⟨_,rfl,λz=>by rw[←he];exact .bool _⟩
  case lss=>cases h;exact⟨_,rfl,λz=>by rw[←j];exact .bool _⟩
  case leq=>cases h;exact⟨_,rfl,λz=>by rw[←j,←he];exact .bool _⟩
  case gtr=>cases h;exact⟨_,rfl,λz=>by rw[←j,←he];exact .bool _⟩
  case geq=>cases h;exact⟨_,rfl,λz=>by rw[←j];exact .bool _⟩
  all_goals cases h
 ·simp[zs7]at h
 ·simp[zs7]at h
end
section
open Go.RowKit (Below)
def zvh{l r:List AV}{n:Nat}(h:Zf l g n=some r)(z:VRs I l vR.toList)(A:∀a∈l,a.one=true) :
  VRs I r (vR.extract g (g+n)).toList∧(∀a∈r,a.one=true)∧r.length=n:=by
 unfold Zf at h;split at h
 ·rename_i B;have j:=Kd B;cases h;have e:(vR.extract g (g+n)).toList=(vR.toList.drop g).take n:=by
   rw[Array.toList_extract,List.extract_eq_take_drop,Nat.add_sub_cancel_left]
  refine⟨by rw[e];exact (z.drop g).take n,λa C=>A a (List.mem_of_mem_drop (List.mem_of_mem_take C)),?_⟩;have D:g+n≤l.length:=j;simp;omega
 ·cases h
def zdc{w:World}{t:TypeId}{n:Nat}(A:Ua C t=some K)(D:Qg C t=some n){l:List AV}{a:AV}(h:fk K n l g=some a)
  (B:VRs I l vR.toList) (E:∀a∈l,a.one=true):∃v,(part t vR g).run C w=.ok v w∧VR I a v:=by
 unfold fk at h;cases K with
 |true =>
  simp only at h;cases j:Zf l g n with
  |none=>rw[j]at h;cases h
  |some r =>
   rw[j]at h;cases h;obtain⟨F,G,_⟩:=zvh j B E;exact⟨_,by simp[part,z7w A,T4 D],.agg F G⟩
 |false =>
  simp only at h;obtain⟨v,H,L⟩:=B.get h;have z:vR[g]?=some v:=Gb
  exact⟨v,by simp[part,z7w A,z],L⟩
def zai{w:World}{t:TypeId}{l:List AV}{a:AV}(h:zrl C t l g=some a)
  (j:VRs I l vR.toList) (z:∀a∈l,a.one=true):∃v,(part t vR g).run C w=.ok v w∧VR I a v:=by
 unfold zrl at h;split at h
 ·rename_i D n A B;exact zdc A B h j z
 ·cases h
def zfe{t:TypeId}{g:Array Field}(h:C.underlying t=some (.struct g)):C.fieldsOf t=g:=by simp[Program.fieldsOf,h]
def zbm(d:Nat)(t:TypeId)(n:Nat)(g j:Array Value):List Nat→Sem Bool
 |[]=>pure true
 |i::l=>do
  let a ←part t g (i*n);let b ←part t j (i*n);let r ←Op.equalIn d t a b
  if (!r)=true then pure false else zbm d t n g j l
def zdg(w:World)(d:Nat){t e:TypeId}{n s:Nat}(g j:Array Value)(D:C.underlying t=some (.array n e))(E:Qg C e=some s) :
  (Op.equalIn (d+1) t (.agg g) (.agg j)).run C w=(zbm d e s g j (List.range n)).run C w:=by
 simp only[Op.equalIn,Sem.run_bind,Pv D,Result.andThen_ok,T4 E,Std.Legacy.Range.forIn_eq_forIn_range'];have:List.range' 0 n=List.range n:=List.range_eq_range'.symm;simp only[Std.Legacy.Range.size,Nat.sub_zero,Nat.add_sub_cancel,Nat.div_one,this];generalize List.range n=l
 induction l generalizing w with
 |nil=>simp[zbm]
 |cons i l F =>
  simp only[List.forIn_cons,zbm,Sem.run_bind,Sem.run_ite];generalize (part e g (i*s)).run C w=G;cases G with
  |ok a z =>
   simp only[Result.andThen_ok];generalize (part e j (i*s)).run C z=H;cases H with
   |ok b A =>
    simp only[Result.andThen_ok];generalize (Op.equalIn d e a b).run C A=I;cases I with
    |ok r B =>
     cases r
     ·simp only[Result.andThen_ok,Bool.not_false,M5,Sem.run_pure]
     ·simp only[Result.andThen_ok,Bool.not_true,Ml,Mz,Sem.run_pure];exact F B
    |halt x B=>simp[Result.andThen]
   |halt x A=>simp[Result.andThen]
  |halt x z=>simp[Result.andThen]
def zgv{Q:Program}{w:World}{P:CM}{d:Nat}{f:TypeId→AV→AV→Option Bool}
  (A:∀t a b r x y,f t a b=some r→VR P a x→VR P b y→(Op.equalIn d t x y).run Q w=.ok r w)
  {B C:List AV} {H I:Array Value} (D:VRs P B H.toList) (j:∀a∈B,a.one=true) (E:VRs P C I.toList) (z:∀a∈C,a.one=true) :
  ∀{F:List Field} {r:Bool},di Q f B C F=some r→(Op.eqFields d H I F).run Q w=.ok r w
 |[],r,h=>Cb
 |fd::F,r,h=>by
  unfold di at h;split at h
  ·rename_i G
   have g : fd.name ≠ "_" := Cr
   split at h
   ·rename_i a b R T;obtain⟨u,K,L⟩:=zai (w:=w) R D j;obtain⟨v,M,O⟩:=zai (w:=w) T E z;split at h
    ·rename_i he;have:=A _ _ _ _ _ _ he L O;simp only[Op.eqFields,J8 g,Sem.run_bind,K,M,this,Result.andThen_ok];simpa using zgv A D j E z h
    ·rename_i he;have:=A _ _ _ _ _ _ he L O;cases h;simp only[Op.eqFields,J8 g,Sem.run_bind,K,M,this,Result.andThen_ok];simp
    ·cases h
   ·cases h
  ·rename_i G
   have g : fd.name = "_" := Cr
   simp only[Op.eqFields,g,ne_eq,not_true_eq_false,Mz];exact zgv A D j E z h
def zlf{G:Program}{w:World}{M:CM}{d:Nat}{f:TypeId→AV→AV→Option Bool}{t:TypeId}{n:Nat}
  (B:∀t a b r x y,f t a b=some r→VR M a x→VR M b y→(Op.equalIn d t x y).run G w=.ok r w)
  {C D:List AV} {E F:Array Value} (H:VRs M C E.toList) (g:∀a∈C,a.one=true) (I:VRs M D F.toList) (j:∀a∈D,a.one=true) :
  ∀{l:List Nat} {r:Bool},nc G f t n C D l=some r→(zbm d t n E F l).run G w=.ok r w
 |[],r,h=>Cb
 |i::l,r,h=>by
  unfold nc at h;split at h
  ·rename_i a b O P;obtain⟨u,Q,K⟩:=zai (w:=w) O H g;obtain⟨v,R,L⟩:=zai (w:=w) P I j;have z:(part t E (i*n)).run G w=.ok u w:=Q;have A:(part t F (i*n)).run G w=.ok v w:=R;split at h
   ·rename_i he;have:=B _ _ _ _ _ _ he K L;simp only[zbm,Sem.run_bind,z,A,this,Result.andThen_ok];simpa using zlf B H g I j h
   ·rename_i he;have:=B _ _ _ _ _ _ he K L;cases h;simp only[zbm,Sem.run_bind,z,A,this,Result.andThen_ok];simp
   ·cases h
  ·cases h
set_option maxHeartbeats 1000000 in
def zv0{w:World}{d:Nat}{f:TypeId→AV→AV→Option Bool}
  (D:∀t a b r x y,f t a b=some r→VR I a x→VR I b y→(Op.equalIn d t x y).run C w=.ok r w)
  {t:TypeId} {a b:AV} {r:Bool} {x y:Value} (h:ar C f t a b=some r) (g:VR I a x) (j:VR I b y):(Op.equalIn (d+1) t x y).run C w=.ok r w:=by
  unfold ar at h;split at h
  case h_1 hu=>cases h;cases g;cases j;simp[Op.equalIn,Pv hu]
  case h_2 hu =>
   split at h
   ·rename_i E;cases h;cases g;cases j;have:=z67 E;subst this;simp[Op.equalIn,Pv hu,xy]
   ·cases h
  case h_3 hu =>
   cases h;cases g with
   |str F G =>
    cases j with
    |str H K =>
     subst F G H K;rw[←zd7,←beq_toListBytes];simp[Op.equalIn,Pv hu]
  case h_21 hu =>
   split at h
   ·cases h
   ·rename_i B;cases g with
    |agg g z =>
     cases j with
     |agg j A =>
      rw[run_equalIn_struct w d t _ _ (by rw[zfe hu];exact hu) (by simpa using B),zfe hu];exact zgv D g z j A h
  case h_22 hu =>
   split at h
   ·rename_i s B;cases g with
    |agg g z =>
     cases j with
     |agg j A =>
      rw[zdg w d _ _ hu B];exact zlf D g z j A h
   ·cases h
  case h_23=>cases h
  all_goals
   rename_i hu;cases h;cases g;cases j;simp[Op.equalIn,Pv hu]
def zq0{z:Program}{w:World}{A:CM}(d:Nat):∀(n:Nat) (t:TypeId) (a b:AV) (r:Bool) (x y:Value),eqT z n t a b=some r→VR A a x→VR A b y →
  (Op.equalIn (d+n) t x y).run z w=.ok r w
 |0,_,_,_,_,_,_,h,_,_=>Af
 |n+1,_,_,_,_,_,_,h,g,j=>zv0 (λt a b r x y=>zq0 d n t a b r x y) h g j
end
section
open Go.RowKit (Below)
def zbn{w:World}(op:BinOp)(t:TypeId)(x y:Operand){a b:Value}(g:¬(a=.nilIface∧b=.nilIface))(j:∀c d,¬(a=.agg c∧b=.agg d)) :
  (eqGuard op t x y a b).run C w=.ok () w:=by
 unfold eqGuard;split<;>first
  |rfl
  | (rw [J2 (by decide)]
     split
     ·exact absurd ⟨rfl,rfl⟩ g
     ·exact absurd ⟨rfl,rfl⟩ (j _ _)
     ·rfl)
def zlq{w:World}(op:BinOp)(t:TypeId)(x y:Operand)(k g:IntKind)(a b:Int):(eqGuard op t x y (.int k a) (.int g b)).run C w=.ok () w :=
 zbn op t x y (λh=>by cases h.1) (λ_ _ h=>by cases h.1)
def zig{w:World}(op:BinOp)(t:TypeId)(x y:Operand){a b:AV}{u v:Value}(hu:VR I a u)(g:VR I b v)
  (j:zis C (Xy x || Xy y) t a b=true):(eqGuard op t x y u v).run C w=.ok () w:=by
 by_cases z:u=.nilIface∧v=.nilIface
 ·obtain⟨rfl,rfl⟩:=z;cases hu;cases g;have B:(Xy x || Xy y)=true:=j;unfold eqGuard;split<;>first
   |rfl
   | (rw [J2 (by decide)]
      dsimp only;rw[J8]
      ·rfl
      ·cases x<;>cases y<;>simp_all [Xy])
 ·by_cases A:∃c d,u=.agg c∧v=.agg d
  ·obtain⟨c,d,rfl,rfl⟩:=A;cases hu;cases g;exact run_eqGuard_agg w op t x y c d (by simpa [zis] using j)
  ·exact zbn op t x y z (λc d h=>A ⟨c,d,h⟩)
def zu4{t:TypeId}{a b:AV}{u v:Value}(hu:VR I a u)(g:VR I b v)(j:∀k x z y,¬(a=.int k x∧b=.int z y))(A:∀l x m y,¬(a=.str l x∧b=.str m y)) :
  binOp .eql t u v=(do pure (.bool (←Op.equal t u v)))∧binOp .neq t u v=(do pure (.bool (!(←Op.equal t u v)))):=by
 cases hu<;>cases g<;>first
  |exact⟨rfl,rfl⟩
  |exact absurd ⟨rfl,rfl⟩ (j _ _ _ _)
  |exact absurd ⟨rfl,rfl⟩ (A _ _ _ _)
def zqx{w:World}{t:TypeId}{a b:AV}{r:Bool}(h:Tg C K t a b=some r){u v:Value}(hu:VR I a u)(g:VR I b v) :
  zis C K t a b=true∧(Op.equal t u v).run C w=.ok r w:=by
 unfold Tg at h;split at h
 ·rename_i j;exact⟨j,zq0 9980 20 t a b r u v h hu g⟩
 ·cases h
def ztl{w:World}{op:BinOp}{t:TypeId}(x y:Operand){a b r:AV}(h:Qv C op (Xy x || Xy y) t a b=some r){u v:Value}(hu:VR I a u)(z:VR I b v) :
  (eqGuard op t x y u v).run C w=.ok () w∧∃A,(binOp op t u v).run C w=.ok A w∧VR I r A:=by
 unfold Qv at h;split at h
 ·cases hu;cases z;refine⟨zlq op t x y _ _ _ _,?_⟩;split at h
  ·obtain⟨A,g,j⟩:=zh9 C w (.inl rfl) t h;exact⟨A,g,j I⟩
  ·obtain⟨A,g,j⟩:=zh9 C w (.inr rfl) t h;exact⟨A,g,j I⟩
  ·split at h
   ·rename_i D;have:=z67 D;subst this;obtain⟨A,g,j⟩:=zrp C w t h;exact⟨A,g,j I⟩
   ·cases h
 ·cases hu with
  |str g j =>
   cases z with
   |str E F =>
    subst g j E F;refine⟨zbn op t x y (λh=>by cases h.1) (λ_ _ h=>by cases h.1),?_⟩;obtain⟨A,g,j⟩:=zsd C w t h;exact⟨A,g,j I⟩
 ·rename_i G H;have B:=zu4 (t:=t) hu z (λk x K y e=>G k x K y e.1 e.2) (λl x m y e=>H l x m y e.1 e.2);split at h
  ·cases he:Tg C (Xy x || Xy y) t a b with
   |none=>rw[he]at h;cases h
   |some s =>
    rw[he]at h;cases h;obtain⟨g,j⟩:=zqx (w:=w) he hu z;exact⟨zig _ t x y hu z g,.bool s,by rw[B.1];simp[j],.bool s⟩
  ·cases he:Tg C (Xy x || Xy y) t a b with
   |none=>rw[he]at h;cases h
   |some s =>
    rw[he]at h;cases h;obtain⟨g,j⟩:=zqx (w:=w) he hu z;exact⟨zig _ t x y hu z g,.bool (!s),by rw[B.2];simp[j],.bool (!s)⟩
  ·cases h
def ud{P:Program}{w:World}{g:Sem Next}{o:Option AV}(j:Rel G I D w)
  (h:∀a,o=some a→∃z,g.run P w=.ok (.value z) w∧VR I a z):Sk P G I w g (ret1 D o):=by
 cases o with
 |none=>exact trivial
 |some a=>obtain⟨z,A,B⟩:=h a rfl;exact Re j B A
def zt4(G:Program)(op:BinOp)(t g:TypeId)(x y:Operand)(o:Oper)(j:o.op=.binOp op t x y g):Pe G (Pp G (.binOp op t x y g)) (λH=>execOp H o):=by
 refine Zu λI L M w H a b z A B=>ud z λr C=>?_
 obtain⟨D,K,E,F⟩:=ztl (w:=w) x y C A B;exact⟨K,by simp[execOp,j,D,E],F⟩
def dp(E:Program)(op:UnOp)(t:TypeId)(x:Operand)(o:Oper)(A:o.op=.unOp op t x):Pe E (Pp E (.unOp op t x)) (λB=>execOp B o):=by
 refine Ug λF G H w B a D g=>ud D λr j=>?_
 unfold unA at j;split at j
 ·rename_i k n;cases j;generalize z:B x=C at g;cases g;exact⟨.int k (k.wrap (0-n)),by simp[execOp,A,z,Op.unary,Op.intArith],by rw[Zx];exact .int _ _⟩
 ·rename_i k n;cases j;generalize z:B x=C at g;cases g;exact⟨.int k (k.wrap (BitVec.ofInt k.bits (if k.signed then -1 else k.max) ^^^ BitVec.ofInt k.bits n).toNat),by simp[execOp,A,z,Op.unary,Op.intBits],.int _ _⟩
 ·rename_i b;cases j;generalize z:B x=C at g;cases g;exact⟨.bool (!b),by simp[execOp,A,z,Op.unary],.bool _⟩
 ·cases j
def VRs.set{C:CM}:∀{l:List AV} {r:List Value},VRs C l r→∀(i:Nat) {a:AV} {v:Value},VR C a v→VRs C (l.set i a) (r.set i v)
 |_,_,.nil,_,_,_,_=>.nil
 |_,_,.cons _ es,0,_,_,h=>.cons h es
 |_,_,.cons e es,i+1,_,_,h=>.cons e (VRs.set es i h)
def sr{l:List AV}(h:∀a∈l,a.one=true){i:Nat}{a:AV}(j:a.one=true):∀b∈l.set i a,b.one=true:=by
 intro b z;rcases List.mem_or_eq_of_mem_set z with g|g
 ·exact h b g
 ·rw[g];exact j
def zl6{C:CM}{off:Nat}:∀(l:List AV) (r:List Value) (g:List AV) (z:Array Value) (j:Nat),VRs C l r→(∀a∈l,a.one=true)→VRs C g z.toList→(∀a∈g,a.one=true) →
  VRs C (Vd g (off+j) l) ((r.zipIdx j).foldl (λg (c,j)=>g.setIfInBounds (off+j) c) z).toList∧(∀a∈Vd g (off+j) l,a.one=true)
 |[],_,g,z,j,.nil,_,h,A=>⟨h,A⟩
 |a::l,v::r,g,z,j,.cons e D,B,h,A=>by
  simp only[Vd,List.zipIdx_cons,List.foldl_cons];have:=zl6 (off:=off) l r (g.set (off+j) a) (z.setIfInBounds (off+j) v) (j+1) D (λb E=>B b Ak)
   (by rw[Array.toList_setIfInBounds];exact h.set _ e) (sr A (B a N))
  rw[show off+j+1=off+(j+1) from J];exact this
def zrj(v:Array Value)(off:Nat)(j:Array Value):v.zipIdx.foldl (λg (c,z)=>g.setIfInBounds (off+z) c) j=(v.toList.zipIdx 0).foldl (λg (c,z)=>g.setIfInBounds (off+z) c) j:=by
 rw[←Array.foldl_toList,Array.toList_zipIdx]
def z54{j:Nat→Option (Nat×Nat)}:∀{l:List (Nat×Operand)} {G:List Part},ju j l=some G →
  ∀{C:CM} {Y:Tr AV} {K:Operand→Value},wh C Y K→∀{z r:List AV} {A:Array Value},aq z G Y=some r→VRs C z A.toList→(∀a∈z,a.one=true) →
  ∃H,Instr.fill j A (l.map λ(i,x)=>(i,K x))=some H∧VRs C r H.toList∧(∀a∈r,a.one=true)
 |[],G,h,C,Y,K,L,z,r,A,g,I,M=>by
  cases h;cases g;exact⟨A,rfl,I,M⟩
 |(i,x)::l,G,h,C,Y,K,L,z,r,A,g,I,M=>by
  simp only[ju]at h;split at h
  ·cases h
  ·rename_i o s O;split at h
   ·cases h
   ·rename_i Z P;cases h;simp only[aq]at g;split at g
    ·cases g
    ·rename_i a ha;split at g
     ·cases g
     ·rename_i q hq;split at g
      ·rename_i D;split at g
       ·rename_i Q;have B:q.length=s:=Kc D;have V:o+s≤z.length:=Kd Q;obtain⟨X,k2⟩:=(L _ _ ha).cells hq;have R:=X.length;have T:=I.length;have U:=zl6 (off:=o) q _ z A 0 X k2 I M;rw[M8]at U;obtain⟨H,q1,q2,q3⟩:=z54 P L g U.1 U.2;refine⟨H,?_,q2,q3⟩;have e1:(K x).cells.size=s:=by rw[←B,R];simp
        have E:¬((decide ((K x).cells.size≠s) || decide (o+(K x).cells.size>A.size))=true):=by
         intro F;simp only[ne_eq,K8,Kb]at F;rcases F with F|F
         ·exact F e1
         ·simp at T;omega
        rw[Mp];simp only[Instr.fill,O];rw[J2 E,zrj];exact q1
       ·cases g
      ·cases g
def zcl{z:Program}{w:World}:∀{l:List Field} {r:List (Nat×Nat)},za8 z l=some r →
  (l.mapM λf=>do pure (f.offset,←sizeOf f.type):Sem (List (Nat×Nat))).run z w=.ok r w
 |[],r,h=>Cb
 |f::l,r,h=>by
  simp only[za8]at h;split at h
  ·cases h
  ·rename_i s g;split at h
   ·cases h
   ·rename_i A j;cases h;simp only[List.mapM_cons,Sem.run_bind,T4 g,Result.andThen_ok,Sem.run_pure,zcl j]
def zoc(B:Program)(t:TypeId)(g:Array (Nat×Operand)):Pe B (zh4 B t g) (λT=>do pure (.value (←Instr.build t (g.map λ(i,x)=>(i,T x))))):=by
 unfold zh4;split
 ·exact Pq B _
 ·rename_i cs U;split
  ·rename_i j hu;split
   ·exact Pq B _
   ·rename_i pl D;split
    ·exact Pq B _
    ·rename_i X A;intro Y Z gg w gA T E F;dsimp only;split
     ·rename_i l G;obtain⟨v,i,H,I,h3,h4⟩:=vx (w:=w) U;obtain⟨K,L⟩:=Y0 (C:=Z) I;obtain⟨M,O,P,Q⟩:=z54 A F G K L;refine Re E (.agg P Q) ?_;have hm:(j.mapM λf=>do pure (f.offset,←sizeOf f.type):Sem (Array (Nat×Nat))).run B w=.ok pl.toArray w:=by
       rw[Array.mapM_eq_mapM_toList];simp only[Sem.run_map,zcl D,Result.andThen_ok]
      have R:Instr.fill (pl.toArray[·]?) v.cells (g.map λ(i,x)=>(i,T x)).toList=some M:=by
       rw[L0];have:(λi:Nat=>pl.toArray[i]?)=(λi:Nat=>pl[i]?):=by funext i;simp
       rw[this];exact O
      simp only[Instr.build,Sem.run_bind,H,Pv hu,hm,Result.andThen_ok,R,Sem.run_pure]
     ·exact trivial
  ·rename_i n V hu;split
   ·exact Pq B _
   ·rename_i z hs;split
    ·exact Pq B _
    ·rename_i X A;intro Y Z gg w gA T E F;dsimp only;split
     ·rename_i l G;obtain⟨v,i,H,I,h3,h4⟩:=vx (w:=w) U;obtain⟨K,L⟩:=Y0 (C:=Z) I;obtain⟨M,O,P,Q⟩:=z54 A F G K L;refine Re E (.agg P Q) ?_;have R:Instr.fill (λi=>some (i*z,z)) v.cells (g.map λ(i,x)=>(i,T x)).toList=some M:=by
       rw[L0];exact O
      simp only[Instr.build,Sem.run_bind,H,Pv hu,T4 hs,Result.andThen_ok,R,Sem.run_pure]
     ·exact trivial
  ·exact Pq B _
end
section
open Go.RowKit (Below)
def z4r(l:List AV):∀n,(Up l n).length=n*l.length
 |0=>by simp[Up]
 |n+1=>by rw[Up,J7,z4r l n,N1];omega
def z3o{l:List AV}(h:∀a∈l,a.one=true):∀n,∀a∈Up l n,a.one=true
 |0,a,g=>by simp[Up]at g
 |n+1,a,g=>by
  rw[Up,Ks]at g;rcases g with g|g
  ·exact h a g
  ·exact z3o h n a g
def Uo(l:List Value):Nat→List Value
 |0=>[]
 |n+1=>l++Uo l n
def yr{C:CM}{l:List AV}{r:List Value}(h:VRs C l r):∀n,VRs C (Up l n) (Uo r n)
 |0=>.nil
 |n+1=>h.append (yr h n)
def zhc(l:List Value):∀n,(Uo l n).length=n*l.length
 |0=>by simp[Uo]
 |n+1=>by rw[Uo,J7,zhc l n,N1];omega
def zpn(l:List Value):∀(n i:Nat),i<n*l.length→(Uo l n)[i]?=l[i%l.length]?
 |0,i,h=>Bu
 |n+1,i,h=>by
  rw[N1]at h;rw[Uo];by_cases hi:i<l.length
  ·rw[J6 hi,Kt hi]
  ·have j:0<l.length:=by
    rcases Nat.eq_zero_or_pos l.length with g|g
    ·rw[g]at h;omega
    ·exact g
   rw[Kj J,zpn l n _ J,Nat.mod_eq_sub_mod (J:l.length≤i)]
def zac(g:Array Value)(n:Nat):((Array.range (n*g.size)).map λi=>g[i%g.size]!).toList=Uo g.toList n:=by
 apply List.ext_getElem?;intro i;rw[L0,Lr];by_cases hi:i<n*g.size
 ·rw[zpn _ _ _ Dt];have z:0<g.size:=by
   rcases Nat.eq_zero_or_pos g.size with j|j
   ·rw[j]at hi;omega
   ·exact j
  have hm:i%g.size<g.size:=Nat.mod_lt _ z;simp[hi,hm,getElem!_pos]
 ·have A:(Uo g.toList n).length≤i:=by rw[zhc];simp;omega
  rw[M3 A,M3 Dt];rfl
def tk(f:Nat→Value):(Array.range 0).map f=#[]:=N
def zat(g:Nat):∀(q:List (Value×Nat)) (a:Array Value),(q.foldl (λj (c,z)=>j.setIfInBounds (g+z) c) a).size=a.size
 |[],_=>rfl
 |x::q,a=>by rw[List.foldl_cons,zat g q];simp
def zh1{pl:Nat→Option (Nat×Nat)}:∀{g:List (Nat×Value)} {a b:Array Value},Instr.fill pl a g=some b→b.size=a.size
 |[],_,_,h=>Cb
 |(i,v)::g,a,b,h=>by
  simp only[Instr.fill]at h;split at h
  ·cases h
  ·split at h
   ·cases h
   ·rw[zh1 h,←Array.foldl_toList,zat]
def zq8{R:Program}{C:CM}{w:World}(L:Rel G C D w)(t:TypeId){l:List AV}{o len esz:Nat}{cs:Array Value}(M:newObj D l=some (o,vX))
  (H:VRs C l cs.toList) (O:∀a∈l,a.one=true) {cap:Nat} (T:cap*esz=l.length) (j:len≤cap)
  {I:Sem Next} (A:I.run R w=.ok (.value (.slice (some ⟨w.heap.size,0,none⟩) len cap)) (w.alloc (.cells cs t))):bo R G C w I (.sl o 0 0 len esz (some cap)) vX:=by
 have g:l.length=cs.toList.length:=H.length;have B:l.length=cs.size:=Bc
 obtain⟨P,z,E,F⟩:=L.newRow M t (0,0) (vs:=cs) J (by rw[g,My];exact H) O N;have K:len*esz≤cap*esz:=Ki _ j;refine⟨P,_,_,z,E,?_,.inl A⟩;have:=VR.sl (i:=0) (len:=len) (esz:=esz) (room:=some cap) (cap:=cap) F Bx Bx j (λr Q=>by cases Q;exact⟨rfl,Bx⟩) (λh=>Af);simpa using this
def zef(G:Program)(t:TypeId)(len:Nat)(j:Array (Nat×Operand)) :
  Pe G (uq G t len j) (λV=>do pure (.value (←Instr.buildSlice t len (j.map λ(i,x)=>(i,V x))))):=by
 unfold uq;split
 ·rename_i A hu;split
  ·exact Pq G _
  ·rename_i g F;split
   ·exact Pq G _
   ·rename_i gA X;split
    ·rename_i z;obtain⟨Y,P⟩:=z;split
     ·exact Pq G _
     ·rename_i ps H;intro w0 C gB w gC V Z hρ;dsimp only;split
      ·rename_i l hl;split
       ·rename_i o H' hn;obtain⟨v,i,h1,h2,h3,h4⟩:=vx (w:=w) X;obtain⟨I,k2⟩:=Y0 (C:=C) h2;have K:v.cells.size=g:=by
         have B:=I.length;unfold Qg at F;rw[h3]at F;simp at F B;omega
        have gg:gA.length=g:=by have B:=I.length;simp at B;omega
        have D:VRs C (Up gA len) ((Array.range (len*g)).map λi=>v.cells[i%v.cells.size]!).toList:=by
         rw[←K,zac];exact yr I len
        obtain⟨Q,R,T,q3⟩:=z54 H hρ hl D (z3o k2 len);have L:l.length=len*g:=by
         have B:=T.length;have e3:=zh1 R;simp at e3 B;omega
        refine zq8 Z A hn T q3 L.symm (J4 _) ?_;have U:Instr.fill (λi=>some (i*g,g)) ((Array.range (len*g)).map λi=>v.cells[i%v.cells.size]!) (j.map λ(i,x)=>(i,V x)).toList=some Q:=by
         rw[L0];exact R
        have E:¬(len*g>2^24):=J
        simp only[Instr.buildSlice,Sem.run_bind,Pv hu,T4 F,Result.andThen_ok,Sem.run_ite,J2 E];by_cases M:len*g=0
        ·rw[J8 M];have O:Instr.fill (λi=>some (i*g,g)) ((Array.range (len*g)).map λi=>(#[]:Array Value)[i%(#[]:Array Value).size]!) (j.map λ(i,x)=>(i,V x)).toList=some Q:=by
          rw[←U,M,tk,tk]
         simp only[Sem.run_pure,Result.andThen_ok,O,newRow,Sem.run_bind,run_newObj];rfl
        ·rw[J2 M];simp only[Sem.run_bind,h1,Sem.run_pure,Result.andThen_ok,U,newRow,run_newObj];rfl
       ·exact trivial
      ·exact trivial
    ·exact Pq G _
 ·exact Pq G _
def zjs(A:Program)(t:TypeId)(l c:Operand):Pe A (vy A t l c) (λI=>do pure (.value (←Instr.makeSlice t (I l) (I c)))):=by
 unfold vy;split
 ·rename_i g hu;split
  ·exact Pq A _
  ·rename_i i hi;split
   ·exact Pq A _
   ·rename_i gg Q;split
    ·rename_i j;obtain⟨K,B⟩:=j;refine Zu λw0 C gA w I a b R L M=>?_
     split
     ·rename_i x y;split
      ·rename_i D;split
       ·rename_i T;split
        ·rename_i o H' U;have z:x≤y:=Kd D;have E:y≤1048576:=Kd T;obtain⟨v,gB,V,X,O,Y⟩:=vx (w:=w) Q;obtain⟨P,Z⟩:=Y0 (C:=C) X;rw[hi]at O;cases O;have F:v.cells.size=i.size:=by have G:=P.length;simp at G;omega
         generalize I l=pl at L;generalize I c=pc at M;cases L;cases M;refine zq8 R g U (cs:=(Array.range (y*i.size)).map λk=>v.cells[k%v.cells.size]!) (by rw[←F,zac];exact yr P y) (z3o Z y) (by rw[z4r,Y]) z ?_;have G:IntKind.i64.wrap (Int.ofNat x)=Int.ofNat x:=Aq
         have e2:IntKind.i64.wrap (Int.ofNat y)=Int.ofNat y:=Aq
         have e3:i.bytes*y≤65536*1048576:=Lw B E;have e4:¬((decide (Int.ofNat y<0) || decide ((i.bytes:Int)*Int.ofNat y>2^48) || decide (Int.ofNat x<0) || decide (Int.ofNat x>Int.ofNat y))=true):=by
          have e5:((i.bytes:Int)*Int.ofNat y)=((i.bytes*y:Nat):Int):=N
          rw[e5];simp only[K8,Kb,not_or];refine⟨⟨⟨N,Ab⟩,N⟩,Ab⟩
         simp only[Instr.makeSlice,Sem.run_bind,Pv hu,kw hi,asInt,asIntOf,Sem.run_pure,Result.andThen_ok,G,e2,Sem.run_ite,J2 e4,run_askRoom,T4 (show Qg A g=some i.size from Hk)];have e6:(Int.ofNat y).toNat=y:=rfl;have e7:(Int.ofNat x).toNat=x:=rfl;rw[e6,e7];by_cases H:y*i.size=0
         ·rw[J8 H];simp only[Sem.run_pure,Result.andThen_ok,newRow,Sem.run_bind,run_newObj];have:((Array.range (y*i.size)).map λk=>(#[]:Array Value)[k%(#[]:Array Value).size]!)=((Array.range (y*i.size)).map λk=>v.cells[k%v.cells.size]!):=by rw[H,tk,tk]
          rw[this];rfl
         ·rw[J2 H];simp only[Sem.run_bind,V,Sem.run_pure,Result.andThen_ok,newRow,run_newObj];rfl
        ·exact trivial
       ·exact trivial
      ·exact trivial
     ·exact trivial
    ·exact Pq A _
 ·exact Pq A _
def zk6(j:Program)(t:TypeId)(x:Operand):Pe j (z8d j t x) (λB=>do pure (.value (←Instr.makeInterface t (B x)))):=by
 unfold z8d;split
 ·exact Pq j _
 ·rename_i d g hu;refine Ug λC D E w B a z A=>Re z (.iface A) ?_
  simp only[Instr.makeInterface,Sem.run_bind,Pv hu,Result.andThen_ok];cases d<;>first|rfl|exact absurd hu (g _)
 ·exact Pq j _
def zmc(D:Program)(f:Fn)(first cap:Array Operand)(z:∀l,f≠.yield l):Pe D (zbc f first cap) (λg=>do pure (.value (←Instr.makeFunc f (first.map g) (cap.map g)))):=by
 intro E F G w H g A j;unfold zbc;dsimp only;split
 ·rename_i l B;split
  ·rename_i r C;refine Re A (.fn (.same f z) (l':=first.map g) (r':=cap.map g) ?_ ?_) rfl
   ·rw[L0];exact xz j B
   ·rw[L0];exact xz j C
  ·exact trivial
 ·exact trivial
def zi5{w:World}(j:Rel G I D w){z:Sem Next}(g:z.run C w=.ok (.value (.map (some w.heap.size))) (w.alloc (.map #[] 0))) :
  Sk C G I w z (Y1 D):=by
 unfold Y1;obtain⟨B,E⟩:=j.push (.map [] 0) (.map #[] 0) 0 0 (λF A=>by
  rw[CM.ext_same]at A;cases A;exact⟨j.low.size,#[],eo _ _,.nil⟩)
 exact⟨_,_,_,E,B,.map (CM.ext_same _ _ _ _),.inl g⟩
def zoy(A:Program)(t:TypeId)(r:Option Operand):Pe A (te A t r) (λz=>do pure (.value (←Instr.makeMap t (r.map z)))):=by
 unfold te;split
 ·intro B D E w H z g F;exact zi5 g (by simp[Instr.makeMap])
 ·rename_i x;split
  ·rename_i k e hu;refine Ug λB D E w z a g j=>?_
   split
   ·generalize C:z x=G at j;cases j;exact zi5 g (by simp[Instr.makeMap,Pv hu,C,asInt,asIntOf])
   ·exact trivial
  ·exact Pq A _
def zgg(z:Program)(t:TypeId)(x:Operand)(f:Nat):Pe z (z4m z t x f) (λB=>do pure (.value (←Instr.fieldAt t (B x) f))):=by
 unfold z4m;split
 ·rename_i g hu;split
  ·exact Pq z _
  ·rename_i fd C;split
   ·exact Pq z _
   ·exact Pq z _
   ·rename_i n D E;refine Ug λH L M w B a F A=>?_
    split
    ·rename_i o v i;generalize I:B x=K at A;cases A with
     |ptr G =>
      refine Re F (.ptr (i:=i+fd.offset) G) ?_;have j:n≠0:=D;simp[Instr.fieldAt,Pv hu,C,Instr.sureAddr,fieldPlace,T4 E,j,qk]
    ·exact trivial
 ·exact Pq z _
def znr(A:Program)(t:TypeId)(x:Operand)(f:Nat):Pe A (zg3 A t x f) (λB=>do pure (.value (←Instr.field t (B x) f))):=by
 unfold zg3;split
 ·rename_i g hu;split
  ·exact Pq A _
  ·rename_i fd C;split
   ·rename_i P n D E;refine Ug λK Q R w B a F j=>?_
    split
    ·generalize L:B x=M at j;cases j with
     |agg j z =>
      refine ud F λr G=>?_
      obtain⟨O,H,I⟩:=zdc (w:=w) D E G j z;exact⟨O,by simp[Instr.field,Pv hu,C,asAgg,H],I⟩
    ·exact trivial
   ·exact Pq A _
 ·exact Pq A _
end
section
open Go.RowKit (Below)
def z6g{l c:Nat}(e:Nat)(h:l≤c):l*e+(c-l)*e=c*e:=by
 rw[←Ku];congr 1;omega
def Y9(r:Option Nat)(v:Option Value):Prop:=match r with
 |none=>v=none
 |some n=>∃k,v=some (.int k (Int.ofNat n))
def Ym{g:Operand→Value}(j:wh I O g){x:Option Operand}{r:Option Nat}(h:(Rp x).run O=some r):Y9 r (x.map g):=by
 cases x with
 |none=>cases h;rfl
 |some x =>
  unfold Rp at h;dsimp only at h;split at h
  ·rename_i k n z;cases h;have:=j _ _ z;generalize A:g x=v at this;cases this;exact⟨k,At⟩
  ·cases h
def sg{w:World}(k:IntKind){n y:Nat}(c:BoundsCode)(h:n≤y):(Instr.sliceBound (.int k (Int.ofNat n)) y c).run C w=.ok n w:=by
 have:(0:Int)≤Int.ofNat n∧Int.ofNat n≤(y:Int):=⟨N,Ab⟩;simp only[Instr.sliceBound,asIntOf,Sem.run_bind,Sem.run_pure,Result.andThen_ok,Sem.run_ite,J8 this];rfl
def z30{P:Program}{w:World}(g:Bool){len cap:Nat}{hi mx:Option Nat}{a b c:Option Value}(A:Y9 vQ a)(C:Y9 hi b)(E:Y9 mx c)
  (hm:mx.isSome=true→hi.isSome=true) (j:vQ.getD 0≤hi.getD len) (z:hi.getD len≤mx.getD cap) (B:mx.getD cap≤cap) :
  (Instr.sliceBounds g len cap a b c).run P w=.ok (vQ.getD 0,hi.getD len,mx.getD cap) w:=by
 cases mx with
 |none =>
  cases E;simp only[Option.getD_none]at z B;cases hi with
  |none =>
   cases C;cases vQ with
   |none=>cases A;simp[Instr.sliceBounds]
   |some l =>
    obtain⟨k,rfl⟩:=A;simp only[Ln,Option.getD_none]at j;simp only[Instr.sliceBounds,Sem.run_bind,Sem.run_pure,Result.andThen_ok,sg k _ j,Option.getD]
  |some h =>
   obtain⟨k,rfl⟩:=C;simp only[Ln]at j z;cases vQ with
   |none=>cases A;simp only[Instr.sliceBounds,Sem.run_bind,Sem.run_pure,Result.andThen_ok,sg k _ z,Option.getD]
   |some l =>
    obtain⟨D,rfl⟩:=A;simp only[Ln]at j;simp only[Instr.sliceBounds,Sem.run_bind,Sem.run_pure,Result.andThen_ok,sg k _ z,sg D _ j,Option.getD]
 |some m =>
  obtain⟨F,rfl⟩:=E;simp only[Ln]at z B;cases hi with
  |none=>simp at hm
  |some h =>
   obtain⟨k,rfl⟩:=C;simp only[Ln]at j z;cases vQ with
   |none=>cases A;simp only[Instr.sliceBounds,Sem.run_bind,Sem.run_pure,Result.andThen_ok,sg F _ B,sg k _ z,Option.getD]
   |some l =>
    obtain⟨D,rfl⟩:=A;simp only[Ln]at j;simp only[Instr.sliceBounds,Sem.run_bind,Sem.run_pure,Result.andThen_ok,sg F _ B,sg k _ z,sg D _ j,Option.getD]
def zin{o v i l h m:Nat}{z:Loc}(B:I o v=some z)(C:l≤h)(D:h≤m)(H:i+m*g≤z.n)(K:z.d+i+m*g≤z.sz) :
  VR I (fq l h m o v i g) (.slice (some (if m=l then ⟨z.b,z.d+i,none⟩ else (⟨z.b,z.d+i,none⟩:Addr).add (l*g))) (h-l) (m-l)):=by
 unfold fq;split
 ·rename_i he;have j:l=m:=Kc he;subst j;have:h=l:=J
  subst this;rw[J8 rfl,N5];split
  ·exact .sl B J J (J4 _) (λr A=>by cases A;exact⟨rfl,J⟩) (λe=>An)
  ·exact .emp
 ·rename_i he;have j:¬m=l:=λe=>by rw[e,K0]at he;cases he
  rw[J2 j,qk];have L:=z6g g (K4 C D);have M:=z6g g C;have O:h*g≤m*g:=Ki _ D;have E:Nat.add i (Nat.mul l g)=i+l*g:=rfl;have F:Nat.sub h l=h-l:=rfl;have G:Nat.sub m l=m-l:=rfl;rw[E,F,G];exact .sl B J J J (λr A=>by cases A;exact⟨rfl,J⟩) (λe=>An)
def zcq{o v i len l h cap:Nat}{room mx:Option Nat}{r:AV}{C:Loc}(H:I o v=some C)(Y:i+len*g≤C.n)(U:C.d+i+cap*g≤C.sz)(Z:len≤cap)
  (V:∀r,room=some r→cap=r∧i+r*g≤C.n) (h5:room=none→C.d+i+cap*g=C.sz) (z:tz l h (room.getD len) mx o v i g room=some r) :
  l≤h∧h≤mx.getD cap∧mx.getD cap≤cap ∧
  VR I r (.slice (some (if mx.getD cap=l then ⟨C.b,C.d+i,none⟩ else (⟨C.b,C.d+i,none⟩:Addr).add (l*g))) (h-l) (mx.getD cap-l)):=by
 unfold tz at z;split at z
 ·cases z
 ·rename_i K;have j:l≤h:=Kd K;split at z
  ·cases z
  ·rename_i L;have A:h≤room.getD len:=Kd L;have M:room.getD len≤cap∧i+room.getD len*g≤C.n:=by
    cases room with
    |none=>exact⟨Z,Y⟩
    |some r=>obtain⟨E,F⟩:=V r rfl;exact⟨Ak,F⟩
   split at z
   ·rename_i m;split at z
    ·cases z
    ·rename_i O;have D:h≤m:=Kd O;split at z
     ·cases z
     ·rename_i P;have G:m≤room.getD len:=Kd P;cases z;have E:m*g≤room.getD len*g:=Ki _ G;have F:m*g≤cap*g:=Ki _ J;exact⟨j,D,Ab,zin H j D J J⟩
   ·split at z
    ·rename_i rr;cases z;obtain⟨E,F⟩:=V rr rfl;subst E;exact⟨j,A,J4 _,zin H j A F U⟩
    ·have Q:=h5 rfl;simp only[Option.getD_none]at A ⊢;have q3:h*g≤len*g:=Ki _ A;split at z
     ·rename_i X;have R:l=0:=Kc X;subst R;cases z;refine⟨j,J,J4 _,?_⟩;have e:(if cap=0 then (⟨C.b,C.d+i,none⟩:Addr) else (⟨C.b,C.d+i,none⟩:Addr).add (0*g))=⟨C.b,C.d+i,none⟩:=by
       split
       ·rfl
       ·rw[qk];simp
      rw[e];exact .sl H J (by simpa using U) J (λr T=>by cases T) (λ_=>by simpa using Q)
     ·rename_i X;split at z
      ·rename_i B;have e:l=h:=Kc B;subst e;cases z;refine⟨j,J,J4 _,?_⟩;rw[N5];exact .emp
      ·rename_i B;have gg:¬l=h:=λe=>by rw[e,K0]at B;cases B
       cases z;refine⟨j,J,J4 _,?_⟩;rw[J2 J,qk];have E:=z6g g (J:l≤cap);have F:=z6g g j;have e1:Nat.add i (Nat.mul l g)=i+l*g:=rfl;have e2:Nat.sub h l=h-l:=rfl;rw[e1,e2];exact .sl H J J J (λr T=>by cases T) (λ_=>J)
def za6{g:Type}(f:vT→g)(x:Option vT):(x.map f).isSome=x.isSome:=by cases x<;>rfl
def Y9.isSome{r:Option Nat}{v:Option Value}(h:Y9 r v):r.isSome=v.isSome:=by
 cases r with
 |none=>rw[show v=none from h];rfl
 |some n=>obtain⟨k,rfl⟩:=h;rfl
def zp8(P:Program)(t:TypeId)(x:Operand)(lo hi mx:Option Operand) :
  Pe P (ny P t x lo hi mx) (λK=>do pure (.value (←Instr.sliceAt t (K x) (lo.map K) (hi.map K) (mx.map K)))):=by
 unfold ny;split
 ·rename_i hu;split
  ·exact Pq P _
  ·intro w0 gL gM w gO K F j;dsimp only;split
   ·rename_i len n l h G H I;split
    ·rename_i h1;split
     ·rename_i h2;have Z:l.getD 0≤h.getD len:=Kd h1;have L:h.getD len≤len:=Kd h2;have B:=j _ _ G;have z:=Ym j H;have g:=Ym j I;generalize K x=Y at B;cases B with
      | @str _ _ s M O =>
       subst M O;have C:=z30 (P:=P) (w:=w) false (len:=s.size) (cap:=s.size) (mx:=none) (c:=none) z g rfl N Z (by simpa using L) N;refine Re F (x:=.string (s.extract (l.getD 0) (h.getD s.size))) (.str ?_ ?_) ?_
       ·rw[Lib.extract_data];have:(s.data.toList.length)=s.size:=rfl;simp;rw[this]at L;omega
       ·rw[Lib.extract_data,packL_take,packL_drop];rfl
       ·simp only[Instr.sliceAt,Sem.run_bind,Pv hu,Result.andThen_ok,Instr.slice,Option.map_none,Option.isSome_none];simp[C]
     ·exact trivial
    ·exact trivial
   ·exact trivial
 ·rename_i Q hu;split
  ·exact Pq P _
  ·rename_i gg;split
   ·exact Pq P _
   ·rename_i D R;intro w0 gL gM w gO K F j;dsimp only;split
    ·rename_i o v i len gA gI l h m G H I hm;refine ud F λr E=>?_
     have B:=j _ _ G;have z:=Ym j H;have g:=Ym j I;have A:=Ym j hm;generalize K x=Y at B;cases B with
     | @sl _ _ _ _ _ _ gR cap T q1 q2 q3 q4 q5 =>
      unfold Wf at E;split at E
      ·cases E
      ·rename_i gB;have U:gA=D:=Kc gB;subst U;obtain⟨k1,k2,k3,k4⟩:=zcq T q1 q2 q3 q4 q5 E;have C:=z30 (P:=P) (w:=w) true (len:=len) (cap:=cap) z g A (by
        rw[A.isSome,g.isSome,za6,za6];intro e;cases hi<;>simp_all) k1 k2 k3
       refine⟨_,?_,k4⟩;simp only[Instr.sliceAt,Sem.run_bind,Pv hu,Result.andThen_ok,Instr.slice,C,T4 R,Sem.run_pure,L6];split<;>simp_all
    ·rename_i l h G H I hm;split
     ·rename_i h0;have gC:l.getD 0+h.getD 0=0:=Kc h0;have B:=j _ _ G;have z:=Ym j H;have g:=Ym j I;have A:=Ym j hm;generalize K x=Y at B;cases B;have C:=z30 (P:=P) (w:=w) true (len:=0) (cap:=0) z g A N J Ab N;refine Re F .nilSl ?_;have M:l.getD 0=0:=J
      have O:h.getD 0=0:=J
      rw[M,O]at C;simp only[Instr.sliceAt,Sem.run_bind,Pv hu,Result.andThen_ok,Instr.slice,C,T4 R,Sem.run_pure];simp
     ·exact trivial
    ·rename_i l h G H I hm;split
     ·rename_i h0;have gC:l.getD 0+h.getD 0=0:=Kc h0;have B:=j _ _ G;have z:=Ym j H;have g:=Ym j I;have A:=Ym j hm;generalize K x=Y at B;cases B with
      | @emp a cap =>
       have C:=z30 (P:=P) (w:=w) true (len:=0) (cap:=cap) z g A N J Ab N;have M:l.getD 0=0:=J
       have O:h.getD 0=0:=J
       rw[M,O]at C;refine Re F (x:=.slice (some (if cap=0 then a else a.add 0)) 0 cap) .emp ?_;simp only[Instr.sliceAt,Sem.run_bind,Pv hu,Result.andThen_ok,Instr.slice,C,T4 R,Sem.run_pure];simp;split<;>rfl
     ·exact trivial
    ·exact trivial
 ·rename_i n Q hu;split
  ·exact Pq P _
  ·rename_i gg;split
   ·exact Pq P _
   ·rename_i D R;intro w0 gL gM w gO K F j;dsimp only;split
    ·rename_i o v i l h m G H I hm;split
     ·rename_i c V gD hg;split
      ·rename_i gF;split
       ·rename_i gG;have gK:i+n*D≤V:=Kd gG;have X:v=gD:=Kc gF;subst X;refine ud F λr E=>?_
        have B:=j _ _ G;have z:=Ym j H;have g:=Ym j I;have A:=Ym j hm;generalize K x=Y at B;cases B with
        | @ptr _ _ _ gR T =>
         unfold Wf at E;simp only[K0]at E;have gH:=F.obj o _ (F.fresh _ _ _ T) hg;obtain⟨p1,_,p3,_⟩:=gH gR T;obtain⟨k1,k2,k3,k4⟩:=zcq (cap:=n) (len:=n) (room:=some n) T J J (J4 _) (λr E=>by cases E;exact⟨rfl,J⟩) (λe=>An) E;have C:=z30 (P:=P) (w:=w) false (len:=n) (cap:=n) z g A (by
          rw[A.isSome,g.isSome,za6,za6];intro e;cases hi<;>simp_all) k1 k2 k3
         refine⟨_,?_,k4⟩;simp only[Instr.sliceAt,Instr.sureAddr,Sem.run_bind,Pv hu,Result.andThen_ok,C,T4 R,Sem.run_pure]
       ·exact trivial
      ·exact trivial
     ·exact trivial
    ·exact trivial
 ·exact Pq P _
end
section
open Go.RowKit (Below)
def zfj(M:Program)(t:TypeId)(x D:Operand):Pe M (z4i M t x D) (λE=>do pure (.value (←Instr.indexAt t (E x) (E D)))):=by
 unfold z4i;split
 ·rename_i j hu;split
  ·exact Pq M _
  ·rename_i g F;refine Zu λP T U w E a b G z A=>?_
   split
   ·rename_i o v i len B O k n;split
    ·rename_i C;split
     ·rename_i he;have H:n<len:=by rw[Tj]at C;simpa using C
      have I:B=g:=Kc he;subst I;generalize E x=Q at z;generalize E D=R at A;cases A;cases z with
      |sl K =>
       refine Re G (.ptr (i:=i+n*B) K) ?_;have L:(0:Int)≤Int.ofNat n∧Int.ofNat n<(len:Int):=⟨N,Ab⟩;simp only[Instr.indexAt,asIntOf,Sem.run_bind,Sem.run_pure,Result.andThen_ok,Pv hu,Sem.run_ite,J8 L,T4 F];rw[qk];rfl
     ·exact trivial
    ·exact trivial
   ·exact trivial
 ·rename_i len j hu;split
  ·exact Pq M _
  ·rename_i g F;refine Zu λP T U w E a b G z A=>?_
   split
   ·rename_i o v i k n;split
    ·rename_i C;have H:n<len:=by rw[Tj]at C;simpa using C
     generalize E x=Q at z;generalize E D=R at A;cases A;cases z with
     |ptr K =>
      refine Re G (.ptr (i:=i+n*g) K) ?_;have L:(0:Int)≤Int.ofNat n∧Int.ofNat n<(len:Int):=⟨N,Ab⟩;simp only[Instr.indexAt,asIntOf,Instr.sureAddr,Sem.run_bind,Sem.run_pure,Result.andThen_ok,Pv hu,Sem.run_ite,J8 L,T4 F];rw[qk];rfl
    ·exact trivial
   ·exact trivial
 ·exact Pq M _
def znn(L:Program)(t:TypeId)(x D:Operand):Pe L (zfp L t x D) (λE=>do pure (.value (←Instr.index t (E x) (E D)))):=by
 unfold zfp;split
 ·rename_i hu;refine Zu λO gg gA w E a b F g z=>?_
  split
  ·rename_i len n k i;split
   ·rename_i A;have j:i<len:=by rw[Tj]at A;simpa using A
    generalize E x=P at g;generalize E D=Q at z;cases z;cases g with
    | @str _ _ s G R =>
     subst G R;have hi:i<s.size:=j;have H:s.data.toList[i]?=some s[i]:=by
      rw[J5 Bv];rfl
     have T:=zha H;refine Re F (x:=.int .u8 s[i].toNat) ?_ ?_
     ·have:Int.ofNat (Nat.mod (Nat.div (Qe s.data.toList) (Nat.pow 256 i)) 256)=(s[i].toNat:Int):=by
       show ((Qe s.data.toList/256^i%256:Nat):Int)=_;rw[T]
      rw[this];exact .int _ _
     ·simp only[Instr.index,asIntOf,Sem.run_bind,Sem.run_pure,Result.andThen_ok,Pv hu];have U:(0:Int)≤Int.ofNat i:=N
      rw[J8 U];have:s[(Int.ofNat i).toNat]?=some s[i]:=by
       show s[i]?=some s[i];simp[hi]
      rw[this];rfl
   ·exact trivial
  ·exact trivial
 ·rename_i len B hu;split
  ·rename_i gB C H M;refine Zu λO gg gA w E a b F g z=>?_
   split
   ·rename_i l k n;split
    ·rename_i A;have j:n<len:=by rw[Tj]at A;simpa using A
     generalize E x=P at g;generalize E D=Q at z;cases z;cases g with
     |agg g I =>
      refine ud F λr V=>?_
      obtain⟨Z,X,Y⟩:=zdc (w:=w) H M V g I;refine⟨Z,?_,Y⟩;have G:(0:Int)≤Int.ofNat n∧Int.ofNat n<(len:Int):=⟨N,Ab⟩;have K:(part B _ ((Int.ofNat n).toNat*C)).run L w=.ok Z w:=X;simp only[Instr.index,asIntOf,Sem.run_bind,Sem.run_pure,Result.andThen_ok,Pv hu,Sem.run_ite,J8 G,T4 M,K]
    ·exact trivial
   ·exact trivial
  ·exact Pq L _
 ·exact Pq L _
def zgl{F:CM}:∀{l:List AV} {n:Nat} {vs:List Value},W6.bytesA l=some n→VRs F l vs→∃g:List UInt8,g.length=l.length∧Qe g=n∧vs=g.map (λb=>Value.int .u8 (b.toNat:Int))
 |[],n,_,h,.nil=>by cases h;exact⟨[],rfl,rfl,rfl⟩
 |a::l,n,_,h,.cons e A=>by
  unfold W6.bytesA at h;split at h
  ·rename_i j;cases j
  ·rename_i b G j;cases j;split at h
   ·rename_i z;split at h
    ·rename_i m hm;cases h;have B:b<256:=by rw[Tj]at z;simpa using z
     cases e;obtain⟨g,C,D,E⟩:=zgl hm A;have hu:(UInt8.ofNat b).toNat=b:=Ab
     exact⟨UInt8.ofNat b::g,As,by rw[Qe,hu,D],by rw[Mp,hu,E];rfl⟩
    ·cases h
   ·cases h
  ·cases h
def zgn(g:List UInt8):(strOfNums (g.map λb=>(b.toNat:Int))).data.toList=g:=by
 simp[strOfNums,Function.comp_def]
def zjl(w:World)(e:TypeId)(s:ByteArray):Lib.bytesWorld w e s=w.drew.alloc (.cells (Lib.bytesCells w e s) e ((Lib.bytesCells w e s).size,(Lib.bytesCells w e s).size+1)):=by
 have g:(Lib.bytesWorld w e s).heap=(w.drew.alloc (.cells (Lib.bytesCells w e s) e ((Lib.bytesCells w e s).size,(Lib.bytesCells w e s).size+1))).heap:=by
  apply Array.ext_getElem?;intro i;rcases Nat.lt_trichotomy i w.heap.size with h|h|h
  ·rw[Lib.bytesWorld_at_old w e s i h,z5x w.drew _ (show i<w.drew.heap.size from h)];rfl
  ·subst h;rw[Lib.bytesWorld_at_new];exact (eo w.drew _).symm
  ·rw[Nq (by rw[Lib.bytesWorld_size];omega),Nq (by rw[World.size_alloc];show w.heap.size+1≤i;omega)]
 show ({ heap:=(Lib.bytesWorld w e s).heap,tape:=w.tape,drawn:=w.drawn+1,os:=w.os,output:=w.output }:World)=_;rw[g];rfl
def zrh(P:Program)(z A:TypeId)(x:Operand):Pe P (W6 P z A x) (λI=>do pure (.value (←convert z A (I x)))):=by
 unfold W6;split
 ·rename_i s k D hd;refine Ug λO gg gA w I a B j=>?_
  split
  ·rename_i k' n;generalize I x=K at j;cases j;refine Re B (x:=.int k (k.wrap n)) (by rw[Zx];exact .int _ _) ?_;simp only[convert,Sem.run_bind,Pv D,Pv hd,Result.andThen_ok,Conv.intToInt,Sem.run_pure]
  ·exact trivial
 ·rename_i e D hd;split
  ·rename_i he;refine Ug λO gg gA w I a B j=>?_
   split
   ·generalize I x=K at j;cases j;refine Re B (x:=.string .empty) (.str rfl rfl) ?_;simp only[Sem.run_bind,run_convert_bytes_nil w z e D he 0 0 A hd,Result.andThen_ok,Sem.run_pure]
   ·rename_i o v i len Y;split
    ·rename_i l hl;split
     ·rename_i n L;generalize I x=K at j;cases j with
      | @sl _ _ _ _ _ _ gC cap hL =>
       obtain⟨vs,Z,Q,h3,h4,h5,h6⟩:=B.read P hl hL;obtain⟨M,q1,q2,q3⟩:=zgl L Q;have H:M.length=len:=J
       refine Re B (x:=.string (strOfNums (M.map λb=>(b.toNat:Int)))) (.str (by rw[zgn,H]) (by rw[zgn,q2])) ?_;have R:=run_convert_bytes_arg (P:=P) w z e D he gC.b (gC.d+i) len cap (M.map λb=>(b.toNat:Int)) Am (λgD hj=>by
        rw[Ly,h6 gD hj,q3];simp[Lr,J5 (J:gD<M.length),List.getD]) A hd
       simp only[Sem.run_bind,R,Result.andThen_ok,Sem.run_pure]
     ·exact trivial
    ·exact trivial
   ·exact trivial
  ·exact Pq P _
 ·rename_i s gB D hd;refine Ug λO gg gA w I a B j=>?_
  split
  ·rename_i l n;have T:=j;generalize hx:I x=K at j;cases j;refine Re B T ?_;rw[hx];cases s<;>simp_all [convert,Pv D,Pv hd]
  ·exact trivial
 ·rename_i s e D hd;split
  ·rename_i he hz;refine Ug λO gg gA w I a B j=>?_
   split
   ·rename_i len n;split
    ·rename_i o H' L;generalize I x=K at j;cases j with
     | @str _ _ g Z Q =>
      subst Z Q;rw[unpack_pack]at L;have E:g.size≤grownCap w g.size 0 e:=grownCap_ge w g.size 0 e;have C:VRs gg ((g.data.toList.map (·.toNat)).map λ(b:Nat)=>AV.int .u8 (Int.ofNat b)) (g.data.toList.map λb=>Value.int .u8 (b.toNat:Int)):=by
       generalize g.data.toList=q
       induction q with
       |nil=>exact .nil
       |cons b q ih=>exact .cons (.int _ _) ih
      have F:(Lib.bytesCells w e g).size=grownCap w g.size 0 e:=by simp[Lib.bytesCells];omega
      have G:((g.data.toList.map (·.toNat)).map λ(b:Nat)=>AV.int .u8 (Int.ofNat b)).length=g.size:=N
      obtain⟨C',U,V,X⟩:=B.drew.newRow L e ((Lib.bytesCells w e g).size,(Lib.bytesCells w e g).size+1) (vs:=Lib.bytesCells w e g) (by rw[G,F];exact E)
       (by
        rw[G];have:(Lib.bytesCells w e g).toList.take g.size=g.data.toList.map λb=>Value.int .u8 (b.toNat:Int):=by
         simp only[Lib.bytesCells,Ng,L0];rw[Nw N,Kf N]
        rw[this];exact C)
       (by intro a j;simp only[Nm]at j;obtain⟨b,_,rfl⟩:=j;rfl) (λi hi=>Bx)
      refine⟨C',_,.slice (some ⟨w.heap.size,0,none⟩) g.size (grownCap w g.size 0 e),U,V,?_,.inl ?_⟩
      ·have:=VR.sl (i:=0) (len:=g.size) (esz:=1) (room:=none) (cap:=grownCap w g.size 0 e) X (by rw[G];dsimp only;omega) (by rw[F];dsimp only;omega) E (λr R=>by cases R) (λ_=>by rw[F];simp);simpa using this
      ·simp only[Sem.run_bind,Lib.run_convert_string_bytes w z A e g D hd he,Result.andThen_ok,Sem.run_pure,zjl]
    ·exact trivial
   ·exact trivial
  ·exact Pq P _
 ·exact Pq P _
def zk0(F:Program)(x:Operand)(i:Nat):Pe F (zel x i) (λz=>do pure (.value (←Instr.extract (z x) i))):=by
 unfold zel;refine Ug λG I K w z a A g=>?_
 split
 ·generalize z x=H at g;cases g with
  | @tup _ B g =>
   refine ud A λr C=>?_
   obtain⟨v,D,E⟩:=g.get C;have j:B[i]?=some v:=by simpa using D
   exact⟨v,by simp[Instr.extract,j],E⟩
 ·exact trivial
def zmr(G:Program)(x:Operand)(K g:TypeId)(ok:Bool):Pe G (yx G x g ok) (λI=>do pure (.value (←Instr.typeAssert (I x) K g ok))):=by
 unfold yx;split
 ·exact Pq G _
 ·rename_i d j hu;split
  ·exact Pq G _
  ·rename_i Q L;refine Ug λO P R w I a E z=>?_
   obtain⟨H,B,F⟩:=zma (w:=w) L;have D:=zfq (C:=P) F;split
   ·generalize I x=M at z;cases z;cases ok with
    |false=>exact trivial
    |true =>
     refine Re E (x:=.tuple #[H,.bool false]) (.tup (.cons D (.cons (.bool _) .nil))) ?_;simp only[Instr.typeAssert,Sem.run_bind,Pv hu,Result.andThen_ok];cases d<;>first|(simp[B];done)|exact absurd hu (j _)
   ·rename_i t v;generalize I x=M at z;cases z with
    | @iface _ _ u z =>
     split
     ·rename_i he;have A:t=g:=Kc he;subst A;cases ok with
      |false =>
       refine Re E (x:=u) z ?_;simp only[Instr.typeAssert,Sem.run_bind,Pv hu,Result.andThen_ok];cases d<;>first|(simp;done)|exact absurd hu (j _)
      |true =>
       refine Re E (x:=.tuple #[u,.bool true]) (.tup (.cons z (.cons (.bool _) .nil))) ?_;simp only[Instr.typeAssert,Sem.run_bind,Pv hu,Result.andThen_ok];cases d<;>first|(simp;done)|exact absurd hu (j _)
     ·rename_i he;have A:¬t=g:=λe=>by rw[e,K0]at he;cases he
      cases ok with
      |false=>exact trivial
      |true =>
       refine Re E (x:=.tuple #[H,.bool false]) (.tup (.cons D (.cons (.bool _) .nil))) ?_;simp only[Instr.typeAssert,Sem.run_bind,Pv hu,Result.andThen_ok];cases d<;>first|(simp[B,A];done)|exact absurd hu (j _)
   ·exact trivial
 ·exact Pq G _
end
section
open Go.RowKit (Below)
def zce{t:TypeId}{d:TypeDesc}(h:Vz C t=some d):C.underlying t=some d∧(d=.bool∨(∃k,d=.int k)∨d=.string):=by
 unfold Vz at h;split at h
 ·rename_i hu;cases h;exact⟨hu,.inl rfl⟩
 ·rename_i k hu;cases h;exact⟨hu,.inr (.inl ⟨k,rfl⟩)⟩
 ·rename_i hu;cases h;exact⟨hu,.inr (.inr rfl)⟩
 ·cases h
def tu{w:World}{t:TypeId}{d:TypeDesc}(h:Vz C t=some d)(e:Bool)(v:Value):(Instr.checkKey e 10000 t v).run C w=.ok () w:=by
 obtain⟨hu,hd⟩:=zce h;show (Instr.checkKey e (9999+1) t v).run C w=_;unfold Instr.checkKey;simp only[Sem.run_bind,Pv hu,Result.andThen_ok];rcases hd with rfl|⟨k,rfl⟩|rfl<;>rfl
def uo{d:TypeDesc}{a b:AV}{r:Bool}(h:og d a b=some r){u v:Value}(hu:VR I a u)(g:VR I b v) :
  Instr.sameNow d u v=some r∧(r=true→Instr.sameBits 10000 v u=true):=by
 unfold og at h;split at h
 ·split at h
  ·rename_i z;have:=z67 z;subst this;cases h;cases hu;cases g;rename_i _ F x y _;refine⟨by simp[Instr.sameNow,xy],λe=>?_⟩;rw[xy]at e;have:x=y:=Gp
   subst this;simp[Instr.sameBits]
  ·cases h
 ·cases h;cases hu with
  | @str _ _ s A B =>
   cases g with
   | @str _ _ j C D =>
    subst A B C D;rw[←zd7,←beq_toListBytes];refine⟨by simp[Instr.sameNow],λe=>?_⟩;have:s=j:=by
     have E:s.data.toList=j.data.toList:=by rw[beq_toListBytes]at e;rw[←ByteArray.toList_eq,←ByteArray.toList_eq];simpa using e
     exact ByteArray.ext (Nu.1 E)
    subst this;simp only[Instr.sameBits];rw[beq_toListBytes];simp
 ·cases h;cases hu;cases g;rename_i x y;refine⟨by simp[Instr.sameNow],λe=>?_⟩;have:x=y:=Gp
  subst this;simp[Instr.sameBits]
 ·cases h
def zd0{C:CM}{d:TypeDesc}{k:AV}{u:Value}(hu:VR C k u):∀{A:List (AV×AV×Nat)} {g:List MapEntry} {r:Option AV} (i:Nat),uy d k A=some r→MR C A g →
  match r with
  |none=>Instr.findNow d u g i=some none
  |some a=>∃B v,Instr.findNow d u g i=some (some (B,v))∧VR C a v
 |[],[],r,i,h,.nil=>Cb
 |(G,H,b)::l,e::_,r,i,h,.cons z D I hm=>by
  unfold uy at h;split at h
  ·rename_i j;cases h;exact⟨i,e.val,by simp[Instr.findNow,(uo j hu z).1],D⟩
  ·rename_i j;have:=zd0 hu (i+1) h hm;cases r with
   |none=>simpa [Instr.findNow,(uo j hu z).1] using this
   |some a =>
    obtain⟨B,v,E,F⟩:=this;exact⟨B,v,by simpa [Instr.findNow,(uo j hu z).1] using E,F⟩
  ·cases h
def uc{w:World}{t:TypeId}{d:TypeDesc}(hu:C.underlying t=some d){k:Value}{g:List MapEntry}{r:Option (Nat×Value)}(h:Instr.findNow d k g 0=some r) :
  (Instr.findKey t k g).run C w=.ok r w:=by
 simp[Instr.findKey,Pv hu,h]
def zku(T:Program)(t:TypeId)(x M:Operand)(ok:Bool):Pe T (yc T t x M ok) (λG=>do pure (.value (←Instr.lookup t (G x) (G M) ok))):=by
 unfold yc;split
 ·rename_i gg Y hu;split
  ·rename_i d gB hd hz;refine Zu λw0 C gC w G a b O P Z=>?_
   split
   ·exact trivial
   ·rename_i es j;obtain⟨A,_⟩:=zce hd;obtain⟨Q,H,U⟩:=zma (w:=w) hz;have I:=zfq (C:=C) U;have K:∃g:Array MapEntry,MR C es g.toList∧((G x=.map none∧g=#[])∨∃b F,G x=.map (some b)∧w.heap[b]?=some (.map g F)):=by
     unfold ztz at j;split at j
     ·cases j;generalize G x=px at P;cases P;exact⟨#[],.nil,.inl ⟨rfl,rfl⟩⟩
     ·rename_i o;split at j
      ·rename_i gA F L;cases j;generalize G x=px at P;cases P with
       |map hL =>
        obtain⟨_,g,D,R⟩:=O.obj o _ (O.fresh _ _ _ hL) L _ hL;exact⟨g,R,.inr ⟨_,_,rfl,D⟩⟩
      ·cases j
     ·cases j
    obtain⟨g,hm,B⟩:=K;split
    ·rename_i v V;obtain⟨gD,u,D,R⟩:=zd0 Z 0 V hm;have z:(Instr.lookup t (G x) (G M) ok).run T w=.ok (if ok then .tuple #[u,.bool true] else u) w:=by
      unfold Instr.lookup;rcases B with ⟨E,rfl⟩|⟨r,F,E,X⟩
      ·simp only[Sem.run_bind,Pv hu,Result.andThen_ok,E,tu hd,uc A D,Sem.run_pure]
      ·have L:(getObj r).run T w=.ok (.map g F) w:=Fv
       simp only[Sem.run_bind,Pv hu,Result.andThen_ok,E,L,tu hd,uc A D,Sem.run_pure]
     refine Re O (x:=if ok then .tuple #[u,.bool true] else u) ?_ Bd;cases ok with
     |true=>exact .tup (.cons R (.cons (.bool _) .nil))
     |false=>exact R
    ·rename_i V;have D:=zd0 Z 0 V hm;have z:(Instr.lookup t (G x) (G M) ok).run T w=.ok (if ok then .tuple #[Q,.bool false] else Q) w:=by
      unfold Instr.lookup;rcases B with ⟨E,rfl⟩|⟨r,F,E,X⟩
      ·simp only[Sem.run_bind,Pv hu,Result.andThen_ok,E,tu hd,uc A D,Sem.run_pure,H]
      ·have L:(getObj r).run T w=.ok (.map g F) w:=Fv
       simp only[Sem.run_bind,Pv hu,Result.andThen_ok,E,L,tu hd,uc A D,Sem.run_pure,H]
     refine Re O (x:=if ok then .tuple #[Q,.bool false] else Q) ?_ Bd;cases ok with
     |true=>exact .tup (.cons I (.cons (.bool _) .nil))
     |false=>exact I
    ·exact trivial
  ·exact Pq T _
 ·exact Pq T _
def zay(w:World){r k:Nat}(x:Obj)(h:k≠r):({ w with heap:=w.heap.setIfInBounds r x }:World).heap[k]?=w.heap[k]?:=by
 show (w.heap.setIfInBounds r x)[k]?=_;rw[Array.getElem?_setIfInBounds_ne J]
def putObj_heap_same(w:World){r:Nat}(x:Obj)(h:r<w.heap.size):({ w with heap:=w.heap.setIfInBounds r x }:World).heap[r]?=some x:=by
 show (w.heap.setIfInBounds r x)[r]?=_;simp[h]
def Rel.putObj{w0:World}{H:Heap}{w:World}(h:Rel w0 I H w){o v:Nat}{L:Loc}(hL:I o v=some L)(hB:w0.heap.size≤L.b)(ob:AObj)(x:Obj)
  (gA:Rk w0.heap.size I { w with heap:=w.heap.setIfInBounds L.b x } o ob) (gg:∀c len C ro,ob≠.cells c len C ro):Rel w0 I (H.put o ob) { w with heap:=w.heap.setIfInBounds L.b x }:=by
 refine h.put (h.fresh _ _ _ hL) ob (h.low.trans ⟨rfl,rfl,rfl,N,λk hk=>zay w x J⟩) N ?_ gA (λc len C ro e=>absurd e (gg c len C ro));intro o' v' L' gB gC;refine zay w x (λe=>gB ?_);exact (h.excl _ _ _ _ _ _ hL gC e.symm hB).symm
def MR.length{C:CM}:∀{es:List (AV×AV×Nat)} {gg:List MapEntry},MR C es gg→es.length=gg.length
 |_,_,.nil=>rfl
 |_,_,.cons _ _ _ h=>by simp[MR.length h]
def z9g{F:CM}{d:TypeDesc}{k v:AV}{u x:Value}(hu:VR F k u)(B:VR F v x){G:Nat}:∀{H j:List (AV×AV×Nat)} {g:List MapEntry} {n:Bool} (i:Nat),u7 d k v G H=some (j,n)→MR F H g →
  match n with
  |true=>Instr.findNow d u g i=some none∧MR F j (g++[{ key:=u,val:=x,born:=G }])
  |false=>∃C e y,Instr.findNow d u g i=some (some (C+i,y))∧g[C]?=some e∧Instr.sameBits 10000 e.key u=true∧MR F j (g.modify C λe=>{ e with key:=u,val:=x })
 |[],j,[],n,i,h,.nil=>by
  cases h;exact⟨rfl,.cons hu B rfl .nil⟩
 |(T,U,b)::l,j,e::r,n,i,h,.cons z I D hm=>by
  unfold u7 at h;split at h
  ·rename_i E;cases h;obtain⟨A,K⟩:=uo E hu z;exact⟨0,e,e.val,by simp[Instr.findNow,A],rfl,K rfl,by simpa using MR.cons (e:={ e with key:=u,val:=x }) hu B D hm⟩
  ·rename_i E;obtain⟨A,_⟩:=uo E hu z;split at h
   ·rename_i V X L;cases h;have:=z9g hu B (i+1) L hm;cases n with
    |true=>exact⟨by simpa [Instr.findNow,A] using this.1,.cons z I D this.2⟩
    |false =>
     obtain⟨C,M,y,O,P,Q,R⟩:=this;refine⟨C+1,M,y,?_,by simpa using P,Q,by simpa using MR.cons z I D R⟩;rw[show C+1+i=C+(i+1) from J];simpa [Instr.findNow,A] using O
   ·cases h
  ·cases h
def z99(O:Program)(t:TypeId)(m k x:Operand):Pe O (z4j O t m k x) (λD=>do Instr.mapUpdate t (D m) (D k) (D x);pure .skip):=by
 unfold z4j;split
 ·rename_i gA X hu;split
  ·rename_i d hd;obtain⟨E,_⟩:=zce hd;intro w0 gg gD w gF D F P;dsimp only;split
   ·rename_i o ka va hm hk hx;have G:=P _ _ hm;have H:=P _ _ hk;have I:=P _ _ hx;split
    ·rename_i es L hg;generalize gB:D m=pm at G;cases G with
     |map B =>
      rename_i Y;obtain⟨M,j,Z,q2⟩:=F.obj o _ (F.fresh _ _ _ B) hg _ B;have K:=F.lt _ _ _ B;have z:(getObj Y.b).run O w=.ok (.map j L) w:=by simp[getObj,Sem.run,Z]
      have A:∀y,(setObj Y.b y).run O w=.ok () { w with heap:=w.heap.setIfInBounds Y.b y }:=by intro y;simp[setObj,Sem.run,Z]
      split
      ·rename_i Q R;obtain⟨T,U⟩:=z9g H I 0 R q2;refine⟨gg,{ w with heap:=w.heap.setIfInBounds Y.b (.map (j.push { key:=D k,val:=D x,born:=L }) (L+1)) },undef,CM.le_refl gg,F.putObj B M _ _ ?_ (λ_ _ _ _ e=>An),.tup .nil,.inr ⟨?_,rfl⟩⟩
       ·intro L' g;rw[B]at g;cases g;exact⟨M,_,putObj_heap_same w _ K,by rw[Array.toList_push];exact U⟩
       ·simp only[Instr.mapUpdate,Sem.run_bind,Pv hu,Result.andThen_ok,z,tu hd,uc E T,A,Sem.run_pure]
      ·rename_i Q R;obtain⟨gC,e,y,T,U,p3,p4⟩:=z9g H I 0 R q2;have V:j[gC]?=some e:=by simpa using U
       refine⟨gg,{ w with heap:=w.heap.setIfInBounds Y.b (.map (j.modify gC λe=>{ e with key:=D k,val:=D x }) L) },undef,CM.le_refl gg,F.putObj B M _ _ ?_ (λ_ _ _ _ e=>An),.tup .nil,.inr ⟨?_,rfl⟩⟩
       ·intro L' g;rw[B]at g;cases g;exact⟨M,_,putObj_heap_same w _ K,by rw[Array.toList_modify];exact p4⟩
       ·have C:(Instr.keyThatStays e.key (D k)).run O w=.ok (D k) w:=by simp[Instr.keyThatStays,p3]
        simp only[Instr.mapUpdate,Sem.run_bind,Pv hu,Result.andThen_ok,z,tu hd,uc E T,M8,V,L6,Ln,C,A,Sem.run_pure]
      ·exact trivial
    ·exact trivial
   ·exact trivial
  ·exact Pq O _
 ·exact Pq O _
def zof(A:Program)(t:TypeId)(x:Operand):Pe A (rangeF A t x) (λB=>do pure (.value (←Instr.range t (B x)))):=by
 unfold rangeF;split
 ·rename_i hu;refine Ug λG H I w B a g j=>?_
  split
  ·rename_i len n;generalize B x=K at j;cases j with
   | @str _ _ s C D =>
    obtain⟨E,F⟩:=g.push (.iter len n 0) (.stringIter s 0) 0 0 (λL z=>by
     rw[CM.ext_same]at z;cases z;exact⟨g.low.size,rfl,s,eo _ _,C,D⟩)
    refine⟨_,_,.pointer (some ⟨w.heap.size,0,none⟩),F,E,by simpa using VR.ptr (i:=0) (CM.ext_same H I.next 0 ⟨w.heap.size,0,0,0⟩),.inl ?_⟩;simp only[Instr.range,Sem.run_bind,Pv hu,Sem.run_pure,Result.andThen_ok,run_newObj];rfl
  ·exact trivial
 ·exact Pq A _
def zrz(gg:Program)(x:Operand)(j:Bool)(ty:TypeId):Pe gg (zvq x j) (λρ=>do pure (.value (←Instr.next (ρ x) j ty))):=by
 unfold zvq;split
 ·rename_i hs;subst hs;refine Ug λw0 gA gB w ρ a C U=>?_
  split
  ·rename_i o;split
   ·rename_i len n g hg;generalize ρ x=px at U;cases U with
    | @ptr _ _ _ M D =>
     obtain⟨V,E,s,X,Y,Z⟩:=C.obj o _ (C.fresh _ _ _ D) hg _ D;have O:=C.lt _ _ _ D;have A:(getObj M.b).run gg w=.ok (.stringIter s g) w:=Fv
     have F:∀y,(setObj M.b y).run gg w=.ok () { w with heap:=w.heap.setIfInBounds M.b y }:=by intro y;simp[setObj,Sem.run,X]
     have B:(⟨M.b,M.d+0,none⟩:Addr)=⟨M.b,0,none⟩:=by rw[E]
     rw[B];split
     ·rename_i G;have H:g<len:=by rw[Tj]at G;simpa using G
      have z:g<s.size:=Gi
      split
      ·rename_i P;have Q:s.data.toList[g]?=some s[g]:=by
        rw[J5 (by rw[Y];exact H)];rfl
       have I:=zha Q;rw[Z]at I;have R:Nat.mod (Nat.div n (Nat.pow 256 g)) 256=s[g].toNat:=I;rw[R]at P ⊢;have T:s[g].toNat<128:=by rw[Tj]at P;simpa using P
       have K:=decode_ascii s g z T;refine⟨gA,{ w with heap:=w.heap.setIfInBounds M.b (.stringIter s (g+1)) },.tuple #[.bool true,goInt g,.int .i32 (s[g].toNat:Int)],CM.le_refl gA,
        C.putObj D V _ _ ?_ (λ_ _ _ _ e=>An),.tup (.cons (.bool _) (.cons (.int _ _) (.cons (.int _ _) .nil))),.inl ?_⟩
       ·intro L' L;rw[D]at L;cases L;exact⟨V,E,s,putObj_heap_same w _ O,Y,Z⟩
       ·simp only[Instr.next,Sem.run_bind,A,Result.andThen_ok,J8 z,K,F,Sem.run_pure]
      ·exact trivial
     ·rename_i G;have H:¬g<len:=by rw[Tj]at G;simpa using G
      have z:¬g<s.size:=Gi
      refine Re C (x:=.tuple #[.bool false]) (.tup (.cons (.bool _) .nil)) ?_;simp only[Instr.next,Sem.run_bind,A,Result.andThen_ok,J2 z,Sem.run_pure]
   ·exact trivial
  ·exact trivial
 ·exact Pq gg _
end
section
open Go.RowKit (Below)
def Rel.bump{w0:World}{C:CM}{H:Heap}{w w':World}(h:Rel w0 C H w){o len:Nat}{c:Tr AV}(ho:o<H.next)(gG:∃v L,C o v=some L)(hg:H.get o=some (.cells c len j false))(L':Loc)(c':Tr AV)(gB:Nat)
  (gD:Below w0.heap.size w0 w') (gH:w.heap.size≤w'.heap.size) (gI:L'.b<w'.heap.size) (hex:∀o' v L,C o' v=some L→L.b=L'.b→o'=o)
  (gK:∀o' v L,o'≠o→C o' v=some L→w'.heap[L.b]?=w.heap[L.b]?) (gL:Rk w0.heap.size (C.ext o (j+1) L') w' o (.cells c' gB (j+1) false)) :
  Rel w0 (C.ext o (j+1) L') (H.put o (.cells c' gB (j+1) false)) w'∧C.le (C.ext o (j+1) L'):=by
 have gC:C o (j+1)=none:=by
  cases e:C o (j+1) with
  |none=>rfl
  |some L=>have:=h.top _ _ _ _ _ ho hg _ _ e;omega
 have hle:C.le (C.ext o (j+1) L'):=CM.le_ext _ gC (.inl gG);refine⟨⟨by show max C.nx (o+1)=H.next;rw[h.nx];exact Nat.max_eq_left ho,gD,?_,?_,?_,?_,?_⟩,hle⟩
 ·intro o' v L hL;by_cases e:o'=o∧v=j+1
  ·rw[e.1];exact ho
  ·rw[CM.ext_ne _ _ e]at hL;exact h.fresh _ _ _ hL
 ·intro o' v L hL;by_cases e:o'=o∧v=j+1
  ·obtain⟨rfl,rfl⟩:=e;rw[CM.ext_same]at hL;cases hL;exact gI
  ·rw[CM.ext_ne _ _ e]at hL;exact Kr (h.lt _ _ _ hL) gH
 ·intro o1 v1 L1 o2 v2 L2 h1 h2 hb hB;by_cases e1:o1=o∧v1=j+1<;>by_cases e2:o2=o∧v2=j+1
  ·rw[e1.1,e2.1]
  ·obtain⟨rfl,rfl⟩:=e1;rw[CM.ext_same]at h1;cases h1;rw[CM.ext_ne _ _ e2]at h2;exact (hex _ _ _ h2 hb.symm).symm
  ·obtain⟨rfl,rfl⟩:=e2;rw[CM.ext_same]at h2;cases h2;rw[CM.ext_ne _ _ e1]at h1;exact hex _ _ _ h1 hb
  ·rw[CM.ext_ne _ _ e1]at h1;rw[CM.ext_ne _ _ e2]at h2;exact h.excl _ _ _ _ _ _ h1 h2 hb hB
 ·intro o' ob gA gg;by_cases e:o'=o
  ·subst e;rw[Heap.get_put_same]at gg;cases gg;exact gL
  ·have gF:o'<H.next:=gA;rw[Heap.get_put_ne H _ e]at gg;exact (h.obj _ _ gA gg).frame hle (λv L hL=>by rwa [CM.ext_ne _ _ (λq=>e q.1)]at hL) (λv L hL=>gK _ _ _ e hL)
 ·intro o' c1 gM gO gR gA gg v L hL;by_cases e:o'=o
  ·subst e;rw[Heap.get_put_same]at gg;cases gg;by_cases e2:v=j+1
   ·omega
   ·rw[CM.ext_ne _ _ J]at hL;have:=h.top _ _ _ _ _ ho hg _ _ hL;omega
  ·have gF:o'<H.next:=gA;rw[Heap.get_put_ne H _ e]at gg;rw[CM.ext_ne _ _ (λq=>e q.1)]at hL;exact h.top _ _ _ _ _ gA gg _ _ hL
structure AppX (P:Program) (w:World) (elem:TypeId) (size:Nat) (xt:TypeId) (x:Value) (n:Nat) (news:Array Value):Prop where
 und:∃d,P.underlying xt=some d∧((d=.string∨∃e,d=.slice e)∧(Builtin.lenOf x).run P w=.ok n w∧(∀w',w'.heap=w.heap→(Builtin.firstCells size n x).run P w'=.ok news w')
  ∨ (∃k,d=.int k)∧x=.int .i64 (Int.ofNat n)∧n≤1048576∧0<size∧∃zv,(∀w',(zeroValue elem).run P w'=.ok zv w')∧(∃i,P.info? elem=some i∧i.bytes≤65536)∧news=Builtin.zeroCells zv.cells n∧zv.cells.size=size)
def zcs(g:Array Value):Builtin.zeroCells g 0=#[]:=by simp[Builtin.zeroCells]
def z1z{w w':World}{st elem ty:TypeId}{n len cap:Nat}{base:Option Addr}{x:Value}(hu:C.underlying st=some (.slice elem))(H:Qg C elem=some g)
  (K:AppX C w elem g V x n vR) (A:len+n≤cap)
  (j:match base with
   |none=>w'=w
   |some a=>(storeCells (a.add (len*g)) vR.toList).run C w=.ok () w') :
  (Builtin.append_ #[st,V] ty #[.slice base len cap,x]).run C w=.ok (.slice base (len+n) cap) w':=by
 obtain⟨d,hd,z⟩:=K.und;unfold Builtin.append_;rcases z with ⟨D,B,L⟩|⟨⟨k,rfl⟩,rfl,M,I,X,O,⟨i,hi,E⟩,rfl,P⟩
 ·rcases D with rfl|⟨e,rfl⟩
  all_goals
   simp only[Lk,Km,Kh,Sem.run_bind,Pv hu,Pv hd,T4 H,Result.andThen_ok,Sem.run_pure,Ml,Mz,B,Sem.run_ite,J8 A,Bool.not_false,M5,L w rfl];cases base with
   |none=>subst j;rfl
   |some a=>simp only[Sem.run_bind,j,Result.andThen_ok,Sem.run_pure]
 ·have Q:IntKind.i64.wrap (Int.ofNat n)=Int.ofNat n:=Aq
  have R:¬(Int.ofNat n<0):=N
  have T:¬(Int.ofNat n*(i.bytes:Int)>2^48):=by
   have:(Int.ofNat n*(i.bytes:Int))=((n*i.bytes:Nat):Int):=N
   rw[this];have:n*i.bytes≤1048576*65536:=Lw M E;omega
  simp only[Lk,Km,Kh,Sem.run_bind,Pv hu,Pv hd,T4 H,Result.andThen_ok,Sem.run_pure,M5,asInt,asIntOf,Q,Sem.run_ite,J2 R,kw hi,J2 T,Bool.not_true,Ml,Mz];have U:(Int.ofNat n).toNat=n:=rfl;rw[U,J8 A];by_cases F:n*g=0
  ·have G:n=0:=by
    rcases Nat.mul_eq_zero.1 F with h|h
    ·exact h
    ·omega
   subst G;rw[zcs]at j;rw[J8 F];simp only[Result.andThen_ok];cases base with
   |none=>subst j;rfl
   |some a=>simp only[Sem.run_bind,j,Result.andThen_ok,Sem.run_pure]
  ·rw[J2 F];simp only[O,Result.andThen_ok];cases base with
   |none=>subst j;rfl
   |some a=>simp only[Sem.run_bind,j,Result.andThen_ok,Sem.run_pure]
def z5i{w:World}{st elem ty:TypeId}{i:TypeInfo}{n len cap:Nat}{base:Option Addr}{x:Value}{olds:Array Value}(hu:C.underlying st=some (.slice elem))(hi:C.info? elem=some i)
  (U:AppX C w elem i.size V x n vR) (K:cap<len+n) (G:i.bytes≤65536) (E:len+n≤2000000000) (L:∀w',(zeroValue elem).run C w'=.ok vM w')
  (z:(Builtin.firstCells i.size len (.slice base len cap)).run C w.drew=.ok olds w.drew) :
  (Builtin.append_ #[st,V] ty #[.slice base len cap,x]).run C w =
   .ok (.slice (some ⟨w.heap.size,0,none⟩) (len+n) (grownCap w (len+n) cap elem)) (w.drew.alloc (.cells (olds++vR++Builtin.zeroCells vM.cells (grownCap w (len+n) cap elem-(len+n))) elem)):=by
 have R:Qg C elem=some i.size:=Hk
 obtain⟨d,hd,F⟩:=U.und;have A:¬(len+n≤cap):=J
 have B:¬(Builtin.nextslicecap (len+n) cap*i.bytes>2^48):=by
  have h1:(len+n)*i.bytes≤2000000000*65536:=Lw E G;have:=growslice_fits (bytes:=i.bytes) K J;omega
 have D:¬(((len+n:Nat):Int)>IntKind.i64.max):=by
  simp only[IntKind.max,IntKind.signed,IntKind.bits,M5];omega
 have g:(Question.appendCap (len+n) cap elem).forced=false:=rfl;unfold Builtin.append_;rcases F with ⟨M,H,X⟩|⟨⟨k,rfl⟩,rfl,Y,T,O,I,⟨gg,hj,_⟩,rfl,Z⟩
 ·have j:(Builtin.firstCells i.size len (.slice base len cap)).run C { w with drawn:=w.drawn+1 }=.ok olds { w with drawn:=w.drawn+1 }:=z;rcases M with rfl|⟨e,rfl⟩
  all_goals
   simp only[Lk,Km,Kh,Sem.run_bind,Pv hu,Pv hd,T4 R,Result.andThen_ok,Sem.run_pure,Ml,Mz,H,Sem.run_ite,J2 A,kw hi,D,false_and,J2 B,run_choose,g,run_askRoom];simp only[j,Result.andThen_ok,Bool.not_false,M5,X { w with drawn:=w.drawn+1 } rfl,L,newRow,Sem.run_bind,run_newObj,Sem.run_pure];rfl
 ·obtain rfl:O=vM:=by have a:=I w;rw[L w]at a;cases a;rfl
  have e1:IntKind.i64.wrap (Int.ofNat n)=Int.ofNat n:=Aq
  have e2:¬(Int.ofNat n<0):=N
  have e3:¬(Int.ofNat n*(i.bytes:Int)>2^48):=by
   have:(Int.ofNat n*(i.bytes:Int))=((n*i.bytes:Nat):Int):=N
   rw[this];have:n*i.bytes≤1048576*65536:=Lw Y G;omega
  simp only[Lk,Km,Kh,Sem.run_bind,Pv hu,Pv hd,T4 R,Result.andThen_ok,Sem.run_pure,M5,asInt,asIntOf,e1,Sem.run_ite,J2 e2,kw hi,J2 e3,Bool.not_true,Ml,Mz];have e4:(Int.ofNat n).toNat=n:=rfl;rw[e4,J2 A];simp only[D,false_and,Mz,Result.andThen_ok,J2 B,run_choose,g,Ml,run_askRoom];have j:(Builtin.firstCells i.size len (.slice base len cap)).run C { w with drawn:=w.drawn+1 }=.ok olds { w with drawn:=w.drawn+1 }:=z;simp only[j,Result.andThen_ok];by_cases P:n*i.size=0
  ·have Q:n=0:=by
    rcases Nat.mul_eq_zero.1 P with h|h
    ·exact h
    ·omega
   subst Q;rw[J8 P];simp only[Sem.run_pure,Result.andThen_ok,zcs,L,newRow,Sem.run_bind,run_newObj];rfl
  ·rw[J2 P];simp only[Sem.run_bind,I,Sem.run_pure,Result.andThen_ok,newRow,run_newObj];rfl
def zd8{P:Program}{t:TypeId}{l:List AV}(h:Tz P t=some l):∃v i,(∀w',(zeroValue t).run P w'=.ok v w')∧Vk v.cells.toList=some l∧P.info? t=some i∧l.length=i.size:=by
 unfold Tz at h;cases hi:P.info? t with
 |none=>simp[hi]at h
 |some i =>
  simp only[hi]at h;cases g:i.zero with
  |none=>simp[g]at h
  |some v =>
   simp only[g]at h;cases j:Vk v.cells.toList with
   |none=>simp[j]at h
   |some r =>
    simp only[j]at h;split at h
    ·cases h;rename_i z;exact⟨v,i,λw'=>Fk,j,rfl,z⟩
    ·cases h
def z8r{l r:List Value}{n:Nat}(h:l.length=n):(l++r).take n=l:=by rw[←h];simp
def zx1{P:Program}{C:CM}{w:World}(F:Rel G C D w){elem:TypeId}{i:TypeInfo}{n:Nat}{l:List AV}{cs:Array Value}{cap:Nat}(g:n≤cap)
  (Q:l.length=n*i.size) (H:cs.size=cap*i.size) (I:VRs C l (cs.toList.take l.length)) (K:∀a∈l,a.one=true) {E:Sem Next}
  (j:E.run P w=.ok (.value (.slice (some ⟨w.heap.size,0,none⟩) n cap)) (w.drew.alloc (.cells cs elem))):Sk P G C w E (Z6 D n i.size l):=by
 unfold Z6;cases L:newObj D l with
 |none=>exact trivial
 |some r =>
  obtain⟨o,R⟩:=r;have hm:n*i.size≤cap*i.size:=Ki _ g;obtain⟨M,z,A,B⟩:=F.drew.newRow L elem (0,0) (vs:=cs) J I K N;refine⟨M,_,_,z,A,?_,.inl j⟩;have:=VR.sl (i:=0) (len:=n) (esz:=i.size) (room:=none) (cap:=cap) B Av Av g (λr O=>by cases O) (λ_=>Av);simpa using this
def zl8{P:Program}{C:CM}{w:World}(I:Rel G C D w){st elem ty:TypeId}{i:TypeInfo}(hu:P.underlying st=some (.slice elem))(hi:P.info? elem=some i)(gY:0<i.size)
  (gH:i.bytes≤65536) (hz:Tz P elem=some R) {s:AV} {x:Value} (hs:VR C s vM) {n:Nat} {j:List AV} {news:Array Value} (hx:AppX P w elem i.size V x n news) (hn:n≤1048576)
  (E:VRs C j news.toList) (K:∀a∈j,a.one=true) (gB:j.length=n*i.size) :
  Sk P G C w (do pure (.value (←Builtin.append_ #[st,V] ty #[vM,x]))) (Xh D i.size s n j):=by
 have Q:Qg P elem=some i.size:=Hk
 obtain⟨zv,gX,gI,jK,gZ,j4⟩:=zd8 hz;rw[hi]at gZ;cases gZ;have gK:zv.cells.size=i.size:=by
  have:=(Y0 (C:=C) jK).1.length;simp at this;omega
 have M:news.size=n*i.size:=by have:=E.length;simp at this;omega
 unfold Xh;split
 ·rename_i h0;have jg:n=0:=Kc h0;subst jg;have jz:news=#[]:=Mm J;subst jz;split
  ·cases hs;have z:=z1z (ty:=ty) (base:=none) (len:=0) (cap:=0) (w':=w) hu Q hx J rfl;exact Re I .nilSl Bd
  ·cases hs with
   | @emp a cap =>
    have z:=z1z (ty:=ty) (base:=some a) (len:=0) (cap:=cap) (w':=w) hu Q hx J rfl;exact Re I (x:=.slice (some a) 0 cap) .emp Bd
  ·rename_i o v k len jA gC;have jL:=hs;cases hs with
   | @sl _ _ _ _ _ _ L cap O q1 q2 q3 =>
    have z:=z1z (ty:=ty) (base:=some ⟨L.b,L.d+k,none⟩) (len:=len) (cap:=cap) (w':=w) hu Q hx J rfl;exact Re I jL (by simp only[Sem.run_bind,z,Result.andThen_ok,Sem.run_pure];rfl)
  ·exact trivial
 ·rename_i h0;have jg:n≠0:=λe=>by rw[e]at h0;cases h0
  split
  ·cases hs;have U:=grownCap_ge w (0+n) 0 elem;refine zx1 I (elem:=elem) (cap:=grownCap w (0+n) 0 elem) (cs:=#[]++news++Builtin.zeroCells zv.cells (grownCap w (0+n) 0 elem-(0+n))) J gB ?_ ?_ K ?_
   ·rw[Mq,Mq,size_zeroCells,gK,M];have:=z6g i.size (show 0+n≤grownCap w (0+n) 0 elem from U);simp at this ⊢;omega
   ·rw[Ng,Ng,z8r Ab];simpa using E
   ·have:=z5i (ty:=ty) (base:=none) (len:=0) (cap:=0) (olds:=#[]) hu hi hx J gH J gI (by simp[Builtin.firstCells]);simp only[Sem.run_bind,this,Result.andThen_ok,Sem.run_pure,Kw]
  ·rename_i o v k len jA gC;split
   ·exact trivial
   ·rename_i he;rw[Jz]at he;have gD:len≤Ry:=Kd he.2;have jM:jA=i.size:=Kc he.1;subst jM;cases hs with
    | @sl _ _ _ _ _ _ L cap O q1 q2 q3 q4 q5 =>
     have X:(⟨L.b,L.d+k,none⟩:Addr).add (len*i.size)=⟨L.b,L.d+(k+len*i.size),none⟩:=qk _ _ _ _;have jB:(len+n)*i.size=len*i.size+n*i.size:=Ku _ _ _;have gF:∀H,Sd D o v k (len*i.size)=some H→∃A:Array Value,(Builtin.firstCells i.size len (.slice (some ⟨L.b,L.d+k,none⟩) len cap)).run P w.drew=.ok A w.drew∧VRs C H A.toList∧(∀a∈H,a.one=true)∧H.length=len*i.size:=by
      intro H z;obtain⟨vs,p1,Y,p3,p4,_,_⟩:=I.drew.read P z O;exact⟨vs.toArray,by simpa [Builtin.firstCells] using p1,by simpa using Y,p3,p4⟩
     split
     ·rename_i r;obtain⟨jC,gL⟩:=q4 r rfl;subst jC;split
      ·rename_i T;have F:len+n≤cap:=Kd T;split
       ·rename_i H' hw;have gM:Wx D o v (k+len*i.size) j=some H':=hw;obtain⟨Z,p1,Y⟩:=I.write P gM O E K;have jO:(len+n)*i.size≤cap*i.size:=Ki _ F;refine⟨C,Z,.slice (some ⟨L.b,L.d+k,none⟩) (len+n) cap,CM.le_refl C,Y,.sl O (J:k+(len+n)*i.size≤L.n) q2 F (λr z=>by cases z;exact⟨rfl,gL⟩) (λe=>An),.inl ?_⟩;simp only[Sem.run_bind,z1z (w':=Z) (base:=some ⟨L.b,L.d+k,none⟩) hu Q hx F (by dsimp only;rw[X];exact p1),Result.andThen_ok,Sem.run_pure]
       ·exact trivial
      ·rename_i T;have jP:cap<len+n:=by
        rcases Mw cap (len+n) with h|h
        ·exact h
        ·rw[show Nat.ble (Nat.add len n) cap=true from Ka h]at T;cases T
       split
       ·rename_i H z;obtain⟨A,p1,Y,p3,p4⟩:=gF H z;have gg:A.size=len*i.size:=by have:=Y.length;simp at this;omega
        have U:=grownCap_ge w (len+n) cap elem;refine zx1 I (elem:=elem) (cap:=grownCap w (len+n) cap elem) (cs:=A++news++Builtin.zeroCells zv.cells (grownCap w (len+n) cap elem-(len+n))) U ?_ ?_ ?_ ?_ ?_
        ·rw[J7,p4,gB];exact jB.symm
        ·rw[Mq,Mq,size_zeroCells,gK,M,gg];have:=z6g i.size U;omega
        ·rw[Ng,Ng,z8r Ab];exact Y.append E
        ·intro a ha;rcases Ks.1 ha with h|h
         ·exact p3 a h
         ·exact K a h
        ·have:=z5i (ty:=ty) (base:=some ⟨L.b,L.d+k,none⟩) hu hi hx jP gH (by unfold Ry at gD;omega) gI p1;simp only[Sem.run_bind,this,Result.andThen_ok,Sem.run_pure]
       ·exact trivial
     ·have gO:=q5 rfl;split
      ·rename_i c g jQ U;split
       ·exact trivial
       ·rename_i hv;have jR:v=jQ:=Kc hv;subst jR;have ho:=I.fresh _ _ _ O;have jT:=I.obj o _ ho U;obtain⟨p1,Y,p3,vs,e,lo,jD,p4,p5,p6,p7⟩:=jT L O;split
        ·rename_i T;have F:k+(len+n)*i.size≤g:=Kd T;have gG:len+n≤cap:=by
          have:(len+n)*i.size≤cap*i.size:=J
          exact N8 this gY
         split
         ·rename_i H' hw;have gM:Wx D o v (k+len*i.size) j=some H':=hw;obtain⟨Z,r1,r2⟩:=I.write P gM O E K;refine⟨C,Z,.slice (some ⟨L.b,L.d+k,none⟩) (len+n) cap,CM.le_refl C,r2,.sl O (J:k+(len+n)*i.size≤L.n) q2 gG (λr z=>by cases z) (λ_=>gO),.inl ?_⟩;simp only[Sem.run_bind,z1z (w':=Z) (base:=some ⟨L.b,L.d+k,none⟩) hu Q hx gG (by dsimp only;rw[X];exact r1),Result.andThen_ok,Sem.run_pure]
         ·exact trivial
        ·rename_i j0;split
         ·exact trivial
         ·rename_i hk;have jU:k=0:=Kc hk;subst jU;split
          ·exact trivial
          ·rename_i jE;have gR:len*i.size=g:=Kc jE;by_cases hc:len+n≤cap
           ·
            have jO:(len+n)*i.size≤cap*i.size:=Ki _ hc;obtain⟨Z,jV,r1,r2,r3,r4,r5,r6,r7,r8,r9⟩:=z7a P ⟨L.b,L.d+(0+len*i.size),none⟩ news.toList 0 w vs e lo jD rfl p4 (E.one K) Ab
             (λgX hj gA=>by simp at hj gA;exact p6 gX J J)
            obtain⟨gU,F⟩:=I.bump ho ⟨_,_,O⟩ U ⟨L.b,L.d,g+j.length,L.sz⟩ (Su j g c) (g+j.length) (w':=Z)
             (I.low.trans ⟨r6,r7,r8,J,λgX hj=>r4 gX (by dsimp only;have:=Y rfl;omega)⟩) J (show L.b<Z.heap.size by rw[r5];exact I.lt _ _ _ O)
             (λo' v' L' B hb=>(I.excl _ _ _ _ _ _ O B hb.symm (Y rfl)).symm)
             (λo' v' L' jX B=>r4 _ (λe'=>jX (I.excl _ _ _ _ _ _ O B e'.symm (Y rfl)).symm))
             (by
              intro L' B;rw[CM.ext_same]at B;cases B;refine⟨rfl,λ_=>Y rfl,Av,jV,e,lo,jD,r2,Av,p6,?_⟩;refine Zv.mono (CM.le_ext _ ?_ (.inl ⟨_,_,O⟩)) (p7.lay E K (J4 _) (J4 _) (.inr rfl) (λgX=>?_))
              ·cases e':C o (v+1) with
               |none=>rfl
               |some jY=>have:=I.top _ _ _ _ _ ho U _ _ e';omega
              ·rw[r9 gX];have:L.d+(0+len*i.size)+0=L.d+g:=J
               simp only[this])
            refine⟨_,Z,.slice (some ⟨L.b,L.d+0,none⟩) (len+n) cap,F,gU,?_,.inl ?_⟩
            ·exact VR.sl (L:=⟨L.b,L.d,g+j.length,L.sz⟩) (i:=0) (len:=len+n) (esz:=i.size) (room:=none) (cap:=cap) (CM.ext_same C o (v+1) ⟨L.b,L.d,g+j.length,L.sz⟩)
              Av Av hc (λr z=>by cases z) (λ_=>Av)
            ·simp only[Sem.run_bind,z1z (w':=Z) (base:=some ⟨L.b,L.d+0,none⟩) hu Q hx hc (by dsimp only;rw[X];exact r1),Result.andThen_ok,Sem.run_pure]
           ·
            have z:∃H,Sd D o v 0 (len*i.size)=some H:=by
             unfold Sd;rw[U];have hb:Nat.ble (Nat.add 0 (len*i.size)) g=true:=Ka (by show 0+len*i.size≤g;omega);simp only[K0,hb];have:∀m a,a+m≤g→∃l,Tv c a m=some l:=by
              intro m
              induction m with
              |zero=>intro a _;exact⟨[],rfl⟩
              |succ m ih =>
               intro a ha;obtain⟨x1,y1,_⟩:=p7 a J;obtain⟨l1,y2⟩:=ih (a+1) J;exact⟨x1::l1,by simp only[Tv,y1,y2]⟩
             exact this _ 0 J
            obtain⟨H,z⟩:=z;obtain⟨A,s1,s2,s3,s4⟩:=gF H z;have gg:A.size=len*i.size:=by have:=s2.length;simp at this;omega
            have jF:=grownCap_ge w (len+n) cap elem;have jG:=z5i (ty:=ty) (base:=some ⟨L.b,L.d+0,none⟩) hu hi hx J gH (by unfold Ry at gD;omega) gI s1;have j6:=z6g i.size jF;have jH:(A++news++Builtin.zeroCells zv.cells (grownCap w (len+n) cap elem-(len+n))).size=grownCap w (len+n) cap elem*i.size:=by
             rw[Mq,Mq,size_zeroCells,gK,M,gg];omega
            obtain⟨gU,F⟩:=I.bump ho ⟨_,_,O⟩ U ⟨w.heap.size,0,g+j.length,grownCap w (len+n) cap elem*i.size⟩ (Su j g c) (g+j.length)
             (w':=w.drew.alloc (.cells (A++news++Builtin.zeroCells zv.cells (grownCap w (len+n) cap elem-(len+n))) elem))
             (I.low.drew.alloc I.low.size _) (by rw[World.size_alloc,World.size_drew];omega) (by rw[World.size_alloc,World.size_drew];dsimp only;omega)
             (λo' v' L' B hb=>by have:=I.lt _ _ _ B;dsimp only at hb;omega)
             (λo' v' L' _ B=>z5x w.drew _ (I.lt _ _ _ B))
             (by
              intro L' B;rw[CM.ext_same]at B;cases B;refine⟨rfl,λ_=>I.low.size,Av,_,elem,0,0,eo w.drew _,by rw[jH];exact J4 _,λ_ _ _=>J,?_⟩;have gV:C o (v+1)=none:=by
               cases e':C o (v+1) with
               |none=>rfl
               |some jY=>have:=I.top _ _ _ _ _ ho U _ _ e';omega
              refine Zv.mono (CM.le_ext _ gV (.inl ⟨_,_,O⟩)) ?_;obtain⟨g1,g2⟩:=kr (show Tv c 0 (len*i.size)=some H by
               unfold Sd at z;rw[U]at z;dsimp only at z;split at z
               ·split at z
                ·exact z
                ·cases z
               ·cases z)
              intro gX hj;rw[get_ofList j g c gX,Kw];by_cases gA:g≤gX∧gX<g+j.length
              ·rw[J8 gA];obtain⟨a,x1,y1,y2,y3⟩:=E.get' (i:=gX-g) J;refine⟨a,y1,K a (Kg y1),x1,?_,y3⟩;rw[M0 (by rw[Mq];omega),Array.getElem?_append_right J,gg,gR];simpa using y2
              ·rw[J2 gA];have jZ:gX<len*i.size:=J
               have:=g2 gX jZ;rw[Kw]at this;obtain⟨a,x1,y1,y2,y3⟩:=s2.get' (i:=gX) J;rw[y1]at this;refine⟨a,this,s3 a (Kg y1),x1,?_,y3⟩;rw[M0 (by rw[Mq];omega),M0 J];simpa using y2)
            refine⟨_,_,.slice (some ⟨w.heap.size,0,none⟩) (len+n) (grownCap w (len+n) cap elem),F,gU,?_,.inl ?_⟩
            ·have:=VR.sl (i:=0) (len:=len+n) (esz:=i.size) (room:=none) (cap:=grownCap w (len+n) cap elem) (CM.ext_same C o (v+1) ⟨w.heap.size,0,g+j.length,grownCap w (len+n) cap elem*i.size⟩)
              Av Av jF (λr z=>by cases z) (λ_=>Av)
             simpa using this
            ·simp only[Sem.run_bind,jG,Result.andThen_ok,Sem.run_pure]
      ·exact trivial
  ·exact trivial
end
section
open Go.RowKit (Below)
def zl0{w:World}(h:G.heap=w.heap)(a:Addr):G.cell? a=w.cell? a:=by simp[World.cell?,h]
def zi4{P:Program}{C:CM}{w:World}(R:Rel G C D w){b:AV}{x:Value}(E:VR C b x){n:Nat}{l:List AV}(h:gq D g b=some (n,l)) :
  ∃A:List Value,VRs C l A∧(∀a∈l,a.one=true)∧l.length=n*g∧(Builtin.lenOf x).run P w=.ok n w ∧
   ∀m,m≤n→∀z,z.heap=w.heap→(Builtin.firstCells g m x).run P z=.ok (A.take (m*g)).toArray z:=by
 unfold gq at h;split at h
 ·cases h;cases E;exact⟨[],.nil,N,N,rfl,λm hm z _=>by simp[Builtin.firstCells]⟩
 ·cases h;cases E with
  | @emp a cap =>
   refine⟨[],.nil,N,N,rfl,λm hm z _=>?_⟩;have:m=0:=J
   subst this;simp only[Builtin.firstCells,Mn];rw[z8b P z a 0 [] rfl (λQ K=>J)];rfl
 ·rename_i o v i len j L;split at h
  ·rename_i he;have H:j=g:=Kc he;subst H;split at h
   ·rename_i l' T;cases h;cases E with
    | @sl _ _ _ _ _ _ gg cap U =>
     obtain⟨A,_,F,V,M,_,X⟩:=R.read P T U;refine⟨A,F,V,M,rfl,λm hm z hw=>?_⟩;have Y:m*j≤n*j:=Ki _ hm;have Z:A.length=n*j:=by have e1:=F.length;have e2:l.length=n*j:=M;omega
     simp only[Builtin.firstCells];refine z8b P z _ _ _ Ab (λQ K=>?_);rw[qk,zl0 hw,X Q (show Q<Nat.mul n j by show Q<n*j;omega),Lz K]
   ·cases h
  ·cases h
 ·rename_i len n';split at h
  ·rename_i I;cases h;have B:g=1:=Kc I;subst B;cases E with
   | @str _ _ s h1 F =>
    subst h1 F;rw[unpack_pack];refine⟨s.data.toList.map λb=>Value.int .u8 (b.toNat:Int),?_,?_,N,rfl,λm hm z _=>?_⟩
    ·generalize s.data.toList=q
     induction q with
     |nil=>exact .nil
     |cons b q ih=>exact .cons (.int _ _) ih
    ·intro a O;simp only[Nm]at O;obtain⟨b,_,rfl⟩:=O;rfl
    ·simp only[Builtin.firstCells,Sem.run_pure]
     congr 1
     apply Nu.1;rw[L0,Lib.extract_data];simp
  ·cases h
 ·cases h
def Pe.congr{P:Program}{f:OpF}{nx C:(Operand→Value)→Sem Next}(h:∀ρ,nx ρ=C ρ)(s:Pe P f nx):Pe P f C:=λw0 gg H w E ρ hR hρ=>by rw[←h ρ];exact s w0 gg H w E ρ hR hρ
def Zm{a:Array vT}{x y:vT}(h:a.toList=[x,y]):a=#[x,y]:=Nu.1 h
def Y6{a:Array vT}{x:vT}(h:a.toList=[x]):a=#[x]:=Nu.1 h
def zl3(P:Program)(ts:Array TypeId)(D:Array Operand)(R:TypeId):Pe P (zf2 P ts D) (λG=>do pure (.value (←Builtin.append_ ts R (D.map G)))):=by
 unfold zf2;split
 ·rename_i st T s x U E;have V:=Zm U;have F:=Zm E;subst V F;refine Pe.congr (nx:=λG=>do pure (.value (←Builtin.append_ #[st,T] R #[G s,G x]))) (λG=>N) ?_;have H:∀g,P.underlying st=some (.slice g)→∀d,P.underlying T=some d→(d=.string∨∃e,d=.slice e)→Pe P (vj P g s x) (λG=>do pure (.value (←Builtin.append_ #[st,T] R #[G s,G x]))):=by
   intro g hu d hd X;unfold vj;split
   ·rename_i i gF hi L;split
    ·rename_i Y;obtain⟨j,z⟩:=Y;refine Zu λw0 C gG w G a b M Z O=>?_
     split
     ·rename_i n l ht;split
      ·rename_i hn;have A:n≤1048576:=Kd hn;obtain⟨vs,h1,h2,h3,h4,h5⟩:=zi4 (P:=P) M O ht;have gD:vs.length=n*i.size:=by have:=h1.length;omega
       refine zl8 M hu hi j z L Z (news:=vs.toArray) ⟨d,hd,.inl ⟨X,h4,λw' hw=>?_⟩⟩ A (by simpa using h1) h2 h3;rw[h5 n (J4 _) w' hw,Kf J]
      ·exact trivial
     ·exact trivial
    ·exact Pq P _
   ·exact Pq P _
  split
  ·rename_i g k hu I;unfold zkg;split
   ·rename_i i gF hi L;split
    ·rename_i Y;obtain⟨j,z⟩:=Y;refine Zu λw0 C gG w G a b M Z O=>?_
     split
     ·rename_i n;split
      ·rename_i hn;have A:n≤1048576:=Kd hn;obtain⟨Q,gH,gg,gA,K,gB⟩:=zd8 L;rw[hi]at K;cases K;obtain⟨k1,k2⟩:=Y0 (C:=C) gA;have gC:Q.cells.size=i.size:=by have:=k1.length;simp at this;omega
       have B:VRs C (Up gF n) (Builtin.zeroCells Q.cells n).toList:=by
        unfold Builtin.zeroCells;rw[zac];exact yr k1 n
       generalize G x=px at O;cases O;exact zl8 M hu hi j z L Z (news:=Builtin.zeroCells Q.cells n) ⟨_,I,.inr ⟨⟨_,rfl⟩,rfl,A,j,Q,gg,⟨i,hi,z⟩,rfl,gC⟩⟩ A B (z3o k2 n) (by rw[z4r,gB])
      ·exact trivial
     ·exact trivial
    ·exact Pq P _
   ·exact Pq P _
  ·rename_i g e hu I;exact H g hu _ I (.inr ⟨e,rfl⟩)
  ·rename_i g hu I;exact H g hu _ I (.inl rfl)
  ·exact Pq P _
 ·exact Pq P _
def zrx(P:Program)(R:Array TypeId)(g:Array Operand)(T:TypeId):Pe P (zvo P R g) (λE=>do pure (.value (←Builtin.copy_ R T (g.map E)))):=by
 unfold zvo;split
 ·rename_i st xt s x G A;have H:=Zm G;have B:=Zm A;subst H B;refine Pe.congr (nx:=λE=>do pure (.value (←Builtin.copy_ #[st,xt] T #[E s,E x]))) (λE=>N) ?_;split
  ·rename_i U hu;split
   ·exact Pq P _
   ·rename_i j I;split
    ·rename_i V;refine Zu λw0 gB gD w E a b F z hb=>?_
     split
     ·rename_i n l ht;obtain⟨X,Y,h2,h3,K,L⟩:=zi4 (P:=P) F hb ht;have gA:X.length=n*j:=by have:=Y.length;omega
      split
      ·generalize E s=Z at z;cases z;refine Re F (x:=.int .i64 0) (.int _ _) ?_;have C:=L 0 (M6 _) w rfl;have M:Nat.min n 0=0:=Nat.min_zero n;unfold Builtin.copy_;simp only[Lk,Km,Kh,Sem.run_bind,Pv hu,Result.andThen_ok,K,T4 I,M,C,Sem.run_pure];rfl
      ·generalize E s=Z at z;cases z with
       | @emp ad cap =>
        refine Re F (x:=.int .i64 0) (.int _ _) ?_;have C:=L 0 (M6 _) w rfl;have M:Nat.min n 0=0:=Nat.min_zero n;unfold Builtin.copy_;simp only[Lk,Km,Kh,Sem.run_bind,Pv hu,Result.andThen_ok,K,T4 I,M,C,Sem.run_pure];simp[storeCells,goInt]
      ·rename_i o v i len D gg;split
       ·rename_i he;have O:D=j:=Kc he;subst O;split
        ·rename_i H' hw;generalize E s=Z at z;cases z with
         | @sl _ _ _ _ _ _ gC cap hL q1 q2 q3 =>
          have hm:Rv n len=Nat.min n len:=zfx n len;have C:=L (Nat.min n len) (Nat.min_le_left _ _) w rfl;obtain⟨w',r1,r2⟩:=F.write P hw hL (Y.take _) (λa z=>h2 a (List.mem_of_mem_take z));rw[hm]at r1 ⊢;refine⟨gB,w',.int .i64 (Int.ofNat (Nat.min n len)),CM.le_refl gB,r2,.int _ _,.inl ?_⟩;unfold Builtin.copy_;have Q:(storeCells ⟨gC.b,gC.d+i,none⟩ (X.take (Nat.min n len*D))).run P w=.ok () w':=r1;simp only[Lk,Km,Kh,Sem.run_bind,Pv hu,Result.andThen_ok,K,T4 I,C,Sem.run_pure,Q];rfl
        ·exact trivial
       ·exact trivial
      ·exact trivial
     ·exact trivial
    ·exact Pq P _
  ·exact Pq P _
 ·exact Pq P _
def zo8(D:Program)(U:Array TypeId)(g:Array Operand)(V:TypeId):Pe D (zmq D U g) (λE=>do pure (.value (←Builtin.clear_ U V (g.map E)))):=by
 unfold zmq;split
 ·rename_i st x F j;have G:=Y6 F;have z:=Y6 j;subst G z;refine Pe.congr (nx:=λE=>do pure (.value (←Builtin.clear_ #[st] V #[E x]))) (λE=>N) ?_;split
  ·rename_i X hu;split
   ·rename_i B gF hs hz;split
    ·rename_i Y;refine Ug λw0 Z gG w E a H A=>?_
     split
     ·generalize E x=px at A;cases A;refine Re H (x:=.tuple #[]) (.tup .nil) ?_;simp[Builtin.clear_,Pv hu]
     ·generalize E x=px at A;cases A with
      | @emp ad cap =>
       refine Re H (x:=.tuple #[]) (.tup .nil) ?_;simp[Builtin.clear_,Pv hu]
     ·rename_i o v i len I gg;split
      ·rename_i he;have K:I=B:=Kc he;subst K;split
       ·rename_i H' hw;generalize E x=px at A;cases A with
        | @sl _ _ _ _ _ _ gD cap hL q1 q2 q3 =>
         obtain⟨L,gH,M,O,gB,gC⟩:=zd8 hz;obtain⟨k1,k2⟩:=Y0 (C:=Z) O;obtain⟨P,Q,r2⟩:=H.write D hw hL (yr k1 len) (z3o k2 len);by_cases R:len=0
         ·subst R;have:P=w:=by
           have:(storeCells ⟨gD.b,gD.d+i,none⟩ (Uo L.cells.toList 0)).run D w=.ok () w:=rfl;rw[this]at Q;cases Q;rfl
          subst this;exact⟨Z,P,.tuple #[],CM.le_refl Z,r2,.tup .nil,.inl (by simp[Builtin.clear_,Pv hu])⟩
         ·refine⟨Z,P,.tuple #[],CM.le_refl Z,r2,.tup .nil,.inl ?_⟩;unfold Builtin.clear_;have T:(Builtin.zeroCells L.cells len).toList=Uo L.cells.toList len:=by unfold Builtin.zeroCells;exact zac _ _
          obtain⟨gA,rfl⟩:∃k,len=k+1:=⟨len-1,J⟩;simp only[Lk,Km,Sem.run_bind,Pv hu,Result.andThen_ok,M,Sem.run_pure,T,Q]
       ·exact trivial
      ·exact trivial
     ·exact trivial
    ·exact Pq D _
   ·exact Pq D _
  ·exact Pq D _
 ·exact Pq D _
def zwy(I:Program)(t K:TypeId)(x:Operand):Pe I (Wc I t x) (λz=>do pure (.value (←Builtin.len_ #[t] K #[z x]))):=by
 unfold Wc;split
 ·rename_i hu;refine Ug λE L M w z a j g=>?_
  split
  ·generalize z x=A at g;cases g with
   | @str _ _ s O P =>
    subst O P;exact Re j (x:=.int .i64 (Int.ofNat s.size)) (.int _ _) Bk
  ·exact trivial
 ·rename_i e hu;refine Ug λE L M w z a j g=>?_
  split
  ·rename_i o v i len Q F;generalize z x=A at g;cases g with
   |sl=>exact Re j (x:=.int .i64 (Int.ofNat len)) (.int _ _) Bk
  ·generalize z x=A at g;cases g;exact Re j (x:=.int .i64 0) (.int _ _) Bk
  ·generalize z x=A at g;cases g;exact Re j (x:=.int .i64 0) (.int _ _) Bk
  ·exact trivial
 ·rename_i k e hu;refine Ug λE L M w z a j g=>?_
  split
  ·generalize z x=A at g;cases g;exact Re j (x:=.int .i64 0) (.int _ _) Bk
  ·rename_i o;split
   ·rename_i G R T;generalize z x=A at g;cases g with
    | @map _ X H =>
     obtain⟨_,B,U,V⟩:=j.obj o _ (j.fresh _ _ _ H) T _ H;have C:G.length=B.size:=by have:=V.length;simpa using this
     have D:(getObj X.b).run I w=.ok (.map B R) w:=by simp[getObj,Sem.run,U]
     exact Re j (x:=.int .i64 (Int.ofNat G.length)) (.int _ _) (by simp[Builtin.len_,Pv hu,D,goInt,C])
   ·exact trivial
  ·exact trivial
 ·rename_i n e hu;refine Ug λE L M w z a j g=>?_
  exact Re j (x:=.int .i64 (Int.ofNat n)) (.int _ _) Bk
 ·exact Pq I _
def zvr(A:Program)(t B:TypeId)(x:Operand):Pe A (Xu A t x) (λz=>do pure (.value (←Builtin.cap_ #[t] B #[z x]))):=by
 unfold Xu;split
 ·rename_i e hu;refine Ug λF G H w z a j g=>?_
  split
  ·generalize z x=C at g;cases g;exact Re j (x:=.int .i64 0) (.int _ _) (by simp[Builtin.cap_,Pv hu,goInt])
  ·rename_i r;generalize z x=C at g;cases g with
   |sl _ _ _ _ D =>
    obtain⟨E,_⟩:=D r rfl;subst E;exact Re j (.int .i64 _) (by simp[Builtin.cap_,Pv hu,goInt])
  ·exact trivial
 ·exact Pq A _
def zvb{P:Program}{w:World}{a b r:AV}(h:X6 K a b=some r){u v:Value}(hu:VR I a u)(j:VR I b v) :
  ∃A,(if K then Builtin.max2 u v else Builtin.min2 u v).run P w=.ok A w∧VR I r A:=by
 unfold X6 at h;split at h
 ·rename_i k x B y;split at h
  ·rename_i z;have:=z67 z;subst this;cases hu;cases j;split at h
   ·split at h
    ·rename_i g;rw[pj]at g;cases h;refine⟨.int k y,?_,.int _ _⟩;have:y>x:=Bc
     simp[Builtin.max2,this]
    ·rename_i g;rw[pj]at g;cases h;refine⟨.int k x,?_,.int _ _⟩;have:¬y>x:=Bc
     simp[Builtin.max2,this]
   ·split at h
    ·rename_i g;rw[pj]at g;cases h;refine⟨.int k y,?_,.int _ _⟩;have:y<x:=Bc
     simp[Builtin.min2,this]
    ·rename_i g;rw[pj]at g;cases h;refine⟨.int k x,?_,.int _ _⟩;have:¬y<x:=Bc
     simp[Builtin.min2,this]
  ·cases h
 ·cases h
def ze3{P:Program}{w:World}{B:CM}{g:Bool}:∀{l:List AV} {a r:AV},Zs g a l=some r→∀{u:Value} {j:List Value},VR B a u→VRs B l j →
  ∃A,(j.foldlM (if g then Builtin.max2 else Builtin.min2) u).run P w=.ok A w∧VR B r A
 |[],a,r,h,u,[],hu,.nil=>by cases h;exact⟨u,N,hu⟩
 |b::l,a,r,h,u,v::j,hu,.cons e C=>by
  unfold Zs at h;split at h
  ·rename_i c D;obtain⟨A,E,F⟩:=zvb (P:=P) (w:=w) D hu e;obtain⟨G,H,I⟩:=ze3 (P:=P) (w:=w) h F C;refine⟨G,?_,I⟩;have z:((if g then Builtin.max2 else Builtin.min2) u v).run P w=.ok A w:=by cases g<;>simpa using E
   simp only[List.foldlM_cons,Sem.run_bind,z,Result.andThen_ok,H]
  ·cases h
def zmo(P:Program)(A:Bool)(g:Array Operand)(C:Array TypeId)(D:TypeId) :
  Pe P (U7 A g.toList) (λB=>do pure (.value (←if A then Builtin.max_ C D (g.map B) else Builtin.min_ C D (g.map B)))):=by
 intro O U V w Q B F G;unfold U7;dsimp only;cases H:(opds g.toList).run Q with
 |none=>exact trivial
 |some I =>
  cases I with
  |nil=>exact trivial
  |cons a l =>
   cases a with
   |int k n =>
    refine ud F λr K=>?_
    have E:=xz G H;have j:(g.map B).toList=g.toList.map B:=L0 ..;generalize R:g.toList.map B=X at E j;cases E with
    |cons e L =>
     obtain⟨T,z,M⟩:=ze3 (P:=P) (w:=w) K e L;refine⟨T,?_,M⟩;cases A
     ·simp only[Ml,Mz,Builtin.min_,j]at z ⊢;simp only[Sem.run_bind,z,Result.andThen_ok,Sem.run_pure]
     ·simp only[M5,Builtin.max_,j]at z ⊢;simp only[Sem.run_bind,z,Result.andThen_ok,Sem.run_pure]
   |_=>exact trivial
def zdo{H:CM}{d:TypeDesc}{k:AV}{u:Value}(hu:VR H k u):∀{E j:List (AV×AV×Nat)} {g:List MapEntry} (i:Nat),zgk d k E=some j→MR H E g →
  (Instr.findNow d u g i=some none∧MR H j g)∨(∃B y,Instr.findNow d u g i=some (some (B+i,y))∧B<g.length∧MR H j (g.eraseIdx B))
 |[],j,[],i,h,.nil=>by cases h;exact .inl ⟨rfl,.nil⟩
 |(L,M,b)::l,j,e::r,i,h,.cons z F G hm=>by
  unfold zgk at h;split at h
  ·rename_i A;cases h;exact .inr ⟨0,e.val,by simp[Instr.findNow,(uo A hu z).1],N,Fu⟩
  ·rename_i A;split at h
   ·rename_i O I;cases h;rcases zdo hu (i+1) I hm with ⟨C,D⟩|⟨B,y,C,D,K⟩
    ·exact .inl ⟨by simpa [Instr.findNow,(uo A hu z).1] using C,.cons z F G D⟩
    ·refine .inr ⟨B+1,y,?_,by simpa using D,.cons z F G K⟩;rw[show B+1+i=B+(i+1) from J];simpa [Instr.findNow,(uo A hu z).1] using C
   ·cases h
  ·cases h
def zng(K:Program)(T:Array TypeId)(z:Array Operand)(U:TypeId):Pe K (zff K T z) (λL=>do pure (.value (←Builtin.delete_ T U (z.map L)))):=by
 unfold zff;split
 ·rename_i st xt s x M C;have O:=Zm M;have D:=Zm C;subst O D;refine Pe.congr (nx:=λL=>do pure (.value (←Builtin.delete_ #[st,xt] U #[L s,L x]))) (λL=>N) ?_;split
  ·rename_i gA e hu;split
   ·rename_i d hd;obtain⟨F,_⟩:=zce hd;refine Zu λw0 Z gC w L a b G V hb=>?_
    split
    ·rename_i o;split
     ·rename_i es P hg;split
      ·rename_i gB hs;generalize L s=ps at V;cases V with
       | @map _ X E =>
        obtain⟨I,g,Y,q2⟩:=G.obj o _ (G.fresh _ _ _ E) hg _ E;have H:=G.lt _ _ _ E;have A:(getObj X.b).run K w=.ok (.map g P) w:=by simp[getObj,Sem.run,Y]
        have B:∀y,(setObj X.b y).run K w=.ok () { w with heap:=w.heap.setIfInBounds X.b y }:=by intro y;simp[setObj,Sem.run,Y]
        rcases zdo hb 0 hs q2 with ⟨Q,R⟩|⟨gg,y,Q,R,p3⟩
        ·refine⟨Z,{ w with heap:=w.heap.setIfInBounds X.b (.map g P) },.tuple #[],CM.le_refl Z,G.putObj E I _ _ ?_ (λ_ _ _ _ e=>An),.tup .nil,.inl ?_⟩
         ·intro L' j;rw[E]at j;cases j;exact⟨I,_,putObj_heap_same w _ H,R⟩
         ·unfold Builtin.delete_;simp only[Lk,Km,Kh,Sem.run_bind,Pv hu,Result.andThen_ok,A,tu hd,uc F Q,B,Sem.run_pure]
        ·refine⟨Z,{ w with heap:=w.heap.setIfInBounds X.b (.map (g.eraseIdxIfInBounds gg) P) },.tuple #[],CM.le_refl Z,G.putObj E I _ _ ?_ (λ_ _ _ _ e=>An),.tup .nil,.inl ?_⟩
         ·intro L' j;rw[E]at j;cases j;refine⟨I,_,putObj_heap_same w _ H,?_⟩;have hj:gg<g.size:=by simpa using R
          have:(g.eraseIdxIfInBounds gg).toList=g.toList.eraseIdx gg:=by
           simp[Array.eraseIdxIfInBounds,hj]
          rw[this];exact p3
         ·unfold Builtin.delete_;simp only[Lk,Km,Kh,Sem.run_bind,Pv hu,Result.andThen_ok,A,tu hd,uc F Q,M8,B,Sem.run_pure]
      ·exact trivial
     ·exact trivial
    ·exact trivial
   ·exact Pq K _
  ·exact Pq K _
 ·exact Pq K _
end
section
open Go.RowKit (Below)
def z9d{w:World}{f:Nat}(h:pg C f=true)(args:Array Value):(callFunc f args).run C w=.ok (.enter f args) w:=by
 unfold pg at h;cases g:C.funcs[f]? with
 |none=>rw[g]at h;cases h
 |some fn =>
  rw[g]at h;simp only[Jz,bne_iff_ne,ne_eq]at h;obtain⟨A,z⟩:=h;have j:fn.body≠none:=by intro e;rw[e]at z;cases z
  simp[callFunc,g,A,j]
def zwp{w:World}{gv:Value}(F:VR I E gv){vs:Array Value}(H:VRs I R vs.toList){K:Sem Next}
  (g:∀fn first cap,gv=.func fn first cap→K.run C w=(invoke (.fn fn cap) (first++vs)).run C w):Sk C G I w K (kh C E R):=by
 unfold kh;split
 ·rename_i f first cap
  split
  ·rename_i M;cases F with
   | @fn _ O _ _ j z A B L =>
    cases A with
    |same =>
     refine⟨j.toList++vs.toList++z.toList,(B.append H).append L,.inl ⟨f,rfl,?_⟩⟩;rw[g _ _ _ rfl];have:(j++vs++z)=(j.toList++vs.toList++z.toList).toArray:=N
     rw[←this];exact z9d M _
  ·exact trivial
 ·rename_i l cap;cases F with
  | @fn _ O _ _ j z A B L =>
   cases A with
   |same _ h=>exact absurd rfl (h l)
   | @yield _ Q P =>
    have D:j=#[]:=by
     have:=B.length;exact Mm (by simpa using this.symm)
    subst D;refine⟨vs.toList,H,.inr ⟨l,Q,rfl,P,?_⟩⟩;rw[g _ _ _ rfl];simp[invoke]
 ·exact trivial
theorem zru {fn : Func} (g : fn.name = "maps.clone") (j : fn.origin = "") : Extern.findNext fn = none ∧ Extern.find fn = some Extern.MapsClone.clone := by
 have z : Extern.allNextRows.lookup "maps.clone" = none := Aa
 have A : Extern.allNextRows.lookup "" = none := Aa
 have B : Extern.allGenericRows.lookup "maps.clone" = none := Aa
 have C : Extern.allTypedRows.lookup "maps.clone" = none := Aa
 have D : Extern.allRows.lookup "maps.clone" = some Extern.MapsClone.clone := Aa
 refine⟨?_,?_⟩
 ·unfold Extern.findNext;dsimp only;rw[g,j,z,A];rfl
 ·unfold Extern.find;dsimp only;rw[g,B,C,D];rfl
def zvw{P:Program}{w:World}{r:Nat}{z:Array MapEntry}(t:TypeId)(A:w.heap[r]?=some (.map z g)) :
  (Extern.MapsClone.clone #[.iface t (.map (some r))]).run P w=.ok (.iface t (.map (some w.heap.size))) (w.alloc (.map z g)):=by
 have e:Extern.MapsClone.clone #[.iface t (.map (some r))]=(getObj r >>= λo=>match o with
   |.map j g=>(_root_.Go.newObj (.map j g) >>= λn=>pure (.iface t (.map (some n))))
   | _ => stuck "maps.clone: a map expected") := rfl
 rw[e];simp[MapKept.run_getObj_map A,Result.andThen,go_sem]
def jk{P:Program}{w:World}(g:Rel G I D w){f:Nat}(j:zd9 P f=true){vs:Array Value}(K:VRs I R vs.toList) :
  Sk P G I w (callFunc f vs) (zqh D R):=by
 unfold zd9 at j;split at j
 ·rename_i fn E;simp only[Jz,Ns]at j;obtain⟨⟨L,Q⟩,T⟩:=j;obtain⟨U,V⟩:=zru L Q;have z:=run_callFunc_extern (P:=P) E (by rw[L];decide) T U V vs w;unfold zqh;split
  ·rename_i t o;split
   ·rename_i X M Y
    ·generalize F:vs.toList=l at K;cases K with
     |cons H Z =>
      cases Z;cases H with
      |iface H =>
       cases H with
       | @map _ gg O =>
        have A:vs=#[.iface t (.map (some gg.b))]:=Nu.1 F;obtain⟨q1,B,q2,q3⟩:=g.obj _ _ (g.fresh _ _ _ O) Y gg O;obtain⟨p1,p2⟩:=g.push (.map X M) (.map B M) 0 0 (λL' C=>by
         rw[CM.ext_same]at C;cases C;exact⟨g.low.size,B,eo _ _,q3.mono (CM.le_ext _ (g.next_none 0) (.inr (M7 g.nx)))⟩)
        refine⟨_,_,.iface t (.map (some w.heap.size)),p2,p1,.iface (.map (CM.ext_same _ _ _ _)),.inl ?_⟩;rw[z,A,zvw t q2];rfl
   ·exact trivial
  ·exact trivial
 ·cases j
def zmj{w:World}{t:TypeId}{g:String}{f:Nat}(h:zg9 C t g=some f)(v:Value):(method (C.types.size+Made.depth) t v g).run C w=.ok (f,v) w:=by
 unfold zg9 at h;have hd:C.types.size+Made.depth=(C.types.size+99)+1:=rfl;rw[hd];cases hi:C.info? t with
 |none=>rw[hi]at h;cases h
 |some i =>
  rw[hi]at h;dsimp only at h;cases hm:i.methods.find? (·.name==g) with
  |none=>rw[hm]at h;cases h
  |some m =>
   rw[hm]at h;dsimp only at h;split at h
   ·rename_i B;have j:m.path=#[]:=Array.isEmpty_iff.1 B;unfold method;simp only[Sem.run_bind,kw hi,Result.andThen_ok,hm,j,follow,Sem.run_pure];split at h
    ·rename_i D e z hu;cases h;simp only[z,Sem.run_bind,receiverAt,Pv hu,Result.andThen_ok,Place.get,Sem.run_pure]
    ·cases h
    ·rename_i D d A z hu;cases h;simp only[z,Sem.run_bind,receiverAt,Pv hu,Result.andThen_ok];cases d<;>first|rfl|exact absurd hu (A _)
    ·cases h
   ·cases h
def zsl(z:Program)(c:Call)(o:Oper)(ho:o.op=.call c):Pe z (bw z c) (λj=>execOp j o):=by
 have G:∀j,execOp j o=(do let d ←resolve j c o.type;invoke d.target d.args):=λj=>by simp[execOp,ho]
 refine Pe.congr (λj=>(G j).symm) ?_;unfold bw;split
 ·rename_i b hb;have H:∀j,(do let d ←resolve j c o.type;invoke d.target d.args:Sem Next)=builtin b c.argTypes o.type (c.args.map fun | .const _=>true|_=>false) (c.args.map j):=by
   intro j;simp only[resolve,hb];rfl
  refine Pe.congr (λj=>(H j).symm) ?_;split
  ·split
   ·rename_i t x I K;have L:=Y6 I;have M:=Y6 K;exact Pe.congr (λj=>by rw[L,M];simp[builtin]) (zwy z t o.type x)
   ·exact Pq z _
  ·split
   ·rename_i t x I K;have L:=Y6 I;have M:=Y6 K;exact Pe.congr (λj=>by rw[L,M];simp[builtin]) (zvr z t o.type x)
   ·exact Pq z _
  ·exact Pe.congr (λj=>Di) (zmo z true c.args c.argTypes o.type)
  ·exact Pe.congr (λj=>Di) (zmo z false c.args c.argTypes o.type)
  ·exact Pe.congr (λj=>Di) (zl3 z c.argTypes c.args o.type)
  ·exact Pe.congr (λj=>Di) (zrx z c.argTypes c.args o.type)
  ·exact Pe.congr (λj=>Di) (zo8 z c.argTypes c.args o.type)
  ·exact Pe.congr (λj=>Di) (zng z c.argTypes c.args o.type)
  ·exact Pq z _
 ·rename_i f Z;intro w0 gB gC w gD j hR A;dsimp only;split
  ·rename_i gF hg;split
   ·rename_i l F;have C:Sk z w0 gB w (do let d ←resolve j c o.type;invoke d.target d.args) (kh z gF l):=by
     refine zwp (A _ _ hg) (vs:=c.args.map j) (by rw[L0];exact xz A F) (λfn first cap B=>?_);simp only[resolve,Z,B,Deferred.ofValue,Sem.run_bind,Sem.run_pure,Result.andThen_ok]
    unfold zg1;split
    ·rename_i f';split
     ·rename_i O;have P:=jk hR O (vs:=c.args.map j) (by rw[L0];exact xz A F);have B:=A _ _ hg;generalize Q:j f=gv at B;cases B with
      | @fn _ g' _ _ l' r' R T U =>
       cases R with
       |same =>
        have V:l'=#[]:=Mm (by simpa using T.length.symm);have X:r'=#[]:=Mm (by simpa using U.length.symm);subst V X;have D:(do let d ←resolve j c o.type;invoke d.target d.args:Sem Next).run z w=(callFunc f' (c.args.map j)).run z w:=by
         simp only[resolve,Z,Q,Deferred.ofValue,Sem.run_bind,Sem.run_pure,Result.andThen_ok,invoke];simp
        unfold Sk at P ⊢;split at P
        ·exact trivial
        ·obtain⟨C',w',x,a1,a2,a3,a4⟩:=P;exact⟨C',w',x,a1,a2,a3,by rw[D];exact a4⟩
        ·rename_i t gg g;unfold zqh at g;split at g
         ·split at g<;>cases g
         ·cases g
     ·exact C
    ·exact C
   ·exact trivial
  ·exact trivial
 ·rename_i r gA hr;intro w0 gB gC w gD j hR A;dsimp only;split
  ·rename_i t v B;split
   ·rename_i f hm;split
    ·rename_i l F;split
     ·rename_i hc;have E:=A _ _ B;generalize Y:j r=pv at E;cases E with
      | @iface _ _ u hu =>
       refine⟨u::c.args.toList.map j,.cons hu (xz A F),.inl ⟨f,rfl,?_⟩⟩;have V:(#[Value.iface t u]++c.args.map j)[0]?=some (Value.iface t u):=by rw[M0 N];rfl
       have X:(#[Value.iface t u]++c.args.map j).extract 1 (#[Value.iface t u]++c.args.map j).size=c.args.map j:=N
       have e3:(#[u]++c.args.map j)=(u::c.args.toList.map j).toArray:=N
       simp only[resolve,hr,Y,Sem.run_bind,Sem.run_pure,Result.andThen_ok,invoke,V,X,callMethod,run_program,zmj hm u,e3];exact z9d hc _
     ·exact trivial
    ·exact trivial
   ·exact trivial
  ·exact trivial
def bh(P:Program)(o:Oper):Pe P (Pp P o.op) (λj=>execOp j o):=by
 generalize g:o.op=op;cases op with
 |move x=>exact Pe.congr (λj=>Ah) (zir P x)
 |assign x=>exact Pe.congr (λj=>Ah) (zir P x)
 |pick c a b=>exact Pe.congr (λj=>Ah) (zsc P c a b)
 |alloc t=>exact Pe.congr (λj=>by simp only[execOp,g]) (zoz P t)
 |box t x=>exact Pe.congr (λj=>Ah) (zto P t x)
 |build t z=>exact Pe.congr (λj=>Ah) (zoc P t z)
 |buildSlice t n z=>exact Pe.congr (λj=>Ah) (zef P t n z)
 |load t a=>exact Pe.congr (λj=>Ah) (zrs P t a)
 |store t a x=>exact Pe.congr (λj=>Ah) (zou P t a x)
 |nilCheck x=>exact zhe P x o g
 |binOp op t x y A=>exact zt4 P op t A x y o g
 |unOp op t x=>exact dp P op t x o g
 |convert s d x=>exact Pe.congr (λj=>Ah) (zrh P s d x)
 |makeInterface t x=>exact Pe.congr (λj=>Ah) (zk6 P t x)
 |makeFunc f a b =>
  cases f with
  |yield l=>exact Pq P _
  |_=>exact Pe.congr (λj=>Ah) (zmc P _ a b (λl e=>An))
 |makeMap t r=>exact Pe.congr (λj=>Ah) (zoy P t r)
 |makeSlice t l c=>exact Pe.congr (λj=>Ah) (zjs P t l c)
 |slice t x a b c=>exact Pe.congr (λj=>Ah) (zp8 P t x a b c)
 |fieldAddr t x f=>exact Pe.congr (λj=>Ah) (zgg P t x f)
 |field t x f=>exact Pe.congr (λj=>Ah) (znr P t x f)
 |indexAddr t x i=>exact Pe.congr (λj=>Ah) (zfj P t x i)
 |index t x i=>exact Pe.congr (λj=>Ah) (znn P t x i)
 |lookup t x i ok=>exact Pe.congr (λj=>Ah) (zku P t x i ok)
 |mapUpdate t m k x=>exact Pe.congr (λj=>Ah) (z99 P t m k x)
 |insert t m k x=>exact Pe.congr (λj=>Ah) (z99 P t m k x)
 |range t x=>exact Pe.congr (λj=>Ah) (zof P t x)
 |next B s=>exact Pe.congr (λj=>Ah) (zrz P B s o.type)
 |typeAssert x t a ok=>exact Pe.congr (λj=>Ah) (zmr P x t a ok)
 |extract t i=>exact Pe.congr (λj=>Ah) (zk0 P t i)
 |call c=>exact zsl P c o g
 |_=>exact Pq P _
end
section
open Go.RowKit (Below)
def zne(P:Program)(A:World)(F:CM)(w:World)(t:Tgt)(B:List Value)(v:AV)(C:Heap):Prop :=
 match t with
 |.fn f=>∀cs,∃g w' j z,F.le g∧Rel A g C w'∧VR g v j∧Steps P (lone (Frame.enter P f B.toArray .normal) cs w) (lone z cs w')∧z.fn=f∧z.leaving P w' (.returned j)
 |.yield l=>∀E,F l 0=some E→∀c cs,∃g w' j f D a b,F.le g∧Rel A g C w'∧VR g v j∧(Instr.yield E.b B.toArray).run P w=.ok (.round E.b f D a b) w ∧
   Steps P (lone (Frame.round E.b f D a b .normal) (c::cs) w) (lone (c.finish j) cs w')
def ct(P:Program)(c:R9):Prop :=
 ∀j B C w t g z v A,Rel j B C w→VRs B g z→c t g C=.ok v A→zne P j B w t z v A
def zui(P:Program):ct P noO:=λ_ _ _ _ _ _ _ _ _ _ _ h=>Af
noncomputable def Qf(d:Option Tmp)(a:AV)(E:Tr AV):Tr AV:=match d with
 |none=>E
 |some d=>P7 a (O1 d) E
def z9o{n:Nat}{d:Option Tmp}{p:PutF}(h:Sf n d=some p):(∀a E,p.run a E=Qf d a E)∧∀t,d=some t→t<n:=by
 unfold Sf at h;split at h
 ·cases h;exact⟨λ_ _=>rfl,λt e=>An⟩
 ·split at h
  ·rename_i hd;cases h;exact⟨λ_ _=>rfl,λt e=>by cases e;exact hd⟩
  ·cases h
def ER.put{n:Nat}{gA:CM}{E:Tr AV}{a:Act}(h:ER n gA E a.tmps){d:Option Tmp}(hd:∀t,d=some t→t<n){C:AV}{x:Value}(hv:VR gA C x):ER n gA (Qf d C E) (a.put d x).tmps:=by
 obtain⟨h1,h2,h3⟩:=h;cases d with
 |none=>exact⟨h1,h2,h3⟩
 |some d =>
  have gg:(d:Nat)<n:=hd d rfl;refine⟨by show (a.tmps.setIfInBounds d x).size=n;simpa using h1,h2,λt ht=>?_⟩;show OVR gA (On (O1 t) (P7 C (O1 d) E)) ((a.tmps.setIfInBounds d x).getD t undef);rw[zgq];by_cases e:t=d
  ·subst e;rw[J8 rfl];have:(a.tmps.setIfInBounds t x).getD t undef=x:=by
    rw[K3,Array.getElem?_setIfInBounds_self_of_lt (show t<a.tmps.size by rw[h1];exact gg)];rfl
   rw[this];exact hv
  ·rw[J2 e];have:(a.tmps.setIfInBounds d x).getD t undef=a.tmps.getD t undef:=by
    rw[K3,Array.getElem?_setIfInBounds_ne (λq=>e q.symm),←K3]
   rw[this];exact h3 t ht
def zgu{n:Nat}{E:Tr AV}(h:ER n I E vR)(ops:Array Oper)(o:Oper):(Tw ops o).run E=Region.wanted o (yielded ops vR):=by
 obtain⟨H,K,L⟩:=h;unfold Tw Region.wanted;cases O:o.guard with
 |none=>rfl
 |some M =>
  obtain⟨Q,A⟩:=M;dsimp only;unfold yielded;cases hd:(ops[Q]?).bind (·.dst) with
  |none=>rfl
  |some d =>
   dsimp only[Option.bind];split
   ·rename_i j;dsimp only;have g:=L d j;by_cases B:d<vR.size
    ·have z:vR[d]?=some vR[d]:=Lt B;have D:vR.getD d undef=vR[d]:=by rw[K3,z];rfl
     rw[D]at g;rw[z];generalize vR[d]=v at g;cases C:On (O1 d) E with
     |none =>
      rw[C]at g;have:v=undef:=g;subst this;rfl
     |some F =>
      rw[C]at g;have G:VR I F v:=g;cases G with
      |bool b=>cases b<;>cases A<;>rfl
      |_=>rfl
    ·have z:vR[d]?=none:=Nq (Nat.le_of_not_lt B);have D:vR.getD d undef=undef:=by rw[K3,z];rfl
     rw[D]at g;rw[z];cases C:On (O1 d) E with
     |none=>rfl
     |some F =>
      rw[C]at g;have G:VR I F undef:=g;cases G;rfl
   ·rename_i j;have z:vR[d]?=none:=Nq (by rw[H];exact K4 K (N6 (Nat.lt_of_not_le j)));rw[z];rfl
section steps
variable {P : Program} {b : Frame} {a : Act} {k : List Item} {cs : List Frame} {w w' : World} {ops : Array Oper}
def zrd{i:Nat}{rest:List Nat}{o:Oper}(g:ops[i]?=some o)(v:Value):(b.atR a (.inRegion ops (i::rest)::k)).finish v=b.atR (a.put o.dst v) (.inRegion ops rest::k):=by
 rw[Frame.finish_atR,g];rfl
def zr0{i:Nat}{rest:List Nat}{o:Oper}{x:Value}(g:ops[i]?=some o)(hw:Region.wanted o (yielded ops a.tmps)=true)(hd:∀c,o.op≠.defer c)
  (j:(execOp a.eval o).run P w=.ok (.value x) w') :
  step P (lone (b.atR a (.inRegion ops (i::rest)::k)) cs w)=.next (lone (b.atR (a.put o.dst x) (.inRegion ops rest::k)) cs w'):=by
 refine step_lone_go ?_;rw[stepGR_op (b:=b) (k:=k) (cs:=cs) g hw,Oper.semAt_eq _ _ _ hd,←zrd g];simp[stepG.apply,Sem.runT_eq,j]
def fh{i:Nat}{rest:List Nat}{o:Oper}(g:ops[i]?=some o)(hw:Region.wanted o (yielded ops a.tmps)=true)(hd:∀c,o.op≠.defer c)
  (j:(execOp a.eval o).run P w=.ok .skip w') :
  step P (lone (b.atR a (.inRegion ops (i::rest)::k)) cs w)=.next (lone (b.atR (a.put o.dst undef) (.inRegion ops rest::k)) cs w'):=by
 refine step_lone_go ?_;rw[stepGR_op (b:=b) (k:=k) (cs:=cs) g hw,Oper.semAt_eq _ _ _ hd,←zrd g];simp[stepG.apply,Sem.runT_eq,j]
def zre{i:Nat}{rest:List Nat}{o:Oper}{f:Nat}(g:ops[i]?=some o)(hw:Region.wanted o (yielded ops a.tmps)=true)(hd:∀c,o.op≠.defer c)
  (j:(execOp a.eval o).run P w=.ok (.enter f vR) w') :
  step P (lone (b.atR a (.inRegion ops (i::rest)::k)) cs w)=.next (lone (Frame.enter P f vR .normal) (b.atR a (.inRegion ops (i::rest)::k)::cs) w'):=by
 refine step_lone_go ?_;rw[stepGR_op (b:=b) (k:=k) (cs:=cs) g hw,Oper.semAt_eq _ _ _ hd];simp[stepG.apply,Sem.runT_eq,j,Frame.atR]
def ag{i:Nat}{rest:List Nat}{o:Oper}{l f:Nat}{x y:Code}(g:ops[i]?=some o)(hw:Region.wanted o (yielded ops a.tmps)=true)(hd:∀c,o.op≠.defer c)
  (j:(execOp a.eval o).run P w=.ok (.round l f vR x y) w') :
  step P (lone (b.atR a (.inRegion ops (i::rest)::k)) cs w)=.next (lone (Frame.round l f vR x y .normal) (b.atR a (.inRegion ops (i::rest)::k)::cs) w'):=by
 refine step_lone_go ?_;rw[stepGR_op (b:=b) (k:=k) (cs:=cs) g hw,Oper.semAt_eq _ _ _ hd];simp[stepG.apply,Sem.runT_eq,j]
end steps
def zfh{P:Program}{o:Oper}{E:Tr AV}{H:Heap}(h:(Pp P o.op).run E H≠.no):∀c,o.op≠.defer c:=by
 intro c e;rw[e]at h;exact h rfl
def zgs{P:Program}{c:R9}(hc:ct P c){n:Nat}{ops:Array Oper}{i:Nat}{o:Oper}(K:ops[i]?=some o){H:Heap}{w:World}{E:Tr AV}{a:Act}
  (hR:Rel G I H w) (hE:ER n I E a.tmps) (h:(Sg P n ops o).run c E H=.ok O D) (b:Frame) (rest:List Nat) (k:List Item) (cs:List Frame) :
  ∃C w' x av,I.le C∧Rel G C D w'∧VR C av x∧O=Qf o.dst av E∧(∀t,o.dst=some t→t<n) ∧
   Steps P (lone (b.atR a (.inRegion ops (i::rest)::k)) cs w) (lone (b.atR (a.put o.dst x) (.inRegion ops rest::k)) cs w'):=by
 unfold Sg at h;cases hp:Sf n o.dst with
 |none=>rw[hp]at h;cases h
 |some p =>
  rw[hp]at h;dsimp only at h;obtain⟨g,z⟩:=z9o hp;have Y:=zgu hE ops o;cases U:(Tw ops o).run E with
  |false =>
   rw[U]at h Y;cases h;refine⟨I,w,undef,Tc,CM.le_refl I,hR,.tup .nil,g _ _,z,.one ?_⟩;have:=stepR_op_skip (P:=P) (b:=b) (a:=a) (k:=k) (cs:=cs) (w:=w) (ops:=ops) (i:=i) (rest:=rest) (by rw[K];simpa using Y.symm);rw[this,K];rfl
  |true =>
   rw[U]at h Y;dsimp only at h;have hw:Region.wanted o (yielded ops a.tmps)=true:=Y.symm;have Z:=bh P o G I H w E a.eval hR (z8f hE);cases V:(Pp P o.op).run E H with
   |no=>rw[V]at h;cases h
   |val v H2 =>
    rw[V]at h Z;cases h;have A:=zfh (P:=P) (o:=o) (E:=E) (H:=H) (by rw[V];intro e;cases e);obtain⟨C,w',x,Q,R,T,F⟩:=Z;rcases F with F|⟨F,rfl⟩
    ·exact⟨C,w',x,v,Q,R,T,g _ _,z,.one (zr0 K hw A F)⟩
    ·exact⟨C,w',undef,v,Q,R,T,g _ _,z,.one (fh K hw A F)⟩
   |call t X =>
    rw[V]at h Z;dsimp only at h;have A:=zfh (P:=P) (o:=o) (E:=E) (H:=H) (by rw[V];intro e;cases e);cases L:c t X H with
    |no=>rw[L]at h;cases h
    |ok v H2 =>
     rw[L]at h;cases h;obtain⟨vs,hv,M⟩:=Z;have B:=hc _ _ _ _ _ _ _ _ _ hR hv L;rcases M with ⟨f,rfl,j⟩|⟨l,gg,rfl,hL,j⟩
     ·obtain⟨C,w',v',fr,Q,R,T,F,h5,h6⟩:=B (b.atR a (.inRegion ops (i::rest)::k)::cs);refine⟨C,w',v',v,Q,R,T,g _ _,z,.head (zre K hw A j) (Steps.trans F (.one ?_))⟩;rw[step_leave_returned h6,zrd K]
     ·obtain⟨C,w',v',f,tm,x,y,Q,R,T,F,h5⟩:=B gg hL (b.atR a (.inRegion ops (i::rest)::k)) cs;rw[F]at j;refine⟨C,w',v',v,Q,R,T,g _ _,z,.head (ag K hw A j) ?_⟩;rw[←zrd K];exact h5
def zm5{P:Program}{c:R9}(K:ct P c){n:Nat}{ops:Array Oper}(b:Frame)(k:List Item)(cs:List Frame):∀(l:List Oper) (i:Nat),ops.toList.drop i=l →
  ∀{j:World} {C:CM} {L z:Heap} {w:World} {M A:Tr AV} {a:Act},Rel j C L w→ER n C M a.tmps→(js P n ops l).run c M L=.ok A z →
  ∃D w' E,C.le D∧Rel j D z w'∧ER n D A E.tmps∧E.defers=a.defers ∧
   Steps P (lone (b.atR a (.inRegion ops (List.range' i l.length)::k)) cs w) (lone (b.atR E (.inRegion ops []::k)) cs w')
 |[],i,g,j,C,L,z,w,M,A,a,F,B,h=>by
  cases h;exact⟨C,w,a,CM.le_refl C,F,B,rfl,.refl _ _⟩
 |o::l,i,g,j,C,L,z,w,M,A,a,F,B,h=>by
  have hi:i<ops.toList.length:=by
   rcases Mw i ops.toList.length with G|G
   ·exact G
   ·rw[List.drop_eq_nil_of_le G]at g;cases g
  rw[Lh hi]at g;injection g with Q g
  have H:ops[i]?=some o:=by rw[←Q];simp at hi ⊢
  unfold js at h;dsimp only at h;cases I:(Sg P n ops o).run c M L with
  |no=>rw[I]at h;cases h
  |ok E1 H1 =>
   rw[I]at h;dsimp only at h;obtain⟨C1,w1,x,av,O,R,T,U,V,X⟩:=zgs K H F B I b (List.range' (i+1) l.length) k cs;subst U;obtain⟨Y,Z,a2,r1,r2,r3,r4,r5⟩:=zm5 K b k cs l (i+1) g (a:=a.put o.dst x) R ((B.mono O).put V T) h;refine⟨Y,Z,a2,CM.le_trans O r1,r2,r3,?_,?_⟩
   ·rw[r4];cases o.dst<;>rfl
   ·rw[show (o::l).length=l.length+1 from rfl,List.range'_succ];exact Steps.trans X r5
end
section
def Td(g:List Nat)(E' E:Tr AV):Prop:=∀t∈g,t≤Ry→On (O1 t) E'=On (O1 t) E
def ef{x:Operand}{E E':Tr AV}(h:Td (vu [x]) E' E):(O8 x).run E'=(O8 x).run E:=by
 cases x with
 |tmp t =>
  unfold O8;dsimp only;split
  ·rename_i g;dsimp only;rw[h t (by simp[vu]) (Kd g)]
  ·rfl
 |const v=>unfold O8;dsimp only;split<;>rfl
 |func f=>rfl
 |global j=>rfl
def Td.opds:∀{l:List Operand} {E E':Tr AV},Td (vu l) E' E→∀x∈l,(O8 x).run E'=(O8 x).run E
 |[],_,_,_,x,hx=>by cases hx
 |y::l,E,E',h,x,hx=>by
  rcases J9.1 hx with rfl|hx
  ·refine ef (λt ht=>h t ?_);cases x<;>simp_all [vu]
  ·refine Td.opds (l:=l) (λt ht=>h t ?_) x hx;cases y<;>simp_all [vu]
section cong
variable {E E' : Tr AV} {H : Heap}
def opds_cong:∀{l:List Operand},(∀x∈l,(O8 x).run E'=(O8 x).run E)→(opds l).run E'=(opds l).run E
 |[],_=>rfl
 |x::l,h=>by
  simp only[opds];rw[h x N,opds_cong (λy g=>h y A1)]
def Vb{x:Operand}{f:Heap→AV→OR}(h:(O8 x).run E'=(O8 x).run E):(Ro x f).run E' H=(Ro x f).run E H:=by
 simp only[Ro];rw[h]
def Zc{x y:Operand}{f:Heap→AV→AV→OR}(h:(O8 x).run E'=(O8 x).run E)(k:(O8 y).run E'=(O8 y).run E):(Uq x y f).run E' H=(Uq x y f).run E H:=by
 simp only[Uq];rw[h,k]
def zft{x:Option Operand}(h:∀y,x=some y→(O8 y).run E'=(O8 y).run E):(Rp x).run E'=(Rp x).run E:=by
 cases x with
 |none=>rfl
 |some y=>simp only[Rp];rw[h y rfl]
def fillA_cong:∀{g:List Part} {j:List AV},(∀p∈g,p.v.run E'=p.v.run E)→aq j g E'=aq j g E
 |[],_,_=>rfl
 |p::g,j,h=>by
  simp only[aq];rw[h p N];split
  ·rfl
  ·split
   ·rfl
   ·split
    ·split
     ·exact fillA_cong (λq z=>h q Al)
     ·rfl
    ·rfl
def z6s{g:Nat→Option (Nat×Nat)}:∀{l:List (Nat×Operand)} {z:List Part},ju g l=some z→(∀x∈l.map (·.2),(O8 x).run E'=(O8 x).run E)→∀p∈z,p.v.run E'=p.v.run E
 |[],z,h,_,p,j=>by cases h;cases j
 |(i,x)::l,z,h,A,p,j=>by
  simp only[ju]at h;split at h
  ·cases h
  ·split at h
   ·cases h
   ·rename_i r C;cases h;rcases J9.1 j with rfl|j
    ·exact A x N
    ·exact z6s C (λy B=>A y (by simp at B ⊢;exact .inr B)) p j
end cong
def zsk{c:Call}{E E':Tr AV}{H:Heap}(h:∀x∈c.operands.toList,(O8 x).run E'=(O8 x).run E):(bw C c).run E' H=(bw C c).run E H:=by
 have g:∀x∈c.args.toList,(O8 x).run E'=(O8 x).run E:=λx z=>h x (by simp[Call.operands]at z ⊢;exact .inr z)
 unfold bw;split
 ·split
  ·split
   ·rename_i q;rw[q]at g;unfold Wc;split<;>first|rfl|exact Vb (g _ N)
   ·rfl
  ·split
   ·rename_i q;rw[q]at g;unfold Xu;split<;>first|rfl|exact Vb (g _ N)
   ·rfl
  ·simp only[U7];rw[opds_cong g]
  ·simp only[U7];rw[opds_cong g]
  ·unfold zf2;split
   ·rename_i q;rw[q]at g;split
    ·unfold zkg;split
     ·split
      ·exact Zc (g _ N) (g _ N)
      ·rfl
     ·rfl
    ·unfold vj;split
     ·split
      ·exact Zc (g _ N) (g _ N)
      ·rfl
     ·rfl
    ·unfold vj;split
     ·split
      ·exact Zc (g _ N) (g _ N)
      ·rfl
     ·rfl
    ·rfl
   ·rfl
  ·unfold zvo;split
   ·rename_i q;rw[q]at g;split
    ·split
     ·rfl
     ·split
      ·exact Zc (g _ N) (g _ N)
      ·rfl
    ·rfl
   ·rfl
  ·unfold zmq;split
   ·rename_i q;rw[q]at g;split
    ·split
     ·split
      ·exact Vb (g _ N)
      ·rfl
     ·rfl
    ·rfl
   ·rfl
  ·unfold zff;split
   ·rename_i q;rw[q]at g;split
    ·split
     ·exact Zc (g _ N) (g _ N)
     ·rfl
    ·rfl
   ·rfl
  ·rfl
 ·rename_i f q;have j:(O8 f).run E'=(O8 f).run E:=h f (by simp[Call.operands,q]);dsimp only;rw[j,opds_cong g]
 ·rename_i r A q;have j:(O8 r).run E'=(O8 r).run E:=h r (by simp[Call.operands,q]);dsimp only;rw[j,opds_cong g]
def zgd{o:Op}{E E':Tr AV}{H:Heap}(h:∀x∈o.operands.toList,(O8 x).run E'=(O8 x).run E):(Pp C o).run E' H=(Pp C o).run E H:=by
 unfold Pp;split
 ·exact Vb (h _ Ad)
 ·exact Vb (h _ Ad)
 ·rename_i c a b;dsimp only;rw[h c Ad,h a Ad,h b Ad]
 ·split<;>rfl
 ·exact Vb (h _ Ad)
 ·rename_i t g;have z:∀x∈g.toList.map (·.2),(O8 x).run E'=(O8 x).run E:=λx j=>h x Ed
  unfold zh4;split
  ·rfl
  ·split
   ·split
    ·rfl
    ·split
     ·rfl
     ·rename_i q;dsimp only;rw[fillA_cong (z6s q z)]
   ·split
    ·rfl
    ·split
     ·rfl
     ·rename_i q;dsimp only;rw[fillA_cong (z6s q z)]
   ·rfl
 ·rename_i t len g;have z:∀x∈g.toList.map (·.2),(O8 x).run E'=(O8 x).run E:=λx j=>h x Ed
  unfold uq;split
  ·split
   ·rfl
   ·split
    ·rfl
    ·split
     ·split
      ·rfl
      ·rename_i q;dsimp only;rw[fillA_cong (z6s q z)]
     ·rfl
  ·rfl
 ·unfold znh;split<;>first|rfl|exact Vb (h _ Ad)
 ·unfold zkv;split<;>first|rfl|exact Zc (h _ Ad) (h _ Ad)
 ·exact Vb (h _ Ad)
 ·exact Zc (h _ Ad) (h _ Ad)
 ·exact Vb (h _ Ad)
 ·unfold W6;split
  ·exact Vb (h _ Ad)
  ·split<;>first|rfl|exact Vb (h _ Ad)
  ·exact Vb (h _ Ad)
  ·split<;>first|rfl|exact Vb (h _ Ad)
  ·rfl
 ·unfold z8d;split<;>first|rfl|exact Vb (h _ Ad)
 ·rename_i f first cap
  split
  ·rfl
  ·simp only[zbc];rw[opds_cong (l:=first.toList) (λx j=>h x (by simp[Op.operands]at j ⊢;exact .inl j)),opds_cong (l:=cap.toList) (λx j=>h x (by simp[Op.operands]at j ⊢;exact .inr j))]
 ·unfold te;split
  ·rfl
  ·split<;>first|rfl|exact Vb (h _ Ad)
 ·unfold vy;split
  ·split
   ·rfl
   ·split
    ·rfl
    ·split
     ·exact Zc (h _ Ad) (h _ Ad)
     ·rfl
  ·rfl
 ·rename_i t x F hi G;have A:=h x Ad;have B:(Rp F).run E'=(Rp F).run E:=zft (λy e=>h y Gl);have D:(Rp hi).run E'=(Rp hi).run E:=zft (λy e=>h y Gl);have I:(Rp G).run E'=(Rp G).run E:=zft (λy e=>h y Gl);unfold ny;split
  ·split
   ·rfl
   ·dsimp only;rw[A,B,D]
  ·split
   ·rfl
   ·split
    ·rfl
    ·dsimp only;rw[A,B,D,I]
  ·split
   ·rfl
   ·split
    ·rfl
    ·dsimp only;rw[A,B,D,I]
  ·rfl
 ·unfold z4m;split
  ·split
   ·rfl
   ·split<;>first|rfl|exact Vb (h _ Ad)
  ·rfl
 ·unfold zg3;split
  ·split
   ·rfl
   ·split<;>first|rfl|exact Vb (h _ Ad)
  ·rfl
 ·unfold z4i;split
  ·split
   ·rfl
   ·exact Zc (h _ Ad) (h _ Ad)
  ·split
   ·rfl
   ·exact Zc (h _ Ad) (h _ Ad)
  ·rfl
 ·unfold zfp;split
  ·exact Zc (h _ Ad) (h _ Ad)
  ·split
   ·exact Zc (h _ Ad) (h _ Ad)
   ·rfl
  ·rfl
 ·unfold yc;split
  ·split
   ·exact Zc (h _ Ad) (h _ Ad)
   ·rfl
  ·rfl
 ·rename_i t m k x;unfold z4j;split
  ·split
   ·dsimp only;rw[h m Ad,h k Ad,h x Ad]
   ·rfl
  ·rfl
 ·rename_i t m k x;unfold z4j;split
  ·split
   ·dsimp only;rw[h m Ad,h k Ad,h x Ad]
   ·rfl
  ·rfl
 ·unfold rangeF;split<;>first|rfl|exact Vb (h _ Ad)
 ·unfold zvq;split<;>first|rfl|exact Vb (h _ Ad)
 ·unfold yx;split
  ·rfl
  ·split
   ·rfl
   ·exact Vb (h _ Ad)
  ·rfl
 ·exact Vb (h _ Ad)
 ·exact zsk (λx j=>h x Ed)
 ·rfl
def us{ops:Array Oper}{o:Oper}{E E':Tr AV}(h:Td (Vq ops o) E' E):(Tw ops o).run E'=(Tw ops o).run E:=by
 unfold Tw;split
 ·rfl
 ·rename_i A j z;split
  ·rfl
  ·rename_i d hd;split
   ·rename_i g;dsimp only;rw[h d (by simp[Vq,z,hd]) g]
   ·rfl
end
inductive QR (H H2:Heap):OR→OR→Prop where
 |no:QR H H2 .no .no
 |val (v:AV):QR H H2 (.val v H) (.val v H2)
def Ui(j:OpF):Prop:=∀z A g,QR A g (j.run z A) (j.run z g)
inductive RR (H:Heap):OR→Prop where
 |no:RR H .no
 |val (v:AV):RR H (.val v H)
def Yg(j:OpF):Prop:=∀z g,RR g (j.run z g)
def Ui.reads{F:OpF}(h:Ui F):Yg F:=λE H=>by
 have:=h E H H;generalize F.run E H=r at this;cases this with
 |no=>exact .no
 |val v=>exact .val v
def quiet_stuck:Ui Pk:=λ_ _ _=>.no
def reads_stuck:Yg Pk:=λ_ _=>.no
def QR.ret1{H H2:Heap}(o:Option AV):QR H H2 (ret1 H o) (Sv.ret1 H2 o):=by cases o<;>constructor
def RR.ret1{H:Heap}(o:Option AV):RR H (Sv.ret1 H o):=by cases o<;>constructor
def X2{x:Operand}{f:Heap→AV→OR}(h:∀a j g,QR j g (f j a) (f g a)):Ui (Ro x f):=λz j g=>by
 simp only[Ro];cases (O8 x).run z with
 |none=>exact .no
 |some a=>exact h a j g
def z5d{x y:Operand}{f:Heap→AV→AV→OR}(h:∀a b j g,QR j g (f j a b) (f g a b)):Ui (Uq x y f):=λz j g=>by
 simp only[Uq];cases (O8 x).run z with
 |none=>exact .no
 |some a =>
  cases (O8 y).run z with
  |none=>exact .no
  |some b=>exact h a b j g
def z4n{x:Operand}{f:Heap→AV→OR}(h:∀a g,RR g (f g a)):Yg (Ro x f):=λj g=>by
 simp only[Ro];cases (O8 x).run j with
 |none=>exact .no
 |some a=>exact h a g
def zld{x y:Operand}{f:Heap→AV→AV→OR}(h:∀a b g,RR g (f g a b)):Yg (Uq x y f):=λj g=>by
 simp only[Uq];cases (O8 x).run j with
 |none=>exact .no
 |some a =>
  cases (O8 y).run j with
  |none=>exact .no
  |some b=>exact h a b g
def zoo(z:Program)(t:TypeId)(g:Array (Nat×Operand)):Ui (zh4 z t g):=by
 unfold zh4;split
 ·exact quiet_stuck
 ·split
  ·split
   ·exact quiet_stuck
   ·split
    ·exact quiet_stuck
    ·intro A B j;dsimp only;split
     ·exact .val _
     ·exact .no
  ·split
   ·exact quiet_stuck
   ·split
    ·exact quiet_stuck
    ·intro A B j;dsimp only;split
     ·exact .val _
     ·exact .no
  ·exact quiet_stuck
def zhj(j g:Heap)(a:AV):QR j g (zn j a) (zn g a):=by
 unfold zn;split<;>constructor
def zk8(g:Program)(t:TypeId)(x:Operand):Ui (z8d g t x):=by
 unfold z8d;split
 ·exact quiet_stuck
 ·exact X2 λa z j=>.val _
 ·exact quiet_stuck
def zl4(f:Fn)(x y:Array Operand):Ui (zbc f x y):=λj z g=>by
 simp only[zbc];split
 ·split<;>constructor
 ·exact .no
def zfl(g:Program)(s:TypeId)(x:Operand)(f:Nat):Ui (z4m g s x f):=by
 unfold z4m;split
 ·split
  ·exact quiet_stuck
  ·split
   ·exact quiet_stuck
   ·exact quiet_stuck
   ·exact X2 λa z j=>Bo
 ·exact quiet_stuck
def znl(g:Program)(s:TypeId)(x:Operand)(f:Nat):Ui (zg3 g s x f):=by
 unfold zg3;split
 ·split
  ·exact quiet_stuck
  ·split
   ·exact X2 λa z j=>by
     split
     ·exact .ret1 _
     ·exact .no
   ·exact quiet_stuck
 ·exact quiet_stuck
def zfo(A:Program)(t:TypeId)(x g:Operand):Ui (z4i A t x g):=by
 unfold z4i;split
 ·split
  ·exact quiet_stuck
  ·refine z5d λa b B j=>?_
   split
   ·rename_i len z _ _ n;cases Nat.blt n len
    ·exact .no
    ·dsimp only;split<;>constructor
   ·exact .no
 ·split
  ·exact quiet_stuck
  ·refine z5d λa b B j=>?_
   split
   ·split<;>constructor
   ·exact .no
 ·exact quiet_stuck
def zo7(z:Program)(t:TypeId)(x g:Operand):Ui (zfp z t x g):=by
 unfold zfp;split
 ·refine z5d λa b A j=>?_
  split
  ·split<;>constructor
  ·exact .no
 ·split
  ·refine z5d λa b A j=>?_
   split
   ·split
    ·exact .ret1 _
    ·exact .no
   ·exact .no
  ·exact quiet_stuck
 ·exact quiet_stuck
def zmw(g:Program)(x:Operand)(t:TypeId)(ok:Bool):Ui (yx g x t ok):=by
 unfold yx;split
 ·exact quiet_stuck
 ·split
  ·exact quiet_stuck
  ·refine X2 λa z j=>?_
   split
   ·cases ok<;>constructor
   ·split
    ·constructor
    ·cases ok<;>constructor
   ·exact .no
 ·exact quiet_stuck
def zjh(x:Operand)(i:Nat):Ui (zel x i):=X2 λa j g=>by
 split
 ·exact .ret1 _
 ·exact .no
def zf5{t:TypeId}{x:Operand}{g hi j:Option Operand}(h:zmf C t=false):Ui (ny C t x g hi j):=by
 unfold ny;split
 ·split
  ·exact quiet_stuck
  ·intro A B z;dsimp only;split
   ·split
    ·split<;>constructor
    ·exact .no
   ·exact .no
 ·split
  ·exact quiet_stuck
  ·split
   ·exact quiet_stuck
   ·intro A B z;dsimp only;split
    ·exact .ret1 _
    ·split<;>constructor
    ·split<;>constructor
    ·exact .no
 ·rename_i q;simp[zmf,q]at h
 ·exact quiet_stuck
def zot(A:Program)(t:TypeId)(x:Operand)(j hi z:Option Operand):Yg (ny A t x j hi z):=by
 cases g:zmf A t
 ·exact (zf5 g).reads
 ·unfold zmf at g;unfold ny;split at g
  ·rename_i q;rw[q];dsimp only;split
   ·exact reads_stuck
   ·split
    ·exact reads_stuck
    ·intro B C;dsimp only;split
     ·split
      ·split
       ·split
        ·exact .ret1 _
        ·exact .no
       ·exact .no
      ·exact .no
     ·exact .no
  ·cases g
def zrw{s d:TypeId}{x:Operand}(hd:we C d=false)(g:we C s=false):Ui (W6 C s d x):=by
 unfold W6;split
 ·exact X2 λa z j=>Bo
 ·rename_i q _;simp[we,q]at g
 ·exact X2 λa z j=>Bo
 ·rename_i q;simp[we,q]at hd
 ·exact quiet_stuck
def zs6{s d:TypeId}{x:Operand}(hd:we C d=false):Yg (W6 C s d x):=by
 unfold W6;split
 ·exact z4n λa g=>Bo
 ·split
  ·refine z4n λa g=>?_
   split
   ·exact .val _
   ·split
    ·split<;>constructor
    ·exact .no
   ·exact .no
  ·exact reads_stuck
 ·exact z4n λa g=>Bo
 ·rename_i q;simp[we,q]at hd
 ·exact reads_stuck
def zsr(g:Program)(t:TypeId)(x:Operand):Yg (znh g t x):=by
 unfold znh;split
 ·exact z4n λa j=>by
   split
   ·split<;>constructor
   ·exact .no
 ·exact z4n λa j=>by
   split
   ·split<;>constructor
   ·exact .no
 ·exact reads_stuck
def zlo(j:Program)(t:TypeId)(x g:Operand)(ok:Bool):Yg (yc j t x g ok):=by
 unfold yc;split
 ·split
  ·refine zld λa b z=>?_
   split
   ·exact .no
   ·split<;>constructor
  ·exact reads_stuck
 ·exact reads_stuck
def zm2{t:TypeId}{x:Operand}(h:zky C t=false):Ui (Wc C t x):=by
 unfold Wc;split
 ·exact X2 λa j g=>Bo
 ·exact X2 λa j g=>Bo
 ·rename_i q;simp[zky,q]at h
 ·exact X2 λa j g=>.val _
 ·exact quiet_stuck
def zx8(j:Program)(t:TypeId)(x:Operand):Yg (Wc j t x):=by
 cases g:zky j t
 ·exact (zm2 g).reads
 ·unfold zky at g;unfold Wc;split at g
  ·rename_i q;rw[q];refine z4n λa z=>?_
   split
   ·exact .val _
   ·split<;>constructor
   ·exact .no
  ·cases g
def zx7(g:Program)(t:TypeId)(x:Operand):Ui (Xu g t x):=by
 unfold Xu;split
 ·exact X2 λa z j=>Bo
 ·exact quiet_stuck
def zli(g:Bool)(l:List Operand):Ui (U7 g l):=λz A j=>by
 simp only[U7];split
 ·exact .ret1 _
 ·exact .no
def zl7{c:Call}:(zd1 C c=.quiet→Ui (bw C c))∧(zd1 C c=.rd→Yg (bw C c)):=by
 unfold zd1 bw;split
 ·rename_i q;rw[q];dsimp only;split
  ·rename_i t g;rw[g];split
   ·rename_i hm;exact⟨λh=>Af,λ_=>by
     split
     ·exact zx8 _ _ _
     ·exact reads_stuck⟩
   ·rename_i hm;refine⟨λ_=>?_,λh=>Af⟩;split
    ·rename_i e _ ;cases e;exact zm2 Fu
    ·exact quiet_stuck
  ·exact⟨λh=>Af,λh=>Af⟩
 ·rename_i q;rw[q];refine⟨λ_=>?_,λh=>Af⟩;dsimp only;split
  ·exact zx7 _ _ _
  ·exact quiet_stuck
 ·rename_i q;rw[q];exact⟨λ_=>zli _ _,λh=>Af⟩
 ·rename_i q;rw[q];exact⟨λ_=>zli _ _,λh=>Af⟩
 ·exact⟨λh=>Af,λh=>Af⟩
def zaj{P:Program}{o:Op}:(cls P o=.quiet→Ui (Pp P o))∧(cls P o=.rd→Yg (Pp P o)):=by
 unfold cls;split
 ·exact⟨λ_=>X2 λa j g=>.val _,λh=>Af⟩
 ·exact⟨λ_=>X2 λa j g=>.val _,λh=>Af⟩
 ·refine⟨λ_ A j g=>?_,λh=>Af⟩;simp only[Pp];split
  ·exact .ret1 _
  ·exact .ret1 _
  ·exact .no
 ·exact⟨λ_=>zoo _ _ _,λh=>Af⟩
 ·exact⟨λ_=>X2 λa j g=>zhj _ _ _,λh=>Af⟩
 ·exact⟨λ_=>z5d λa b j g=>.ret1 _,λh=>Af⟩
 ·exact⟨λ_=>X2 λa j g=>.ret1 _,λh=>Af⟩
 ·exact⟨λ_=>zk8 _ _ _,λh=>Af⟩
 ·rename_i f x y;refine⟨λ_=>?_,λh=>Af⟩;simp only[Pp];split
  ·exact quiet_stuck
  ·exact zl4 _ _ _
 ·exact⟨λ_=>zfl _ _ _ _,λh=>Af⟩
 ·exact⟨λ_=>znl _ _ _ _,λh=>Af⟩
 ·exact⟨λ_=>zfo _ _ _ _,λh=>Af⟩
 ·exact⟨λ_=>zo7 _ _ _ _,λh=>Af⟩
 ·exact⟨λ_=>zmw _ _ _ _,λh=>Af⟩
 ·exact⟨λ_=>zjh _ _,λh=>Af⟩
 ·split
  ·exact⟨λh=>Af,λ_=>zot _ _ _ _ _ _⟩
  ·rename_i h;exact⟨λ_=>zf5 Ar,λh=>Af⟩
 ·split
  ·exact⟨λh=>Af,λh=>Af⟩
  ·rename_i hd;split
   ·exact⟨λh=>Af,λ_=>zs6 (by simpa using hd)⟩
   ·rename_i z;exact⟨λ_=>zrw (by simpa using hd) Cn,λh=>Af⟩
 ·exact⟨λh=>Af,λ_=>zsr _ _ _⟩
 ·exact⟨λh=>Af,λ_=>zlo _ _ _ _ _⟩
 ·exact zl7
 all_goals exact⟨λh=>Af,λh=>Af⟩
def z4x{P:Program}{n:Nat}{ops:Array Oper}{o:Oper}{k:R9}(h:(Sg P n ops o).run k O D=.ok vC vX) :
  ∃v,vC=Qf o.dst v O∧(∀d,o.dst=some d→d<n)∧∀j,Td (Vq ops o) j O→(Sg P n ops o).run k j D=.ok (Qf o.dst v j) vX:=by
 unfold Sg at h ⊢;cases G:Sf n o.dst with
 |none=>rw[G]at h;cases h
 |some p =>
  rw[G]at h;dsimp only at h ⊢;obtain⟨g,A⟩:=z9o G;have B:∀j,Td (Vq ops o) j O→(Pp P o.op).run j D=(Pp P o.op).run O D:=λj z =>
   zgd (Td.opds (λt I=>z t (by simp[Vq,I])))
  cases C:(Tw ops o).run O with
  |false =>
   rw[C]at h;cases h;refine⟨Tc,g _ _,A,λj z=>?_⟩;rw[us z,C];dsimp only;rw[g]
  |true =>
   rw[C]at h;dsimp only at h;cases E:(Pp P o.op).run O D with
   |no=>rw[E]at h;cases h
   |val v K =>
    rw[E]at h;cases h;refine⟨v,g _ _,A,λj z=>?_⟩;rw[us z,C,B j z,E];dsimp only;rw[g]
   |call t F =>
    rw[E]at h;dsimp only at h;cases H:k t F D with
    |no=>rw[H]at h;cases h
    |ok v K =>
     rw[H]at h;cases h;refine⟨v,g _ _,A,λj z=>?_⟩;rw[us z,C,B j z,E];dsimp only;rw[H];dsimp only;rw[g]
def z4t{P:Program}{n:Nat}{ops:Array Oper}{o:Oper}{k:R9}(A:Yg (Pp P o.op))(h:(Sg P n ops o).run k O D=.ok vC vX):vX=D:=by
 unfold Sg at h;cases g:Sf n o.dst with
 |none=>rw[g]at h;cases h
 |some p =>
  rw[g]at h;dsimp only at h;cases j:(Tw ops o).run O with
  |false=>rw[j]at h;cases h;rfl
  |true =>
   rw[j]at h;dsimp only at h;have z:=A O D;generalize (Pp P o.op).run O D=r at h z;cases z with
   |no=>cases h
   |val v=>cases h;rfl
def zhn{P:Program}{n:Nat}{ops:Array Oper}{o:Oper}{k:R9}(B:Ui (Pp P o.op))(h:(Sg P n ops o).run k O D=.ok vC vX)(g:Heap) :
  (Sg P n ops o).run k O g=.ok vC g:=by
 unfold Sg at h ⊢;cases z:Sf n o.dst with
 |none=>rw[z]at h;cases h
 |some p =>
  rw[z]at h;dsimp only at h ⊢;cases A:(Tw ops o).run O with
  |false=>rw[A]at h;cases h;rfl
  |true =>
   rw[A]at h;dsimp only at h ⊢;have j:=B O D g;generalize (Pp P o.op).run O D=r at h j;generalize (Pp P o.op).run O g=C at j ⊢;cases j with
   |no=>cases h
   |val v=>cases h;rfl
def eqAV_spec:∀(n:Nat) (a b:AV),Sl n a b=true→a=b
 |0,_,_,h=>Af
 |n+1,a,b,h=>by
  have z:∀(x y:List AV),Z8 (Sl n) x y=true→x=y:=by
   intro x
   induction x with
   |nil=>intro y j;cases y with
    |nil=>rfl
    |cons _ _=>cases j
   |cons c x A =>
    intro y j;cases y with
    |nil=>cases j
    |cons d y =>
     simp only[Z8]at j;split at j
     ·rename_i B;rw[eqAV_spec n c d B,A y j]
     ·cases j
  have g:∀{x y:Nat},Nat.beq x y=true→x=y:=λh=>Kc h
  unfold Sl at h;split at h
  ·simp only[Ns]at h;rw[h]
  ·simp only[Jz,xy,Ns]at h;rw[z67 h.1,h.2]
  ·simp only[Jz]at h;rw[g h.1,g h.2]
  ·rfl
  ·simp only[Jz]at h;rw[g h.1.1,g h.1.2,g h.2]
  ·rfl
  ·simp only[Jz,Ns]at h;obtain⟨⟨⟨⟨⟨C,D⟩,E⟩,F⟩,G⟩,H⟩:=h;rw[g C,g D,g E,g F,g G,H]
  ·rfl
  ·rfl
  ·rw[g h]
  ·rfl
  ·simp only[Jz]at h;rw[g h.1.1,z _ _ h.1.2,z _ _ h.2]
  ·simp only[Jz]at h;rw[g h.1.1,z _ _ h.1.2,z _ _ h.2]
  ·rfl
  ·simp only[Jz]at h;rw[g h.1,eqAV_spec n _ _ h.2]
  ·rw[z _ _ h]
  ·rw[z _ _ h]
  ·cases h
def Z1(a b g:Nat):(Nat.lor a b).testBit g=(a.testBit g || b.testBit g):=Nat.testBit_or a b g
def sq(i g:Nat):(2^i).testBit g=decide (i=g):=Nat.testBit_two_pow
def zj6{a b:Nat}(h:Nat.beq (Nat.land a b) a=true)(j:Nat)(g:a.testBit j=true):b.testBit j=true:=by
 have e:a &&& b=a:=Kc h;rw[←e,Nat.testBit_and]at g;simp only[Jz]at g;exact g.2
def bitsOf_spec:∀{l:List Nat} {t:Nat},t∈l→(zkr l).testBit t=true
 |[],_,h=>Af
 |a::l,t,h=>by
  simp only[zkr,Z1,sq,K8,Kb];rcases J9.1 h with rfl|h
  ·exact .inl rfl
  ·exact .inr (bitsOf_spec h)
def z8e{g:List Nat}:∀{l:List Edge} {z:Nat},(vq g l).testBit z=true↔∃e∈l,Region.binds .any e=true∧(z=e.on∨(g.getD e.on 0).testBit z=true)
 |[],z=>by simp[vq]
 |e::l,z=>by
  simp only[vq];split
  ·rename_i j;simp only[Z1,sq,K8,Kb,z8e,J9,exists_eq_or_imp,j,true_and];constructor
   ·rintro ((h|h)|h)
    ·exact .inl (.inl h.symm)
    ·exact .inl (.inr h)
    ·exact .inr h
   ·rintro ((h|h)|h)
    ·exact .inl (.inl h.symm)
    ·exact .inl (.inr h)
    ·exact .inr h
  ·rename_i j;simp only[z8e,J9,exists_eq_or_imp,j,Ml,false_and,false_or]
def Z4{A:Type}{f:A→Bool}:∀{l:List A} {x:A},x∈Pl f l↔x∈l∧f x=true
 |[],x=>by simp[Pl]
 |a::l,x=>by
  simp only[Pl];split
  ·rename_i h;simp only[J9,Z4];constructor
   ·rintro (rfl|z)
    ·exact⟨.inl rfl,h⟩
    ·exact⟨.inr z.1,z.2⟩
   ·rintro⟨rfl|j,g⟩
    ·exact .inl rfl
    ·exact .inr ⟨j,g⟩
  ·rename_i h;simp only[J9,Z4];constructor
   ·rintro⟨j,g⟩;exact⟨.inr j,g⟩
   ·rintro⟨rfl|j,g⟩
    ·rw[h]at g;cases g
    ·exact⟨j,g⟩
def zj7{z:Type}{f:z→Bool}:∀{l:List z},Ww f l=true→∀x∈l,f x=true
 |[],_,x,g=>Fi
 |a::l,h,x,g=>by
  simp only[Ww]at h;split at h
  ·rename_i j;rcases J9.1 g with rfl|g
   ·exact j
   ·exact zj7 h x g
  ·cases h
structure LOk (P:Program) (ops:Array Oper) (L:List DOp):Prop where
 op:∀x∈L,ops[x.i]?=some x.o∧x.i<ops.size
 all:∀i,i<ops.size→∃x∈L,x.i=i
 inj:∀x∈L,∀y∈L,x.i=y.i→x=y
 cl:∀x∈L,x.c=cls P x.o.op
 lm:∀x∈L,∀t∈Vq ops x.o,x.lm.testBit t=true
 msk:∀x∈L,∀j,x.m.testBit j=true→∃e∈x.o.after.toList,Region.binds .any e=true∧(j=e.on∨∃y∈L,y.i=e.on∧y.m.testBit j=true)
 edge:∀x∈L,∀e∈x.o.after.toList,Region.binds .any e=true→x.m.testBit e.on=true
def zep(j:Program)(ops:Array Oper):∀(l:List Oper) (g:List Nat) (i:Nat) (z:Nat),(R3 j ops l g i).length=l.length∧∀x,(R3 j ops l g i)[z]?=some x →
  x.i=i+z∧l[z]?=some x.o∧x.c=cls j x.o.op∧x.lm=zkr (Vq ops x.o)∧x.m=vq (g++((R3 j ops l g i).take z).map (·.m)) x.o.after.toList
 |[],g,i,z=>⟨rfl,λx h=>by simp[R3]at h⟩
 |o::l,g,i,0=>⟨Hr,λx h=>by
   simp only[R3,Km,Option.some.injEq]at h;subst h;exact⟨rfl,rfl,rfl,rfl,N⟩⟩
 |o::l,g,i,z+1=>⟨Hr,λx h=>by
   simp only[R3,Kh]at h;obtain⟨E,A,B,C,D⟩:=(zep j ops l _ (i+1) z).2 x h;refine⟨J,Da,B,C,?_⟩;rw[D];simp[R3]⟩
def sm(E:Program)(ops:Array Oper):LOk E ops (R3 E ops ops.toList [] 0):=by
 have z:=zep E ops ops.toList [] 0;have G:(R3 E ops ops.toList [] 0).length=ops.size:=by rw[(z 0).1];simp
 have hm:∀x∈R3 E ops ops.toList [] 0,∃B,(R3 E ops ops.toList [] 0)[B]?=some x∧x.i=B:=λx j=>by
  obtain⟨B,g⟩:=Ma.1 j;exact⟨B,g,by have:=((z B).2 x g).1;omega⟩
 refine⟨λx j=>?_,λi hi=>?_,λx j y H e=>?_,λx j=>?_,λx j t I=>?_,λx j B g=>?_,λx j e he F=>?_⟩
 ·obtain⟨B,g,e⟩:=hm x j;obtain⟨_,K,_⟩:=(z B).2 x g;rw[e];have:B<ops.size:=by
   have:=(Jx.1 g).1;omega
  exact⟨by simpa using K,this⟩
 ·exact ⟨(R3 E ops ops.toList [] 0)[i]' J, Na _, by
   have:=((z i).2 _ (J5 J)).1;omega⟩
 ·obtain⟨B,g,D⟩:=hm x j;obtain⟨L,C,M⟩:=hm y H;have:B=L:=J
  subst this;rw[g]at C;cases C;rfl
 ·obtain⟨B,g,D⟩:=hm x j;exact ((z B).2 x g).2.2.1
 ·obtain⟨B,g,D⟩:=hm x j;rw[((z B).2 x g).2.2.2.1];exact bitsOf_spec I
 ·obtain⟨i,hi,D⟩:=hm x j;rw[((z i).2 x hi).2.2.2.2]at g;obtain⟨e,he,F,h⟩:=z8e.1 g;refine⟨e,he,F,h.imp id λh=>?_⟩;rw[N0,J0,Lr]at h;cases A:((R3 E ops ops.toList [] 0).take i)[e.on]? with
  |none=>rw[A]at h;simp at h
  |some y =>
   rw[A]at h;have H:=Ma.2 ⟨e.on,A⟩;rw[List.getElem?_take]at A;split at A
   ·exact⟨y,Ma.2 ⟨_,A⟩,by have:=((z e.on).2 y A).1;omega,h⟩
   ·cases A
 ·obtain⟨i,hi,D⟩:=hm x j;rw[((z i).2 x hi).2.2.2.2];exact z8e.2 ⟨e,he,F,.inl rfl⟩
def dstsOk_spec:∀{l:List DOp} {seen:Nat},zn6 l seen=true→(∀x∈l,∀d,x.o.dst=some d→seen.testBit d=false)∧∀x∈l,∀y∈l,∀d,x.o.dst=some d→y.o.dst=some d→x=y
 |[],_,_=>⟨λx g=>Fi,λx g=>Fi⟩
 |a::l,seen,h=>by
  simp only[zn6]at h;split at h
  ·rename_i z;obtain⟨B,C⟩:=dstsOk_spec h;refine⟨λx g d hd=>?_,λx g y A d hd j=>?_⟩
   ·rcases J9.1 g with rfl|g
    ·rw[z]at hd;cases hd
    ·exact B x g d hd
   ·rcases J9.1 g with rfl|g
    ·rw[z]at hd;cases hd
    ·rcases J9.1 A with rfl|A
     ·rw[z]at j;cases j
     ·exact C x g y A d hd j
  ·rename_i D z;split at h
   ·cases h
   ·rename_i K;obtain⟨B,C⟩:=dstsOk_spec h;have E:∀x∈l,x.o.dst≠some D:=λx g e=>by
     have:=B x g D e;rw[Z1,sq]at this;simp at this
    refine⟨λx g d hd=>?_,λx g y A d hd j=>?_⟩
    ·rcases J9.1 g with rfl|g
     ·rw[z]at hd;cases hd;simpa using K
     ·have:=B x g d hd;rw[Z1]at this;simp only[Bool.or_eq_false_iff]at this;exact this.2
    ·rcases J9.1 g with F|G<;>rcases J9.1 A with H|I
     ·rw[F,H]
     ·subst F;rw[z]at hd;cases hd;exact absurd j (E y I)
     ·subst H;rw[z]at j;cases j;exact absurd hd (E x G)
     ·exact C x G y I d hd j
def zbx{x:DOp}:Ou x=true↔x.c=.ch:=by
 unfold Ou;constructor
 ·intro h;split at h
  ·assumption
  ·cases h
 ·intro h;rw[h]
def zfu{x:DOp}:znw x=true↔x.c=.quiet:=by
 unfold znw;constructor
 ·intro h;split at h
  ·assumption
  ·cases h
 ·intro h;rw[h]
def z7p{x:DOp}{l:List DOp}{seen s:Nat}(h:Qn (x::l) seen g=some s):(∀j,x.m.testBit j=true→seen.testBit j=true)∧seen.testBit x.i=false ∧
  ((x.c=.quiet∧Qn l (Nat.lor (2^x.i) seen) g=some s) ∨
   ((x.c=.rd∨x.c=.al)∧(∀j,g.testBit j=true→x.m.testBit j=true)∧Qn l (Nat.lor (2^x.i) seen) g=some s) ∨
   (x.c=.ch∧(∀j,g.testBit j=true→x.m.testBit j=true)∧Qn l (Nat.lor (2^x.i) seen) (Nat.lor (2^x.i) g)=some s)):=by
 simp only[Qn]at h;split at h
 ·cases h
 ·rename_i E;split at h
  ·cases h
  ·rename_i F;refine⟨λj z=>zj6 E j z,by simpa using F,?_⟩;split at h
   ·rename_i A;exact .inl ⟨zfu.1 A,h⟩
   ·rename_i A;split at h
    ·cases h
    ·rename_i C;split at h
     ·rename_i B;exact .inr (.inr ⟨zbx.1 B,λj z=>zj6 C j z,h⟩)
     ·rename_i B;refine .inr (.inl ⟨?_,λj z=>zj6 C j z,h⟩);cases D:x.c with
      |quiet=>rw[zfu.2 D]at A;cases A
      |rd=>exact .inl rfl
      |al=>exact .inr rfl
      |ch=>rw[zbx.2 D]at B;cases B
def topo_seen:∀{l:List DOp} {seen j s:Nat},Qn l seen j=some s→∀A,s.testBit A=true↔(seen.testBit A=true∨∃x∈l,x.i=A)
 |[],seen,j,s,h,A=>by simp only[Qn,Option.some.injEq]at h;subst h;simp
 |x::l,seen,j,s,h,A=>by
  obtain⟨_,_,z⟩:=z7p h;have B:∀g,Qn l (Nat.lor (2^x.i) seen) g=some s→(s.testBit A=true↔(seen.testBit A=true∨∃y∈x::l,y.i=A)):=λg C=>by
   rw[topo_seen C A,Z1,sq];simp only[K8,Kb,J9,exists_eq_or_imp];constructor
   ·rintro ((h|h)|h)
    ·exact .inr (.inl h)
    ·exact .inl h
    ·exact .inr (.inr h)
   ·rintro (h|h|h)
    ·exact .inl (.inr h)
    ·exact .inl (.inl h)
    ·exact .inr h
  rcases z with ⟨_,z⟩|⟨_,_,z⟩|⟨_,_,z⟩<;>exact B _ z
def topo_new:∀{l:List DOp} {seen j s:Nat},Qn l seen j=some s→∀x∈l,seen.testBit x.i=false
 |[],_,_,_,_,x,z=>by cases z
 |y::l,seen,j,s,h,x,z=>by
  obtain⟨_,C,A⟩:=z7p h;rcases J9.1 z with rfl|z
  ·exact C
  ·have B:∀g,Qn l (Nat.lor (2^y.i) seen) g=some s→seen.testBit x.i=false:=λg D=>by
    have:=topo_new D x z;rw[Z1]at this;simp only[Bool.or_eq_false_iff]at this;exact this.2
   rcases A with ⟨_,A⟩|⟨_,_,A⟩|⟨_,_,A⟩<;>exact B _ A
def topo_chs:∀{l:List DOp} {seen j s:Nat},Qn l seen j=some s→∀x∈l,x.c≠.quiet→∀D,j.testBit D=true→x.m.testBit D=true
 |[],_,_,_,_,_,z=>by cases z
 |y::l,seen,j,s,h,x,z=>by
  intro C D A;obtain⟨_,E,g⟩:=z7p h;rcases J9.1 z with rfl|z
  ·rcases g with ⟨e,g⟩|⟨e,B,g⟩|⟨e,B,g⟩
   ·exact absurd e C
   ·exact B D A
   ·exact B D A
  ·rcases g with ⟨e,g⟩|⟨e,B,g⟩|⟨e,B,g⟩
   ·exact topo_chs g x z C D A
   ·exact topo_chs g x z C D A
   ·exact topo_chs g x z C D (by rw[Z1,A];simp)
def zlw{z g:List DOp}{p:Nat}:∀x∈dz z g p,x∈z:=λ_ j=>(Z4.1 j).1
def zge{z j:List DOp}:∀{l:List DOp} {p:Nat},(∀x∈l,x∈z)→∀x∈zka z j l p,x∈z
 |[],_,_,_,g=>Fi
 |c::l,p,h,x,g=>by
  simp only[zka,J9,Ks]at g;rcases g with rfl|g|g
  ·exact h _ N
  ·exact zlw x g
  ·exact zge (λy A=>h y At) x g
def zv6{j:List DOp}:∀x∈zv5 j (Pl Ou j),x∈j:=λx g=>by
 simp only[zv5,Ks]at g;rcases g with g|g
 ·exact zlw x g
 ·exact zge (λy z=>(Z4.1 z).1) x g
end Go.Sv
