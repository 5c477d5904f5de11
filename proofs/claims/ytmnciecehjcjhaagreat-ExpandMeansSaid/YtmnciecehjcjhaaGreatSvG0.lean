/- Texts of the evaluator, of the logic over it, of plain arithmetic. -/
import Derived.AtR
import Derived.Laws.Sem
import Derived.Laws.World
import Derived.KernelRfl
import Derived.Below
import Derived.Laws.Strings
import Derived.Laws.StructEq
import Derived.Lib.Strings
import Derived.Lib.ConvBytes
import Derived.Laws.BytesArg
import Derived.Laws.RangeString
import Derived.MapKept
import Derived.Laws.Append
import Derived.Laws.AppendOwn
import Derived.Laws.Externs
import Derived.RangeFuncIn
import Derived.RangeFuncRecord
set_option linter.unusedSimpArgs false
set_option linter.defProp false
namespace Go.Sv
variable{g j U:Nat}{C:Program}{K vX:World}{M:Bool}{vY:TypeId}{vM:Type}{vH:Array Value}{vG:Option Nat}{vz:Value}
noncomputable section
abbrev Jy:=@List.getElem?_eq_some_iff
abbrev Jz:=@List.getElem?_set_ne
abbrev J0:=@List.getD_eq_getElem?_getD
abbrev J1:=@if_neg
abbrev J2:=@Bool.and_eq_true
abbrev J3:=@List.getElem?_set_self
abbrev J4:=@List.getElem?_append_left
abbrev J5:=@Int.eq_ofNat_of_zero_le
abbrev J6:=@if_pos
abbrev J7:=@List.getElem?_eq_getElem
abbrev J8:=@Nat.le_refl
abbrev J9:=@List.length_append
abbrev Ka:=@List.mem_cons
abbrev Kb:=@decide_eq_true_eq
abbrev Kc:=@Nat.ble_eq_true_of_le
abbrev Kd:=@Nat.eq_of_beq_eq_true
abbrev Ke:=@Nat.mod_eq_of_lt
abbrev Kf:=@List.mem_cons_of_mem
abbrev Kg:=@List.getElem?_concat_length
abbrev Kh:=@List.length_cons
abbrev Ki:=@Nat.le_of_ble_eq_true
abbrev Kj:=@List.mem_of_getElem?
abbrev Kk:=@List.take_of_length_le
abbrev Kl:=@List.getElem?_append_right
abbrev Km:=@List.getElem?_cons_succ
abbrev Kn:=@List.eq_nil_of_length_eq_zero
abbrev Kq:=@Nat.mul_le_mul_right
abbrev Kr:=@Int.toNat_natCast
abbrev Ks:=@List.getElem?_cons_zero
abbrev Kt:=@Nat.lt_of_lt_of_le
abbrev Ku:=@Int.ofNat_eq_natCast
abbrev Kw:=@Nat.zero_add
abbrev Kx:=@List.mem_append
abbrev Ky:=@Nat.add_mul
abbrev Kz:=@List.length_nil
abbrev K0:=@List.append_assoc
abbrev K2:=@List.mem_cons_self
abbrev K3:=@List.set_eq_take_append_cons_drop
abbrev K4:=@Int.natCast_nonneg
abbrev K5:=@Nat.beq_refl
abbrev K6:=@List.cons_append
abbrev K7:=@Array.getD_eq_getD_getElem?
abbrev K8:=@Nat.le_trans
abbrev K9:=@List.take_succ_eq_append_getElem
abbrev La:=@List.any_eq_true
abbrev Le:=@UInt64.toNat_inj
abbrev Lf:=@Bool.or_eq_true
abbrev Lh:=@UInt64.toNat_ofNat'
abbrev Li:=@List.all_eq_true
abbrev Lj:=@if_true
abbrev Lk:=@decide_eq_false_iff_not
abbrev Ll:=@List.map_set
abbrev Ln:=@List.mem_append_right
abbrev Lp:=@Nat.lt_succ_self
abbrev Lq:=@UInt64.lt_iff_toNat_lt
abbrev Lr:=@Nat.pow_le_pow_right
abbrev Ls:=@List.append_nil
abbrev Lt:=@List.drop_eq_getElem_cons
abbrev Lu:=@List.getElem?_take_of_lt
abbrev Lv:=@List.getElem?_map
abbrev Lw:=@Bool.eq_iff_iff
abbrev Ly:=@Nat.pow_succ
abbrev Lz:=@List.getElem?_toArray
abbrev L0:=@Option.getD_some
abbrev L3:=@decide_eq_true
abbrev L4:=@UInt64.le_iff_toNat_le
abbrev L5:=@List.mem_iff_getElem
abbrev L6:=@List.drop_of_length_le
abbrev L7:=@Nat.add_assoc
abbrev L8:=@Nat.mod_lt
abbrev L9:=@Bool.not_eq_true'
abbrev Ma:=@Array.getElem?_eq_getElem
abbrev Mb:=@Nat.mul_le_mul
abbrev Mc:=@List.length_take
abbrev Md:=@Array.toList_map
abbrev Me:=@List.getElem?_eq_none
abbrev Mf:=@List.mem_range
abbrev Mg:=@Option.map_some
abbrev Mh:=@Nat.min_eq_left
abbrev Mi:=@Nat.le_max_left
abbrev Mj:=@List.length_set
abbrev Ml:=@List.not_mem_nil
abbrev Mm:=@List.getElem_mem
abbrev Mn:=@of_decide_eq_true
abbrev Mo:=@Int.emod_eq_of_lt
abbrev Mp:=@List.mem_iff_getElem?
abbrev Mq:=@List.all_cons
abbrev Mr:=@UInt64.toNat_add
abbrev Mt:=@List.map_cons
abbrev Mu:=@List.drop_zero
abbrev Mv:=@Nat.le_max_right
abbrev Mw:=@List.take_length
abbrev My:=@Bool.false_eq_true
abbrev Mz:=@Array.eq_empty_of_size_eq_zero
abbrev M0:=@Nat.zero_mul
abbrev M3:=@Nat.mul_comm
abbrev M4:=@Nat.mul_assoc
abbrev M5:=@Nat.lt_or_ge
abbrev M6:=@Nat.add_zero
abbrev M7:=@if_false
abbrev M8:=@Array.size_append
abbrev M9:=@List.take_left'
abbrev Na:=@List.replicate_succ
abbrev Nb:=@Nat.sub_self
abbrev Nc:=@Nat.pow_add
abbrev Nd:=@Array.getElem?_append_left
abbrev Nf:=@List.set_append_right
abbrev Ng:=@List.map_append
abbrev Nh:=@Nat.zero_le
abbrev Ni:=@Nat.le_of_eq
abbrev Nj:=@List.flatMap_cons
abbrev Nk:=@List.any_eq_false
abbrev Nl:=@Nat.div_eq_of_lt
abbrev Nm:=@Nat.div_div_eq_div_mul
abbrev Nn:=@BitVec.toNat_ofNat
abbrev Np:=@Nat.mul_add
abbrev Nq:=@List.mem_append_left
abbrev Nr:=@Nat.add_mul_mod_self_left
abbrev Ns:=@Array.toList_append
abbrev Nt:=@List.map_take
abbrev Nu:=@Bool.true_and
abbrev Nv:=@decide_eq_false
abbrev Nw:=@List.pairwise_cons
abbrev Ny:=@or_false
abbrev Nz:=@Nat.testBit_eq_decide_div_mod_eq
abbrev N0:=@List.mem_map
abbrev N1:=@List.getElem?_set
abbrev N5:=@List.ext_getElem?
abbrev N6:=@List.all_eq_false
abbrev N7:=@Array.getElem?_eq_none
abbrev N8:=@List.replicate_append_replicate
abbrev N9:=@List.take_append_drop
abbrev Oa:=@beq_iff_eq
abbrev Ob:=@UInt64.toNat_sub
abbrev Oc:=@Nat.testBit_zero
abbrev Od:=@Array.toList_inj
abbrev Oe:=@Nat.mul_one
abbrev Of:=@Nat.le_succ
abbrev Og:=@List.take_append_of_le_length
abbrev Oh:=@List.mem_of_mem_take
abbrev Oi:=@Nat.not_lt_zero
abbrev Oj:=@Nat.div_le_self
abbrev Ok:=@List.nil_append
abbrev Ol:=@List.mem_filter
abbrev Om:=@Nat.mul_le_mul_left
abbrev On:=@Nat.succ_mul
abbrev Oo:=@Nat.sub_zero
abbrev Oq:=@Nat.le_of_lt
abbrev Ot:=@Int.le_trans
abbrev Ou:=@Nat.pos_of_ne_zero
abbrev Ov:=@Nat.le_of_mul_le_mul_right
abbrev Ow:=@List.take_zero
abbrev Oy:=@List.take_take
abbrev Oz:=@List.set_cons_zero
abbrev O0:=@List.set_cons_succ
abbrev O1:=@List.mem_singleton
abbrev O2:=@List.getElem?_drop
abbrev O3:=@Int.tmod_eq_emod_of_nonneg
abbrev O4:=@Int.tdiv_eq_ediv_of_nonneg
abbrev O5:=@Nat.one_mul
abbrev O6:=@Nat.mul_mod
abbrev O7:=@Nat.add_mod_right
abbrev O8:=@Nat.add_mod
abbrev O9:=@UInt64.not_lt
abbrev Pa:=@Bool.toNat_le
def J{p:Prop}(h:p:=by omega):p:=h
def N{p:Prop}(h:p:=by simp):p:=h
def Aa{p:Prop}(h:p:=by kernel_rfl):p:=h
def Ab{p:Prop}(h:p:=by simp;omega):p:=h
def Ac{p:Prop}(h:p:=by decide):p:=h
def Ad{p:Prop}(h:p:=by simp[Op.operands]):p:=h
def Ae{p:Prop}(h:p:=by simp[F]):p:=h
def Af{p:Prop}(h:p:=by simp[C]):p:=h
def Ah{p:Prop}(h:p:=by obtain⟨_,_,h,_⟩:=id h;exact (Jy.1 h).1):p:=h
def Ai{p:Prop}(h:p:=by simp[execOp,ho]):p:=h
def Ak{p:Prop}(h:p:=by cases h):p:=h
def Al{p:Prop}(h:p:=by simp[A]):p:=h
def Am{p:Prop}(h:p:=by simp[j]):p:=h
def Ao{p:Prop}(h:p:=by simp[B]):p:=h
def Aq{p:Prop}(h:p:=by simp[z]):p:=h
def Ar{p:Prop}(h:p:=by cases e):p:=h
def As{p:Prop}(h:p:=by simp[g]):p:=h
def At{p:Prop}(h:p:=by simp[D]):p:=h
def Au{p:Prop}(h:p:=by simp only[IntKind.wrap,IntKind.bits,IntKind.signed];simp;omega):p:=h
def Av{p:Prop}(h:p:=by rw[g];omega):p:=h
def Aw{p:Prop}(h:p:=by simpa using h):p:=h
def Ax{p:Prop}(h:p:=by simp[E]):p:=h
def Ay{p:Prop}(h:p:=by rw[g];simp):p:=h
def A1{p:Prop}(h:p:=by simp[H]):p:=h
def Ba{p:Prop}(h:p:=by dsimp only;omega):p:=h
def Bb{p:Prop}(h:p:=by simp[Xf,dh,ng,sn,zp,wo,lj]):p:=h
def Bc{p:Prop}(h:p:=by simp[M]):p:=h
def Bd{p:Prop}(h:p:=by simp[G]):p:=h
def Be{p:Prop}(h:p:=by simpa using g):p:=h
def Bh{p:Prop}(h:p:=by (try simp only[J9]);omega):p:=h
def Bi{p:Prop}(h:p:=by simp[K]):p:=h
def Bk{p:Prop}(h:p:=by simp[dats,LV.dat,Tt]):p:=h
def Bl{p:Prop}(h:p:=by simp only[Sem.run_bind,z,Result.andThen_ok,Sem.run_pure]):p:=h
def Bm{p:Prop}(h:p:=by simp[dats,LV.dat,Pm,V3,W9]):p:=h
def Bn{p:Prop}(h:p:=by simp[I]):p:=h
def Bo{p:Prop}(h:p:=by simp[Builtin.len_,Qw hu,goInt]):p:=h
def Bq{p:Prop}(h:p:=by simp only[Qi];unfold Pp;rw[hc]):p:=h
def Br{p:Prop}(h:p:=by simp[O]):p:=h
def Bs{p:Prop}(h:p:=by show w.a+0+(c.k+1)≤w.a+(c.k+1);omega):p:=h
def Bt{p:Prop}(h:p:=by simp[Qm,e]):p:=h
def Bu{p:Prop}(h:p:=by split<;>constructor):p:=h
def Bv{p:Prop}(h:p:=by have:o<H.next+1:=ho;omega):p:=h
def Bx{p:Prop}(h:p:=by simp[flat_frL]):p:=h
def By{p:Prop}(h:p:=by simpa using j):p:=h
def B1{p:Prop}(h:p:=by simp[gg]):p:=h
def B3{p:Prop}(h:p:=by dsimp;omega):p:=h
def Ca{p:Prop}(h:p:=by rw[←q',h1]at e;exact ho _ _ _ _ (Option.some.inj e).symm):p:=h
def Cb{p:Prop}(h:p:=by simp[To,hb,Tv];omega):p:=h
def Cc{p:Prop}(h:p:=by simp at h):p:=h
def Cd{p:Prop}(h:p:=by simp at e):p:=h
def Ch{p:Prop}(h:p:=by simp[Pm]):p:=h
def Ci{p:Prop}(h:p:=by cases h;rfl):p:=h
def Ck{p:Prop}(h:p:=by rw[Qa O];exact L):p:=h
def Cl{p:Prop}(h:p:=by unfold Ua;rw[J6 gv,R];rfl):p:=h
def Cm{p:Prop}(h:p:=by simpa using E):p:=h
def Cn{p:Prop}(h:p:=by simp[R]):p:=h
def Co{p:Prop}(h:p:=by rw[j,C]):p:=h
def Cp{p:Prop}(h:p:=by simpa using C):p:=h
def Cq{p:Prop}(h:p:=by have:=g.b;simpa [Pn.p] using this):p:=h
def Cr{p:Prop}(h:p:=by simp[U]):p:=h
def Cs{p:Prop}(h:p:=by simp only[Ku];omega):p:=h
def Ct{p:Prop}(h:p:=by simp[LV.dat,dats]):p:=h
def Cu{p:Prop}(h:p:=by rw[j];omega):p:=h
def Cv{p:Prop}(h:p:=by simpa using A):p:=h
def Cw{p:Prop}(h:p:=by simp[z,L]):p:=h
def Cy{p:Prop}(h:p:=by simp[Qz,e]):p:=h
def Da{p:Prop}(h:p:=by rw[z];simp):p:=h
def Db{p:Prop}(h:p:=by rw[C,O];exact F):p:=h
def Dc{p:Prop}(h:p:=by have:=p.a;omega):p:=h
def Dd{p:Prop}(h:p:=by have:=p.d;omega):p:=h
def De{p:Prop}(h:p:=by rw[Va]at hn;simpa using hn):p:=h
def Df{p:Prop}(h:p:=by cases op<;>rfl):p:=h
def Dh{p:Prop}(h:p:=by simpa using z):p:=h
def Di{p:Prop}(h:p:=by simp[Pv]at h;omega):p:=h
def Dk{p:Prop}(h:p:=by rw[O];exact U):p:=h
def Dl{p:Prop}(h:p:=by simpa using R):p:=h
def Dm{p:Prop}(h:p:=by simp[dats,LV.dat]):p:=h
def Do{p:Prop}(h:p:=by simp[Tv];omega):p:=h
def Dp{p:Prop}(h:p:=by show w.a+x+k≤w.a+(2*n+2*(m+1));omega):p:=h
def Dq{p:Prop}(h:p:=by show (d.k:Int)≤40;omega):p:=h
def Dr{p:Prop}(h:p:=by rw[mg hl.2.2 hx,mg hl.2.1 hx,mg hl.2.2 hx,mg hl.2.1 hx];exact h.low x hx):p:=h
def Ds{p:Prop}(h:p:=by show 0≤(a.k:Int);omega):p:=h
def Dt{p:Prop}(h:p:=by simp[builtin]):p:=h
def Du{p:Prop}(h:p:=by rw[←r6.length];exact r1):p:=h
def Dv{p:Prop}(h:p:=by rw[J9,h2,hx,Ky];omega):p:=h
def Dw{p:Prop}(h:p:=by have:=p.c;omega):p:=h
def Dx{p:Prop}(h:p:=by simp[L]):p:=h
def Dy{p:Prop}(h:p:=by simpa [binOp] using j):p:=h
def Ea{p:Prop}(h:p:=by rw[mb];exact .int k _):p:=h
def Eb{p:Prop}(h:p:=by rw[hg o rfl];exact r2):p:=h
def Ec{p:Prop}(h:p:=by simpa using r1):p:=h
def Ed{p:Prop}(h:p:=by simpa using hi):p:=h
def Ee{p:Prop}(h:p:=by simp[e]):p:=h
def Eh{p:Prop}(h:p:=by simp[M,Px,pW,Q]):p:=h
def Ei{p:Prop}(h:p:=by simp[Z]):p:=h
def Ek{p:Prop}(h:p:=by simp[Sc]):p:=h
def El{p:Prop}(h:p:=by simp only[Kh];omega):p:=h
def Em{p:Prop}(h:p:=by simp[Q]):p:=h
def En{p:Prop}(h:p:=by show Int.ofNat (a.toNat ||| b.toNat)<_;simp only[Ku];omega):p:=h
def Eo{p:Prop}(h:p:=by show Int.ofNat (a.toNat &&& b.toNat)<_;simp only[Ku];omega):p:=h
def Ep{p:Prop}(h:p:=by have:=p.he g;have:=p.e;omega):p:=h
def Er{p:Prop}(h:p:=by simpa using I):p:=h
def Es{p:Prop}(h:p:=by rw[J9,Mc,R];show min (len*j) l.length+n*j=(len+n)*j;omega):p:=h
def Et{p:Prop}(h:p:=by have:=List.findIdx_le_length (p:=p) (xs:=l);omega):p:=h
def Eu{p:Prop}(h:p:=by simpa [Op.operands] using j):p:=h
def Ev{p:Prop}(h:p:=by simpa using G):p:=h
def Ew{p:Prop}(h:p:=by simp[execOp,ho,j]):p:=h
def Ey{p:Prop}(h:p:=by simp[Vx]):p:=h
def Fa{p:Prop}(h:p:=by unfold fj;cases keep<;>simp):p:=h
def Fb{p:Prop}(h:p:=by simp[h.l,h.i]):p:=h
def Fe{p:Prop}(h:p:=by simp[binOp,Op.intArith];rfl):p:=h
def Ff{p:Prop}(h:p:=by rw[L];exact P):p:=h
def Fh{p:Prop}(h:p:=by rw[C];simp):p:=h
def Fi{p:Prop}(h:p:=by have:=(hm.ev.row e).1;omega):p:=h
def Fk{p:Prop}(h:p:=by simp[Pn.p]):p:=h
def Fl{p:Prop}(h:p:=by simp only[Ks,Option.some.injEq]at h;subst h;exact⟨_,rfl,e⟩):p:=h
def Fo{p:Prop}(h:p:=by rw[Qa A];exact K):p:=h
def Fp{p:Prop}(h:p:=by simp[RU]):p:=h
def Fq{p:Prop}(h:p:=by simp[dats,LV.dat,V3,zff]):p:=h
def Ft{p:Prop}(h:p:=by rw[←h3];exact gg):p:=h
def Fu{p:Prop}(h:p:=by simp[hs.len]):p:=h
def Fv{p:Prop}(h:p:=by simp[cK]at h):p:=h
def Fw{p:Prop}(h:p:=by simp[binOp,Op.intCmp];rfl):p:=h
def Fx{p:Prop}(h:p:=by rw[J4 (Jy.1 e).1];exact e):p:=h
def Fy{p:Prop}(h:p:=by have:=p.b;omega):p:=h
def Ga{p:Prop}(h:p:=by simp[dats,LV.dat,V3,W9]):p:=h
def Gb{p:Prop}(h:p:=by simp[dats,LV.dat,Tt,hf]):p:=h
def Gc{p:Prop}(h:p:=by rw[g];simp[Pc.f]):p:=h
def Ge{p:Prop}(h:p:=by simp[zeroValue,z6b hi,g]):p:=h
def Gf{p:Prop}(h:p:=by simp[h.i]):p:=h
def Gh{p:Prop}(h:p:=by simp[Y]):p:=h
def Gi{p:Prop}(h:p:=by rw[e]):p:=h
def Gk{p:Prop}(h:p:=by have:=p.e;omega):p:=h
def Gl{p:Prop}(h:p:=by have:=congrArg List.length hd;simp at this;omega):p:=h
def Gm{p:Prop}(h:p:=by simp[Sz,Pv,P6,gf,kz,je]):p:=h
def Gn{p:Prop}(h:p:=by simp[Sr,q]at hk):p:=h
def Gp{p:Prop}(h:p:=by rw[zxb];rfl):p:=h
def Gq{p:Prop}(h:p:=by rw[h]):p:=h
def Gr{p:Prop}(h:p:=by have:=(hD.lt e).1;omega):p:=h
def Gs{p:Prop}(h:p:=by have:=(D1.lt e).1;omega):p:=h
def Gt{p:Prop}(h:p:=by simp[LU]):p:=h
def Gu{p:Prop}(h:p:=by rw[Qa I,jL Q];exact T):p:=h
def Gv{p:Prop}(h:p:=by unfold Po;split<;>simp):p:=h
def Gw{p:Prop}(h:p:=by simpa using hm):p:=h
def Gx{p:Prop}(h:p:=by rw[K5,show Nat.ble len S4=true from Kc C];rfl):p:=h
def Gy{p:Prop}(h:p:=by simpa using hb):p:=h
def Ha{p:Prop}(h:p:=by simp[Pv];omega):p:=h
def Hc{p:Prop}(h:p:=by rw[←Nc];congr 1;omega):p:=h
def Hd{p:Prop}(h:p:=by rw[q];rfl):p:=h
def He{p:Prop}(h:p:=by simp[binOp,Op.intCmp]):p:=h
def Hf{p:Prop}(h:p:=by rw[hb _ _ C];exact h2):p:=h
def Hh{p:Prop}(h:p:=by have:s.data.toList.length=s.size:=rfl;omega):p:=h
def Hi{p:Prop}(h:p:=by simp[Op.operands,e]):p:=h
def Hk{p:Prop}(h:p:=by rw[Fr.cat,Fr.stp,Fr.stp,stp_cat r g];omega):p:=h
def Hm{p:Prop}(h:p:=by cases q):p:=h
def Hn{p:Prop}(h:p:=by simpa using e):p:=h
def Ho{p:Prop}(h:p:=by simp[T]):p:=h
def Hq{p:Prop}(h:p:=by simp only[Vx];omega):p:=h
def Hr{p:Prop}(h:p:=by rw[j]):p:=h
def Hs{p:Prop}(h:p:=by show w.a+2*h+2*m≤w.a+(2*n+2*(m+1));omega):p:=h
def Ht{p:Prop}(h:p:=by simp[val]):p:=h
def Hu{p:Prop}(h:p:=by simp[J0,hj]):p:=h
def Hv{p:Prop}(h:p:=by rw[L];omega):p:=h
def Hw{p:Prop}(h:p:=by simp[Pu,cK];omega):p:=h
def Hx{p:Prop}(h:p:=by have:=u.toNat_lt;simp only[Ku];omega):p:=h
def Hy{p:Prop}(h:p:=by simp[S8]at h;omega):p:=h
def Ia{p:Prop}(h:p:=by simp[Qy]at h;omega):p:=h
def Ib{p:Prop}(h:p:=by simp[Rj,e]):p:=h
def Ic{p:Prop}(h:p:=by simp only[Ku];exact Int.ofNat_lt.2 F):p:=h
def Ie{p:Prop}(h:p:=by show y+1≤2*9223372036854775808;omega):p:=h
def If{p:Prop}(h:p:=by show x+1≤2*9223372036854775808;omega):p:=h
def Ih{p:Prop}(h:p:=by rw[Xp,z4x]):p:=h
def Ii{p:Prop}(h:p:=by simp[vl]):p:=h
def Ik{p:Prop}(h:p:=by simp[Rt,hi]):p:=h
def Il{p:Prop}(h:p:=by simp[P8]):p:=h
def Im{p:Prop}(h:p:=by show s.i+1≤_;omega):p:=h
def In{p:Prop}(h:p:=by rw[gD];simp):p:=h
def Io{p:Prop}(h:p:=by rw[Y,z3]):p:=h
def Ip{p:Prop}(h:p:=by rw[O,z1]):p:=h
def Iq{p:Prop}(h:p:=by simp[stepG,stepG.exec,Frame.atR]):p:=h
def Ir{p:Prop}(h:p:=by simp[S9,(zho j ops l _ (i+1) 0).1]):p:=h
def Is{p:Prop}(h:p:=by simp[LV.dat,b9]):p:=h
def It{p:Prop}(h:p:=by rw[P8,J1 J]):p:=h
def Iu{p:Prop}(h:p:=by rw[A,Jz J];exact J3 J):p:=h
def Iv{p:Prop}(h:p:=by rw[g1 g J J J J,hR]):p:=h
def Iw{p:Prop}(h:p:=by rw[hx];exact List.mem_flatMap.2 ⟨_,N,Z⟩):p:=h
def Ix{p:Prop}(h:p:=by rw[A];exact J3 Ab):p:=h
inductive Tr (α:Type) where
 |e
 |n (v:Option α) (l r:Tr α)
structure GetF (α:Type) where run:Tr α→Option α
structure SetF (α:Type) where run:α→Tr α→Tr α
def getF{g:Type}:List Bool→GetF g
 |[]=>⟨λt=>Tr.rec none (λv _ _ _ _=>v) t⟩
 |b::p=>match b with
  |true=>⟨λt=>Tr.rec none (λ_ l _ _ _=>(getF p).run l) t⟩
  |false=>⟨λt=>Tr.rec none (λ_ _ r _ _=>(getF p).run r) t⟩
def n9{g:Type}:List Bool→SetF g
 |[]=>⟨λa t=>Tr.rec (.n (some a) .e .e) (λ_ l r _ _=>.n (some a) l r) t⟩
 |b::p=>match b with
  |true=>⟨λa t=>Tr.rec (.n none ((n9 p).run a .e) .e) (λv l r _ _=>.n v ((n9 p).run a l) r) t⟩
  |false=>⟨λa t=>Tr.rec (.n none .e ((n9 p).run a .e)) (λv l r _ _=>.n v l ((n9 p).run a r)) t⟩
def Pg(p:List Bool)(t:Tr vM):Option vM:=(getF p).run t
def Rf(a:vM)(p:List Bool)(t:Tr vM):Tr vM:=(n9 p).run a t
def zsi:Nat→Nat→List Bool
 |0,_=>[]
 |f+1,k=>match k with
  |0=>[]
  |k+1=>Nat.beq (Nat.mod k 2) 0::zsi f (Nat.div k 2)
def Pz(k:Nat):List Bool:=zsi (Nat.succ k) k
def S4:Nat:=1000000000
def T9{g:Type}:List g→Nat→Tr g→Tr g
 |[],_,t=>t
 |a::l,i,t=>T9 l (i+1) (Rf a (Pz i) t)
inductive AV where
 |bool (b:Bool)
 |int (k:IntKind) (n:Int)
 |str (len n:Nat)
 |nilPtr
 |ptr (o v i:Nat)
 |nilSl
 |sl (o v i len esz:Nat) (room:Option Nat)
 |emp
 |nilMap
 |map (o:Nat)
 |nilFn
 |fn (f:Fn) (first cap:List AV)
 |nilIf
 |iface (t:TypeId) (v:AV)
 |agg (cs:List AV)
 |tup (vs:List AV)
 deriving Inhabited
def AV.cells:AV→Option (List AV)
 |.agg cs=>some cs
 |.tup _=>none
 |v=>some [v]
def Ro:List UInt8→Nat
 |[]=>0
 |b::l=>b.toNat+256*Ro l
def absS:Value→Option AV
 |.bool b=>some (.bool b)
 |.int k n=>some (.int k n)
 |.string s=>some (.str s.data.toList.length (Ro s.data.toList))
 |.pointer none=>some .nilPtr
 |.slice none 0 0=>some .nilSl
 |.map none=>some .nilMap
 |.nilFunc=>some .nilFn
 |.nilIface=>some .nilIf
 |_=>none
def Xe:List Value→Option (List AV)
 |[]=>some []
 |v::l=>match absS v with
  |none=>none
  |some a=>match Xe l with
   |none=>none
   |some r=>some (a::r)
def Z8:Value→Option AV
 |.agg g=>(Xe g.toList).map .agg
 |.tuple j=>if j.size=0 then some (.tup []) else none
 |v=>absS v
inductive AObj where
 |cells (c:Tr AV) (len ver:Nat) (ro:Bool)
 |map (es:List (AV×AV×Nat)) (clock:Nat)
 |iter (len n pos:Nat)
 |loop (st:LoopState) (pend:Option Code) (f nt:Nat) (env:Tr AV) (ps:Array Tmp) (assign body:Code) (defers:Nat)
 |defd (isOpen:Bool)
structure Heap where
 t:Tr AObj
 next:Nat
def Heap.get(H:Heap)(o:Nat):Option AObj:=Pg (Pz o) H.t
def Heap.put(H:Heap)(o:Nat)(x:AObj):Heap:=⟨Rf x (Pz o) H.t,H.next⟩
def Heap.push(H:Heap)(x:AObj):Heap:=⟨Rf x (Pz H.next) H.t,H.next+1⟩
def Vk(c:Tr AV):Nat→Nat→Option (List AV)
 |_,0=>some []
 |i,n+1=>match Pg (Pz i) c with
  |none=>none
  |some a=>match Vk c (i+1) n with
   |none=>none
   |some l=>some (a::l)
def Tn(j:Heap)(o v i n:Nat):Option (List AV) :=
 match j.get o with
 |some (.cells c len g _)=>match Nat.beq v g with
  |true=>match Nat.ble (Nat.add i n) len with
   |true=>Vk c i n
   |false=>none
  |false=>none
 |_=>none
def Zh(j:Heap)(o v i:Nat)(l:List AV):Option Heap :=
 match j.get o with
 |some (.cells c len g false)=>match Nat.beq v g with
  |true=>match Nat.ble (Nat.add i l.length) len with
   |true=>some (j.put o (.cells (T9 l i c) len g false))
   |false=>none
  |false=>none
 |_=>none
def newObj(g:Heap)(l:List AV):Option (Nat×Heap):=some (g.next,g.push (.cells (T9 l 0 .e) l.length 0 false))
inductive Tgt where
 |fn (f:Nat)
 |yield (l:Nat)
inductive OR where
 |no
 |val (v:AV) (H:Heap)
 |call (t:Tgt) (args:List AV)
structure OpdF where run:Tr AV→Option AV
structure OpF where run:Tr AV→Heap→OR
def Um:AV:=.tup []
def P3(x:Operand):OpdF :=
 match x with
 |.tmp t=>match Nat.ble t S4 with
  |true=>⟨λg=>Option.rec (some Um) (λv=>some v) (Pg (Pz t) g)⟩
  |false=>⟨λ_=>none⟩
 |.const v=>match Z8 v with
  |some a=>⟨λ_=>some a⟩
  |none=>⟨λ_=>none⟩
 |.func f=>⟨λ_=>some (.fn (.func f) [] [])⟩
 |.global _=>⟨λ_=>none⟩
structure OpdsF where run:Tr AV→Option (List AV)
def opds:List Operand→OpdsF
 |[]=>⟨λ_=>some []⟩
 |x::l=>⟨λg=>match (P3 x).run g with
  |none=>none
  |some a=>match (opds l).run g with
   |none=>none
   |some r=>some (a::r)⟩
def Qh:OpF:=⟨λ_ _=>.no⟩
def ret1(g:Heap)(o:Option AV):OR:=match o with
 |some v=>.val v g
 |none=>.no
def So(x:Operand)(f:Heap→AV→OR):OpF:=⟨λg j=>Option.rec .no (λa=>f j a) ((P3 x).run g)⟩
def We(x y:Operand)(f:Heap→AV→AV→OR):OpF:=⟨λg j=>Option.rec .no (λa=>Option.rec .no (λb=>f j a b) ((P3 y).run g)) ((P3 x).run g)⟩
def Rt(g:Program)(t:TypeId):Option Nat:=(g.info? t).map (·.size)
def Vv(g:Program)(t:TypeId):Option Bool:=match g.underlying t with
 |some (.struct _)|some (.array _ _)=>some true
 |some _=>some false
 |none=>none
def Vl(g:Program)(t:TypeId):Option (List AV):=match g.info? t with
 |some i=>match i.zero with
  |some v=>match Xe v.cells.toList with
   |some l=>if l.length=i.size then some l else none
   |none=>none
  |none=>none
 |none=>none
def zs4(g:Program)(t:TypeId):Option AV:=match g.info? t with
 |some i=>match i.zero with
  |some v=>Z8 v
  |none=>none
 |none=>none
def Zx(j:Heap)(l:List AV):OR:=match newObj j l with
 |some (o,g)=>.val (.ptr o 0 0) g
 |none=>.no
def xy:IntKind→Nat
 |.i8=>0 |.i16=>1 |.i32=>2 |.i64=>3 |.u8=>4 |.u16=>5 |.u32=>6 |.u64=>7
def bv(k g:IntKind):Bool:=Nat.beq (xy k) (xy g)
def f9(a b:Int):Bool:=match a,b with
 |.ofNat x,.ofNat y=>Nat.beq x y
 |.negSucc x,.negSucc y=>Nat.beq x y
 |_,_=>false
def ltI(a b:Int):Bool:=match a,b with
 |.ofNat x,.ofNat y=>Nat.blt x y
 |.negSucc x,.negSucc y=>Nat.blt y x
 |.negSucc _,.ofNat _=>true
 |.ofNat _,.negSucc _=>false
def cm:IntKind→Nat
 |.i8=>128 |.u8=>128 |.i16=>32768 |.u16=>32768 |.i32=>2147483648 |.u32=>2147483648
 |.i64=>9223372036854775808 |.u64=>9223372036854775808
def Xy(k:IntKind)(n:Int):Int:=match n with
 |.ofNat m=>match Nat.blt m (cm k) with
  |true=>.ofNat m
  |false=>k.wrap (.ofNat m)
 |.negSucc m=>k.wrap (.negSucc m)
def Xw(k:IntKind):Nat:=Nat.mul 2 (cm k)
def ma(f:Nat→Nat→Nat)(k:IntKind)(a b:Int):Option AV:=match a,b with
 |.ofNat x,.ofNat y=>match Nat.blt x (Xw k) with
  |true=>match Nat.blt y (Xw k) with
   |true=>some (.int k (Xy k (.ofNat (f x y))))
   |false=>none
  |false=>none
 |_,_=>none
def vy(b:Int):Bool:=match b with
 |.ofNat n=>Nat.beq n 0
 |_=>false
def zso(op:BinOp)(k:IntKind)(a b:Int):Option AV :=
 match op with
 |.add=>some (.int k (Xy k (Int.add a b)))
 |.sub=>some (.int k (Xy k (Int.sub a b)))
 |.mul=>some (.int k (Xy k (Int.mul a b)))
 |.quo=>match vy b with
  |true=>none
  |false=>some (.int k (Xy k (Int.tdiv a b)))
 |.rem=>match vy b with
  |true=>none
  |false=>some (.int k (Int.tmod a b))
 |.and=>ma Nat.land k a b
 |.or=>ma Nat.lor k a b
 |.xor=>ma Nat.xor k a b
 |.andNot=>ma (λx y=>Nat.xor x (Nat.land x y)) k a b
 |.eql=>some (.bool (f9 a b))
 |.neq=>some (.bool (!(f9 a b)))
 |.lss=>some (.bool (ltI a b))
 |.leq=>some (.bool (!(ltI b a)))
 |.gtr=>some (.bool (ltI b a))
 |.geq=>some (.bool (!(ltI a b)))
 |_=>none
def Sx(a b:Nat):Nat:=match Nat.ble a b with
 |true=>a
 |false=>b
def zou(op:BinOp)(k:IntKind)(a:Int)(y:Int):Option AV :=
 match a,y with
 |.ofNat x,.ofNat y=>match op with
  |.shl=>some (.int k (Xy k (.ofNat (Nat.mul x (Nat.pow 2 (Sx y k.bits))))))
  |.shr=>some (.int k (.ofNat (Nat.div x (Nat.pow 2 (Sx y k.bits)))))
  |_=>none
 |_,_=>none
def Y3:Nat→Nat→List Nat
 |0,_=>[]
 |len+1,n=>Nat.mod n 256::Y3 len (Nat.div n 256)
def yy:List Nat→List Nat→Bool
 |_,[]=>false
 |[],_::_=>true
 |a::x,b::y=>Nat.blt a b || (Nat.beq a b&&yy x y)
def zx5(op:BinOp)(g a j b:Nat):Option AV :=
 match op with
 |.add=>match Nat.ble (Nat.add g j) S4 with
  |true=>some (.str (Nat.add g j) (Nat.add a (Nat.mul b (Nat.pow 256 g))))
  |false=>none
 |.eql=>some (.bool (Nat.beq g j&&Nat.beq a b))
 |.neq=>some (.bool (!(Nat.beq g j&&Nat.beq a b)))
 |.lss=>some (.bool (yy (Y3 g a) (Y3 j b)))
 |.gtr=>some (.bool (!(yy (Y3 g a) (Y3 j b) || (Nat.beq g j&&Nat.beq a b))))
 |.leq=>some (.bool (yy (Y3 g a) (Y3 j b) || (Nat.beq g j&&Nat.beq a b)))
 |.geq=>some (.bool (!(yy (Y3 g a) (Y3 j b))))
 |_=>none
def iw(l:List AV)(g n:Nat):Option (List AV):=match Nat.ble (Nat.add g n) l.length with
 |true=>some ((l.drop g).take n)
 |false=>none
def rz(z:Bool)(g:Nat)(l:List AV)(j:Nat):Option AV :=
 match z with
 |true=>match iw l j g with
  |some r=>some (.agg r)
  |none=>none
 |false=>l[j]?
def zwo(j:Program)(t:TypeId)(l:List AV)(g:Nat):Option AV :=
 match Vv j t,Rt j t with
 |some z,some n=>rz z n l g
 |_,_=>none
def rv(z:Program)(f:TypeId→AV→AV→Option Bool)(g j:List AV):List Field→Option Bool
 |[]=>some true
 | fd :: l => match fd.name != "_" with
  |true=>match zwo z fd.type g fd.offset,zwo z fd.type j fd.offset with
   |some a,some b=>match f fd.type a b with
    |some true=>rv z f g j l
    |some false=>some false
    |none=>none
   |_,_=>none
  |false=>rv z f g j l
def eqEs(z:Program)(f:TypeId→AV→AV→Option Bool)(t:TypeId)(n:Nat)(g j:List AV):List Nat→Option Bool
 |[]=>some true
 |i::l=>match zwo z t g (Nat.mul i n),zwo z t j (Nat.mul i n) with
  |some a,some b=>match f t a b with
   |some true=>eqEs z f t n g j l
   |some false=>some false
   |none=>none
  |_,_=>none
def te(z:Program)(f:TypeId→AV→AV→Option Bool)(t:TypeId)(a b:AV):Option Bool:=match z.underlying t,a,b with
  |some .bool,.bool x,.bool y=>some (x==y)
  |some (.int _),.int k x,.int A y=>match bv k A with
   |true=>some (f9 x y)
   |false=>none
  |some .string,.str B x,.str C y=>some (Nat.beq B C&&Nat.beq x y)
  |some (.pointer _),.nilPtr,.nilPtr=>some true
  |some (.pointer _),.nilPtr,.ptr _ _ _=>some false
  |some (.pointer _),.ptr _ _ _,.nilPtr=>some false
  |some (.interface _),.nilIf,.nilIf=>some true
  |some (.interface _),.nilIf,.iface _ _=>some false
  |some (.interface _),.iface _ _,.nilIf=>some false
  |some (.slice _),.nilSl,.nilSl=>some true
  |some (.slice _),.nilSl,.sl _ _ _ _ _ _=>some false
  |some (.slice _),.sl _ _ _ _ _ _,.nilSl=>some false
  |some (.slice _),.nilSl,.emp=>some false
  |some (.slice _),.emp,.nilSl=>some false
  |some (.map _ _),.nilMap,.nilMap=>some true
  |some (.map _ _),.nilMap,.map _=>some false
  |some (.map _ _),.map _,.nilMap=>some false
  |some (.func _ _ _),.nilFn,.nilFn=>some true
  |some (.func _ _ _),.nilFn,.fn _ _ _=>some false
  |some (.func _ _ _),.fn _ _ _,.nilFn=>some false
  |some (.struct D),.agg g,.agg j=>match z.stoodInHeld t with
   |true=>none
   |false=>rv z f g j D.toList
  |some (.array n e),.agg g,.agg j=>match Rt z e with
   |some s=>eqEs z f e s g j (List.range n)
   |none=>none
  |_,_,_=>none
def eqT(g:Program):Nat→TypeId→AV→AV→Option Bool
 |0=>λ_ _ _=>none
 |d+1=>te g (eqT g d)
def zlq(g:Program)(j:Bool)(t:TypeId)(a b:AV):Bool:=match a,b with
 |.nilIf,.nilIf=>j
 |.agg _,.agg _=>!(g.eqGuardType g.depth t)
 |_,_=>true
def Uh(g:Program)(j:Bool)(t:TypeId)(a b:AV):Option Bool:=match zlq g j t a b with
 |true=>eqT g 20 t a b
 |false=>none
def notB:Option Bool→Option AV
 |some b=>some (.bool (!b))
 |none=>none
def yesB:Option Bool→Option AV
 |some b=>some (.bool b)
 |none=>none
def ai:Operand→Bool
 |.const _=>true
 |_=>false
def R3(A:Program)(op:BinOp)(B:Bool)(t:TypeId)(a b:AV):Option AV :=
 match a,b with
 |.int k x,.int g y=>match op with
  |.shl=>zou .shl k x y
  |.shr=>zou .shr k x y
  |op=>match bv k g with
   |true=>zso op k x y
   |false=>none
 |.str j x,.str z y=>zx5 op j x z y
 |a,b=>match op with
  |.eql=>yesB (Uh A B t a b)
  |.neq=>notB (Uh A B t a b)
  |_=>none
def unA(op:UnOp)(a:AV):Option AV :=
 match op,a with
 |.neg,.int k n=>some (.int k (Xy k (Int.sub 0 n)))
 |.xor,.int k n=>some (.int k (k.wrap (BitVec.ofInt k.bits (if k.signed then -1 else k.max) ^^^ BitVec.ofInt k.bits n).toNat))
 |.not,.bool b=>some (.bool (!b))
 |_,_=>none
def Wy:List AV→Nat→List AV→List AV
 |g,_,[]=>g
 |g,i,a::l=>Wy (g.set i a) (i+1) l
structure Part where
 off:Nat
 size:Nat
 v:OpdF
def rh(cs:List AV):List Part→Tr AV→Option (List AV)
 |[],_=>some cs
 |p::g,j=>match p.v.run j with
  |none=>none
  |some a=>match a.cells with
   |none=>none
   |some l=>match Nat.beq l.length p.size with
    |true=>match Nat.ble (Nat.add p.off p.size) cs.length with
     |true=>rh (Wy cs p.off l) g j
     |false=>none
    |false=>none
def z8x(g:Nat→Option (Nat×Nat)):List (Nat×Operand)→Option (List Part)
 |[]=>some []
 |(i,x)::l=>match g i with
  |none=>none
  |some (o,s)=>match z8x g l with
   |none=>none
   |some r=>some (⟨o,s,P3 x⟩::r)
def zcg(g:Program):List Field→Option (List (Nat×Nat))
 |[]=>some []
 |f::l=>match Rt g f.type with
  |none=>none
  |some s=>match zcg g l with
   |none=>none
   |some r=>some ((f.offset,s)::r)
def zj7(D:Program)(t:TypeId)(g:Array (Nat×Operand)):OpF :=
 match Vl D t with
 |none=>Qh
 |some C=>match D.underlying t with
  |some (.struct j)=>match zcg D j.toList with
   |none=>Qh
   |some pl=>match z8x (pl[·]?) g.toList with
    |none=>Qh
    |some B=>⟨λE F=>match rh C B E with
     |some l=>.val (.agg l) F
     |none=>.no⟩
  |some (.array _ A)=>match Rt D A with
   |none=>Qh
   |some z=>match z8x (λi=>some (i*z,z)) g.toList with
    |none=>Qh
    |some B=>⟨λE F=>match rh C B E with
     |some l=>.val (.agg l) F
     |none=>.no⟩
  |_=>Qh
def Wb(l:List AV):Nat→List AV
 |0=>[]
 |n+1=>l++Wb l n
def z3u(A:Program)(t:TypeId)(len:Nat)(z:Array (Nat×Operand)):OpF :=
 match A.underlying t with
 |some (.slice j)=>match Rt A j with
  |none=>Qh
  |some g=>match Vl A j with
   |none=>Qh
   |some D=>if len*g≤2^20∧0<g then
     match z8x (λi=>some (i*g,g)) z.toList with
     |none=>Qh
     |some B=>⟨λE F=>match rh (Wb D len) B E with
      |some l=>match newObj F l with
       |some (o,C)=>.val (.sl o 0 0 len g (some len)) C
       |none=>.no
      |none=>.no⟩
    else Qh
 |_=>Qh
def zss(j:Program)(t:TypeId)(x:Operand):OpF :=
 match Vv j t,Rt j t with
 |some true,some n=>So x λg a=>match a with
  |.ptr o v i=>match Tn g o v i n with
   |some l=>.val (.agg l) g
   |none=>.no
  |_=>.no
 |some false,some _=>So x λg a=>match a with
  |.ptr o v i=>match Tn g o v i 1 with
   |some [c]=>.val c g
   |_=>.no
  |_=>.no
 |_,_=>Qh
def zoq(j:Program)(t:TypeId)(x y:Operand):OpF :=
 match Rt j t with
 |some n=>We x y λz a b=>match a with
  |.ptr o v i=>match b.cells with
   |some l=>match Nat.beq l.length n with
    |true=>match Zh z o v i l with
     |some g=>.val Um g
     |none=>.no
    |false=>.no
   |none=>.no
  |_=>.no
 |none=>Qh
def z7x(g:Heap)(a:AV):OR:=match a with
 |.ptr o v i=>.val (.ptr o v i) g
 |.iface t v=>.val (.iface t v) g
 |.fn (.func f) l c=>.val (.fn (.func f) l c) g
 |.map o=>.val (.map o) g
 |_=>.no
def Y6(P:Program)(src dst:TypeId)(x:Operand):OpF :=
 match P.underlying src,P.underlying dst with
 |some _,some (.int k)=>So x λH a=>match a with
  |.int _ n=>.val (.int k (Xy k n)) H
  |_=>.no
 |some (.slice e),some .string=>match P.underlying e with
  |some (.int .u8)=>So x λH a=>match a with
   |.nilSl=>.val (.str 0 0) H
   |.sl o v i len 1 _=>match Tn H o v i len with
    |some l=>match bytesA l with
     |some n=>.val (.str len n) H
     |none=>.no
    |none=>.no
   |_=>.no
  |_=>Qh
 |some _,some .string=>So x λH a=>match a with
  |.str l n=>.val (.str l n) H
  |_=>.no
 |some _,some (.slice e)=>match P.underlying e,Rt P e with
  |some (.int .u8),some 1=>So x λH a=>match a with
   |.str len n=>match newObj H ((Y3 len n).map λ(b:Nat)=>AV.int .u8 (Int.ofNat b)) with
    |some (o,H')=>.val (.sl o 0 0 len 1 none) H'
    |none=>.no
   |_=>.no
  |_,_=>Qh
 |_,_=>Qh
where
 bytesA:List AV→Option Nat
  |[]=>some 0
  |.int .u8 (.ofNat b)::l=>if Nat.blt b 256 then match bytesA l with
   |some n=>some (b+256*n)
   |none=>none
   else none
  |_=>none
def zas(g:Program)(t:TypeId)(x:Operand):OpF :=
 match g.underlying t with
 |some (.interface _)=>Qh
 |some _=>So x λj a=>.val (.iface t a) j
 |none=>Qh
def ze1(f:Fn)(first cap:Array Operand):OpF :=
 ⟨λg j=>match (opds first.toList).run g with
  |some l=>match (opds cap.toList).run g with
   |some r=>.val (.fn f l r) j
   |none=>.no
  |none=>.no⟩
def gc(g:Heap):OR:=.val (.map g.next) (g.push (.map [] 0))
def zgf(j:Program)(t:TypeId)(r:Option Operand):OpF :=
 match r with
 |none=>⟨λ_ g=>gc g⟩
 |some x=>match j.underlying t with
  |some (.map _ _)=>So x λg a=>match a with
   |.int _ _=>gc g
   |_=>.no
  |_=>Qh
def z8o(j:Program)(t:TypeId)(l c:Operand):OpF :=
 match j.underlying t with
 |some (.slice g)=>match j.info? g with
  |none=>Qh
  |some i=>match Vl j g with
   |none=>Qh
   |some A=>if 0<i.size∧i.bytes≤2^16 then We l c λB a b=>match a,b with
    |.int .i64 (.ofNat l),.int .i64 (.ofNat c)=>match Nat.ble l c with
     |true=>match Nat.ble c 1048576 with
      |true=>match newObj B (Wb A c) with
       |some (o,z)=>.val (.sl o 0 0 l i.size (some c)) z
       |none=>.no
      |false=>.no
     |false=>.no
    |_,_=>.no
    else Qh
 |_=>Qh
structure OptF where run:Tr AV→Option (Option Nat)
def Sy:Option Operand→OptF
 |none=>⟨λ_=>some none⟩
 |some x=>⟨λg=>match (P3 x).run g with
  |some (.int _ (.ofNat n))=>some (some n)
  |_=>none⟩
def vx(l h m o v i g:Nat):AV :=
 match Nat.beq l m with
 |true=>match Nat.beq l 0 with
  |true=>.sl o v i 0 g (some 0)
  |false=>.emp
 |false=>.sl o v (Nat.add i (Nat.mul l g)) (Nat.sub h l) g (some (Nat.sub m l))
def z8h(l h j:Nat)(A:Option Nat)(o v i g:Nat)(z:Option Nat):Option AV :=
 match Nat.ble l h with
 |false=>none
 |true=>match Nat.ble h j with
  |false=>none
  |true=>match A with
   |some m=>match Nat.ble h m with
    |false=>none
    |true=>match Nat.ble m j with
     |false=>none
     |true=>some (vx l h m o v i g)
   |none=>match z with
    |some r=>some (vx l h r o v i g)
    |none=>match Nat.beq l 0 with
     |true=>some (.sl o v i h g none)
     |false=>match Nat.beq l h with
      |true=>some .emp
      |false=>some (.sl o v (Nat.add i (Nat.mul l g)) (Nat.sub h l) g none)
def Yk(g:Nat)(z hi mx:Option Nat)(o v i len j:Nat)(room:Option Nat):Option AV :=
 match Nat.beq j g with
 |false=>none
 |true=>z8h (z.getD 0) (hi.getD len) (room.getD len) mx o v i j room
def zeo(P:Program)(t:TypeId)(x:Operand)(j hi mx:Option Operand):OpF :=
 match P.underlying t with
 |some .string=>match mx with
  |some _=>Qh
  |none=>⟨λA D=>match (P3 x).run A,(Sy j).run A,(Sy hi).run A with
   |some (.str len n),some j,some hi =>
    let l:=j.getD 0;let h:=hi.getD len
    match Nat.ble l h with
    |true=>match Nat.ble h len with
     |true=>.val (.str (Nat.sub h l) (Nat.mod (Nat.div n (Nat.pow 256 l)) (Nat.pow 256 (Nat.sub h l)))) D
     |false=>.no
    |false=>.no
   |_,_,_=>.no⟩
 |some (.slice z)=>if mx.isSome&&hi.isNone then Qh else match Rt P z with
  |none=>Qh
  |some g=>⟨λA D=>match (P3 x).run A,(Sy j).run A,(Sy hi).run A,(Sy mx).run A with
   |some (.sl o v i len E B),some j,some hi,some mx=>ret1 D (Yk g j hi mx o v i len E B)
   |some .nilSl,some j,some hi,some none=>match Nat.beq (Nat.add (j.getD 0) (hi.getD 0)) 0 with
    |true=>.val .nilSl D
    |false=>.no
   |some .emp,some j,some hi,some none=>match Nat.beq (Nat.add (j.getD 0) (hi.getD 0)) 0 with
    |true=>.val .emp D
    |false=>.no
   |_,_,_,_=>.no⟩
 |some (.array n z)=>if mx.isSome&&hi.isNone then Qh else match Rt P z with
  |none=>Qh
  |some g=>⟨λA D=>match (P3 x).run A,(Sy j).run A,(Sy hi).run A,(Sy mx).run A with
   |some (.ptr o v i),some j,some hi,some mx=>match D.get o with
    |some (.cells _ C F false)=>match Nat.beq v F with
     |true=>match Nat.ble (Nat.add i (Nat.mul n g)) C with
      |true=>ret1 D (Yk g j hi mx o v i n g (some n))
      |false=>.no
     |false=>.no
    |_=>.no
   |_,_,_,_=>.no⟩
 |_=>Qh
def z5z(z:Program)(s:TypeId)(x:Operand)(f:Nat):OpF :=
 match z.underlying s with
 |some (.struct g)=>match g[f]? with
  |none=>Qh
  |some fd=>match Rt z fd.type with
   |none=>Qh
   |some 0=>Qh
   |some _=>let j:=fd.offset;So x λA a=>match a with
    |.ptr o v i=>.val (.ptr o v (Nat.add i j)) A
    |_=>.no
 |_=>Qh
def ziz(z:Program)(t:TypeId)(x:Operand)(f:Nat):OpF :=
 match z.underlying t with
 |some (.struct g)=>match g[f]? with
  |none=>Qh
  |some fd=>match Vv z fd.type,Rt z fd.type with
   |some A,some n=>let j:=fd.offset;So x λB a=>match a with
    |.agg l=>ret1 B (rz A n l j)
    |_=>.no
   |_,_=>Qh
 |_=>Qh
def z5s(B:Program)(t:TypeId)(x A:Operand):OpF :=
 match B.underlying t with
 |some (.slice g)=>match Rt B g with
  |none=>Qh
  |some j=>We x A λC a b=>match a,b with
   |.sl o v i len z _,.int _ (.ofNat n)=>match Nat.blt n len with
    |true=>match Nat.beq z j with
     |true=>.val (.ptr o v (Nat.add i (Nat.mul n z))) C
     |false=>.no
    |false=>.no
   |_,_=>.no
 |some (.array len g)=>match Rt B g with
  |none=>Qh
  |some j=>We x A λC a b=>match a,b with
   |.ptr o v i,.int _ (.ofNat n)=>match Nat.blt n len with
    |true=>.val (.ptr o v (Nat.add i (Nat.mul n j))) C
    |false=>.no
   |_,_=>.no
 |_=>Qh
def zk1(A:Program)(t:TypeId)(x z:Operand):OpF :=
 match A.underlying t with
 |some .string=>We x z λB a b=>match a,b with
  |.str len n,.int _ (.ofNat i)=>match Nat.blt i len with
   |true=>.val (.int .u8 (Int.ofNat (Nat.mod (Nat.div n (Nat.pow 256 i)) 256))) B
   |false=>.no
  |_,_=>.no
 |some (.array len g)=>match Vv A g,Rt A g with
  |some C,some j=>We x z λB a b=>match a,b with
   |.agg l,.int _ (.ofNat n)=>match Nat.blt n len with
    |true=>ret1 B (rz C j l (Nat.mul n j))
    |false=>.no
   |_,_=>.no
  |_,_=>Qh
 |_=>Qh
def zmn(d:TypeDesc)(a b:AV):Option Bool:=match d,a,b with
 |.int _,.int k a,.int g b=>match bv k g with
  |true=>some (f9 a b)
  |false=>none
 |.string,.str j a,.str z b=>some (Nat.beq j z&&Nat.beq a b)
 |.bool,.bool a,.bool b=>some (a==b)
 |_,_,_=>none
def Xz(g:Program)(t:TypeId):Option TypeDesc:=match g.underlying t with
 |some .bool=>some .bool
 |some (.int k)=>some (.int k)
 |some .string=>some .string
 |_=>none
def zo9(d:TypeDesc)(k:AV):List (AV×AV×Nat)→Option (Option AV)
 |[]=>some none
 |(g,v,_)::l=>match zmn d k g with
  |some true=>some (some v)
  |some false=>zo9 d k l
  |none=>none
def zca(d:TypeDesc)(k v:AV)(g:Nat):List (AV×AV×Nat)→Option (List (AV×AV×Nat)×Bool)
 |[]=>some ([(k,v,g)],true)
 |(j,z,b)::l=>match zmn d k j with
  |some true=>some ((k,v,b)::l,false)
  |some false=>match zca d k v g l with
   |some (r,n)=>some ((j,z,b)::r,n)
   |none=>none
  |none=>none
def zj4(d:TypeDesc)(k:AV):List (AV×AV×Nat)→Option (List (AV×AV×Nat))
 |[]=>some []
 |(g,j,b)::l=>match zmn d k g with
  |some true=>some l
  |some false=>match zj4 d k l with
   |some r=>some ((g,j,b)::r)
   |none=>none
  |none=>none
def zyq(j:Heap)(a:AV):Option (List (AV×AV×Nat)):=match a with
 |.nilMap=>some []
 |.map o=>match j.get o with
  |some (.map g _)=>some g
  |_=>none
 |_=>none
def zds(z:Program)(t:TypeId)(x A:Operand)(ok:Bool):OpF :=
 match z.underlying t with
 |some (.map j g)=>match Xz z j,zs4 z g with
  |some d,some D=>We x A λB a b=>match zyq B a with
   |none=>.no
   |some C=>match zo9 d b C with
    |some (some v)=>.val (if ok then .tup [v,.bool true] else v) B
    |some none=>.val (if ok then .tup [D,.bool false] else D) B
    |none=>.no
  |_,_=>Qh
 |_=>Qh
def z5t(D:Program)(t:TypeId)(m k x:Operand):OpF :=
 match D.underlying t with
 |some (.map z _)=>match Xz D z with
  |some d=>⟨λA B=>match (P3 m).run A,(P3 k).run A,(P3 x).run A with
   |some (.map o),some k,some v=>match B.get o with
    |some (.map C g)=>match zca d k v g C with
     |some (j,true)=>.val Um (B.put o (.map j (Nat.add g 1)))
     |some (j,false)=>.val Um (B.put o (.map j g))
     |none=>.no
    |_=>.no
   |_,_,_=>.no⟩
  |none=>Qh
 |_=>Qh
def rangeF(j:Program)(t:TypeId)(x:Operand):OpF :=
 match j.underlying t with
 |some .string=>So x λg a=>match a with
  |.str len n=>.val (.ptr g.next 0 0) (g.push (.iter len n 0))
  |_=>.no
 |_=>Qh
def Zi(x:Operand)(g:Bool):OpF :=
 if g then So x λz a=>match a with
  |.ptr o 0 0=>match z.get o with
   |some (.iter len n j)=>match Nat.blt j len with
    |true=>match Nat.blt (Nat.mod (Nat.div n (Nat.pow 256 j)) 256) 128 with
     |true=>.val (.tup [.bool true,.int .i64 (Int.ofNat j),.int .i32 (Int.ofNat (Nat.mod (Nat.div n (Nat.pow 256 j)) 256))]) (z.put o (.iter len n (Nat.add j 1)))
     |false=>.no
    |false=>.val (.tup [.bool false]) z
   |_=>.no
  |_=>.no
 else Qh
def ze8(z:Program)(x:Operand)(g:TypeId)(ok:Bool):OpF :=
 match z.underlying g with
 |some (.interface _)=>Qh
 |some _=>match zs4 z g with
  |none=>Qh
  |some A=>So x λj a=>match a with
   |.nilIf=>if ok then .val (.tup [A,.bool false]) j else .no
   |.iface t v=>match Nat.beq t g with
    |true=>.val (if ok then .tup [v,.bool true] else v) j
    |false=>if ok then .val (.tup [A,.bool false]) j else .no
   |_=>.no
 |none=>Qh
def zhr(x:Operand)(i:Nat):OpF:=So x λg a=>match a with
 |.tup l=>ret1 g l[i]?
 |_=>.no
def Ya(z:Program)(t:TypeId)(x:Operand):OpF :=
 match z.underlying t with
 |some .string=>So x λg a=>match a with
  |.str l _=>.val (.int .i64 (Int.ofNat l)) g
  |_=>.no
 |some (.slice _)=>So x λg a=>match a with
  |.sl _ _ _ len _ _=>.val (.int .i64 (Int.ofNat len)) g
  |.nilSl=>.val (.int .i64 0) g
  |.emp=>.val (.int .i64 0) g
  |_=>.no
 |some (.map _ _)=>So x λg a=>match a with
  |.nilMap=>.val (.int .i64 0) g
  |.map o=>match g.get o with
   |some (.map j _)=>.val (.int .i64 (Int.ofNat j.length)) g
   |_=>.no
  |_=>.no
 |some (.array n _)=>So x λg _=>.val (.int .i64 (Int.ofNat n)) g
 |_=>Qh
def Zy(j:Program)(t:TypeId)(x:Operand):OpF :=
 match j.underlying t with
 |some (.slice _)=>So x λg a=>match a with
  |.nilSl=>.val (.int .i64 0) g
  |.sl _ _ _ _ _ (some r)=>.val (.int .i64 (Int.ofNat r)) g
  |_=>.no
 |_=>Qh
def Z0(g:Bool):AV→AV→Option AV
 |.int k x,.int j y=>match bv k j with
  |true=>match g with
   |true=>match ltI x y with
    |true=>some (.int k y)
    |false=>some (.int k x)
   |false=>match ltI y x with
    |true=>some (.int k y)
    |false=>some (.int k x)
  |false=>none
 |_,_=>none
def lu(g:Bool):AV→List AV→Option AV
 |a,[]=>some a
 |a,b::l=>match Z0 g a b with
  |some c=>lu g c l
  |none=>none
def W8(j:Bool)(g:List Operand):OpF:=⟨λz A=>match (opds g).run z with
 |some (.int k n::l)=>ret1 A (lu j (.int k n) l)
 |_=>.no⟩
def ow(z:Heap)(g:Nat):AV→Option (Nat×List AV)
 |.nilSl=>some (0,[])
 |.emp=>some (0,[])
 |.sl o v i len j _=>match Nat.beq j g with
  |true=>match Tn z o v i (Nat.mul len g) with
   |some l=>some (len,l)
   |none=>none
  |false=>none
 |.str len n=>if Nat.beq g 1 then some (len,(Y3 len n).map λ(b:Nat)=>AV.int .u8 (Int.ofNat b)) else none
 |_=>none
def kx(z:Heap)(n g:Nat)(l:List AV):OR :=
 match newObj z l with
 |some (o,j)=>.val (.sl o 0 0 n g none) j
 |none=>.no
def Zk(D:Heap)(j:Nat)(s:AV)(n:Nat)(A:List AV):OR :=
 match Nat.beq n 0 with
 |true=>match s with
  |.nilSl=>.val .nilSl D
  |.emp=>.val .emp D
  |.sl o v i len g B=>.val (.sl o v i len g B) D
  |_=>.no
 |false=>match s with
  |.nilSl=>kx D n j A
  |.sl o v i len g B=>match Nat.beq g j&&Nat.ble len S4 with
   |false=>.no
   |true=>match B with
    |some r=>match Nat.ble (Nat.add len n) r with
     |true=>match Zh D o v (Nat.add i (Nat.mul len g)) A with
      |some E=>.val (.sl o v i (Nat.add len n) g (some r)) E
      |none=>.no
     |false=>match Tn D o v i (Nat.mul len j) with
      |some F=>kx D (Nat.add len n) j (F++A)
      |none=>.no
    |none=>match D.get o with
     |some (.cells c z C false)=>match Nat.beq v C with
      |false=>.no
      |true=>match Nat.ble (Nat.add i (Nat.mul (Nat.add len n) g)) z with
       |true=>match Zh D o v (Nat.add i (Nat.mul len g)) A with
        |some E=>.val (.sl o v i (Nat.add len n) g none) E
        |none=>.no
       |false=>match Nat.beq i 0 with
        |false=>.no
        |true=>match Nat.beq (Nat.mul len g) z with
         |false=>.no
         |true=>.val (.sl o (Nat.add C 1) 0 (Nat.add len n) g none) (D.put o (.cells (T9 A z c) (Nat.add z A.length) (Nat.add C 1) false))
     |_=>.no
  |_=>.no
def zmo(P:Program)(g:TypeId)(s x:Operand):OpF :=
 match P.info? g,Vl P g with
 |some i,some j=>if 0<i.size∧i.bytes≤65536 then We s x λz a b=>match b with
   |.int .i64 (.ofNat n)=>match Nat.ble n 1048576 with
    |true=>Zk z i.size a n (Wb j n)
    |false=>.no
   |_=>.no
  else Qh
 |_,_=>Qh
def zbd(P:Program)(g:TypeId)(s x:Operand):OpF :=
 match P.info? g,Vl P g with
 |some i,some _=>if 0<i.size∧i.bytes≤65536 then We s x λj a b=>match ow j i.size b with
   |some (n,l)=>match Nat.ble n 1048576 with
    |true=>Zk j i.size a n l
    |false=>.no
   |none=>.no
  else Qh
 |_,_=>Qh
def zil(P:Program)(z:Array TypeId)(j:Array Operand):OpF :=
 match z.toList,j.toList with
 |[st,A],[s,x]=>match P.underlying st,P.underlying A with
  |some (.slice g),some (.int _)=>zmo P g s x
  |some (.slice g),some (.slice _)=>zbd P g s x
  |some (.slice g),some .string=>zbd P g s x
  |_,_=>Qh
 |_,_=>Qh
def Y9(P:Program)(C:Array TypeId)(j:Array Operand):OpF :=
 match C.toList,j.toList with
 |[st,_],[d,x]=>match P.underlying st with
  |some (.slice z)=>match Rt P z with
   |none=>Qh
   |some g=>if 0<g then We d x λB a b=>match ow B g b with
    |some (n,l)=>match a with
     |.nilSl=>.val (.int .i64 0) B
     |.emp=>.val (.int .i64 0) B
     |.sl o v i len A _=>match Nat.beq A g with
      |true=>match Zh B o v i (l.take (Nat.mul (Sx n len) g)) with
       |some D=>.val (.int .i64 (Int.ofNat (Sx n len))) D
       |none=>.no
      |false=>.no
     |_=>.no
    |none=>.no
    else Qh
  |_=>Qh
 |_,_=>Qh
def zrc(B:Program)(C:Array TypeId)(z:Array Operand):OpF :=
 match C.toList,z.toList with
 |[st],[x]=>match B.underlying st with
  |some (.slice g)=>match Rt B g,Vl B g with
   |some j,some F=>if 0<j then So x λD a=>match a with
    |.nilSl=>.val Um D
    |.emp=>.val Um D
    |.sl o v i len A _=>match Nat.beq A j with
     |true=>match Zh D o v i (Wb F len) with
      |some E=>.val Um E
      |none=>.no
     |false=>.no
    |_=>.no
    else Qh
   |_,_=>Qh
  |_=>Qh
 |_,_=>Qh
def zhy(D:Program)(B:Array TypeId)(j:Array Operand):OpF :=
 match B.toList,j.toList with
 |[mt,_],[m,k]=>match D.underlying mt with
  |some (.map z _)=>match Xz D z with
   |some d=>We m k λE a b=>match a with
    |.map o=>match E.get o with
     |some (.map C g)=>match zj4 d b C with
      |some A=>.val Um (E.put o (.map A g))
      |none=>.no
     |_=>.no
    |_=>.no
   |none=>Qh
  |_=>Qh
 |_,_=>Qh
def z7j(g:Program)(f:Nat):Bool:=match g.funcs[f]? with
 | some fn => fn.name != "runtime.NumGoroutine" && fn.body.isSome
 |none=>false
def zij(j:Program)(t:TypeId)(g:String):Option Nat:=match j.info? t with
 |some i=>match i.methods.find? (·.name==g) with
  |some m=>if m.path.isEmpty then match m.func,j.underlying t with
   |some (f,true),some (.pointer _)=>some f
   |some (_,false),some (.pointer _)=>none
   |some (f,false),some _=>some f
   |_,_=>none
   else none
  |none=>none
 |none=>none
def zd5(g:Program)(f:AV)(args:List AV):OR:=match f with
 |.fn (.func f) first cap=>if z7j g f then .call (.fn f) (first++args++cap) else .no
 |.fn (.yield l) [] _=>.call (.yield l) args
 |_=>.no
def zg6(P:Program)(f:Nat):Bool:=match P.funcs[f]? with
 | some fn => fn.name == "maps.clone" && fn.origin == "" && fn.body.isNone
 |none=>false
def ztp(g:Heap):List AV→OR
 |[.iface t (.map o)]=>match g.get o with
  |some (.map j z)=>.val (.iface t (.map g.next)) (g.push (.map j z))
  |_=>.no
 |_=>.no
def zjy(j:Program)(A:Heap)(z:AV)(g:List AV):OR:=match z with
 |.fn (.func f) [] []=>match zg6 j f with
  |true=>ztp A g
  |false=>zd5 j z g
 |_=>zd5 j z g
def xm(j:Program)(c:Call):OpF :=
 match c.callee with
 |.builtin b=>match b with
  |.len=>match c.argTypes.toList,c.args.toList with
   |[t],[x]=>Ya j t x
   |_,_=>Qh
  |.cap=>match c.argTypes.toList,c.args.toList with
   |[t],[x]=>Zy j t x
   |_,_=>Qh
  |.max=>W8 true c.args.toList
  |.min=>W8 false c.args.toList
  |.append=>zil j c.argTypes c.args
  |.copy=>Y9 j c.argTypes c.args
  |.clear=>zrc j c.argTypes c.args
  |.delete=>zhy j c.argTypes c.args
  |_=>Qh
 |.value f=>⟨λz A=>match (P3 f).run z with
  |some B=>match (opds c.args.toList).run z with
   |some l=>zjy j A B l
   |none=>.no
  |none=>.no⟩
 |.invoke r g=>⟨λz _=>match (P3 r).run z with
  |some (.iface t v)=>match zij j t g with
   |some f=>match (opds c.args.toList).run z with
    |some l=>if z7j j f then .call (.fn f) (v::l) else .no
    |none=>.no
   |none=>.no
  |_=>.no⟩
def Qq(P:Program)(o:Op):OpF :=
 match o with
 |.move x |.assign x=>So x λj a=>.val a j
 |.pick c a b=>⟨λz j=>match (P3 c).run z with
  |some (.bool true)=>ret1 j ((P3 a).run z)
  |some (.bool false)=>ret1 j ((P3 b).run z)
  |_=>.no⟩
 |.alloc t=>match Vl P t with
  |some l=>⟨λ_ j=>Zx j l⟩
  |none=>Qh
 |.box _ x=>So x λj a=>match a.cells with
  |some l=>Zx j l
  |none=>.no
 |.build t g=>zj7 P t g
 |.buildSlice t len g=>z3u P t len g
 |.load t a=>zss P t a
 |.store t a x=>zoq P t a x
 |.nilCheck x=>So x z7x
 |.binOp op t x y _=>let D:=ai x || ai y;We x y λj a b=>ret1 j (R3 P op D t a b)
 |.unOp op _ x=>So x λj a=>ret1 j (unA op a)
 |.convert s d x=>Y6 P s d x
 |.makeInterface t x=>zas P t x
 |.makeFunc f first cap=>match f with
  |.yield _=>Qh
  |f=>ze1 f first cap
 |.makeMap t r=>zgf P t r
 |.makeSlice t l c=>z8o P t l c
 |.slice t x A hi B=>zeo P t x A hi B
 |.fieldAddr s x f=>z5z P s x f
 |.field t x f=>ziz P t x f
 |.indexAddr t x i=>z5s P t x i
 |.index t x i=>zk1 P t x i
 |.lookup t x i ok=>zds P t x i ok
 |.mapUpdate t m k x |.insert t m k x=>z5t P t m k x
 |.range t x=>rangeF P t x
 |.next C s=>Zi C s
 |.typeAssert x _ t ok=>ze8 P x t ok
 |.extract t i=>zhr t i
 |.call c=>xm P c
 |_=>Qh
inductive RV where
 |no
 |ok (v:AV) (H:Heap)
abbrev Ti:=Tgt→List AV→Heap→RV
inductive OE where
 |no
 |ok (E:Tr AV) (H:Heap)
structure SeqF where run:Ti→Tr AV→Heap→OE
structure PutF where run:AV→Tr AV→Tr AV
def Tq(n:Nat)(d:Option Tmp):Option PutF :=
 match d with
 |none=>some ⟨λ_ g=>g⟩
 |some d=>if d<n then some ⟨λa g=>Rf a (Pz d) g⟩ else none
structure GuardF where run:Tr AV→Bool
def Vh(ops:Array Oper)(o:Oper):GuardF :=
 match o.guard with
 |none=>⟨λ_=>true⟩
 |some (j,g)=>match (ops[j]?).bind (·.dst) with
  |none=>⟨λ_=>false⟩
  |some d=>if d≤S4 then ⟨λz=>match Pg (Pz d) z with
   |some (.bool b)=>match b with
    |true=>g
    |false=>!g
   |_=>false⟩ else ⟨λ_=>false⟩
def Ts(P:Program)(n:Nat)(ops:Array Oper)(o:Oper):SeqF :=
 match Tq n o.dst with
 |none=>⟨λ_ _ _=>.no⟩
 |some p=>⟨λc z A=>Bool.rec (.ok (p.run Um z) A)
   (OR.rec .no (λv j=>.ok (p.run v z) j) (λt g=>RV.rec .no (λv j=>.ok (p.run v z) j) (c t g A)) ((Qq P o.op).run z A))
   ((Vh ops o).run z)⟩
def zd(B:Program)(n:Nat)(ops:Array Oper):List Oper→SeqF
 |[]=>⟨λ_ g j=>.ok g j⟩
 |o::l=>⟨λc g j=>OE.rec .no (λz A=>(zd B n ops l).run c z A) ((Ts B n ops o).run c g j)⟩
inductive Cls where
 |quiet|rd|ch|al
def zoy(g:Program)(t:TypeId):Bool:=match g.underlying t with
 |some (.map _ _)=>true
 |_=>false
def zr5(g:Program)(t:TypeId):Bool:=match g.underlying t with
 |some (.array _ _)=>true
 |_=>false
def zqm(g:Program)(t:TypeId):Bool:=match g.underlying t with
 |some (.slice _)=>true
 |_=>false
def zgc(g:Program)(c:Call):Cls:=match c.callee with
 |.builtin .len=>match c.argTypes.toList with
  |[t]=>if zoy g t then .rd else .quiet
  |_=>.ch
 |.builtin .cap |.builtin .max |.builtin .min=>.quiet
 |_=>.ch
def cls(g:Program)(o:Op):Cls :=
 match o with
 |.move _ |.assign _ |.pick _ _ _ |.build _ _ |.nilCheck _ |.binOp _ _ _ _ _ |.unOp _ _ _ |.makeInterface _ _ |.makeFunc _ _ _ |.fieldAddr _ _ _
 |.field _ _ _ |.indexAddr _ _ _ |.index _ _ _ |.typeAssert _ _ _ _ |.extract _ _=>.quiet
 |.slice t _ _ _ _=>if zr5 g t then .rd else .quiet
 |.convert s d _=>if zqm g d then .ch else if zqm g s then .rd else .quiet
 |.load _ _ |.lookup _ _ _ _=>.rd
 |.call c=>zgc g c
 |.alloc _ |.box _ _ |.buildSlice _ _ _ |.makeSlice _ _ _ |.makeMap _ _=>.al
 |_=>.ch
def zgm(g:List Nat):List Edge→Nat
 |[]=>0
 |e::l=>match Region.binds .any e with
  |true=>Nat.lor (Nat.lor (2^e.on) (g.getD e.on 0)) (zgm g l)
  |false=>zgm g l
def zqx:List Nat→Nat
 |[]=>0
 |t::l=>Nat.lor (2^t) (zqx l)
def zgu:List Operand→List Nat
 |[]=>[]
 |.tmp t::l=>t::zgu l
 |_::l=>zgu l
def Xo(ops:Array Oper)(o:Oper):List Nat :=
 zgu o.op.operands.toList++(match o.guard with
  |some (g,_)=>((ops[g]?).bind (·.dst)).toList
  |none=>[])
structure DOp where
 o:Oper
 i:Nat
 m:Nat
 lm:Nat
 c:Cls
def S9(j:Program)(ops:Array Oper):List Oper→List Nat→Nat→List DOp
 |[],_,_=>[]
 |o::l,g,i=>⟨o,i,zgm g o.after.toList,zqx (Xo ops o),cls j o.op⟩::S9 j ops l (g++[zgm g o.after.toList]) (i+1)
def Pp(x:DOp):Bool:=match x.c with
 |.ch=>true
 |_=>false
def Wu(x:DOp):Bool:=match x.c with
 |.rd=>true
 |.al=>true
 |_=>false
def zt9(x:DOp):Bool:=match x.c with
 |.quiet=>true
 |_=>false
def zvf(x y:DOp):Bool:=match y.o.dst with
 |none=>true
 |some d=>match Nat.testBit x.lm d with
  |false=>true
  |true=>match Nat.beq x.i y.i with
   |true=>!(Wu x)
   |false=>match Nat.testBit x.m y.i with
    |true=>true
    |false=>match Nat.testBit y.m x.i with
     |true=>!(Wu x)
     |false=>false
def Yz{g:Type}(f:g→Bool):List g→Bool
 |[]=>true
 |a::l=>match f a with
  |true=>Yz f l
  |false=>false
def looksOk(g:List DOp):Bool:=Yz (λx=>Yz (zvf x) g) g
def zpw:List DOp→Nat→Bool
 |[],_=>true
 |x::l,seen=>match x.o.dst with
  |none=>zpw l seen
  |some d=>match Nat.testBit seen d with
   |true=>false
   |false=>zpw l (Nat.lor (2^d) seen)
def Ry:List DOp→Nat→Nat→Option Nat
 |[],seen,_=>some seen
 |x::l,seen,g=>match Nat.beq (Nat.land x.m seen) x.m with
  |false=>none
  |true=>match Nat.testBit seen x.i with
   |true=>none
   |false=>match zt9 x with
    |true=>Ry l (Nat.lor (2^x.i) seen) g
    |false=>match Nat.beq (Nat.land g x.m) g with
     |false=>none
     |true=>match Pp x with
      |true=>Ry l (Nat.lor (2^x.i) seen) (Nat.lor (2^x.i) g)
      |false=>Ry l (Nat.lor (2^x.i) seen) g
def Qi{g:Type}(f:g→Bool):List g→List g
 |[]=>[]
 |a::l=>match f a with
  |true=>a::Qi f l
  |false=>Qi f l
def rank(x:DOp):List DOp→Nat
 |[]=>0
 |c::l=>match Nat.testBit x.m c.i with
  |true=>Nat.succ (rank x l)
  |false=>rank x l
def xx(j g:List DOp)(p:Nat):List DOp:=Qi (λx=>match Pp x with
 |true=>false
 |false=>Nat.beq (rank x g) p) j
def znv(z g:List DOp):List DOp→Nat→List DOp
 |[],_=>[]
 |c::j,p=>c::(xx z g p++znv z g j (p+1))
def zy7(j g:List DOp):List DOp:=xx j g 0++znv j g g 1
def lg{g:Type}(f:g→g→Bool):List g→List g→Bool
 |[],[]=>true
 |a::l,b::r=>match f a b with
  |true=>lg f l r
  |false=>false
 |_,_=>false
def T5:Nat→AV→AV→Bool
 |0,_,_=>false
 |n+1,a,b=>match a,b with
  |.bool x,.bool y=>x==y
  |.int k x,.int C y=>bv k C&&f9 x y
  |.str l x,.str m y=>Nat.beq l m&&Nat.beq x y
  |.nilPtr,.nilPtr=>true
  |.ptr o v i,.ptr g j z=>Nat.beq o g&&Nat.beq v j&&Nat.beq i z
  |.nilSl,.nilSl=>true
  |.sl o v i l e r,.sl g j z D E F=>Nat.beq o g&&Nat.beq v j&&Nat.beq i z&&Nat.beq l D&&Nat.beq e E&&r==F
  |.emp,.emp=>true
  |.nilMap,.nilMap=>true
  |.map o,.map g=>Nat.beq o g
  |.nilFn,.nilFn=>true
  |.fn (.func f) x y,.fn (.func G) A B=>Nat.beq f G&&lg (T5 n) x A&&lg (T5 n) y B
  |.fn (.yield f) x y,.fn (.yield G) A B=>Nat.beq f G&&lg (T5 n) x A&&lg (T5 n) y B
  |.nilIf,.nilIf=>true
  |.iface t v,.iface H j=>Nat.beq t H&&T5 n v j
  |.agg x,.agg y=>lg (T5 n) x y
  |.tup x,.tup y=>lg (T5 n) x y
  |_,_=>false
def Qf:AV→Option Nat
 |.ptr o _ _=>some o
 |.sl o _ _ _ _ _=>some o
 |.map o=>some o
 |_=>none
def S6(id:Nat):AV→AV
 |.ptr _ v i=>.ptr id v i
 |.sl _ v i l e r=>.sl id v i l e r
 |.map _=>.map id
 |v=>v
def zs2(c g:Tr AV)(len:Nat):Bool:=match Vk c 0 len,Vk g 0 len with
 |some l,some j=>lg (T5 30) l j
 |_,_=>false
def eqObj:AObj→AObj→Bool
 |.cells c len z B,.cells C g j A=>Nat.beq len g&&Nat.beq z j&&B==A&&zs2 c C len
 |.map [] k,.map [] D=>Nat.beq k D
 |_,_=>false
def bm(b:Bool)(x y:vM):Bool:=match b with
 |true=>true
 |false=>@decide (x=y) (Classical.propDecidable _)
def Z9(v g:AV)(z j:Heap):Bool:=match Qf v with
 |none=>false
 |some id=>match bm (T5 30 v (S6 id g)) v (S6 id g) with
  |false=>false
  |true=>match z.get id,j.get z.next with
   |some a,some b=>bm (eqObj a b) a b
   |_,_=>false
structure ChkF where run:Tr AV→Heap→Bool
def nm(P:Program)(ops:Array Oper)(x:DOp):ChkF :=
 match x.o.dst with
 |none=>⟨λ_ _=>false⟩
 |some d=>⟨λj A=>match (Vh ops x.o).run j with
  |false=>true
  |true=>match Pg (Pz d) j with
   |none=>false
   |some v=>match (Qq P x.o.op).run j A with
    |.val g z=>match x.c with
     |.al=>Z9 v g A z
     |_=>bm (T5 30 v g) v g
    |_=>false⟩
def z7l(g:Program)(ops:Array Oper):List DOp→ChkF
 |[]=>⟨λ_ _=>true⟩
 |x::l=>⟨λj z=>match (nm g ops x).run j z with
  |true=>(z7l g ops l).run j z
  |false=>false⟩
def X1(P:Program)(n:Nat)(ops:Array Oper):List DOp→List DOp→SeqF
 |[],_=>⟨λ_ B C=>.ok B C⟩
 |x::l,g=>match x.c with
  |.quiet=>⟨λk B C=>OE.rec .no (λz A=>(X1 P n ops l g).run k z A) ((Ts P n ops x.o).run k B C)⟩
  |.rd=>⟨λk B C=>OE.rec .no (λz A=>(X1 P n ops l (x::g)).run k z A) ((Ts P n ops x.o).run k B C)⟩
  |.al=>⟨λk B C=>OE.rec .no (λz A=>Bool.rec .no ((X1 P n ops l (x::g)).run k z A) ((z7l P ops (x::g)).run z A)) ((Ts P n ops x.o).run k B C)⟩
  |.ch =>
   let j:=Qi (λy=>!(Nat.testBit x.m y.i)) g
   ⟨λk B C=>OE.rec .no (λz A=>Bool.rec .no ((X1 P n ops l j).run k z A) ((z7l P ops j).run z A)) ((Ts P n ops x.o).run k B C)⟩
def ac(n:Nat)(j g:List DOp):Bool:=match Ry g 0 0 with
 |none=>false
 |some s=>match Nat.beq s (Nat.sub (2^n) 1) with
  |false=>false
  |true=>match zpw j 0 with
   |false=>false
   |true=>looksOk j
def zab(A:Program)(n:Nat)(ops:Array Oper):SeqF :=
 let z:=S9 A ops ops.toList [] 0;let g:=Qi Pp z;let j:=zy7 z g
 match ac ops.size z j with
 |true=>X1 A n ops j []
 |false=>⟨λ_ _ _=>.no⟩
inductive Ex where
 |normal
 |exit (id:Nat)
 |ret
inductive Res where
 |no
 |ok (x:Ex) (E:Tr AV) (D:List Nat) (H:Heap)
structure CodeF where run:Ti→Nat→Option Nat→Tr AV→List Nat→Heap→Res
def stuckC:CodeF:=⟨λ_ _ _ _ _ _=>.no⟩
def tv(f:Tr AV→List Nat→Heap→Res):Nat→Tr AV→List Nat→Heap→Res
 |0,_,_,_=>.no
 |m+1,A,B,C=>match f A B C with
  |.no=>.no
  |.ok x g j z=>match x with
   |.normal=>tv f m g j z
   |x=>.ok x g j z
def zg2(f n:Nat)(j:Array Tmp)(assign body:Code)(z:Option Nat)(A:Tr AV)(B:List Nat)(g:Heap):Option (Nat×List Nat×Heap) :=
 match z with
 |none=>some (Nat.add g.next 1,g.next::B,(g.push (.defd true)).push (.loop .ready none f n A j assign body g.next))
 |some l=>match g.get l with
  |some (.loop _ _ _ _ _ _ _ _ d)=>some (g.next,B,g.push (.loop .ready none f n A j assign body d))
  |_=>none
def exOf:Code→Option Ex
 |.ret=>some .ret
 |.exit id=>some (.exit id)
 |_=>none
def zmq(l:Nat)(z:Heap):Option (Option Code×Heap):=match z.get l with
 |some (.loop st g f n A j a b d)=>match st with
  |.busy=>none
  |_=>some (g,z.put l (.loop .exhausted g f n A j a b d))
 |_=>none
def Sk(P:Program)(f n:Nat):Code→CodeF
 |.skip=>⟨λ_ _ _ j A B=>.ok .normal j A B⟩
 |.region _ ops draw =>
  let s:=match draw with
   |true=>zab P n ops
   |false=>zd P n ops ops.toList
  ⟨λk _ _ j A B=>match s.run k j B with
   |.no=>.no
   |.ok D z=>.ok .normal D A z⟩
 |.seq a b=>⟨λk m g j A B=>Res.rec .no (λx D C z=>Ex.rec ((Sk P f n b).run k m g D C z) (λid=>.ok (.exit id) D C z) (.ok .ret D C z) x)
   ((Sk P f n a).run k m g j A B)⟩
 |.cond c a b=>⟨λk m g j A B=>match (P3 c).run j with
  |some (.bool t)=>match t with
   |true=>(Sk P f n a).run k m g j A B
   |false=>(Sk P f n b).run k m g j A B
  |_=>.no⟩
 |.block id c=>⟨λk m g j A B=>match (Sk P f n c).run k m g j A B with
  |.no=>.no
  |.ok x D C z=>match x with
   |.exit E=>match Nat.beq E id with
    |true=>.ok .normal D C z
    |false=>.ok (.exit E) D C z
   |x=>.ok x D C z⟩
 |.loop c=>⟨λk m g j A B=>tv ((Sk P f n c).run k m g) m j A B⟩
 |.rangeFunc H I a b=>⟨λk _ g j A B=>match (P3 H).run j with
  |none=>.no
  |some gv=>match zg2 f n I a b g j A B with
   |none=>.no
   |some (l,C,z)=>match zd5 P gv [.fn (.yield l) [] []] with
    |.call (.fn H) F=>match k (.fn H) F z with
     |.no=>.no
     |.ok _ K=>match zmq l K with
      |none=>.no
      |some (none,G)=>.ok .normal j C G
      |some (some c,G)=>match exOf c with
       |none=>.no
       |some x=>.ok x j C G
    |_=>.no⟩
 |.exit id=>⟨λ_ _ _ j A B=>.ok (.exit id) j A B⟩
 |.scope c=>⟨λk m g j A B=>(Sk P f n c).run k m g j A B⟩
 |.label _=>⟨λ_ _ _ j A B=>.ok .normal j A B⟩
 |.ret=>⟨λ_ _ _ j A B=>.ok .ret j A B⟩
 |_=>stuckC
structure ResF where run:Tr AV→Heap→Option AV
def resF(z:Program)(r:ResultVar):ResF :=
 match r with
 |.tmp t=>⟨λg _=>(P3 (.tmp t)).run g⟩
 |.cell a t=>match Vv z t,Rt z t with
  |some true,some n=>⟨λg j=>match (P3 (.tmp a)).run g with
   |some (.ptr o v i)=>match Tn j o v i n with
    |some l=>some (.agg l)
    |none=>none
   |_=>none⟩
  |some false,some _=>⟨λg j=>match (P3 (.tmp a)).run g with
   |some (.ptr o v i)=>match Tn j o v i 1 with
    |some [c]=>some c
    |_=>none
   |_=>none⟩
  |_,_=>⟨λ_ _=>none⟩
structure RessF where run:Tr AV→Heap→Option (List AV)
def zqt(g:Program):List ResultVar→RessF
 |[]=>⟨λ_ _=>some []⟩
 |r::l=>⟨λj z=>match (resF g r).run j z with
  |none=>none
  |some a=>match (zqt g l).run j z with
   |none=>none
   |some b=>some (a::b)⟩
def za8:List Nat→Heap→Option Heap
 |[],g=>some g
 |d::l,g=>match g.get d with
  |some (.defd true)=>za8 l (g.put d (.defd false))
  |_=>none
structure FunF where run:Ti→Nat→List AV→Heap→RV
def zic(A:Program)(f:Nat):FunF :=
 match A.funcs[f]? with
 |none=>⟨λ_ _ _ _=>.no⟩
 |some fn=>match fn.body with
  |none=>⟨λ_ _ _ _=>.no⟩
  |some j=>if fn.ntmps≤S4 then
   ⟨λk m g C=>match Nat.ble g.length fn.ntmps with
    |false=>.no
    |true=>match (Sk A f fn.ntmps j).run k m none (T9 g 0 .e) [] C with
     |.no=>.no
     |.ok x D E B=>match x with
      |.exit _=>.no
      |_=>match za8 E B with
       |none=>.no
       |some z=>match (zqt A fn.results.toList).run D z with
        |some [v]=>.ok v z
        |some l=>.ok (.tup l) z
        |none=>.no⟩
   else ⟨λ_ _ _ _=>.no⟩
def zyg:List Tmp→List AV→Nat→Tr AV→Option (Tr AV)
 |[],[],_,g=>some g
 |p::j,a::as,n,g=>match Nat.blt p n with
  |true=>zyg j as n (Rf a (Pz p) g)
  |false=>none
 |_,_,_,_=>none
def zvh(l:Nat)(z:Heap):Option Heap:=match z.get l with
 |some (.loop .ready g f n A j a b d)=>some (z.put l (.loop .busy g f n A j a b d))
 |_=>none
def zk7(l:Nat)(x:Ex)(j:Heap):RV:=match j.get l with
 |some (.loop _ _ f n z g a b d)=>match x with
  |.normal=>.ok (.bool true) (j.put l (.loop .ready none f n z g a b d))
  |.ret=>.ok (.bool false) (j.put l (.loop .done (some .ret) f n z g a b d))
  |.exit id=>.ok (.bool false) (j.put l (.loop .done (some (.exit id)) f n z g a b d))
 |_=>.no
def U6(P:Program)(O:Ti):Nat→Ti
 |0=>λ_ _ _=>.no
 |m+1=>λt g z=>match t with
  |.fn f=>match O (.fn f) g z with
   |.ok v A=>.ok v A
   |.no=>(zic P f).run (U6 P O m) m g z
  |.yield l=>match z.get l with
   |some (.loop .ready none f n G B a b _)=>match zyg B.toList g n G with
    |none=>.no
    |some C=>match (Sk P f n a).run (U6 P O m) m (some l) C [] z with
     |.ok .normal D [] E=>match zvh l E with
      |none=>.no
      |some j=>match (Sk P f n b).run (U6 P O m) m (some l) D [] j with
       |.no=>.no
       |.ok x _ H F=>match H with
        |[]=>zk7 l x F
        |_=>.no
     |_=>.no
   |_=>.no
def noO:Ti:=λ_ _ _=>.no
def runA(g:Program)(j:Ti)(m f:Nat):Bool:=match U6 g j m (.fn f) [] ⟨.e,0⟩ with
 |.ok (.bool true) _=>true
 |_=>false
end
variable{F vU:Heap}{G:AV}{Q uV:Tr AV}{V:List AV}
section
open Go.RowKit (Below)
section tries
variable {α : Type}
def cy(p:List Bool):Pg p (Tr.e:Tr α)=none:=by
 cases p with
 |nil=>rfl
 |cons b p=>cases b<;>rfl
def zid(p:List Bool)(v:Option α)(l r:Tr α):Pg (true::p) (.n v l r)=Pg p l:=rfl
def zj9(p:List Bool)(v:Option α)(l r:Tr α):Pg (false::p) (.n v l r)=Pg p r:=rfl
def zm9(a:α):Rf a [] .e=.n (some a) .e .e:=rfl
def znn(a:α)(p:List Bool):Rf a (true::p) .e=.n none (Rf a p .e) .e:=rfl
def zn5(a:α)(p:List Bool):Rf a (false::p) .e=.n none .e (Rf a p .e):=rfl
def zu6(a:α)(p:List Bool)(v:Option α)(l r:Tr α):Rf a (true::p) (.n v l r)=.n v (Rf a p l) r:=rfl
def zu3(a:α)(p:List Bool)(v:Option α)(l r:Tr α):Rf a (false::p) (.n v l r)=.n v l (Rf a p r):=rfl
def z3j(a:α):∀(p:List Bool) (t:Tr α),Pg p (Rf a p t)=some a
 |[],.e=>rfl
 |[],.n _ _ _=>rfl
 |true::p,.e=>by rw[znn,zid];exact z3j a p _
 |false::p,.e=>by rw[zn5,zj9];exact z3j a p _
 |true::p,.n v l r=>by rw[zu6,zid];exact z3j a p _
 |false::p,.n v l r=>by rw[zu3,zj9];exact z3j a p _
def z6m(a:α):∀(p q:List Bool) (t:Tr α),p≠q→Pg q (Rf a p t)=Pg q t
 |[],[],_,h=>absurd rfl h
 |[],true::q,.e,_=>by rw[zm9,zid,cy,cy]
 |[],false::q,.e,_=>by rw[zm9,zj9,cy,cy]
 |[],true::q,.n _ _ _,_=>rfl
 |[],false::q,.n _ _ _,_=>rfl
 |true::p,[],.e,_=>rfl
 |false::p,[],.e,_=>rfl
 |true::p,[],.n _ _ _,_=>rfl
 |false::p,[],.n _ _ _,_=>rfl
 |true::p,true::q,.e,h=>by rw[znn,zid,z6m a p q _ (λe=>h Gi),cy,cy]
 |true::p,false::q,.e,_=>by rw[znn,zj9,cy,cy]
 |false::p,true::q,.e,_=>by rw[zn5,zid,cy,cy]
 |false::p,false::q,.e,h=>by rw[zn5,zj9,z6m a p q _ (λe=>h Gi),cy,cy]
 |true::p,true::q,.n _ l _,h=>by rw[zu6,zid,zid];exact z6m a p q l (λe=>h Gi)
 |true::p,false::q,.n _ _ _,_=>rfl
 |false::p,true::q,.n _ _ _,_=>rfl
 |false::p,false::q,.n _ _ r,h=>by rw[zu3,zj9,zj9];exact z6m a p q r (λe=>h Gi)
def pathF_inj:∀(f j g k:Nat),g<f→k<j→zsi f g=zsi j k→g=k
 |0,_,g,k,B,_,_=>J
 |_,0,g,k,_,hk,_=>J
 |f+1,j+1,0,0,_,_,_=>rfl
 |f+1,j+1,0,k+1,_,_,h=>by simp[zsi]at h
 |f+1,j+1,g+1,0,_,_,h=>by simp[zsi]at h
 |f+1,j+1,g+1,k+1,B,hk,h=>by
  simp only[zsi,List.cons.injEq]at h;obtain⟨z,A⟩:=h;have C:Nat.div g 2=g/2:=rfl;have D:Nat.div k 2=k/2:=rfl;have E:Nat.mod g 2=g%2:=rfl;have F:Nat.mod k 2=k%2:=rfl;rw[C,D]at A;rw[E,F]at z;have:=pathF_inj f j (g/2) (k/2) J J A;have q:∀x:Nat,Nat.beq x 0=true↔x=0:=λx=>by cases x<;>simp[Nat.beq]
  have G:(g%2=0↔k%2=0):=by
   rw[←q,←q,z]
  omega
def zwx{k:Nat}(h:Pz g=Pz k):g=k :=
 pathF_inj _ _ g k (Lp _) (Lp _) h
def zjm{k:Nat}(a:α)(t:Tr α) :
  Pg (Pz k) (Rf a (Pz g) t)=if k=g then some a else Pg (Pz k) t:=by
 by_cases h:k=g
 ·subst h;rw[J6 rfl];exact z3j a _ t
 ·rw[J1 h];exact z6m a _ _ t (λe=>h (zwx e.symm))
def zbm(g:Nat)(a:α)(t:Tr α):Pg (Pz g) (Rf a (Pz g) t)=some a:=z3j a _ t
def z5p{k:Nat}(h:k≠g)(a:α)(t:Tr α) :
  Pg (Pz k) (Rf a (Pz g) t)=Pg (Pz k) t:=by rw[zjm,J1 h]
def get_ofList:∀(l:List α) (i:Nat) (t:Tr α) (k:Nat),
  Pg (Pz k) (T9 l i t)=if i≤k∧k<i+l.length then l[k-i]? else Pg (Pz k) t
 |[],i,t,k=>by simp only[T9,Kz];rw[J1 J]
 |a::l,i,t,k=>by
  simp only[Kh];rw[T9,get_ofList l (i+1) _ k];by_cases g:i+1≤k∧k<i+1+l.length
  ·rw[J6 g,J6 J];have:k-i=(k-(i+1))+1:=J
   rw[this,Km]
  ·rw[J1 g,zjm];by_cases j:k=i
   ·subst j;rw[J6 rfl,J6 J];simp
   ·rw[J1 j,J1 J]
end tries
def zf{c:Tr AV}:∀{n i:Nat} {l:List AV},Vk c i n=some l→l.length=n∧∀g,g<n→Pg (Pz (i+g)) c=l[g]?
 |0,i,l,h=>by
  simp only[Vk,Option.some.injEq]at h;subst h;exact⟨rfl,λg j=>J⟩
 |n+1,i,l,h=>by
  simp only[Vk]at h;split at h
  ·cases h
  ·rename_i a ha;split at h
   ·cases h
   ·rename_i r z;cases h;obtain⟨A,B⟩:=zf z;refine⟨Al,λg j=>?_⟩;cases g with
    |zero=>simpa using ha
    |succ g=>have:=B g J;rw[Km,←this];congr 2;omega
structure Loc where
 b:Nat
 d:Nat
 n:Nat
 sz:Nat
structure CM where
 f:Nat→Nat→Option Loc
 nx:Nat
instance:CoeFun CM (λ_=>Nat→Nat→Option Loc):=⟨CM.f⟩
def CM.keep(gg C:CM):Prop:=∀o v L,gg o v=some L→C o v=some L
structure CM.le (C C':CM):Prop where
 keep:C.keep C'
 nx:C.nx≤C'.nx
 new:∀o v L,C' o v=some L→(∃v' L',C o v'=some L')∨C.nx≤o
def CM.le_refl(C:CM):C.le C:=⟨λ_ _ _ h=>h,J8 _,λ_ v L h=>.inl ⟨v,L,h⟩⟩
def CM.le_trans{A B C:CM}(h:A.le B)(k:B.le C):A.le C:=by
 refine⟨λo v L e=>k.keep o v L (h.keep o v L e),K8 h.nx k.nx,λo v L e=>?_⟩;rcases k.new o v L e with ⟨v',L',e'⟩|e'
 ·exact h.new o v' L' e'
 ·exact .inr (K8 h.nx e')
inductive FR (C:CM):Fn→Fn→Prop where
 |same (f:Fn) (h:∀l,f≠.yield l):FR C f f
 |yield {l:Nat} {L:Loc} (h:C l 0=some L):FR C (.yield l) (.yield L.b)
def FR.mono{C C':CM}(h:C.keep C'){f g:Fn}:FR C f g→FR C' f g
 |.same f hf=>.same f hf
 |.yield e=>.yield (h _ _ _ e)
def AV.one:AV→Bool
 |.agg _=>false
 |.tup _=>false
 |_=>true
mutual
inductive VR (C:CM):AV→Value→Prop where
 |bool (b:Bool):VR C (.bool b) (.bool b)
 |int (k:IntKind) (n:Int):VR C (.int k n) (.int k n)
 |str {len n:Nat} {s:ByteArray} (h1:s.data.toList.length=len) (h2:Ro s.data.toList=n):VR C (.str len n) (.string s)
 |nilPtr:VR C .nilPtr (.pointer none)
 |ptr {o v i:Nat} {L:Loc} (h:C o v=some L):VR C (.ptr o v i) (.pointer (some ⟨L.b,L.d+i,none⟩))
 |nilSl:VR C .nilSl (.slice none 0 0)
 |sl {o v i len esz:Nat} {room:Option Nat} {L:Loc} {cap:Nat} (h:C o v=some L) (h1:i+len*esz≤L.n) (h2:L.d+i+cap*esz≤L.sz) (h3:len≤cap)
   (h4:∀r,room=some r→cap=r∧i+r*esz≤L.n) (h5:room=none→L.d+i+cap*esz=L.sz) :
   VR C (.sl o v i len esz room) (.slice (some ⟨L.b,L.d+i,none⟩) len cap)
 |emp {a:Addr} {cap:Nat}:VR C .emp (.slice (some a) 0 cap)
 |nilMap:VR C .nilMap (.map none)
 |map {o:Nat} {L:Loc} (h:C o 0=some L):VR C (.map o) (.map (some L.b))
 |nilFn:VR C .nilFn .nilFunc
 |fn {f g:Fn} {l r:List AV} {l' r':Array Value} (h:FR C f g) (hl:VRs C l l'.toList) (hr:VRs C r r'.toList):VR C (.fn f l r) (.func g l' r')
 |nilIf:VR C .nilIf .nilIface
 |iface {t:TypeId} {a:AV} {v:Value} (h:VR C a v):VR C (.iface t a) (.iface t v)
 |agg {l:List AV} {vs:Array Value} (h:VRs C l vs.toList) (h1:∀a∈l,a.one=true):VR C (.agg l) (.agg vs)
 |tup {l:List AV} {vs:Array Value} (h:VRs C l vs.toList):VR C (.tup l) (.tuple vs)
inductive VRs (C:CM):List AV→List Value→Prop where
 |nil:VRs C [] []
 |cons {a:AV} {v:Value} {l:List AV} {r:List Value} (h:VR C a v) (hs:VRs C l r):VRs C (a::l) (v::r)
end
mutual
def VR.mono'{gg C:CM}(h:gg.keep C):∀{a:AV} {v:Value},VR gg a v→VR C a v
 |_,_,.bool b=>.bool b
 |_,_,.int k n=>.int k n
 |_,_,.str h1 h2=>.str h1 h2
 |_,_,.nilPtr=>.nilPtr
 |_,_,.ptr e=>.ptr (h _ _ _ e)
 |_,_,.nilSl=>.nilSl
 |_,_,.sl e h1 h2 h3 h4 h5=>.sl (h _ _ _ e) h1 h2 h3 h4 h5
 |_,_,.emp=>.emp
 |_,_,.nilMap=>.nilMap
 |_,_,.map e=>.map (h _ _ _ e)
 |_,_,.nilFn=>.nilFn
 |_,_,.fn hf hl hr=>.fn (hf.mono h) (VRs.mono' h hl) (VRs.mono' h hr)
 |_,_,.nilIf=>.nilIf
 |_,_,.iface e=>.iface (VR.mono' h e)
 |_,_,.agg e h1=>.agg (VRs.mono' h e) h1
 |_,_,.tup e=>.tup (VRs.mono' h e)
def VRs.mono'{gg C:CM}(h:gg.keep C):∀{l:List AV} {r:List Value},VRs gg l r→VRs C l r
 |_,_,.nil=>.nil
 |_,_,.cons e es=>.cons (VR.mono' h e) (VRs.mono' h es)
end
def VR.mono{C C':CM}(h:C.le C'){a:AV}{v:Value}(k:VR C a v):VR C' a v:=k.mono' h.keep
def VRs.mono{C C':CM}(h:C.le C'){a:List AV}{v:List Value}(k:VRs C a v):VRs C' a v:=k.mono' h.keep
def VRs.length{C:CM}:∀{l:List AV} {r:List Value},VRs C l r→l.length=r.length
 |_,_,.nil=>rfl
 |_,_,.cons _ es=>by simp[VRs.length es]
def VRs.get{C:CM}:∀{l:List AV} {r:List Value},VRs C l r→∀{i:Nat} {a:AV},l[i]?=some a→∃v,r[i]?=some v∧VR C a v
 |_,_,.nil,i,a,h=>Cc
 |_,_,.cons e es,0,a,h=>Fl
 |_,_,.cons e es,i+1,a,h=>by simp only[Km]at h ⊢;exact VRs.get es h
def VRs.mk{gg:CM}:∀{l:List AV} {r:List Value},l.length=r.length→(∀(i:Nat) (a:AV),l[i]?=some a→∃v,r[i]?=some v∧VR gg a v)→VRs gg l r
 |[],[],_,_=>.nil
 |[],_::_,h,_=>Cc
 |_::_,[],h,_=>Cc
 |a::l,v::r,h,k=>by
  obtain⟨v',hv,C⟩:=k 0 a rfl;simp only[Ks,Option.some.injEq]at hv;subst hv;exact .cons C (VRs.mk Aw (λi a hi=>by have:=k (i+1) a Ed;simpa using this))
def VRs.append{C:CM}:∀{l:List AV} {r:List Value} {l':List AV} {r':List Value},VRs C l r→VRs C l' r'→VRs C (l++l') (r++r')
 |_,_,_,_,.nil,k=>k
 |_,_,_,_,.cons e es,k=>.cons e (VRs.append es k)
def VRs.drop{C:CM}:∀{l:List AV} {r:List Value},VRs C l r→∀n,VRs C (l.drop n) (r.drop n)
 |_,_,h,0=>h
 |_,_,.nil,_+1=>.nil
 |_,_,.cons _ es,n+1=>VRs.drop es n
def VRs.take{C:CM}:∀{l:List AV} {r:List Value},VRs C l r→∀n,VRs C (l.take n) (r.take n)
 |_,_,_,0=>.nil
 |_,_,.nil,_+1=>.nil
 |_,_,.cons e es,n+1=>.cons e (VRs.take es n)
def VR.one{C:CM}{a:AV}{v:Value}(h:VR C a v):v.oneCell'=a.one:=by cases h<;>rfl
def zoj{C:CM}{v:Value}{a:AV}(h:absS v=some a):VR C a v∧a.one=true:=by
 unfold absS at h;split at h<;>first
  |(cases h;done)
  |(cases h;exact⟨by constructor<;>rfl,rfl⟩)
  |(cases h;exact⟨by constructor,rfl⟩)
def jp{C:CM}:∀{l:List Value} {r:List AV},Xe l=some r→VRs C r l∧∀a∈r,a.one=true
 |[],r,h=>by cases h;exact⟨.nil,N⟩
 |v::l,r,h=>by
  simp only[Xe]at h;split at h
  ·cases h
  ·rename_i a ha;split at h
   ·cases h
   ·rename_i D g;cases h;obtain⟨j,z⟩:=jp (C:=C) g;obtain⟨A,B⟩:=zoj (C:=C) ha;exact⟨.cons A j,by simpa using ⟨B,z⟩⟩
def zi0{C:CM}{v:Value}{a:AV}(h:Z8 v=some a):VR C a v:=by
 unfold Z8 at h;split at h
 ·rename_i j;cases g:Xe j.toList with
  |none=>simp[g]at h
  |some r =>
   simp only[g,Mg,Option.some.injEq]at h;subst h;obtain⟨z,A⟩:=jp (C:=C) g;exact .agg z A
 ·rename_i B;split at h
  ·rename_i D;cases h;have:B=#[]:=Mz D;subst this;exact .tup .nil
  ·cases h
 ·exact (zoj h).1
def VR.cells{C:CM}{a:AV}{v:Value}(h:VR C a v){l:List AV}(hl:a.cells=some l):VRs C l v.cells.toList∧∀x∈l,x.one=true:=by
 cases h with
 |agg h h1=>simp only[AV.cells,Option.some.injEq]at hl;subst hl;exact⟨by simpa [Value.cells] using h,h1⟩
 |tup h=>simp[AV.cells]at hl
 |_=>simp only[AV.cells,Option.some.injEq]at hl;subst hl;exact⟨by simp only[Value.cells];exact .cons (by constructor<;>assumption) .nil,by simp[AV.one]⟩
def lh(C:CM)(c:Tr AV)(len:Nat)(g:Array Value)(d:Nat):Prop :=
 ∀i,i<len→∃a,Pg (Pz i) c=some a∧a.one=true∧∃v,g[d+i]?=some v∧VR C a v
inductive MR (C:CM):List (AV×AV×Nat)→List MapEntry→Prop where
 |nil:MR C [] []
 |cons {k v:AV} {b:Nat} {e:MapEntry} {l:List (AV×AV×Nat)} {r:List MapEntry} (hk:VR C k e.key) (hv:VR C v e.val) (hb:e.born=b) (h:MR C l r):MR C ((k,v,b)::l) (e::r)
def OVR(g:CM)(a:Option AV)(v:Value):Prop:=match a with
 |some a=>VR g a v
 |none=>v=undef
def ER(n:Nat)(j:CM)(E:Tr AV)(g:Array Value):Prop :=
 g.size=n∧n≤S4∧∀t,t≤S4→OVR j (Pg (Pz t) E) (g.getD t undef)
def Sl(E:Nat)(A:CM)(w:World)(o:Nat):AObj→Prop
 |.cells c len B I=>∀g,A o B=some g→g.n=len∧(I=false→E≤g.b)∧g.d+len≤g.sz∧∃C e F hi,w.heap[g.b]?=some (.cells C e (F,hi))∧g.sz≤C.size ∧
   (∀i,g.d≤i→i<g.sz→¬(F≤i∧i<hi))∧lh A c len C g.d
 |.map K L=>∀g,A o 0=some g→E≤g.b∧∃j:Array MapEntry,w.heap[g.b]?=some (.map j L)∧MR A K j.toList
 |.iter len n D=>∀g,A o 0=some g→E≤g.b∧g.d=0∧∃s:ByteArray,w.heap[g.b]?=some (.stringIter s D)∧s.data.toList.length=len∧Ro s.data.toList=n
 |.loop st z f n O M a b d=>∀g,A o 0=some g→E≤g.b∧∃G H,A d 0=some H∧w.heap[g.b]?=some (.loop { state:=st,pending:=z,fn:=f,tmps:=G,params:=M,assign:=a,body:=b,defers:=H.b })∧ER n A O G
 |.defd op=>∀g,A o 0=some g→E≤g.b∧w.heap[g.b]?=some (.deferred (if op then some [] else none))
structure Rel (w0:World) (C:CM) (H:Heap) (w:World):Prop where
 nx:C.nx=H.next
 low:Below w0.heap.size w0 w
 fresh:∀o v L,C o v=some L→o<H.next
 lt:∀o v L,C o v=some L→L.b<w.heap.size
 excl:∀o v L o' v' L',C o v=some L→C o' v'=some L'→L.b=L'.b→w0.heap.size≤L.b→o=o'
 obj:∀o ob,o<H.next→H.get o=some ob→Sl w0.heap.size C w o ob
 top:∀o c len ver ro,o<H.next→H.get o=some (.cells c len ver ro)→∀v L,C o v=some L→v≤ver
end
variable{O:CM}
section
open Go.RowKit (Below)
def CM.ext(gg:CM)(o v:Nat)(L:Loc):CM:=⟨λC v'=>if C=o∧v'=v then some L else gg C v',max gg.nx (o+1)⟩
def CM.ext_same(C:CM)(o v:Nat)(L:Loc):C.ext o v L o v=some L:=by simp[CM.ext]
def CM.ext_ne(C:CM){o v:Nat}(L:Loc)(h:¬(j=o∧U=v)):C.ext o v L j U=C j U:=by simp only[CM.ext];rw[J1 h]
def CM.le_ext{C:CM}{o v:Nat}(L:Loc)(h:C o v=none)(hn:(∃v' L',C o v'=some L')∨C.nx≤o):C.le (C.ext o v L):=by
 refine⟨λo' v' L' h'=>?_,Mi _ _,λo' v' L' h'=>?_⟩
 ·by_cases e:o'=o∧v'=v
  ·obtain⟨rfl,rfl⟩:=e;rw[h]at h';cases h'
  ·rw[CM.ext_ne C L e];exact h'
 ·by_cases e:o'=o∧v'=v
  ·obtain⟨rfl,rfl⟩:=e;exact hn
  ·rw[CM.ext_ne C L e]at h';exact .inl ⟨v',L',h'⟩
def MR.mono'{gg C:CM}(h:gg.keep C):∀{l:List (AV×AV×Nat)} {r:List MapEntry},MR gg l r→MR C l r
 |_,_,.nil=>.nil
 |_,_,.cons hk hv hb hs=>.cons (hk.mono' h) (hv.mono' h) hb (MR.mono' h hs)
def OVR.mono'{gg C:CM}(h:gg.keep C){a:Option AV}{v:Value}(k:OVR gg a v):OVR C a v:=by
 cases a with
 |none=>exact k
 |some a=>exact VR.mono' h k
def ER.mono'{gg C:CM}(h:gg.keep C){n:Nat}{E:Tr AV}{tm:Array Value}(k:ER n gg E tm):ER n C E tm :=
 ⟨k.1,k.2.1,λt ht=>(k.2.2 t ht).mono' h⟩
def lh.mono'{gg C:CM}(h:gg.keep C){c:Tr AV}{len:Nat}{vs:Array Value}{d:Nat}(k:lh gg c len vs d):lh C c len vs d :=
 λi hi=>let ⟨a,h1,h2,v,h3,h4⟩:=k i hi;⟨a,h1,h2,v,h3,h4.mono' h⟩
def MR.mono{C C':CM}(h:C.le C'){l:List (AV×AV×Nat)}{r:List MapEntry}(k:MR C l r):MR C' l r:=k.mono' h.keep
def ER.mono{C C':CM}(h:C.le C'){n:Nat}{E:Tr AV}(k:ER n C E vH):ER n C' E vH:=k.mono' h.keep
def lh.mono{C C':CM}(h:C.le C'){c:Tr AV}{len:Nat}{vs:Array Value}{d:Nat}(k:lh C c len vs d):lh C' c len vs d:=k.mono' h.keep
def Sl.frame'{B:Nat}{gD C':CM}{w:World}{o:Nat}{ob:AObj}(h:Sl B gD w o ob)(hc:gD.keep C')(hn:∀v L,C' o v=some L→gD o v=some L)
  (hb:∀v L,gD o v=some L→vX.heap[L.b]?=w.heap[L.b]?):Sl B C' vX o ob:=by
 cases ob with
 |cells c len gF ro =>
  intro L hL;have C:=hn _ _ hL;obtain⟨h1,h2,h3,vs,e,lo,hi,h4,h5,h6,h7⟩:=h L C;exact⟨h1,h2,h3,vs,e,lo,hi,by rw[hb _ _ C];exact h4,h5,h6,h7.mono' hc⟩
 |map es ck =>
  intro L hL;have C:=hn _ _ hL;obtain⟨h1,gg,h2,h3⟩:=h L C;exact⟨h1,gg,Hf,h3.mono' hc⟩
 |iter len n pos =>
  intro L hL;have C:=hn _ _ hL;obtain⟨h1,h0,s,h2,h3⟩:=h L C;exact⟨h1,h0,s,Hf,h3⟩
 |loop st pend f n E ps a b d =>
  intro L hL;have C:=hn _ _ hL;obtain⟨h1,tm,Ld,h2,h3,h4⟩:=h L C;exact⟨h1,tm,Ld,hc _ _ _ h2,by rw[hb _ _ C];exact h3,h4.mono' hc⟩
 |defd op =>
  intro L hL;have C:=hn _ _ hL;obtain⟨h1,h2⟩:=h L C;exact⟨h1,Hf⟩
def Sl.frame{B:Nat}{gg C:CM}{w:World}{o:Nat}{ob:AObj}(h:Sl B gg w o ob)(hc:gg.le C)(hn:∀v L,C o v=some L→gg o v=some L)
  (hb:∀v L,gg o v=some L→vX.heap[L.b]?=w.heap[L.b]?):Sl B C vX o ob:=h.frame' hc.keep hn hb
def Heap.get_push_same(H:Heap)(x:AObj):(H.push x).get H.next=some x:=zbm _ _ _
def Heap.get_push_ne(H:Heap)(x:AObj){o:Nat}(ho:o<H.next):(H.push x).get o=H.get o :=
 z5p J _ _
def Heap.get_put_same(H:Heap)(o:Nat)(x:AObj):(H.put o x).get o=some x:=zbm _ _ _
def Heap.get_put_ne(H:Heap){o:Nat}(x:AObj)(gg:j≠o):(H.put o x).get j=H.get j:=z5p gg _ _
def z7n(w:World)(x:Obj){k:Nat}(h:k<w.heap.size):(w.alloc x).heap[k]?=w.heap[k]?:=Below.heap_alloc w x k h
def wt(w:World)(x:Obj):(w.alloc x).heap[w.heap.size]?=some x:=by
 show (w.heap.push x)[w.heap.size]?=some x;simp
def Rel.next_none{C:CM}{H:Heap}{w:World}(h:Rel vX C H w)(v:Nat):C H.next v=none:=by
 cases e:C H.next v with
 |none=>rfl
 |some L=>have:=h.fresh _ _ _ e;omega
def Rel.push{w0:World}{gF:CM}{H:Heap}{w:World}(h:Rel w0 gF H w)(ob:AObj)(x:Obj)(n sz:Nat)
  (gG:Sl w0.heap.size (gF.ext H.next 0 ⟨w.heap.size,0,n,sz⟩) (w.alloc x) H.next ob) :
  Rel w0 (gF.ext H.next 0 ⟨w.heap.size,0,n,sz⟩) (H.push ob) (w.alloc x)∧gF.le (gF.ext H.next 0 ⟨w.heap.size,0,n,sz⟩):=by
 have hle:gF.le (gF.ext H.next 0 ⟨w.heap.size,0,n,sz⟩):=CM.le_ext _ (h.next_none 0) (.inr (Ni h.nx));refine⟨⟨by show max gF.nx (H.next+1)=H.next+1;rw[h.nx];exact Nat.max_eq_right (Of _),h.low.alloc h.low.size x,?_,?_,?_,?_,?_⟩,hle⟩
 ·intro o v L C;show o<H.next+1;by_cases e:o=H.next∧v=0
  ·omega
  ·rw[CM.ext_ne _ _ e]at C;have:=h.fresh _ _ _ C;omega
 ·intro o v L C;rw[World.size_alloc];by_cases e:o=H.next∧v=0
  ·obtain⟨rfl,rfl⟩:=e;rw[CM.ext_same]at C;cases C;exact Lp _
  ·rw[CM.ext_ne _ _ e]at C;have:=h.lt _ _ _ C;omega
 ·intro o v L o' v' L' C gg hb hB;by_cases e:o=H.next∧v=0<;>by_cases e':o'=H.next∧v'=0
  ·omega
  ·obtain⟨rfl,rfl⟩:=e;rw[CM.ext_same]at C;cases C;rw[CM.ext_ne _ _ e']at gg;have:=h.lt _ _ _ gg;dsimp at hb;omega
  ·obtain⟨rfl,rfl⟩:=e';rw[CM.ext_same]at gg;cases gg;rw[CM.ext_ne _ _ e]at C;have:=h.lt _ _ _ C;dsimp at hb;omega
  ·rw[CM.ext_ne _ _ e]at C;rw[CM.ext_ne _ _ e']at gg;exact h.excl _ _ _ _ _ _ C gg hb hB
 ·intro o gH ho hg;by_cases e:o=H.next
  ·subst e;rw[Heap.get_push_same]at hg;cases hg;exact gG
  ·have gD:o<H.next:=Bv
   rw[Heap.get_push_ne _ _ gD]at hg;refine (h.obj _ _ gD hg).frame hle (λv L C=>?_) (λv L C=>z7n _ _ (h.lt _ _ _ C))
   rwa [CM.ext_ne _ _ J]at C
 ·intro o c len gI ro ho hg v L C;by_cases e:o=H.next
  ·subst e;by_cases ev:v=0
   ·omega
   ·rw[CM.ext_ne _ _ J]at C;have:=h.fresh _ _ _ C;omega
  ·have gD:o<H.next:=Bv
   rw[Heap.get_push_ne _ _ gD]at hg;rw[CM.ext_ne _ _ J]at C;exact h.top _ _ _ _ _ gD hg _ _ C
def Rel.put{w0:World}{gK:CM}{H:Heap}{w w':World}(h:Rel w0 gK H w){o:Nat}(ho:o<H.next)(ob:AObj)(gg:Below w0.heap.size w0 w')
  (gG:w.heap.size≤w'.heap.size) (gH:∀o' v L,o'≠o→gK o' v=some L→w'.heap[L.b]?=w.heap[L.b]?) (gI:Sl w0.heap.size gK w' o ob)
  (gD:∀c len ver ro,ob=.cells c len ver ro→∀v L,gK o v=some L→v≤ver):Rel w0 gK (H.put o ob) w':=by
 refine⟨h.nx,gg,h.fresh,λo v L hL=>Kt (h.lt o v L hL) gG,h.excl,?_,?_⟩
 ·intro o' gL C hg;by_cases e:o'=o
  ·subst e;rw[Heap.get_put_same]at hg;cases hg;exact gI
  ·have gF:o'<H.next:=C;rw[Heap.get_put_ne H ob e]at hg;exact (h.obj _ _ C hg).frame (CM.le_refl gK) (λv L hL=>hL) (λv L hL=>gH _ _ _ e hL)
 ·intro o' c len ver ro C hg v L hL;by_cases e:o'=o
  ·subst e;rw[Heap.get_put_same]at hg;cases hg;exact gD _ _ _ _ rfl v L hL
  ·have gF:o'<H.next:=C;rw[Heap.get_put_ne H ob e]at hg;exact h.top _ _ _ _ _ C hg _ _ hL
def Rel.drew{w0:World}{C:CM}{H:Heap}{w:World}(h:Rel w0 C H w):Rel w0 C H w.drew :=
 ⟨h.nx,h.low.drew,h.fresh,h.lt,h.excl,λo ob ho hg=>(h.obj o ob ho hg).frame (CM.le_refl C) (λ_ _ hL=>hL) (λ_ _ _=>rfl),h.top⟩
def z9r(B:Program)(w:World)(a:Addr):∀(n i:Nat) (g:Array Value) (r:List Value),r.length=n→(∀z,z<n→w.cell? (a.add (i+z))=r[z]?) →
  (loadCellsFrom a i n g).run B w=.ok (g++r.toArray) w
 |0,i,g,r,j,_=>by
  have:r=[]:=Kn j;subst this;simp[loadCellsFrom]
 |n+1,i,g,r,j,h=>by
  cases r with
  |nil=>simp at j
  |cons v r =>
   have A:w.cell? (a.add i)=some v:=by simpa using h 0 J
   simp only[loadCellsFrom,Sem.run_bind,run_load,A,Result.andThen_ok];rw[z9r B w a n (i+1) (g.push v) r By (λz C=>by
    have:=h (z+1) J;rw[show i+1+z=i+(z+1) from J,this,Km])]
   simp
def zaq(A:Program)(w:World)(a:Addr)(n:Nat)(r:List Value)(j:r.length=n)(h:∀g,g<n→w.cell? (a.add g)=r[g]?) :
  (loadCells a n).run A w=.ok r.toArray w:=by
 unfold loadCells;rw[z9r A w a n 0 #[] r j (λg z=>by rw[Kw];exact h g z)];simp
def z7p(b d i g:Nat):(⟨b,d+i,none⟩:Addr).add g=⟨b,d+(i+g),none⟩:=by
 unfold Addr.add;by_cases h:g=0
 ·subst h;simp
 ·rw[J1 h];simp[L7]
def zko{w:World}{b i:Nat}{e:TypeId}{g:Nat×Nat}(h:w.heap[b]?=some (.cells vH e g)):w.cell? ⟨b,i,none⟩=vH[i]?:=by
 simp[World.cell?,h]
def Rel.read{C:CM}{H:Heap}{w:World}(h:Rel vX C H w)(P:Program){o v i n:Nat}{l:List AV}(hr:Tn H o v i n=some l){L:Loc}(hL:C o v=some L) :
  ∃vs:List Value,(loadCells ⟨L.b,L.d+i,none⟩ n).run P w=.ok vs.toArray w∧VRs C l vs∧(∀a∈l,a.one=true)∧l.length=n∧i+n≤L.n ∧
   (∀j,j<n→w.cell? ⟨L.b,L.d+(i+j),none⟩=vs[j]?):=by
 unfold Tn at hr;split at hr
 ·rename_i c len gK ro hg;split at hr
  ·rename_i hv;have gF:=Kd hv;subst gF;split at hr
   ·rename_i hle;have gI:i+n≤len:=Ki hle;have gG:=h.obj o _ (h.fresh _ _ _ hL) hg;obtain⟨h1,_,h3,vs,e,lo,hi,h4,h5,h6,h7⟩:=gG L hL;obtain⟨k1,k2⟩:=zf hr;have hex:∀j,j<n→∃a,l[j]?=some a∧a.one=true∧∃x,vs[L.d+(i+j)]?=some x∧VR C a x:=by
     intro j hj;obtain⟨a,q1,q2,x,q3,q4⟩:=h7 (i+j) J;exact⟨a,by rw[←k2 j hj];exact q1,q2,x,q3,q4⟩
    have gL:L.d+(i+n)≤vs.size:=J
    let r:List Value:=(List.range n).map λj=>vs.getD (L.d+(i+j)) undef
    have gH:r.length=n:=by simp[r]
    have gg:∀j,j<n→vs[L.d+(i+j)]?=r[j]?:=by
     intro j hj;simp only[r,Lv,List.getElem?_range hj,Mg];rw[Ma J,K7,Ma J];rfl
    refine⟨r,?_,?_,?_,k1,J,?_⟩
    ·exact zaq P w _ n r gH (λj hj=>by rw[z7p,zko h4];exact gg j hj)
    ·refine VRs.mk J (λj a hj=>?_);have gD:j<n:=by have:=(Jy.1 hj).1;omega
     obtain⟨a',q1,_,x,q3,q4⟩:=hex j gD;rw[hj]at q1;cases q1;exact⟨x,by rw[←gg j gD];exact q3,q4⟩
    ·intro a ha;obtain⟨j,hj,rfl⟩:=List.getElem_of_mem ha;obtain⟨a',q1,q2,_⟩:=hex j J;rw[J7 hj]at q1;cases q1;exact q2
    ·intro j hj;rw[zko h4];exact gg j hj
   ·cases hr
  ·cases hr
 ·cases hr
def z97(L:Program)(a:Addr):∀(r:List Value) (i:Nat) (w:World) (A:Array Value) (e:TypeId) (B hi:Nat),a.spot=none→w.heap[a.block]?=some (.cells A e (B,hi)) →
  (∀v∈r,v.oneCell'=true)→a.off+i+r.length≤A.size→(∀z,a.off+i≤z→z<a.off+i+r.length→¬(B≤z∧z<hi)) →
  ∃w' j,(storeCells a r i).run L w=.ok () w'∧w'.heap[a.block]?=some (.cells j e (B,hi))∧j.size=A.size∧(∀k,k≠a.block→w'.heap[k]?=w.heap[k]?) ∧
   w'.heap.size=w.heap.size∧w'.os=w.os∧w'.tape=w.tape∧w'.output=w.output∧(∀z,j[z]?=if a.off+i≤z∧z<a.off+i+r.length then r[z-(a.off+i)]? else A[z]?)
 |[],i,w,A,e,B,hi,_,hb,_,_,_=>by
  refine⟨w,A,rfl,hb,rfl,λ_ _=>rfl,rfl,rfl,rfl,rfl,λz=>?_⟩;rw[J1 N]
 |v::r,i,w,A,e,B,hi,M,hb,hv,G,H=>by
  simp only[Kh]at G H;have g:a.add i=⟨a.block,a.off+i,none⟩:=by
   unfold Addr.add;by_cases h:i=0
   ·subst h;simp;cases a;simp_all
   ·rw[J1 h]
  have C : w.cell? (a.add i) = some (A[a.off + i]' J) := by
   rw[g,zko hb,Ma]
  have I:w.frozen? (a.add i)=false:=by
   rw[g];simp only[World.frozen?,hb];have:=H (a.off+i) J J;simp only[Bool.and_eq_false_iff,Lk];omega
  have E:(store (a.add i) v).run L w=.ok () (w.setCell (a.add i) v):=by
   rw[run_store L w _ v .plain (hv v N),C];simp[I]
  have F:(w.setCell (a.add i) v).heap[a.block]?=some (.cells (A.setIfInBounds (a.off+i) v) e (B,hi)):=by
   rw[g];simp only[World.setCell,Array.getElem?_modify,Lj,hb,Mg];simp
  obtain⟨w',j,O,P,Q,R,T,U,V,X,Y⟩:=z97 L a r (i+1) (w.setCell (a.add i) v) _ e B hi M F (λx Z=>hv x Ei)
   (by rw[Array.size_setIfInBounds];omega) (λz K D=>H z J J)
  refine⟨w',j,?_,P,by rw[Q,Array.size_setIfInBounds],?_,?_,U,V,X,?_⟩
  ·simp only[storeCells,Sem.run_bind,E,Result.andThen_ok];exact O
  ·intro k hk;rw[R k hk];exact Below.heap_setCell w (a.add i) v k (by rw[g];exact hk)
  ·rw[T,World.size_setCell]
  ·intro z;rw[Y z];by_cases K:a.off+(i+1)≤z∧z<a.off+(i+1)+r.length
   ·rw[J6 K,J6 El];have:z-(a.off+i)=(z-(a.off+(i+1)))+1:=J
    rw[this,Km]
   ·rw[J1 K,Array.getElem?_setIfInBounds];by_cases D:a.off+i=z
    ·subst D;rw[J6 rfl,J6 J,J6 El];simp
    ·rw[J1 D,J1 El]
def VRs.get'{C:CM}{l:List AV}{r:List Value}(h:VRs C l r){i:Nat}(hi:i<l.length):∃a v,l[i]?=some a∧r[i]?=some v∧VR C a v:=by
 obtain⟨v,h1,h2⟩:=h.get (J7 hi);exact⟨_,v,J7 hi,h1,h2⟩
def VRs.one{C:CM}:∀{l:List AV} {r:List Value},VRs C l r→(∀a∈l,a.one=true)→∀v∈r,v.oneCell'=true
 |_,_,.nil,_,v,hv=>by simp at hv
 |_,_,.cons e es,h,v,hv=>by
  rcases Ka.1 hv with rfl|hv
  ·rw[e.one];exact h _ N
  ·exact VRs.one es (λa ha=>h a (by simp[ha])) v hv
def lh.lay{C:CM}{c:Tr AV}{len:Nat}{gg:Array Value}{d i:Nat}{l:List AV}{r:List Value}(h:lh C c len vH d)(hv:VRs C l r)(h1:∀a∈l,a.one=true)
  (hi:i≤len) (_hle:i+l.length≤j) (gG:j≤len∨j=i+l.length)
  (gF:∀gH,gg[gH]?=if d+i≤gH∧gH<d+i+r.length then r[gH-(d+i)]? else vH[gH]?):lh C (T9 l i c) j gg d:=by
 intro k hk;rw[get_ofList l i c k];have hlen:=hv.length;rw[gF];by_cases gD:i≤k∧k<i+l.length
 ·rw[J6 gD,J6 J];obtain⟨a,v,q1,q2,q3⟩:=hv.get' (i:=k-i) J;refine⟨a,q1,h1 a (Kj q1),v,?_,q3⟩;rw[show d+k-(d+i)=k-i from J];exact q2
 ·rw[J1 gD,J1 J];exact h k J
def Rel.write{C:CM}{H:Heap}{w:World}(h:Rel vX C H w)(P:Program){o v i:Nat}{l:List AV}(hw:Zh H o v i l=some vU){L:Loc}(hL:C o v=some L)
  {r:List Value} (hr:VRs C l r) (h1:∀a∈l,a.one=true):∃w',(storeCells ⟨L.b,L.d+i,none⟩ r).run P w=.ok () w'∧Rel vX C vU w':=by
 unfold Zh at hw;split at hw
 ·rename_i c len gM hg;split at hw
  ·rename_i hv;have gD:=Kd hv;subst gD;split at hw
   ·rename_i hle;have gg:i+l.length≤len:=Ki hle;cases hw;have ho:=h.fresh _ _ _ hL;have gF:=h.obj o _ ho hg;obtain⟨q1,q2,q3,vs,e,lo,hi,q4,q5,q6,q7⟩:=gF L hL;have gO:=hr.length;obtain⟨w',gG,k1,k2,k3,k4,k5,k6,k7,k8,k9⟩:=z97 P ⟨L.b,L.d+i,none⟩ r 0 w vs e lo hi rfl q4 (hr.one h1) B3 (λgR hj gH=>by dsimp at hj gH;exact q6 gR J J);refine⟨w',k1,h.put ho _ ?_ J ?_ ?_ ?_⟩
    ·exact h.low.trans ⟨k6,k7,k8,J,λk hk=>k4 k (by dsimp;have:=q2 rfl;omega)⟩
    ·intro o' v' L' gI j;refine k4 _ (λe'=>gI ?_);exact (h.excl _ _ _ _ _ _ hL j e'.symm (q2 rfl)).symm
    ·intro L' j;rw[hL]at j;cases j;refine⟨q1,q2,q3,gG,e,lo,hi,k2,J,q6,q7.lay hr h1 J gg (.inl (J8 _)) (λgR=>?_)⟩;rw[k9 gR];rfl
    ·intro c' gK gL gT he v' L' j;cases he;exact h.top _ _ _ _ _ ho hg _ _ j
   ·cases hw
  ·cases hw
 ·cases hw
def Rel.newRow{C:CM}{H:Heap}{w:World}(h:Rel vX C H w){l:List AV}{o:Nat}(hn:newObj H l=some (o,vU))(e:TypeId)(fz:Nat×Nat){vs:Array Value}
  (hle:l.length≤vs.size) (hv:VRs C l (vs.toList.take l.length)) (h1:∀a∈l,a.one=true) (gD:∀i,i<vs.size→¬(fz.1≤i∧i<fz.2)) :
  ∃C',C.le C'∧Rel vX C' vU (w.alloc (.cells vs e fz))∧C' o 0=some ⟨w.heap.size,0,l.length,vs.size⟩:=by
 unfold Sv.newObj at hn;cases hn;have gg:C.le (C.ext H.next 0 ⟨w.heap.size,0,l.length,vs.size⟩):=CM.le_ext _ (h.next_none 0) (.inr (Ni h.nx));refine⟨C.ext H.next 0 ⟨w.heap.size,0,l.length,vs.size⟩,gg,(h.push _ _ l.length vs.size ?_).1,CM.ext_same _ _ _ _⟩;intro L hL;rw[CM.ext_same]at hL;cases hL;refine⟨rfl,λ_=>h.low.size,B3,vs,e,fz.1,fz.2,wt _ _,J8 _,λi _ hi=>gD i hi,?_⟩;intro k hk;rw[get_ofList l 0 .e k,J6 J];obtain⟨a,v,q1,q2,q3⟩:=hv.get' (i:=k) hk;refine⟨a,by simpa using q1,h1 a (Kj q1),v,?_,q3.mono gg⟩;rw[Lu hk]at q2;simpa using q2
end
section
open Go.RowKit (Below)
section sem
variable {P : Program} {w : World}
def Qw{t:TypeId}{d:TypeDesc}(h:P.underlying t=some d):(underlying t).run P w=.ok d w:=by
 simp[underlying,h]
def z6b{t:TypeId}{i:TypeInfo}(h:P.info? t=some i):(typeInfo t).run P w=.ok i w:=by
 simp[typeInfo,h]
def Ve{t:TypeId}{n:Nat}(h:Rt P t=some n):(sizeOf t).run P w=.ok n w:=by
 unfold Rt at h;cases hi:P.info? t with
 |none=>simp[hi]at h
 |some i=>simp only[hi,Mg,Option.some.injEq]at h;simp[sizeOf,z6b hi,h]
def z9p{t:TypeId}{b:Bool}(h:Vv P t=some b):(isAgg t).run P w=.ok b w:=by
 unfold Vv at h;cases hu:P.underlying t with
 |none=>simp[hu]at h
 |some d=>cases d<;>simp[hu]at h<;>subst h<;>simp[isAgg,Qw hu]
def z6k{t:TypeId}{l:List AV}(h:Vl P t=some l):∃v i,(zeroValue t).run P w=.ok v w∧Xe v.cells.toList=some l∧P.info? t=some i∧l.length=i.size:=by
 unfold Vl at h;cases hi:P.info? t with
 |none=>simp[hi]at h
 |some i =>
  simp only[hi]at h;cases g:i.zero with
  |none=>simp[g]at h
  |some v =>
   simp only[g]at h;cases ha:Xe v.cells.toList with
   |none=>simp[ha]at h
   |some r =>
    simp only[ha]at h;split at h
    ·cases h;rename_i j;exact⟨v,i,Ge,ha,rfl,j⟩
    ·cases h
def zoh{t:TypeId}{a:AV}(h:zs4 P t=some a):∃v,(zeroValue t).run P w=.ok v w∧Z8 v=some a:=by
 unfold zs4 at h;cases hi:P.info? t with
 |none=>simp[hi]at h
 |some i =>
  simp only[hi]at h;cases g:i.zero with
  |none=>simp[g]at h
  |some v=>simp only[g]at h;exact⟨v,Ge,h⟩
end sem
def zow(g:CM)(j:Tr AV)(z:Operand→Value):Prop:=∀x a,(P3 x).run j=some a→VR g a (z x)
def za9{n:Nat}{E:Tr AV}{a:Act}(h:ER n O E a.tmps):zow O E a.eval:=by
 intro x z g;cases x with
 |tmp t =>
  unfold P3 at g;dsimp only at g;split at g
  ·rename_i hb;have:=h.2.2 t (Ki hb);dsimp only at g;show VR O z (a.tmps.getD t undef);cases j:Pg (Pz t) E with
   |none=>rw[j]at g this;cases g;rw[show a.tmps.getD t undef=undef from this];exact .tup .nil
   |some b=>rw[j]at g this;cases g;exact this
  ·cases g
 |const v =>
  unfold P3 at g;dsimp only at g;split at g
  ·rename_i b hb;cases g;exact zi0 hb
  ·cases g
 |global A=>cases g
 |func f=>cases g;exact .fn (.same _ (λl e=>Ar)) .nil .nil
def z7t{A:CM}{B:Tr AV}{C:Operand→Value}(h:zow A B C):∀{j:List Operand} {l:List AV},(opds j).run B=some l→VRs A l (j.map C)
 |[],l,g=>by cases g;exact .nil
 |x::j,l,g=>by
  unfold opds at g;dsimp only at g;split at g
  ·cases g
  ·rename_i a ha;split at g
   ·cases g
   ·rename_i r z;cases g;exact .cons (h _ _ ha) (z7t h z)
def sf(P:Program)(A:World)(C:CM)(w:World)(z:Sem Next)(v:AV)(B:Heap):Prop :=
 ∃g j x,C.le g∧Rel A g B j∧VR g v x∧(z.run P w=.ok (.value x) j∨(z.run P w=.ok .skip j∧x=undef))
def CallOk(P:Program)(A:CM)(w:World)(z:Sem Next)(t:Tgt)(g:List AV):Prop :=
 ∃j:List Value,VRs A g j∧((∃f,t=.fn f∧z.run P w=.ok (.enter f j.toArray) w)∨(∃l B,t=.yield l∧A l 0=some B∧z.run P w=(Instr.yield B.b j.toArray).run P w))
def Tz(P:Program)(z:World)(C:CM)(w:World)(j:Sem Next):OR→Prop
 |.no=>True
 |.val v A=>sf P z C w j v A
 |.call t g=>CallOk P C w j t g
def Qe(P:Program)(f:OpF)(nx:(Operand→Value)→Sem Next):Prop :=
 ∀g j z w A B,Rel g j z w→zow j A B→Tz P g j w (nx B) (f.run A z)
def Qr(P:Program)(nx:(Operand→Value)→Sem Next):Qe P Qh nx:=λ_ _ _ _ _ _ _ _=>trivial
def V1{P:Program}{x:Operand}{f:Heap→AV→OR}{nx:(Operand→Value)→Sem Next}
  (h:∀g C j w z a,Rel g C j w→VR C a (z x)→Tz P g C w (nx z) (f j a)):Qe P (So x f) nx:=by
 intro g C j w E z A B;show Tz P g C w (nx z) (Option.rec OR.no (λa=>f j a) ((P3 x).run E));cases D:(P3 x).run E with
 |none=>exact trivial
 |some a=>exact h _ _ _ _ _ _ A (B _ _ D)
def ky{P:Program}{x y:Operand}{f:Heap→AV→AV→OR}{nx:(Operand→Value)→Sem Next}
  (h:∀g C A w j a b,Rel g C A w→VR C a (j x)→VR C b (j y)→Tz P g C w (nx j) (f A a b)):Qe P (We x y f) nx:=by
 intro g C A w B j D z;show Tz P g C w (nx j) (Option.rec OR.no (λa=>Option.rec OR.no (λb=>f A a b) ((P3 y).run B)) ((P3 x).run B));cases E:(P3 x).run B with
 |none=>exact trivial
 |some a =>
  cases F:(P3 y).run B with
  |none=>exact trivial
  |some b=>exact h _ _ _ _ _ _ _ D (z _ _ E) (z _ _ F)
def Sf{P:Program}{C:CM}{w:World}{nx:Sem Next}{v:AV}{x:Value}(j:Rel K C F w)(hv:VR C v x)(g:nx.run P w=.ok (.value x) w) :
  sf P K C w nx v F:=⟨C,w,x,CM.le_refl C,j,hv,.inl g⟩
def zli(P:Program)(x:Operand):Qe P (So x λj a=>.val a j) (λz=>pure (.value (z x))) :=
 V1 λ_ _ _ _ _ _ g hv=>Sf g hv rfl
def zx0(P:Program)(c a b:Operand):Qe P (Qq P (.pick c a b)) (λA=>do pure (.value (if ←asBool (A c) then A a else A b))):=by
 intro D F E w B A C z;show Tz P D F w _ (match (P3 c).run B with
  |some (.bool true)=>ret1 E ((P3 a).run B)
  |some (.bool false)=>ret1 E ((P3 b).run B)
  |_=>.no)
 split
 ·rename_i hc;have g:=z _ _ hc;cases ha:(P3 a).run B with
  |none=>exact trivial
  |some v =>
   have hv:=z _ _ ha;refine Sf C hv ?_;cases j:A c<;>rw[j]at g<;>cases g;simp[asBool,j]
 ·rename_i hc;have g:=z _ _ hc;cases hb:(P3 b).run B with
  |none=>exact trivial
  |some v =>
   have hv:=z _ _ hb;refine Sf C hv ?_;cases j:A c<;>rw[j]at g<;>cases g;simp[asBool,j]
 ·exact trivial
def zqf{P:Program}{C:CM}{w:World}(G:Rel K C F w)(t:TypeId){l:List AV}(hv:VRs C l vH.toList)(H:∀a∈l,a.one=true)
  {E:Sem Next} (j:E.run P w=.ok (.value (.pointer (some ⟨w.heap.size,0,none⟩))) (w.alloc (.cells vH t))):Tz P K C w E (Zx F l):=by
 unfold Zx;cases hn:newObj F l with
 |none=>exact trivial
 |some r =>
  obtain⟨o,L⟩:=r;have g:l.length=vH.toList.length:=hv.length;have z:l.length=vH.size:=Be
  obtain⟨I,A,B,D⟩:=G.newRow hn t (0,0) (vs:=vH) J (by rw[g,Mw];exact hv) H N;exact⟨I,_,_,A,B,by simpa using VR.ptr (i:=0) D,.inl j⟩
def zrk(P:Program)(t:TypeId):Qe P (Qq P (.alloc t)) (λ_=>do pure (.value (←Instr.alloc t true (.tuple #[])))):=by
 intro g G j w H M z I;show Tz P g G w _ (OpF.run (match Vl P t with
  |some l=>⟨λ_ j=>Zx j l⟩
  |none=>Qh) H j)
 cases A:Vl P t with
 |none=>exact trivial
 |some l =>
  obtain⟨v,i,B,D,K,L⟩:=z6k (w:=w) A;obtain⟨E,F⟩:=jp (C:=G) D;refine zqf z t E F ?_;simp[Instr.alloc,B,newVar,newRow]
def iz(P:Program)(t:TypeId)(x:Operand):Qe P (Qq P (.box t x)) (λA=>do pure (.value (←Instr.box t (A x)))):=by
 refine V1 λB C D w A a g hv=>?_
 cases hc:a.cells with
 |none=>exact trivial
 |some l =>
  obtain⟨j,z⟩:=hv.cells hc;exact zqf g t j z (by simp[Instr.box,newVar,newRow])
def zwd(P:Program)(t:TypeId)(x:Operand):Qe P (zss P t x) (λD=>do pure (.value (←Instr.loadAt t (D x)))):=by
 unfold zss;split
 ·rename_i n ha E;refine V1 λH O Q w D a g hv=>?_
  split
  ·rename_i o v i;split
   ·rename_i l z;generalize I:D x=K at hv;cases hv with
    |ptr A =>
     obtain⟨B,F,C,G,L,_⟩:=g.read P z A;refine Sf g (.agg (vs:=B.toArray) Cp G) ?_;simp[Instr.loadAt,Instr.sureAddr,loadVar,z9p ha,Ve E,F]
   ·exact trivial
  ·exact trivial
 ·rename_i n ha E;refine V1 λH O Q w D a g hv=>?_
  split
  ·rename_i o v i;split
   ·rename_i c z;generalize I:D x=K at hv;cases hv with
    |ptr A =>
     obtain⟨B,F,C,G,L,R,M⟩:=g.read P z A;have j:=M 0 J
     match B,C with
     |[u],.cons hu .nil =>
      refine Sf g hu ?_;simp only[M6,Ks]at j;simp[Instr.loadAt,Instr.sureAddr,loadVar,z9p ha,j]
   ·exact trivial
  ·exact trivial
 ·exact Qr P _
def ztd(P:Program)(t:TypeId)(x y:Operand):Qe P (zoq P t x y) (λj=>do Instr.storeAt t (j x) (j y);pure .skip):=by
 unfold zoq;split
 ·rename_i n A;refine ky λK I Q w j a b B hv hb=>?_
  split
  ·rename_i o v i;split
   ·rename_i l C;split
    ·rename_i hn;split
     ·rename_i L hw;generalize M:j x=O at hv;cases hv with
      |ptr D =>
       obtain⟨z,E⟩:=hb.cells C;obtain⟨F,G,H⟩:=B.write P hw D z E;refine⟨I,F,undef,CM.le_refl I,H,.tup .nil,.inr ⟨?_,rfl⟩⟩;have g:(j y).cells.size=n:=by have:=z.length;have:=Kd hn;simp at *;omega
       simp[Instr.storeAt,Instr.sureAddr,storeVar,Ve A,g,G]
     ·exact trivial
    ·exact trivial
   ·exact trivial
  ·exact trivial
 ·exact Qr P _
def zl3(P:Program)(x:Operand)(o:Oper)(ho:o.op=.nilCheck x):Qe P (So x z7x) (λB=>execOp B o):=by
 refine V1 λD E F w B a z hv=>?_
 unfold z7x;split
 ·generalize j:B x=A at hv;have g:=hv;cases hv with
  |ptr C=>exact Sf z g Ew
 ·generalize j:B x=A at hv;have g:=hv;cases hv with
  |iface h=>exact Sf z g Ew
 ·generalize j:B x=A at hv;have g:=hv;cases hv with
  |fn h=>cases h with
   |same=>exact Sf z g Ew
 ·generalize j:B x=A at hv;have g:=hv;cases hv with
  |map C=>exact Sf z g Ew
 ·exact trivial
end
section
open Go.RowKit (Below)
def z81{k g:IntKind}(h:bv k g=true):k=g:=by
 cases k<;>cases g<;>first|rfl|(exact absurd h Ac)
def z8c(a b:Int):f9 a b=(a==b):=by
 cases a<;>cases b
 ·rename_i x y;show Nat.beq x y=_;rw[Lw];simp[Nat.beq_eq];omega
 ·show false=_;symm;rw[beq_eq_false_iff_ne];intro h;cases h
 ·show false=_;symm;rw[beq_eq_false_iff_ne];intro h;cases h
 ·rename_i x y;show Nat.beq x y=_;rw[Lw];simp[Nat.beq_eq]
def Va{a b:Nat}:Nat.blt a b=decide (a<b):=by
 rw[Lw];simp[Nat.blt,Nat.ble_eq];omega
def z7o(a b:Int):ltI a b=decide (a<b):=by
 cases a<;>cases b
 ·rename_i x y;show Nat.blt x y=_;rw[Va,decide_eq_decide];simp
 ·rename_i x y;show false=_;symm;rw[Lk];have:=Int.negSucc_lt_zero y;simp;omega
 ·rename_i x y;show true=_;symm;rw[decide_eq_true_iff];have:=Int.negSucc_lt_zero x;simp;omega
 ·rename_i x y;show Nat.blt y x=_;rw[Va,decide_eq_decide];omega
def z8j(k:IntKind):2^k.bits=Xw k:=by cases k<;>rfl
def mb(k:IntKind)(n:Int):Xy k n=k.wrap n:=by
 cases n with
 |negSucc m=>rfl
 |ofNat m =>
  unfold Xy;dsimp only;split
  ·rename_i h;have g:m<cm k:=by rw[Va]at h;simpa using h
   cases k<;>simp only[cm]at g<;>simp only[IntKind.wrap,IntKind.bits,IntKind.signed]<;>simp<;>omega
  ·rfl
def zu8(b:Int):vy b=true↔b=0:=by
 cases b with
 |ofNat n=>simp[vy,Nat.beq_eq]
 |negSucc n=>simp[vy]
section bits
variable {k : IntKind} {x y : Nat}
def z6p(w x:Nat):BitVec.ofInt w (Int.ofNat x)=BitVec.ofNat w x:=by
 show BitVec.ofInt w ((x:Nat):Int)=_;exact BitVec.ofInt_natCast w x
def vm(g:x<Xw k)(j:y<Xw k):(BitVec.ofInt k.bits (Int.ofNat x) &&& BitVec.ofInt k.bits (Int.ofNat y)).toNat=Nat.land x y:=by
 rw[←z8j]at g j;rw[z6p,z6p,BitVec.toNat_and,Nn,Nn,Ke g,Ke j];rfl
def bits_or(g:x<Xw k)(j:y<Xw k):(BitVec.ofInt k.bits (Int.ofNat x) ||| BitVec.ofInt k.bits (Int.ofNat y)).toNat=Nat.lor x y:=by
 rw[←z8j]at g j;rw[z6p,z6p,BitVec.toNat_or,Nn,Nn,Ke g,Ke j];rfl
def p8(g:x<Xw k)(j:y<Xw k):(BitVec.ofInt k.bits (Int.ofNat x) ^^^ BitVec.ofInt k.bits (Int.ofNat y)).toNat=Nat.xor x y:=by
 rw[←z8j]at g j;rw[z6p,z6p,BitVec.toNat_xor,Nn,Nn,Ke g,Ke j];rfl
def zsp(g:x<Xw k)(_hy:y<Xw k) :
  (BitVec.ofInt k.bits (Int.ofNat x) &&& ~~~(BitVec.ofInt k.bits (Int.ofNat y))).toNat=Nat.xor x (Nat.land x y):=by
 rw[←z8j]at g;rw[z6p,z6p];apply Nat.eq_of_testBit_eq;intro i;rw[BitVec.testBit_toNat,BitVec.getLsbD_and,BitVec.getLsbD_not,BitVec.getLsbD_ofNat,BitVec.getLsbD_ofNat];show _=(x ^^^ (x &&& y)).testBit i;rw[Nat.testBit_xor,Nat.testBit_and];by_cases hi:i<k.bits
 ·simp only[hi,decide_true,Nu];cases x.testBit i<;>cases y.testBit i<;>rfl
 ·have:x.testBit i=false:=Nat.testBit_lt_two_pow (Kt g (Lr J J));simp[this,hi]
end bits
def zka(a b:Nat):Sx a b=min a b:=by
 unfold Sx;split
 ·rename_i h;have:=Ki h;omega
 ·rename_i h;have:¬a≤b:=λg=>by rw[Kc g]at h;cases h
  omega
def zcq{P:Program}{w:World}{f:Nat→Nat→Nat}{op:BinOp}{k:IntKind}{a b:Int}{v:AV}(h:ma f k a b=some v)
  (z:∀x y:Nat,x<Xw k→y<Xw k→(Op.intBits op k (Int.ofNat x) (Int.ofNat y)).run P w=.ok (.int k (k.wrap (Int.ofNat (f x y)))) w) :
  ∃n,v=.int k n∧(Op.intBits op k a b).run P w=.ok (.int k n) w:=by
 unfold ma at h;split at h
 ·rename_i x y;split at h
  ·rename_i g;split at h
   ·rename_i j;cases h;rw[Va]at g j;exact⟨_,rfl,by rw[z x y Be By,mb]⟩
   ·cases h
  ·cases h
 ·cases h
def zxe(P:Program)(w:World){op:BinOp}{k:IntKind}{a b:Int}{v:AV}(t:TypeId)(h:zso op k a b=some v) :
  ∃x,(binOp op t (.int k a) (.int k b)).run P w=.ok x w∧∀g,VR g v x:=by
 cases op<;>simp only[zso]at h
 case add=>cases h;exact⟨_,Fe,λg=>Ea⟩
 case sub=>cases h;exact⟨_,Fe,λg=>Ea⟩
 case mul=>cases h;exact⟨_,Fe,λg=>Ea⟩
 case quo =>
  split at h
  ·cases h
  ·rename_i B;cases h;have hb:b≠0:=λe=>by rw[(zu8 b).2 e]at B;cases B
   exact⟨.int k (k.wrap (a.tdiv b)),by simp[binOp,Op.intDiv,hb],λg=>Ea⟩
 case rem =>
  split at h
  ·cases h
  ·rename_i B;cases h;have hb:b≠0:=λe=>by rw[(zu8 b).2 e]at B;cases B
   exact⟨.int k (a.tmod b),by simp[binOp,Op.intDiv,hb],λg=>.int k _⟩
 case and =>
  obtain⟨n,rfl,j⟩:=zcq (P:=P) (w:=w) (op:=.and) h (λx y z A=>by simp only[Op.intBits,vm z A];rfl);exact⟨_,Dy,λg=>.int k n⟩
 case or =>
  obtain⟨n,rfl,j⟩:=zcq (P:=P) (w:=w) (op:=.or) h (λx y z A=>by simp only[Op.intBits,bits_or z A];rfl);exact⟨_,Dy,λg=>.int k n⟩
 case xor =>
  obtain⟨n,rfl,j⟩:=zcq (P:=P) (w:=w) (op:=.xor) h (λx y z A=>by simp only[Op.intBits,p8 z A];rfl);exact⟨_,Dy,λg=>.int k n⟩
 case andNot =>
  obtain⟨n,rfl,j⟩:=zcq (P:=P) (w:=w) (op:=.andNot) h (λx y z A=>by simp only[Op.intBits,zsp z A];rfl);exact⟨_,Dy,λg=>.int k n⟩
 case eql=>cases h;exact⟨_,Fw,λg=>by rw[z8c];exact .bool _⟩
 case neq=>cases h;exact⟨.bool (a != b),He,λg=>by rw[z8c];exact .bool _⟩
 case lss=>cases h;exact⟨_,Fw,λg=>by rw[z7o];exact .bool _⟩
 case gtr=>cases h;exact⟨_,Fw,λg=>by rw[z7o];exact .bool _⟩
 case leq =>
  cases h;refine⟨.bool (decide (a≤b)),He,λg=>?_⟩;rw[z7o,show (!decide (b<a))=decide (a≤b) from by rw[Lw];simp];exact .bool _
 case geq =>
  cases h;refine⟨.bool (decide (a ≥ b)),He,λg=>?_⟩;rw[z7o,show (!decide (a<b))=decide (a ≥ b) from by rw[Lw];simp];exact .bool _
 all_goals cases h
def zi4(A:Program)(w:World){op:BinOp}(g:op=.shl∨op=.shr){k j:IntKind}{a b:Int}{v:AV}(t:TypeId)(h:zou op k a b=some v) :
  ∃x,(binOp op t (.int k a) (.int j b)).run A w=.ok x w∧∀z,VR z v x:=by
 unfold zou at h;split at h
 ·rename_i x y;rcases g with rfl|rfl
  ·simp only[Option.some.injEq]at h;subst h;refine⟨.int k (k.wrap (Int.ofNat x*2^(min y k.bits))),?_,λz=>?_⟩
   ·have:¬((Int.ofNat y)<0):=N
    simp only[binOp,Op.shift];rw[J1 this];rfl
   ·rw[mb,zka];have:Int.ofNat (x.mul (Nat.pow 2 (min y k.bits)))=Int.ofNat x*2^(min y k.bits):=by
     show ((x*2^(min y k.bits):Nat):Int)=_;simp
    rw[this];exact .int k _
  ·simp only[Option.some.injEq]at h;subst h;refine⟨.int k ((Int.ofNat x).fdiv (2^(min y k.bits))),?_,λz=>?_⟩
   ·have:¬((Int.ofNat y)<0):=N
    simp only[binOp,Op.shift];rw[J1 this];rfl
   ·rw[zka];have:Int.ofNat (x.div (Nat.pow 2 (min y k.bits)))=(Int.ofNat x).fdiv (2^(min y k.bits)):=by
     show ((x/2^(min y k.bits):Nat):Int)=((x:Nat):Int).fdiv (2^(min y k.bits));have e:((2:Int)^(min y k.bits))=((2^(min y k.bits):Nat):Int):=N
     rw[e,Int.fdiv_eq_ediv_of_nonneg _ (K4 _)];rfl
    rw[this];exact .int k _
 ·cases h
end
section
open Go.RowKit (Below)
def packL_append:∀a b:List UInt8,Ro (a++b)=Ro a+Ro b*256^a.length
 |[],b=>by simp[Ro]
 |x::a,b=>by
  simp only[K6,Ro,packL_append a b,Kh,Ly];rw[Np,L7,M3 (256^a.length) 256,Nat.mul_left_comm 256]
def packL_inj:∀{a b:List UInt8},a.length=b.length→Ro a=Ro b→a=b
 |[],[],_,_=>rfl
 |[],_::_,h,_=>Cc
 |_::_,[],h,_=>Cc
 |x::a,y::b,h,k=>by
  simp only[Ro]at k;have z:=x.toNat_lt;have A:=y.toNat_lt;have g:x.toNat=y.toNat:=J
  have j:Ro a=Ro b:=J
  rw[packL_inj Aw j,UInt8.toNat_inj.1 g]
def packL_drop:∀(i:Nat) (l:List UInt8),Ro (l.drop i)=Ro l/256^i
 |0,l=>N
 |i+1,[]=>by simp[Ro]
 |i+1,b::l=>by
  rw[List.drop_succ_cons,packL_drop i l];have hb:=b.toNat_lt;simp only[Ro,Ly];rw[M3 (256^i) 256,←Nm]
  congr 1
  omega
def packL_take:∀(i:Nat) (l:List UInt8),Ro (l.take i)=Ro l%256^i
 |0,l=>by simp[Ro,Nat.mod_one]
 |i+1,[]=>by simp[Ro]
 |i+1,b::l=>by
  rw[List.take_succ_cons];simp only[Ro];rw[packL_take i l,Ly,M3 (256^i) 256];have hb:=b.toNat_lt;rw[Nat.mod_mul,Nr,Ke hb,Nat.add_mul_div_left _ _ J,Nl hb,Kw]
def zix{l:List UInt8}{i:Nat}{b:UInt8}(h:l[i]?=some b):Ro l/256^i%256=b.toNat:=by
 rw[←packL_drop];have hi:=(Jy.1 h).1;rw[Lt hi,Ro,(Jy.1 h).2];have hb:=b.toNat_lt;omega
def unpack_pack:∀l:List UInt8,Y3 l.length (Ro l)=l.map (·.toNat)
 |[]=>rfl
 |b::l=>by
  have hb:=b.toNat_lt;simp only[Kh,Y3,Ro,Mt];have g:Nat.mod (b.toNat+256*Ro l) 256=b.toNat:=by show (b.toNat+256*Ro l)%256=_;omega
  have j:Nat.div (b.toNat+256*Ro l) 256=Ro l:=by show (b.toNat+256*Ro l)/256=_;omega
  rw[g,j,unpack_pack l]
def less_spec:∀a b:List UInt8,Op.bytesLess a b=yy (a.map (·.toNat)) (b.map (·.toNat))
 |_,[]=>by simp[Op.bytesLess,yy]
 |[],_::_=>by simp[Op.bytesLess,yy]
 |x::a,y::b=>by
  simp only[Op.bytesLess,yy,Mt,less_spec a b,Va];have g:decide (x<y)=decide (x.toNat<y.toNat):=by rw[decide_eq_decide];exact UInt8.lt_iff_toNat_lt
  have j:(x==y)=Nat.beq x.toNat y.toNat:=by
   rw[Lw];simp[Nat.beq_eq,UInt8.toNat_inj]
  rw[g,j]
def zfy{a b:ByteArray}:(a.toList==b.toList)=(Nat.beq a.data.toList.length b.data.toList.length&&Nat.beq (Ro a.data.toList) (Ro b.data.toList)):=by
 rw[ByteArray.toList_eq,ByteArray.toList_eq,Lw];simp only[Oa,J2,Nat.beq_eq];exact⟨λh=>by rw[h];exact⟨rfl,rfl⟩,λ⟨g,j⟩=>packL_inj g j⟩
def zwt{a b:ByteArray}:Op.bytesLess a.toList b.toList=yy (Y3 a.data.toList.length (Ro a.data.toList)) (Y3 b.data.toList.length (Ro b.data.toList)):=by
 rw[ByteArray.toList_eq,ByteArray.toList_eq,less_spec,unpack_pack,unpack_pack]
def ziy(a b:ByteArray):(a++b).data.toList=a.data.toList++b.data.toList:=by
 simp
def zxc(C:Program)(w:World){op:BinOp}{x y:ByteArray}{v:AV}(t:TypeId)
  (h:zx5 op x.data.toList.length (Ro x.data.toList) y.data.toList.length (Ro y.data.toList)=some v) :
  ∃u,(binOp op t (.string x) (.string y)).run C w=.ok u w∧∀z,VR z v u:=by
 have hb:binOp op t (.string x) (.string y)=Op.stringOp op x y∨op=.shl∨op=.shr:=by cases op<;>simp[binOp]
 rcases hb with hb|rfl|rfl
 ·rw[hb];have he:=zfy (a:=x) (b:=y);have j:=zwt (a:=x) (b:=y);unfold Op.stringOp;cases op<;>simp only[zx5]at h
  case add =>
   split at h
   ·rename_i A;cases h;have g:=Ki A;have B:x.size+y.size≤S4:=g;refine⟨.string (x++y),?_,λz=>.str ?_ ?_⟩
    ·dsimp only;rw[J1]
     ·rfl
     ·simp only[IntKind.max,IntKind.signed,IntKind.bits,Lj];unfold S4 at B;omega
    ·rw[ziy,J9];rfl
    ·rw[ziy,packL_append];rfl
   ·cases h
  case eql=>cases h;exact⟨_,rfl,λz=>by rw[←he];exact .bool _⟩
  case neq=>cases h;exact⟨_,rfl,λz=>by rw[←he];exact .bool _⟩
  case lss=>cases h;exact⟨_,rfl,λz=>by rw[←j];exact .bool _⟩
  case leq=>cases h;exact⟨_,rfl,λz=>by rw[←j,←he];exact .bool _⟩
  case gtr=>cases h;exact⟨_,rfl,λz=>by rw[←j,←he];exact .bool _⟩
  case geq=>cases h;exact⟨_,rfl,λz=>by rw[←j];exact .bool _⟩
  all_goals cases h
 ·simp[zx5]at h
 ·simp[zx5]at h
end
section
open Go.RowKit (Below)
def i3{l r:List AV}{n:Nat}(h:iw l g n=some r)(hv:VRs O l vH.toList)(z:∀a∈l,a.one=true) :
  VRs O r (vH.extract g (g+n)).toList∧(∀a∈r,a.one=true)∧r.length=n:=by
 unfold iw at h;split at h
 ·rename_i hb;have j:=Ki hb;cases h;have e:(vH.extract g (g+n)).toList=(vH.toList.drop g).take n:=by
   rw[Array.toList_extract,List.extract_eq_take_drop,Nat.add_sub_cancel_left]
  refine⟨by rw[e];exact (hv.drop g).take n,λa ha=>z a (List.mem_of_mem_drop (Oh ha)),?_⟩;have A:g+n≤l.length:=j;simp;omega
 ·cases h
def zg8{w:World}{t:TypeId}{n:Nat}(A:Vv C t=some M)(hn:Rt C t=some n){l:List AV}{a:AV}(h:rz M n l g=some a)
  (hv:VRs O l vH.toList) (B:∀a∈l,a.one=true):∃v,(part t vH g).run C w=.ok v w∧VR O a v:=by
 unfold rz at h;cases M with
 |true =>
  simp only at h;cases j:iw l g n with
  |none=>rw[j]at h;cases h
  |some r =>
   rw[j]at h;cases h;obtain⟨D,E,_⟩:=i3 j hv B;exact⟨_,by simp[part,z9p A,Ve hn],.agg D E⟩
 |false =>
  simp only at h;obtain⟨v,F,G⟩:=hv.get h;have z:vH[g]?=some v:=by simpa using F
  exact⟨v,by simp[part,z9p A,z],G⟩
def zcw{w:World}{t:TypeId}{l:List AV}{a:AV}(h:zwo C t l g=some a)
  (hv:VRs O l vH.toList) (j:∀a∈l,a.one=true):∃v,(part t vH g).run C w=.ok v w∧VR O a v:=by
 unfold zwo at h;split at h
 ·rename_i A n z hn;exact zg8 z hn h hv j
 ·cases h
def zj5{t:TypeId}{g:Array Field}(h:C.underlying t=some (.struct g)):C.fieldsOf t=g:=by simp[Program.fieldsOf,h]
def zea(d:Nat)(t:TypeId)(n:Nat)(g j:Array Value):List Nat→Sem Bool
 |[]=>pure true
 |i::l=>do
  let a ←part t g (i*n);let b ←part t j (i*n);let r ←Op.equalIn d t a b
  if (!r)=true then pure false else zea d t n g j l
def zg1(w:World)(d:Nat){t e:TypeId}{n s:Nat}(g j:Array Value)(D:C.underlying t=some (.array n e))(E:Rt C e=some s) :
  (Op.equalIn (d+1) t (.agg g) (.agg j)).run C w=(zea d e s g j (List.range n)).run C w:=by
 simp only[Op.equalIn,Sem.run_bind,Qw D,Result.andThen_ok,Ve E,Std.Legacy.Range.forIn_eq_forIn_range'];have:List.range' 0 n=List.range n:=List.range_eq_range'.symm;simp only[Std.Legacy.Range.size,Oo,Nat.add_sub_cancel,Nat.div_one,this];generalize List.range n=l
 induction l generalizing w with
 |nil=>simp[zea]
 |cons i l F =>
  simp only[List.forIn_cons,zea,Sem.run_bind,Sem.run_ite];generalize (part e g (i*s)).run C w=G;cases G with
  |ok a z =>
   simp only[Result.andThen_ok];generalize (part e j (i*s)).run C z=H;cases H with
   |ok b A =>
    simp only[Result.andThen_ok];generalize (Op.equalIn d e a b).run C A=I;cases I with
    |ok r B =>
     cases r
     ·simp only[Result.andThen_ok,Bool.not_false,Lj,Sem.run_pure]
     ·simp only[Result.andThen_ok,Bool.not_true,My,M7,Sem.run_pure];exact F B
    |halt x B=>simp[Result.andThen]
   |halt x A=>simp[Result.andThen]
  |halt x z=>simp[Result.andThen]
def zhx{P:Program}{w:World}{O:CM}{d:Nat}{f:TypeId→AV→AV→Option Bool}
  (A:∀t a b r x y,f t a b=some r→VR O a x→VR O b y→(Op.equalIn d t x y).run P w=.ok r w)
  {B C:List AV} {G H:Array Value} (D:VRs O B G.toList) (j:∀a∈B,a.one=true) (E:VRs O C H.toList) (z:∀a∈C,a.one=true) :
  ∀{F:List Field} {r:Bool},rv P f B C F=some r→(Op.eqFields d G H F).run P w=.ok r w
 |[],r,h=>Ci
 |fd::F,r,h=>by
  unfold rv at h;split at h
  ·rename_i hn
   have g : fd.name ≠ "_" := by simpa using hn
   split at h
   ·rename_i a b ha hb;obtain⟨u,I,K⟩:=zcw (w:=w) ha D j;obtain⟨v,L,M⟩:=zcw (w:=w) hb E z;split at h
    ·rename_i he;have:=A _ _ _ _ _ _ he K M;simp only[Op.eqFields,J6 g,Sem.run_bind,I,L,this,Result.andThen_ok];simpa using zhx A D j E z h
    ·rename_i he;have:=A _ _ _ _ _ _ he K M;cases h;simp only[Op.eqFields,J6 g,Sem.run_bind,I,L,this,Result.andThen_ok];simp
    ·cases h
   ·cases h
  ·rename_i hn
   have g : fd.name = "_" := by simpa using hn
   simp only[Op.eqFields,g,ne_eq,not_true_eq_false,M7];exact zhx A D j E z h
def zpo{G:Program}{w:World}{M:CM}{d:Nat}{f:TypeId→AV→AV→Option Bool}{t:TypeId}{n:Nat}
  (B:∀t a b r x y,f t a b=some r→VR M a x→VR M b y→(Op.equalIn d t x y).run G w=.ok r w)
  {C D:List AV} {E F:Array Value} (H:VRs M C E.toList) (g:∀a∈C,a.one=true) (I:VRs M D F.toList) (j:∀a∈D,a.one=true) :
  ∀{l:List Nat} {r:Bool},eqEs G f t n C D l=some r→(zea d t n E F l).run G w=.ok r w
 |[],r,h=>Ci
 |i::l,r,h=>by
  unfold eqEs at h;split at h
  ·rename_i a b ha hb;obtain⟨u,O,K⟩:=zcw (w:=w) ha H g;obtain⟨v,P,L⟩:=zcw (w:=w) hb I j;have z:(part t E (i*n)).run G w=.ok u w:=O;have A:(part t F (i*n)).run G w=.ok v w:=P;split at h
   ·rename_i he;have:=B _ _ _ _ _ _ he K L;simp only[zea,Sem.run_bind,z,A,this,Result.andThen_ok];simpa using zpo B H g I j h
   ·rename_i he;have:=B _ _ _ _ _ _ he K L;cases h;simp only[zea,Sem.run_bind,z,A,this,Result.andThen_ok];simp
   ·cases h
  ·cases h
set_option maxHeartbeats 1000000 in
def zyu{w:World}{d:Nat}{f:TypeId→AV→AV→Option Bool}
  (D:∀t a b r x y,f t a b=some r→VR O a x→VR O b y→(Op.equalIn d t x y).run C w=.ok r w)
  {t:TypeId} {a b:AV} {r:Bool} {x y:Value} (h:te C f t a b=some r) (g:VR O a x) (j:VR O b y):(Op.equalIn (d+1) t x y).run C w=.ok r w:=by
  unfold te at h;split at h
  case h_1 hu=>cases h;cases g;cases j;simp[Op.equalIn,Qw hu]
  case h_2 hu =>
   split at h
   ·rename_i hk;cases h;cases g;cases j;have:=z81 hk;subst this;simp[Op.equalIn,Qw hu,z8c]
   ·cases h
  case h_3 hu =>
   cases h;cases g with
   |str E F =>
    cases j with
    |str G H =>
     subst E F G H;rw[←zfy,←beq_toListBytes];simp[Op.equalIn,Qw hu]
  case h_21 hu =>
   split at h
   ·cases h
   ·rename_i B;cases g with
    |agg g z =>
     cases j with
     |agg j A =>
      rw[run_equalIn_struct w d t _ _ (by rw[zj5 hu];exact hu) (by simpa using B),zj5 hu];exact zhx D g z j A h
  case h_22 hu =>
   split at h
   ·rename_i s B;cases g with
    |agg g z =>
     cases j with
     |agg j A =>
      rw[zg1 w d _ _ hu B];exact zpo D g z j A h
   ·cases h
  case h_23=>cases h
  all_goals
   rename_i hu;cases h;cases g;cases j;simp[Op.equalIn,Qw hu]
def ztz{z:Program}{w:World}{A:CM}(d:Nat):∀(n:Nat) (t:TypeId) (a b:AV) (r:Bool) (x y:Value),eqT z n t a b=some r→VR A a x→VR A b y →
  (Op.equalIn (d+n) t x y).run z w=.ok r w
 |0,_,_,_,_,_,_,h,_,_=>Ak
 |n+1,_,_,_,_,_,_,h,g,j=>zyu (λt a b r x y=>ztz d n t a b r x y) h g j
end
section
open Go.RowKit (Below)
def zdq{w:World}(op:BinOp)(t:TypeId)(x y:Operand){a b:Value}(g:¬(a=.nilIface∧b=.nilIface))(j:∀c d,¬(a=.agg c∧b=.agg d)) :
  (eqGuard op t x y a b).run C w=.ok () w:=by
 unfold eqGuard;split<;>first
  |rfl
  | (rw [J1 (by decide)]
     split
     ·exact absurd ⟨rfl,rfl⟩ g
     ·exact absurd ⟨rfl,rfl⟩ (j _ _)
     ·rfl)
def zp5{w:World}(op:BinOp)(t:TypeId)(x y:Operand)(k g:IntKind)(a b:Int):(eqGuard op t x y (.int k a) (.int g b)).run C w=.ok () w :=
 zdq op t x y (λh=>by cases h.1) (λ_ _ h=>by cases h.1)
def zm8{w:World}(op:BinOp)(t:TypeId)(x y:Operand){a b:AV}{u v:Value}(hu:VR O a u)(hv:VR O b v)
  (g:zlq C (ai x || ai y) t a b=true):(eqGuard op t x y u v).run C w=.ok () w:=by
 by_cases j:u=.nilIface∧v=.nilIface
 ·obtain⟨rfl,rfl⟩:=j;cases hu;cases hv;have hc:(ai x || ai y)=true:=g;unfold eqGuard;split<;>first
   |rfl
   | (rw [J1 (by decide)]
      dsimp only;rw[J6]
      ·rfl
      ·cases x<;>cases y<;>simp_all [ai])
 ·by_cases z:∃c d,u=.agg c∧v=.agg d
  ·obtain⟨c,d,rfl,rfl⟩:=z;cases hu;cases hv;exact run_eqGuard_agg w op t x y c d (by simpa [zlq] using g)
  ·exact zdq op t x y j (λc d h=>z ⟨c,d,h⟩)
def zzw{t:TypeId}{a b:AV}{u v:Value}(hu:VR O a u)(hv:VR O b v)(g:∀k x j y,¬(a=.int k x∧b=.int j y))(z:∀l x m y,¬(a=.str l x∧b=.str m y)) :
  binOp .eql t u v=(do pure (.bool (←Op.equal t u v)))∧binOp .neq t u v=(do pure (.bool (!(←Op.equal t u v)))):=by
 cases hu<;>cases hv<;>first
  |exact⟨rfl,rfl⟩
  |exact absurd ⟨rfl,rfl⟩ (g _ _ _ _)
  |exact absurd ⟨rfl,rfl⟩ (z _ _ _ _)
def zue{w:World}{t:TypeId}{a b:AV}{r:Bool}(h:Uh C M t a b=some r){u v:Value}(hu:VR O a u)(hv:VR O b v) :
  zlq C M t a b=true∧(Op.equal t u v).run C w=.ok r w:=by
 unfold Uh at h;split at h
 ·rename_i g;exact⟨g,ztz 9980 20 t a b r u v h hu hv⟩
 ·cases h
def kg{w:World}{op:BinOp}{t:TypeId}(x y:Operand){a b r:AV}(h:R3 C op (ai x || ai y) t a b=some r){u v:Value}(hu:VR O a u)(hv:VR O b v) :
  (eqGuard op t x y u v).run C w=.ok () w∧∃z,(binOp op t u v).run C w=.ok z w∧VR O r z:=by
 unfold R3 at h;split at h
 ·cases hu;cases hv;refine⟨zp5 op t x y _ _ _ _,?_⟩;split at h
  ·obtain⟨z,g,j⟩:=zi4 C w (.inl rfl) t h;exact⟨z,g,j O⟩
  ·obtain⟨z,g,j⟩:=zi4 C w (.inr rfl) t h;exact⟨z,g,j O⟩
  ·split at h
   ·rename_i hk;have:=z81 hk;subst this;obtain⟨z,g,j⟩:=zxe C w t h;exact⟨z,g,j O⟩
   ·cases h
 ·cases hu with
  |str g j =>
   cases hv with
   |str A B =>
    subst g j A B;refine⟨zdq op t x y (λh=>by cases h.1) (λ_ _ h=>by cases h.1),?_⟩;obtain⟨z,g,j⟩:=zxc C w t h;exact⟨z,g,j O⟩
 ·rename_i D E;have hb:=zzw (t:=t) hu hv (λk x F y e=>D k x F y e.1 e.2) (λl x m y e=>E l x m y e.1 e.2);split at h
  ·cases he:Uh C (ai x || ai y) t a b with
   |none=>rw[he]at h;cases h
   |some s =>
    rw[he]at h;cases h;obtain⟨g,j⟩:=zue (w:=w) he hu hv;exact⟨zm8 _ t x y hu hv g,.bool s,by rw[hb.1];simp[j],.bool s⟩
  ·cases he:Uh C (ai x || ai y) t a b with
   |none=>rw[he]at h;cases h
   |some s =>
    rw[he]at h;cases h;obtain⟨g,j⟩:=zue (w:=w) he hu hv;exact⟨zm8 _ t x y hu hv g,.bool (!s),by rw[hb.2];simp[j],.bool (!s)⟩
  ·cases h
def zc7{P:Program}{w:World}{g:Sem Next}{o:Option AV}(j:Rel K O F w)
  (h:∀a,o=some a→∃z,g.run P w=.ok (.value z) w∧VR O a z):Tz P K O w g (ret1 F o):=by
 cases o with
 |none=>exact trivial
 |some a=>obtain⟨z,A,B⟩:=h a rfl;exact Sf j B A
def zyv(D:Program)(op:BinOp)(t g:TypeId)(x y:Operand)(o:Oper)(ho:o.op=.binOp op t x y g):Qe D (Qq D (.binOp op t x y g)) (λE=>execOp E o):=by
 refine ky λF H I w E a b j ha hb=>zc7 j λr z=>?_
 obtain⟨A,G,B,C⟩:=kg (w:=w) x y z ha hb;exact⟨G,by simp[execOp,ho,A,B],C⟩
def yk(C:Program)(op:UnOp)(t:TypeId)(x:Operand)(o:Oper)(ho:o.op=.unOp op t x):Qe C (Qq C (.unOp op t x)) (λz=>execOp z o):=by
 refine V1 λD E F w z a B ha=>zc7 B λr g=>?_
 unfold unA at g;split at g
 ·rename_i k n;cases g;generalize j:z x=A at ha;cases ha;exact⟨.int k (k.wrap (0-n)),by simp[execOp,ho,j,Op.unary,Op.intArith],by rw[mb];exact .int _ _⟩
 ·rename_i k n;cases g;generalize j:z x=A at ha;cases ha;exact⟨.int k (k.wrap (BitVec.ofInt k.bits (if k.signed then -1 else k.max) ^^^ BitVec.ofInt k.bits n).toNat),by simp[execOp,ho,j,Op.unary,Op.intBits],.int _ _⟩
 ·rename_i b;cases g;generalize j:z x=A at ha;cases ha;exact⟨.bool (!b),by simp[execOp,ho,j,Op.unary],.bool _⟩
 ·cases g
def VRs.set{C:CM}:∀{l:List AV} {r:List Value},VRs C l r→∀(i:Nat) {a:AV} {v:Value},VR C a v→VRs C (l.set i a) (r.set i v)
 |_,_,.nil,_,_,_,_=>.nil
 |_,_,.cons _ es,0,_,_,h=>.cons h es
 |_,_,.cons e es,i+1,_,_,h=>.cons e (VRs.set es i h)
def one_set{l:List AV}(h:∀a∈l,a.one=true){i:Nat}{a:AV}(ha:a.one=true):∀b∈l.set i a,b.one=true:=by
 intro b hb;rcases List.mem_or_eq_of_mem_set hb with g|g
 ·exact h b g
 ·rw[g];exact ha
def zox{B:CM}{off:Nat}:∀(l:List AV) (r:List Value) (g:List AV) (z:Array Value) (j:Nat),VRs B l r→(∀a∈l,a.one=true)→VRs B g z.toList→(∀a∈g,a.one=true) →
  VRs B (Wy g (off+j) l) ((r.zipIdx j).foldl (λg (c,j)=>g.setIfInBounds (off+j) c) z).toList∧(∀a∈Wy g (off+j) l,a.one=true)
 |[],_,g,z,j,.nil,_,h,A=>⟨h,A⟩
 |a::l,v::r,g,z,j,.cons e C,ha,h,A=>by
  simp only[Wy,List.zipIdx_cons,List.foldl_cons];have:=zox (off:=off) l r (g.set (off+j) a) (z.setIfInBounds (off+j) v) (j+1) C (λb hb=>ha b (by simp[hb]))
   (by rw[Array.toList_setIfInBounds];exact h.set _ e) (one_set A (ha a N))
  rw[show off+j+1=off+(j+1) from J];exact this
def zx3(v:Array Value)(off:Nat)(j:Array Value):v.zipIdx.foldl (λg (c,z)=>g.setIfInBounds (off+z) c) j=(v.toList.zipIdx 0).foldl (λg (c,z)=>g.setIfInBounds (off+z) c) j:=by
 rw[←Array.foldl_toList,Array.toList_zipIdx]
def z6q{j:Nat→Option (Nat×Nat)}:∀{l:List (Nat×Operand)} {G:List Part},z8x j l=some G →
  ∀{C:CM} {X:Tr AV} {I:Operand→Value},zow C X I→∀{z r:List AV} {A:Array Value},rh z G X=some r→VRs C z A.toList→(∀a∈z,a.one=true) →
  ∃H,Instr.fill j A (l.map λ(i,x)=>(i,I x))=some H∧VRs C r H.toList∧(∀a∈r,a.one=true)
 |[],G,h,C,X,I,K,z,r,A,g,hv,L=>by
  cases h;cases g;exact⟨A,rfl,hv,L⟩
 |(i,x)::l,G,h,C,X,I,K,z,r,A,g,hv,L=>by
  simp only[z8x]at h;split at h
  ·cases h
  ·rename_i o s M;split at h
   ·cases h
   ·rename_i Y O;cases h;simp only[rh]at g;split at g
    ·cases g
    ·rename_i a ha;split at g
     ·cases g
     ·rename_i q Z;split at g
      ·rename_i D;split at g
       ·rename_i P;have B:q.length=s:=Kd D;have U:o+s≤z.length:=Ki P;obtain⟨V,k2⟩:=(K _ _ ha).cells Z;have Q:=V.length;have R:=hv.length;have T:=zox (off:=o) q _ z A 0 V k2 hv L;rw[M6]at T;obtain⟨H,q1,q2,q3⟩:=z6q O K g T.1 T.2;refine⟨H,?_,q2,q3⟩;have e1:(I x).cells.size=s:=by rw[←B,Q];simp
        have E:¬((decide ((I x).cells.size≠s) || decide (o+(I x).cells.size>A.size))=true):=by
         intro F;simp only[ne_eq,Lf,Kb]at F;rcases F with F|F
         ·exact F e1
         ·simp at R;omega
        rw[Mt];simp only[Instr.fill,M];rw[J1 E,zx3];exact q1
       ·cases g
      ·cases g
def zf4{z:Program}{w:World}:∀{l:List Field} {r:List (Nat×Nat)},zcg z l=some r →
  (l.mapM λf=>do pure (f.offset,←sizeOf f.type):Sem (List (Nat×Nat))).run z w=.ok r w
 |[],r,h=>Ci
 |f::l,r,h=>by
  simp only[zcg]at h;split at h
  ·cases h
  ·rename_i s g;split at h
   ·cases h
   ·rename_i A j;cases h;simp only[List.mapM_cons,Sem.run_bind,Ve g,Result.andThen_ok,Sem.run_pure,zf4 j]
def zsn(B:Program)(t:TypeId)(g:Array (Nat×Operand)):Qe B (zj7 B t g) (λT=>do pure (.value (←Instr.build t (g.map λ(i,x)=>(i,T x))))):=by
 unfold zj7;split
 ·exact Qr B _
 ·rename_i cs U;split
  ·rename_i j hu;split
   ·exact Qr B _
   ·rename_i pl D;split
    ·exact Qr B _
    ·rename_i X A;intro Y Z gg w gD T E F;dsimp only;split
     ·rename_i l G;obtain⟨v,i,H,I,h3,h4⟩:=z6k (w:=w) U;obtain⟨K,L⟩:=jp (C:=Z) I;obtain⟨M,O,P,Q⟩:=z6q A F G K L;refine Sf E (.agg P Q) ?_;have hm:(j.mapM λf=>do pure (f.offset,←sizeOf f.type):Sem (Array (Nat×Nat))).run B w=.ok pl.toArray w:=by
       rw[Array.mapM_eq_mapM_toList];simp only[Sem.run_map,zf4 D,Result.andThen_ok]
      have R:Instr.fill (pl.toArray[·]?) v.cells (g.map λ(i,x)=>(i,T x)).toList=some M:=by
       rw[Md];have:(λi:Nat=>pl.toArray[i]?)=(λi:Nat=>pl[i]?):=by funext i;simp
       rw[this];exact O
      simp only[Instr.build,Sem.run_bind,H,Qw hu,hm,Result.andThen_ok,R,Sem.run_pure]
     ·exact trivial
  ·rename_i n V hu;split
   ·exact Qr B _
   ·rename_i z hs;split
    ·exact Qr B _
    ·rename_i X A;intro Y Z gg w gD T E F;dsimp only;split
     ·rename_i l G;obtain⟨v,i,H,I,h3,h4⟩:=z6k (w:=w) U;obtain⟨K,L⟩:=jp (C:=Z) I;obtain⟨M,O,P,Q⟩:=z6q A F G K L;refine Sf E (.agg P Q) ?_;have R:Instr.fill (λi=>some (i*z,z)) v.cells (g.map λ(i,x)=>(i,T x)).toList=some M:=by
       rw[Md];exact O
      simp only[Instr.build,Sem.run_bind,H,Qw hu,Ve hs,Result.andThen_ok,R,Sem.run_pure]
     ·exact trivial
  ·exact Qr B _
end
section
open Go.RowKit (Below)
def z65(l:List AV):∀n,(Wb l n).length=n*l.length
 |0=>by simp[Wb]
 |n+1=>by rw[Wb,J9,z65 l n,On];omega
def z4q{l:List AV}(h:∀a∈l,a.one=true):∀n,∀a∈Wb l n,a.one=true
 |0,a,ha=>by simp[Wb]at ha
 |n+1,a,ha=>by
  rw[Wb,Kx]at ha;rcases ha with ha|ha
  ·exact h a ha
  ·exact z4q h n a ha
def V7(l:List Value):Nat→List Value
 |0=>[]
 |n+1=>l++V7 l n
def z4o{C:CM}{l:List AV}{r:List Value}(h:VRs C l r):∀n,VRs C (Wb l n) (V7 r n)
 |0=>.nil
 |n+1=>h.append (z4o h n)
def zje(l:List Value):∀n,(V7 l n).length=n*l.length
 |0=>by simp[V7]
 |n+1=>by rw[V7,J9,zje l n,On];omega
def zug(l:List Value):∀(n i:Nat),i<n*l.length→(V7 l n)[i]?=l[i%l.length]?
 |0,i,h=>Cc
 |n+1,i,h=>by
  rw[On]at h;rw[V7];by_cases hi:i<l.length
  ·rw[J4 hi,Ke hi]
  ·have j:0<l.length:=by
    rcases Nat.eq_zero_or_pos l.length with g|g
    ·rw[g]at h;omega
    ·exact g
   rw[Kl J,zug l n _ J,Nat.mod_eq_sub_mod (J:l.length≤i)]
def zck(g:Array Value)(n:Nat):((Array.range (n*g.size)).map λi=>g[i%g.size]!).toList=V7 g.toList n:=by
 apply N5;intro i;rw[Md,Lv];by_cases hi:i<n*g.size
 ·rw[zug _ _ _ Ed];have z:0<g.size:=by
   rcases Nat.eq_zero_or_pos g.size with j|j
   ·rw[j]at hi;omega
   ·exact j
  have hm:i%g.size<g.size:=L8 _ z;simp[hi,hm,getElem!_pos]
 ·have A:(V7 g.toList n).length≤i:=by rw[zje];simp;omega
  rw[Me A,Me Ed];rfl
def zh2(f:Nat→Value):(Array.range 0).map f=#[]:=N
def zdh(g:Nat):∀(q:List (Value×Nat)) (a:Array Value),(q.foldl (λj (c,z)=>j.setIfInBounds (g+z) c) a).size=a.size
 |[],_=>rfl
 |x::q,a=>by rw[List.foldl_cons,zdh g q];simp
def zit{pl:Nat→Option (Nat×Nat)}:∀{g:List (Nat×Value)} {a b:Array Value},Instr.fill pl a g=some b→b.size=a.size
 |[],_,_,h=>Ci
 |(i,v)::g,a,b,h=>by
  simp only[Instr.fill]at h;split at h
  ·cases h
  ·split at h
   ·cases h
   ·rw[zit h,←Array.foldl_toList,zdh]
def zum{P:Program}{C:CM}{w:World}(I:Rel K C F w)(t:TypeId){l:List AV}{o len esz:Nat}{cs:Array Value}(hn:newObj F l=some (o,vU))
  (hv:VRs C l cs.toList) (L:∀a∈l,a.one=true) {cap:Nat} (hc:cap*esz=l.length) (j:len≤cap)
  {G:Sem Next} (A:G.run P w=.ok (.value (.slice (some ⟨w.heap.size,0,none⟩) len cap)) (w.alloc (.cells cs t))):sf P K C w G (.sl o 0 0 len esz (some cap)) vU:=by
 have g:l.length=cs.toList.length:=hv.length;have B:l.length=cs.size:=Be
 obtain⟨M,z,D,E⟩:=I.newRow hn t (0,0) (vs:=cs) J (by rw[g,Mw];exact hv) L N;have H:len*esz≤cap*esz:=Kq _ j;refine⟨M,_,_,z,D,?_,.inl A⟩;have:=VR.sl (i:=0) (len:=len) (esz:=esz) (room:=some cap) (cap:=cap) E B3 B3 j (λr O=>by cases O;exact⟨rfl,B3⟩) (λh=>Ak);simpa using this
def zhf(G:Program)(t:TypeId)(len:Nat)(j:Array (Nat×Operand)) :
  Qe G (z3u G t len j) (λV=>do pure (.value (←Instr.buildSlice t len (j.map λ(i,x)=>(i,V x))))):=by
 unfold z3u;split
 ·rename_i A hu;split
  ·exact Qr G _
  ·rename_i g F;split
   ·exact Qr G _
   ·rename_i gD X;split
    ·rename_i z;obtain⟨Y,P⟩:=z;split
     ·exact Qr G _
     ·rename_i ps H;intro w0 C gF w gG V Z hρ;dsimp only;split
      ·rename_i l hl;split
       ·rename_i o H' hn;obtain⟨v,i,h1,h2,h3,h4⟩:=z6k (w:=w) X;obtain⟨I,k2⟩:=jp (C:=C) h2;have K:v.cells.size=g:=by
         have B:=I.length;unfold Rt at F;rw[h3]at F;simp at F B;omega
        have gg:gD.length=g:=by have B:=I.length;simp at B;omega
        have D:VRs C (Wb gD len) ((Array.range (len*g)).map λi=>v.cells[i%v.cells.size]!).toList:=by
         rw[←K,zck];exact z4o I len
        obtain⟨Q,R,T,q3⟩:=z6q H hρ hl D (z4q k2 len);have L:l.length=len*g:=by
         have B:=T.length;have e3:=zit R;simp at e3 B;omega
        refine zum Z A hn T q3 L.symm (J8 _) ?_;have U:Instr.fill (λi=>some (i*g,g)) ((Array.range (len*g)).map λi=>v.cells[i%v.cells.size]!) (j.map λ(i,x)=>(i,V x)).toList=some Q:=by
         rw[Md];exact R
        have E:¬(len*g>2^24):=J
        simp only[Instr.buildSlice,Sem.run_bind,Qw hu,Ve F,Result.andThen_ok,Sem.run_ite,J1 E];by_cases M:len*g=0
        ·rw[J6 M];have O:Instr.fill (λi=>some (i*g,g)) ((Array.range (len*g)).map λi=>(#[]:Array Value)[i%(#[]:Array Value).size]!) (j.map λ(i,x)=>(i,V x)).toList=some Q:=by
          rw[←U,M,zh2,zh2]
         simp only[Sem.run_pure,Result.andThen_ok,O,newRow,Sem.run_bind,run_newObj];rfl
        ·rw[J1 M];simp only[Sem.run_bind,h1,Sem.run_pure,Result.andThen_ok,U,newRow,run_newObj];rfl
       ·exact trivial
      ·exact trivial
    ·exact Qr G _
 ·exact Qr G _
def zmy(A:Program)(t:TypeId)(l c:Operand):Qe A (z8o A t l c) (λI=>do pure (.value (←Instr.makeSlice t (I l) (I c)))):=by
 unfold z8o;split
 ·rename_i g hu;split
  ·exact Qr A _
  ·rename_i i hi;split
   ·exact Qr A _
   ·rename_i gg O;split
    ·rename_i j;obtain⟨K,B⟩:=j;refine ky λw0 C gD w I a b P ha hb=>?_
     split
     ·rename_i x y;split
      ·rename_i D;split
       ·rename_i Q;split
        ·rename_i o H' hn;have z:x≤y:=Ki D;have E:y≤1048576:=Ki Q;obtain⟨v,gF,R,T,L,U⟩:=z6k (w:=w) O;obtain⟨M,V⟩:=jp (C:=C) T;rw[hi]at L;cases L;have F:v.cells.size=i.size:=by have G:=M.length;simp at G;omega
         generalize I l=pl at ha;generalize I c=pc at hb;cases ha;cases hb;refine zum P g hn (cs:=(Array.range (y*i.size)).map λk=>v.cells[k%v.cells.size]!) (by rw[←F,zck];exact z4o M y) (z4q V y) (by rw[z65,U]) z ?_;have G:IntKind.i64.wrap (Int.ofNat x)=Int.ofNat x:=Au
         have X:IntKind.i64.wrap (Int.ofNat y)=Int.ofNat y:=Au
         have e3:i.bytes*y≤65536*1048576:=Mb B E;have Y:¬((decide (Int.ofNat y<0) || decide ((i.bytes:Int)*Int.ofNat y>2^48) || decide (Int.ofNat x<0) || decide (Int.ofNat x>Int.ofNat y))=true):=by
          have Z:((i.bytes:Int)*Int.ofNat y)=((i.bytes*y:Nat):Int):=N
          rw[Z];simp only[Lf,Kb,not_or];refine⟨⟨⟨N,Ab⟩,N⟩,Ab⟩
         simp only[Instr.makeSlice,Sem.run_bind,Qw hu,z6b hi,asInt,asIntOf,Sem.run_pure,Result.andThen_ok,G,X,Sem.run_ite,J1 Y,run_askRoom,Ve (show Rt A g=some i.size from Ik)];have e6:(Int.ofNat y).toNat=y:=rfl;have e7:(Int.ofNat x).toNat=x:=rfl;rw[e6,e7];by_cases H:y*i.size=0
         ·rw[J6 H];simp only[Sem.run_pure,Result.andThen_ok,newRow,Sem.run_bind,run_newObj];have:((Array.range (y*i.size)).map λk=>(#[]:Array Value)[k%(#[]:Array Value).size]!)=((Array.range (y*i.size)).map λk=>v.cells[k%v.cells.size]!):=by rw[H,zh2,zh2]
          rw[this];rfl
         ·rw[J1 H];simp only[Sem.run_bind,R,Sem.run_pure,Result.andThen_ok,newRow,run_newObj];rfl
        ·exact trivial
       ·exact trivial
      ·exact trivial
     ·exact trivial
    ·exact Qr A _
 ·exact Qr A _
def znm(j:Program)(t:TypeId)(x:Operand):Qe j (zas j t x) (λA=>do pure (.value (←Instr.makeInterface t (A x)))):=by
 unfold zas;split
 ·exact Qr j _
 ·rename_i d g hu;refine V1 λB C D w A a z ha=>Sf z (.iface ha) ?_
  simp only[Instr.makeInterface,Sem.run_bind,Qw hu,Result.andThen_ok];cases d<;>first|rfl|exact absurd hu (g _)
 ·exact Qr j _
def zq1(D:Program)(f:Fn)(first cap:Array Operand)(z:∀l,f≠.yield l):Qe D (ze1 f first cap) (λg=>do pure (.value (←Instr.makeFunc f (first.map g) (cap.map g)))):=by
 intro E F G w H g A j;unfold ze1;dsimp only;split
 ·rename_i l B;split
  ·rename_i r C;refine Sf A (.fn (.same f z) (l':=first.map g) (r':=cap.map g) ?_ ?_) rfl
   ·rw[Md];exact z7t j B
   ·rw[Md];exact z7t j C
  ·exact trivial
 ·exact trivial
def zlz{w:World}(j:Rel K O F w){z:Sem Next}(g:z.run C w=.ok (.value (.map (some w.heap.size))) (w.alloc (.map #[] 0))) :
  Tz C K O w z (gc F):=by
 unfold gc;obtain⟨B,D⟩:=j.push (.map [] 0) (.map #[] 0) 0 0 (λE A=>by
  rw[CM.ext_same]at A;cases A;exact⟨j.low.size,#[],wt _ _,.nil⟩)
 exact⟨_,_,_,D,B,.map (CM.ext_same _ _ _ _),.inl g⟩
def ztc(z:Program)(t:TypeId)(r:Option Operand):Qe z (zgf z t r) (λj=>do pure (.value (←Instr.makeMap t (r.map j)))):=by
 unfold zgf;split
 ·intro A C D w G j g E;exact zlz g (by simp[Instr.makeMap])
 ·rename_i x;split
  ·rename_i k e hu;refine V1 λA C D w j a g ha=>?_
   split
   ·generalize B:j x=F at ha;cases ha;exact zlz g (by simp[Instr.makeMap,Qw hu,B,asInt,asIntOf])
   ·exact trivial
  ·exact Qr z _
def zia(z:Program)(t:TypeId)(x:Operand)(f:Nat):Qe z (z5z z t x f) (λA=>do pure (.value (←Instr.fieldAt t (A x) f))):=by
 unfold z5z;split
 ·rename_i g hu;split
  ·exact Qr z _
  ·rename_i fd B;split
   ·exact Qr z _
   ·exact Qr z _
   ·rename_i n hn C;refine V1 λF I K w A a D ha=>?_
    split
    ·rename_i o v i;generalize G:A x=H at ha;cases ha with
     |ptr E =>
      refine Sf D (.ptr (i:=i+fd.offset) E) ?_;have j:n≠0:=hn;simp[Instr.fieldAt,Qw hu,B,Instr.sureAddr,fieldPlace,Ve C,j,z7p]
    ·exact trivial
 ·exact Qr z _
def zsj(z:Program)(t:TypeId)(x:Operand)(f:Nat):Qe z (ziz z t x f) (λA=>do pure (.value (←Instr.field t (A x) f))):=by
 unfold ziz;split
 ·rename_i g hu;split
  ·exact Qr z _
  ·rename_i fd B;split
   ·rename_i M n C hn;refine V1 λH O P w A a D ha=>?_
    split
    ·generalize I:A x=K at ha;cases ha with
     |agg ha j =>
      refine zc7 D λr E=>?_
      obtain⟨L,F,G⟩:=zg8 (w:=w) C hn E ha j;exact⟨L,by simp[Instr.field,Qw hu,B,asAgg,F],G⟩
    ·exact trivial
   ·exact Qr z _
 ·exact Qr z _
end
section
open Go.RowKit (Below)
def z7w{l c:Nat}(e:Nat)(h:l≤c):l*e+(c-l)*e=c*e:=by
 rw[←Ky];congr 1;omega
def ga(r:Option Nat)(v:Option Value):Prop:=match r with
 |none=>v=none
 |some n=>∃k,v=some (.int k (Int.ofNat n))
def cd{g:Operand→Value}(j:zow O Q g){x:Option Operand}{r:Option Nat}(h:(Sy x).run Q=some r):ga r (x.map g):=by
 cases x with
 |none=>cases h;rfl
 |some x =>
  unfold Sy at h;dsimp only at h;split at h
  ·rename_i k n z;cases h;have:=j _ _ z;generalize hv:g x=v at this;cases this;exact⟨k,by simp[hv]⟩
  ·cases h
def z1v{w:World}(k:IntKind){n y:Nat}(c:BoundsCode)(h:n≤y):(Instr.sliceBound (.int k (Int.ofNat n)) y c).run C w=.ok n w:=by
 have:(0:Int)≤Int.ofNat n∧Int.ofNat n≤(y:Int):=⟨N,Ab⟩;simp only[Instr.sliceBound,asIntOf,Sem.run_bind,Sem.run_pure,Result.andThen_ok,Sem.run_ite,J6 this];rfl
def z3x{P:Program}{w:World}(g:Bool){len cap:Nat}{hi mx:Option Nat}{a b c:Option Value}(ha:ga vG a)(hb:ga hi b)(hc:ga mx c)
  (hm:mx.isSome=true→hi.isSome=true) (j:vG.getD 0≤hi.getD len) (z:hi.getD len≤mx.getD cap) (A:mx.getD cap≤cap) :
  (Instr.sliceBounds g len cap a b c).run P w=.ok (vG.getD 0,hi.getD len,mx.getD cap) w:=by
 cases mx with
 |none =>
  cases hc;simp only[Option.getD_none]at z A;cases hi with
  |none =>
   cases hb;cases vG with
   |none=>cases ha;simp[Instr.sliceBounds]
   |some l =>
    obtain⟨k,rfl⟩:=ha;simp only[L0,Option.getD_none]at j;simp only[Instr.sliceBounds,Sem.run_bind,Sem.run_pure,Result.andThen_ok,z1v k _ j,Option.getD]
  |some h =>
   obtain⟨k,rfl⟩:=hb;simp only[L0]at j z;cases vG with
   |none=>cases ha;simp only[Instr.sliceBounds,Sem.run_bind,Sem.run_pure,Result.andThen_ok,z1v k _ z,Option.getD]
   |some l =>
    obtain⟨B,rfl⟩:=ha;simp only[L0]at j;simp only[Instr.sliceBounds,Sem.run_bind,Sem.run_pure,Result.andThen_ok,z1v k _ z,z1v B _ j,Option.getD]
 |some m =>
  obtain⟨C,rfl⟩:=hc;simp only[L0]at z A;cases hi with
  |none=>simp at hm
  |some h =>
   obtain⟨k,rfl⟩:=hb;simp only[L0]at j z;cases vG with
   |none=>cases ha;simp only[Instr.sliceBounds,Sem.run_bind,Sem.run_pure,Result.andThen_ok,z1v C _ A,z1v k _ z,Option.getD]
   |some l =>
    obtain⟨B,rfl⟩:=ha;simp only[L0]at j;simp only[Instr.sliceBounds,Sem.run_bind,Sem.run_pure,Result.andThen_ok,z1v C _ A,z1v k _ z,z1v B _ j,Option.getD]
def zmc{o v i l h m:Nat}{z:Loc}(B:O o v=some z)(C:l≤h)(D:h≤m)(H:i+m*g≤z.n)(I:z.d+i+m*g≤z.sz) :
  VR O (vx l h m o v i g) (.slice (some (if m=l then ⟨z.b,z.d+i,none⟩ else (⟨z.b,z.d+i,none⟩:Addr).add (l*g))) (h-l) (m-l)):=by
 unfold vx;split
 ·rename_i he;have j:l=m:=Kd he;subst j;have:h=l:=J
  subst this;rw[J6 rfl,Nb];split
  ·exact .sl B J J (J8 _) (λr A=>by cases A;exact⟨rfl,J⟩) (λe=>Ar)
  ·exact .emp
 ·rename_i he;have j:¬m=l:=λe=>by rw[e,K5]at he;cases he
  rw[J1 j,z7p];have K:=z7w g (K8 C D);have L:=z7w g C;have M:h*g≤m*g:=Kq _ D;have E:Nat.add i (Nat.mul l g)=i+l*g:=rfl;have F:Nat.sub h l=h-l:=rfl;have G:Nat.sub m l=m-l:=rfl;rw[E,F,G];exact .sl B J J J (λr A=>by cases A;exact⟨rfl,J⟩) (λe=>Ar)
def zfn{o v i len l h cap:Nat}{room mx:Option Nat}{r:AV}{C:Loc}(H:O o v=some C)(Y:i+len*g≤C.n)(U:C.d+i+cap*g≤C.sz)(Z:len≤cap)
  (V:∀r,room=some r→cap=r∧i+r*g≤C.n) (h5:room=none→C.d+i+cap*g=C.sz) (z:z8h l h (room.getD len) mx o v i g room=some r) :
  l≤h∧h≤mx.getD cap∧mx.getD cap≤cap ∧
  VR O r (.slice (some (if mx.getD cap=l then ⟨C.b,C.d+i,none⟩ else (⟨C.b,C.d+i,none⟩:Addr).add (l*g))) (h-l) (mx.getD cap-l)):=by
 unfold z8h at z;split at z
 ·cases z
 ·rename_i I;have j:l≤h:=Ki I;split at z
  ·cases z
  ·rename_i K;have A:h≤room.getD len:=Ki K;have L:room.getD len≤cap∧i+room.getD len*g≤C.n:=by
    cases room with
    |none=>exact⟨Z,Y⟩
    |some r=>obtain⟨E,F⟩:=V r rfl;exact⟨Ax,F⟩
   split at z
   ·rename_i m;split at z
    ·cases z
    ·rename_i M;have D:h≤m:=Ki M;split at z
     ·cases z
     ·rename_i P;have G:m≤room.getD len:=Ki P;cases z;have E:m*g≤room.getD len*g:=Kq _ G;have F:m*g≤cap*g:=Kq _ J;exact⟨j,D,Ab,zmc H j D J J⟩
   ·split at z
    ·rename_i rr;cases z;obtain⟨E,F⟩:=V rr rfl;subst E;exact⟨j,A,J8 _,zmc H j A F U⟩
    ·have Q:=h5 rfl;simp only[Option.getD_none]at A ⊢;have q3:h*g≤len*g:=Kq _ A;split at z
     ·rename_i X;have R:l=0:=Kd X;subst R;cases z;refine⟨j,J,J8 _,?_⟩;have e:(if cap=0 then (⟨C.b,C.d+i,none⟩:Addr) else (⟨C.b,C.d+i,none⟩:Addr).add (0*g))=⟨C.b,C.d+i,none⟩:=by
       split
       ·rfl
       ·rw[z7p];simp
      rw[e];exact .sl H J (by simpa using U) J (λr T=>by cases T) (λ_=>by simpa using Q)
     ·rename_i X;split at z
      ·rename_i B;have e:l=h:=Kd B;subst e;cases z;refine⟨j,J,J8 _,?_⟩;rw[Nb];exact .emp
      ·rename_i B;have gg:¬l=h:=λe=>by rw[e,K5]at B;cases B
       cases z;refine⟨j,J,J8 _,?_⟩;rw[J1 J,z7p];have E:=z7w g (J:l≤cap);have F:=z7w g j;have e1:Nat.add i (Nat.mul l g)=i+l*g:=rfl;have e2:Nat.sub h l=h-l:=rfl;rw[e1,e2];exact .sl H J J J (λr T=>by cases T) (λ_=>J)
def zcc{g:Type}(f:vM→g)(x:Option vM):(x.map f).isSome=x.isSome:=by cases x<;>rfl
def ga.isSome{r:Option Nat}{v:Option Value}(h:ga r v):r.isSome=v.isSome:=by
 cases r with
 |none=>rw[show v=none from h];rfl
 |some n=>obtain⟨k,rfl⟩:=h;rfl
def zrp(P:Program)(t:TypeId)(x:Operand)(lo hi mx:Option Operand) :
  Qe P (zeo P t x lo hi mx) (λH=>do pure (.value (←Instr.sliceAt t (H x) (lo.map H) (hi.map H) (mx.map H)))):=by
 unfold zeo;split
 ·rename_i hu;split
  ·exact Qr P _
  ·intro w0 gM gO w gR H D j;dsimp only;split
   ·rename_i len n l h E F G;split
    ·rename_i h1;split
     ·rename_i h2;have X:l.getD 0≤h.getD len:=Ki h1;have I:h.getD len≤len:=Ki h2;have hv:=j _ _ E;have z:=cd j F;have g:=cd j G;generalize H x=V at hv;cases hv with
      | @str _ _ s K L =>
       subst K L;have hb:=z3x (P:=P) (w:=w) false (len:=s.size) (cap:=s.size) (mx:=none) (c:=none) z g rfl N X Er N;refine Sf D (x:=.string (s.extract (l.getD 0) (h.getD s.size))) (.str ?_ ?_) ?_
       ·rw[Lib.extract_data];have:(s.data.toList.length)=s.size:=rfl;simp;rw[this]at I;omega
       ·rw[Lib.extract_data,packL_take,packL_drop];rfl
       ·simp only[Instr.sliceAt,Sem.run_bind,Qw hu,Result.andThen_ok,Instr.slice,Option.map_none,Option.isSome_none];simp[hb]
     ·exact trivial
    ·exact trivial
   ·exact trivial
 ·rename_i M hu;split
  ·exact Qr P _
  ·rename_i Y;split
   ·exact Qr P _
   ·rename_i B O;intro w0 gM gO w gR H D j;dsimp only;split
    ·rename_i o v i len Z gK l h m E F G hm;refine zc7 D λr C=>?_
     have hv:=j _ _ E;have z:=cd j F;have g:=cd j G;have A:=cd j hm;generalize H x=V at hv;cases hv with
     | @sl _ _ _ _ _ _ gT cap Q q1 q2 q3 q4 q5 =>
      unfold Yk at C;split at C
      ·cases C
      ·rename_i gg;have R:Z=B:=Kd gg;subst R;obtain⟨k1,k2,k3,k4⟩:=zfn Q q1 q2 q3 q4 q5 C;have hb:=z3x (P:=P) (w:=w) true (len:=len) (cap:=cap) z g A (by
        rw[A.isSome,g.isSome,zcc,zcc];intro e;cases hi<;>simp_all) k1 k2 k3
       refine⟨_,?_,k4⟩;simp only[Instr.sliceAt,Sem.run_bind,Qw hu,Result.andThen_ok,Instr.slice,hb,Ve O,Sem.run_pure,Mg];split<;>simp_all
    ·rename_i l h E F G hm;split
     ·rename_i h0;have gD:l.getD 0+h.getD 0=0:=Kd h0;have hv:=j _ _ E;have z:=cd j F;have g:=cd j G;have A:=cd j hm;generalize H x=V at hv;cases hv;have hb:=z3x (P:=P) (w:=w) true (len:=0) (cap:=0) z g A N J Ab N;refine Sf D .nilSl ?_;have K:l.getD 0=0:=J
      have L:h.getD 0=0:=J
      rw[K,L]at hb;simp only[Instr.sliceAt,Sem.run_bind,Qw hu,Result.andThen_ok,Instr.slice,hb,Ve O,Sem.run_pure];simp
     ·exact trivial
    ·rename_i l h E F G hm;split
     ·rename_i h0;have gD:l.getD 0+h.getD 0=0:=Kd h0;have hv:=j _ _ E;have z:=cd j F;have g:=cd j G;have A:=cd j hm;generalize H x=V at hv;cases hv with
      | @emp a cap =>
       have hb:=z3x (P:=P) (w:=w) true (len:=0) (cap:=cap) z g A N J Ab N;have K:l.getD 0=0:=J
       have L:h.getD 0=0:=J
       rw[K,L]at hb;refine Sf D (x:=.slice (some (if cap=0 then a else a.add 0)) 0 cap) .emp ?_;simp only[Instr.sliceAt,Sem.run_bind,Qw hu,Result.andThen_ok,Instr.slice,hb,Ve O,Sem.run_pure];simp;split<;>rfl
     ·exact trivial
    ·exact trivial
 ·rename_i n M hu;split
  ·exact Qr P _
  ·rename_i Y;split
   ·exact Qr P _
   ·rename_i B O;intro w0 gM gO w gR H D j;dsimp only;split
    ·rename_i o v i l h m E F G hm;split
     ·rename_i c T gF hg;split
      ·rename_i gG;split
       ·rename_i gH;have gL:i+n*B≤T:=Ki gH;have U:v=gF:=Kd gG;subst U;refine zc7 D λr C=>?_
        have hv:=j _ _ E;have z:=cd j F;have g:=cd j G;have A:=cd j hm;generalize H x=V at hv;cases hv with
        | @ptr _ _ _ gT Q =>
         unfold Yk at C;simp only[K5]at C;have gI:=D.obj o _ (D.fresh _ _ _ Q) hg;obtain⟨p1,_,p3,_⟩:=gI gT Q;obtain⟨k1,k2,k3,k4⟩:=zfn (cap:=n) (len:=n) (room:=some n) Q J J (J8 _) (λr C=>by cases C;exact⟨rfl,J⟩) (λe=>Ar) C;have hb:=z3x (P:=P) (w:=w) false (len:=n) (cap:=n) z g A (by
          rw[A.isSome,g.isSome,zcc,zcc];intro e;cases hi<;>simp_all) k1 k2 k3
         refine⟨_,?_,k4⟩;simp only[Instr.sliceAt,Instr.sureAddr,Sem.run_bind,Qw hu,Result.andThen_ok,hb,Ve O,Sem.run_pure]
       ·exact trivial
      ·exact trivial
     ·exact trivial
    ·exact trivial
 ·exact Qr P _
end
section
open Go.RowKit (Below)
def zj8(I:Program)(t:TypeId)(x A:Operand):Qe I (z5s I t x A) (λB=>do pure (.value (←Instr.indexAt t (B x) (B A)))):=by
 unfold z5s;split
 ·rename_i j hu;split
  ·exact Qr I _
  ·rename_i g C;refine ky λL P Q w B a b D ha hb=>?_
   split
   ·rename_i o v i len z K k n;split
    ·rename_i hn;split
     ·rename_i he;have E:n<len:=De
      have F:z=g:=Kd he;subst F;generalize B x=M at ha;generalize B A=O at hb;cases hb;cases ha with
      |sl G =>
       refine Sf D (.ptr (i:=i+n*z) G) ?_;have H:(0:Int)≤Int.ofNat n∧Int.ofNat n<(len:Int):=⟨N,Ab⟩;simp only[Instr.indexAt,asIntOf,Sem.run_bind,Sem.run_pure,Result.andThen_ok,Qw hu,Sem.run_ite,J6 H,Ve C];rw[z7p];rfl
     ·exact trivial
    ·exact trivial
   ·exact trivial
 ·rename_i len j hu;split
  ·exact Qr I _
  ·rename_i g C;refine ky λL P Q w B a b D ha hb=>?_
   split
   ·rename_i o v i k n;split
    ·rename_i hn;have E:n<len:=De
     generalize B x=M at ha;generalize B A=O at hb;cases hb;cases ha with
     |ptr G =>
      refine Sf D (.ptr (i:=i+n*g) G) ?_;have H:(0:Int)≤Int.ofNat n∧Int.ofNat n<(len:Int):=⟨N,Ab⟩;simp only[Instr.indexAt,asIntOf,Instr.sureAddr,Sem.run_bind,Sem.run_pure,Result.andThen_ok,Qw hu,Sem.run_ite,J6 H,Ve C];rw[z7p];rfl
    ·exact trivial
   ·exact trivial
 ·exact Qr I _
def zrm(H:Program)(t:TypeId)(x A:Operand):Qe H (zk1 H t x A) (λB=>do pure (.value (←Instr.index t (B x) (B A)))):=by
 unfold zk1;split
 ·rename_i hu;refine ky λK X Y w B a b C ha hb=>?_
  split
  ·rename_i len n k i;split
   ·rename_i hn;have g:i<len:=De
    generalize B x=L at ha;generalize B A=M at hb;cases hb;cases ha with
    | @str _ _ s D O =>
     subst D O;have hi:i<s.size:=g;have E:s.data.toList[i]?=some s[i]:=by
      rw[J7 Be];rfl
     have P:=zix E;refine Sf C (x:=.int .u8 s[i].toNat) ?_ ?_
     ·have:Int.ofNat (Nat.mod (Nat.div (Ro s.data.toList) (Nat.pow 256 i)) 256)=(s[i].toNat:Int):=by
       show ((Ro s.data.toList/256^i%256:Nat):Int)=_;rw[P]
      rw[this];exact .int _ _
     ·simp only[Instr.index,asIntOf,Sem.run_bind,Sem.run_pure,Result.andThen_ok,Qw hu];have Q:(0:Int)≤Int.ofNat i:=N
      rw[J6 Q];have:s[(Int.ofNat i).toNat]?=some s[i]:=by
       show s[i]?=some s[i];simp[hi]
      rw[this];rfl
   ·exact trivial
  ·exact trivial
 ·rename_i len j hu;split
  ·rename_i Z z E I;refine ky λK X Y w B a b C ha hb=>?_
   split
   ·rename_i l k n;split
    ·rename_i hn;have g:n<len:=De
     generalize B x=L at ha;generalize B A=M at hb;cases hb;cases ha with
     |agg ha F =>
      refine zc7 C λr R=>?_
      obtain⟨V,T,U⟩:=zg8 (w:=w) E I R ha F;refine⟨V,?_,U⟩;have D:(0:Int)≤Int.ofNat n∧Int.ofNat n<(len:Int):=⟨N,Ab⟩;have G:(part j _ ((Int.ofNat n).toNat*z)).run H w=.ok V w:=T;simp only[Instr.index,asIntOf,Sem.run_bind,Sem.run_pure,Result.andThen_ok,Qw hu,Sem.run_ite,J6 D,Ve I,G]
    ·exact trivial
   ·exact trivial
  ·exact Qr H _
 ·exact Qr H _
def zi8{E:CM}:∀{l:List AV} {n:Nat} {vs:List Value},Y6.bytesA l=some n→VRs E l vs→∃g:List UInt8,g.length=l.length∧Ro g=n∧vs=g.map (λb=>Value.int .u8 (b.toNat:Int))
 |[],n,_,h,.nil=>by cases h;exact⟨[],rfl,rfl,rfl⟩
 |a::l,n,_,h,.cons e z=>by
  unfold Y6.bytesA at h;split at h
  ·rename_i j;cases j
  ·rename_i b F j;cases j;split at h
   ·rename_i hb;split at h
    ·rename_i m hm;cases h;have A:b<256:=by rw[Va]at hb;simpa using hb
     cases e;obtain⟨g,B,C,D⟩:=zi8 hm z;have hu:(UInt8.ofNat b).toNat=b:=Ab
     exact⟨UInt8.ofNat b::g,Ao,by rw[Ro,hu,C],by rw[Mt,hu,D];rfl⟩
    ·cases h
   ·cases h
  ·cases h
def zhz(g:List UInt8):(strOfNums (g.map λb=>(b.toNat:Int))).data.toList=g:=by
 simp[strOfNums,Function.comp_def]
def zn3(w:World)(e:TypeId)(s:ByteArray):Lib.bytesWorld w e s=w.drew.alloc (.cells (Lib.bytesCells w e s) e ((Lib.bytesCells w e s).size,(Lib.bytesCells w e s).size+1)):=by
 have g:(Lib.bytesWorld w e s).heap=(w.drew.alloc (.cells (Lib.bytesCells w e s) e ((Lib.bytesCells w e s).size,(Lib.bytesCells w e s).size+1))).heap:=by
  apply Array.ext_getElem?;intro i;rcases Nat.lt_trichotomy i w.heap.size with h|h|h
  ·rw[Lib.bytesWorld_at_old w e s i h,z7n w.drew _ (show i<w.drew.heap.size from h)];rfl
  ·subst h;rw[Lib.bytesWorld_at_new];exact (wt w.drew _).symm
  ·rw[N7 (by rw[Lib.bytesWorld_size];omega),N7 (by rw[World.size_alloc];show w.heap.size+1≤i;omega)]
 show ({ heap:=(Lib.bytesWorld w e s).heap,tape:=w.tape,drawn:=w.drawn+1,os:=w.os,output:=w.output }:World)=_;rw[g];rfl
def zwu(P:Program)(j z:TypeId)(x:Operand):Qe P (Y6 P j z x) (λH=>do pure (.value (←convert j z (H x)))):=by
 unfold Y6;split
 ·rename_i s k C hd;refine V1 λL Y Z w H a A ha=>?_
  split
  ·rename_i k' n;generalize H x=I at ha;cases ha;refine Sf A (x:=.int k (k.wrap n)) (by rw[mb];exact .int _ _) ?_;simp only[convert,Sem.run_bind,Qw C,Qw hd,Result.andThen_ok,Conv.intToInt,Sem.run_pure]
  ·exact trivial
 ·rename_i e C hd;split
  ·rename_i he;refine V1 λL Y Z w H a A ha=>?_
   split
   ·generalize H x=I at ha;cases ha;refine Sf A (x:=.string .empty) (.str rfl rfl) ?_;simp only[Sem.run_bind,run_convert_bytes_nil w j e C he 0 0 z hd,Result.andThen_ok,Sem.run_pure]
   ·rename_i o v i len V;split
    ·rename_i l hl;split
     ·rename_i n hn;generalize H x=I at ha;cases ha with
      | @sl _ _ _ _ _ _ gD cap hL =>
       obtain⟨vs,X,M,h3,h4,h5,h6⟩:=A.read P hl hL;obtain⟨K,q1,q2,q3⟩:=zi8 hn M;have G:K.length=len:=J
       refine Sf A (x:=.string (strOfNums (K.map λb=>(b.toNat:Int)))) (.str (by rw[zhz,G]) (by rw[zhz,q2])) ?_;have O:=run_convert_bytes_arg (P:=P) w j e C he gD.b (gD.d+i) len cap (K.map λb=>(b.toNat:Int)) Bd (λgF hj=>by
        rw[L7,h6 gF hj,q3];simp[Lv,J7 (J:gF<K.length),List.getD]) z hd
       simp only[Sem.run_bind,O,Result.andThen_ok,Sem.run_pure]
     ·exact trivial
    ·exact trivial
   ·exact trivial
  ·exact Qr P _
 ·rename_i s gg C hd;refine V1 λL Y Z w H a A ha=>?_
  split
  ·rename_i l n;have Q:=ha;generalize hx:H x=I at ha;cases ha;refine Sf A Q ?_;rw[hx];cases s<;>simp_all [convert,Qw C,Qw hd]
  ·exact trivial
 ·rename_i s e C hd;split
  ·rename_i he hz;refine V1 λL Y Z w H a A ha=>?_
   split
   ·rename_i len n;split
    ·rename_i o H' hn;generalize H x=I at ha;cases ha with
     | @str _ _ g X M =>
      subst X M;rw[unpack_pack]at hn;have D:g.size≤grownCap w g.size 0 e:=grownCap_ge w g.size 0 e;have B:VRs Y ((g.data.toList.map (·.toNat)).map λ(b:Nat)=>AV.int .u8 (Int.ofNat b)) (g.data.toList.map λb=>Value.int .u8 (b.toNat:Int)):=by
       generalize g.data.toList=q
       induction q with
       |nil=>exact .nil
       |cons b q ih=>exact .cons (.int _ _) ih
      have E:(Lib.bytesCells w e g).size=grownCap w g.size 0 e:=by simp[Lib.bytesCells];omega
      have F:((g.data.toList.map (·.toNat)).map λ(b:Nat)=>AV.int .u8 (Int.ofNat b)).length=g.size:=N
      obtain⟨C',R,T,U⟩:=A.drew.newRow hn e ((Lib.bytesCells w e g).size,(Lib.bytesCells w e g).size+1) (vs:=Lib.bytesCells w e g) (by rw[F,E];exact D)
       (by
        rw[F];have:(Lib.bytesCells w e g).toList.take g.size=g.data.toList.map λb=>Value.int .u8 (b.toNat:Int):=by
         simp only[Lib.bytesCells,Ns,Md];rw[Og N,Kk N]
        rw[this];exact B)
       (by intro a ha;simp only[N0]at ha;obtain⟨b,_,rfl⟩:=ha;rfl) (λi hi=>B3)
      refine⟨C',_,.slice (some ⟨w.heap.size,0,none⟩) g.size (grownCap w g.size 0 e),R,T,?_,.inl ?_⟩
      ·have:=VR.sl (i:=0) (len:=g.size) (esz:=1) (room:=none) (cap:=grownCap w g.size 0 e) U (by rw[F];dsimp only;omega) (by rw[E];dsimp only;omega) D (λr O=>by cases O) (λ_=>by rw[E];simp);simpa using this
      ·simp only[Sem.run_bind,Lib.run_convert_string_bytes w j z e g C hd he,Result.andThen_ok,Sem.run_pure,zn3]
    ·exact trivial
   ·exact trivial
  ·exact Qr P _
 ·exact Qr P _
def zml(E:Program)(x:Operand)(i:Nat):Qe E (zhr x i) (λj=>do pure (.value (←Instr.extract (j x) i))):=by
 unfold zhr;refine V1 λF H I w j a z ha=>?_
 split
 ·generalize j x=G at ha;cases ha with
  | @tup _ A ha =>
   refine zc7 z λr B=>?_
   obtain⟨v,C,D⟩:=ha.get B;have g:A[i]?=some v:=Cp
   exact⟨v,by simp[Instr.extract,g],D⟩
 ·exact trivial
def zp3(F:Program)(x:Operand)(I g:TypeId)(ok:Bool):Qe F (ze8 F x g ok) (λH=>do pure (.value (←Instr.typeAssert (H x) I g ok))):=by
 unfold ze8;split
 ·exact Qr F _
 ·rename_i d j hu;split
  ·exact Qr F _
  ·rename_i P K;refine V1 λM O Q w H a D ha=>?_
   obtain⟨G,A,E⟩:=zoh (w:=w) K;have B:=zi0 (C:=O) E;split
   ·generalize H x=L at ha;cases ha;cases ok with
    |false=>exact trivial
    |true =>
     refine Sf D (x:=.tuple #[G,.bool false]) (.tup (.cons B (.cons (.bool _) .nil))) ?_;simp only[Instr.typeAssert,Sem.run_bind,Qw hu,Result.andThen_ok];cases d<;>first|(simp[A];done)|exact absurd hu (j _)
   ·rename_i t v;generalize H x=L at ha;cases ha with
    | @iface _ _ u ha =>
     split
     ·rename_i he;have z:t=g:=Kd he;subst z;cases ok with
      |false =>
       refine Sf D (x:=u) ha ?_;simp only[Instr.typeAssert,Sem.run_bind,Qw hu,Result.andThen_ok];cases d<;>first|(simp;done)|exact absurd hu (j _)
      |true =>
       refine Sf D (x:=.tuple #[u,.bool true]) (.tup (.cons ha (.cons (.bool _) .nil))) ?_;simp only[Instr.typeAssert,Sem.run_bind,Qw hu,Result.andThen_ok];cases d<;>first|(simp;done)|exact absurd hu (j _)
     ·rename_i he;have z:¬t=g:=λe=>by rw[e,K5]at he;cases he
      cases ok with
      |false=>exact trivial
      |true =>
       refine Sf D (x:=.tuple #[G,.bool false]) (.tup (.cons B (.cons (.bool _) .nil))) ?_;simp only[Instr.typeAssert,Sem.run_bind,Qw hu,Result.andThen_ok];cases d<;>first|(simp[A,z];done)|exact absurd hu (j _)
   ·exact trivial
 ·exact Qr F _
end
section
open Go.RowKit (Below)
def zez{t:TypeId}{d:TypeDesc}(h:Xz C t=some d):C.underlying t=some d∧(d=.bool∨(∃k,d=.int k)∨d=.string):=by
 unfold Xz at h;split at h
 ·rename_i hu;cases h;exact⟨hu,.inl rfl⟩
 ·rename_i k hu;cases h;exact⟨hu,.inr (.inl ⟨k,rfl⟩)⟩
 ·rename_i hu;cases h;exact⟨hu,.inr (.inr rfl)⟩
 ·cases h
def z34{w:World}{t:TypeId}{d:TypeDesc}(h:Xz C t=some d)(e:Bool)(v:Value):(Instr.checkKey e 10000 t v).run C w=.ok () w:=by
 obtain⟨hu,hd⟩:=zez h;show (Instr.checkKey e (9999+1) t v).run C w=_;unfold Instr.checkKey;simp only[Sem.run_bind,Qw hu,Result.andThen_ok];rcases hd with rfl|⟨k,rfl⟩|rfl<;>rfl
def z6n{d:TypeDesc}{a b:AV}{r:Bool}(h:zmn d a b=some r){u v:Value}(hu:VR O a u)(hv:VR O b v) :
  Instr.sameNow d u v=some r∧(r=true→Instr.sameBits 10000 v u=true):=by
 unfold zmn at h;split at h
 ·split at h
  ·rename_i hk;have:=z81 hk;subst this;cases h;cases hu;cases hv;rename_i _ D x y _;refine⟨by simp[Instr.sameNow,z8c],λe=>?_⟩;rw[z8c]at e;have:x=y:=Hn
   subst this;simp[Instr.sameBits]
  ·cases h
 ·cases h;cases hu with
  | @str _ _ s j z =>
   cases hv with
   | @str _ _ g A B =>
    subst j z A B;rw[←zfy,←beq_toListBytes];refine⟨by simp[Instr.sameNow],λe=>?_⟩;have:s=g:=by
     have C:s.data.toList=g.data.toList:=by rw[beq_toListBytes]at e;rw[←ByteArray.toList_eq,←ByteArray.toList_eq];simpa using e
     exact ByteArray.ext (Od.1 C)
    subst this;simp only[Instr.sameBits];rw[beq_toListBytes];simp
 ·cases h;cases hu;cases hv;rename_i x y;refine⟨by simp[Instr.sameNow],λe=>?_⟩;have:x=y:=Hn
  subst this;simp[Instr.sameBits]
 ·cases h
def zfq{C:CM}{d:TypeDesc}{k:AV}{u:Value}(hu:VR C k u):∀{z:List (AV×AV×Nat)} {g:List MapEntry} {r:Option AV} (i:Nat),zo9 d k z=some r→MR C z g →
  match r with
  |none=>Instr.findNow d u g i=some none
  |some a=>∃A v,Instr.findNow d u g i=some (some (A,v))∧VR C a v
 |[],[],r,i,h,.nil=>Ci
 |(E,F,b)::l,e::_,r,i,h,.cons hk hv hb hm=>by
  unfold zo9 at h;split at h
  ·rename_i j;cases h;exact⟨i,e.val,by simp[Instr.findNow,(z6n j hu hk).1],hv⟩
  ·rename_i j;have:=zfq hu (i+1) h hm;cases r with
   |none=>simpa [Instr.findNow,(z6n j hu hk).1] using this
   |some a =>
    obtain⟨A,v,B,D⟩:=this;exact⟨A,v,by simpa [Instr.findNow,(z6n j hu hk).1] using B,D⟩
  ·cases h
def z3v{w:World}{t:TypeId}{d:TypeDesc}(hu:C.underlying t=some d){k:Value}{g:List MapEntry}{r:Option (Nat×Value)}(h:Instr.findNow d k g 0=some r) :
  (Instr.findKey t k g).run C w=.ok r w:=by
 simp[Instr.findKey,Qw hu,h]
def zqn(R:Program)(t:TypeId)(x M:Operand)(ok:Bool):Qe R (zds R t x M ok) (λG=>do pure (.value (←Instr.lookup t (G x) (G M) ok))):=by
 unfold zds;split
 ·rename_i Z X hu;split
  ·rename_i d gD hd hz;refine ky λw0 C gF w G a b O ha hb=>?_
   split
   ·exact trivial
   ·rename_i es j;obtain⟨A,_⟩:=zez hd;obtain⟨P,H,T⟩:=zoh (w:=w) hz;have I:=zi0 (C:=C) T;have K:∃g:Array MapEntry,MR C es g.toList∧((G x=.map none∧g=#[])∨∃b F,G x=.map (some b)∧w.heap[b]?=some (.map g F)):=by
     unfold zyq at j;split at j
     ·cases j;generalize G x=px at ha;cases ha;exact⟨#[],.nil,.inl ⟨rfl,rfl⟩⟩
     ·rename_i o;split at j
      ·rename_i gg F L;cases j;generalize G x=px at ha;cases ha with
       |map Y =>
        obtain⟨_,g,D,Q⟩:=O.obj o _ (O.fresh _ _ _ Y) L _ Y;exact⟨g,Q,.inr ⟨_,_,rfl,D⟩⟩
      ·cases j
     ·cases j
    obtain⟨g,hm,B⟩:=K;split
    ·rename_i v U;obtain⟨gG,u,D,Q⟩:=zfq hb 0 U hm;have z:(Instr.lookup t (G x) (G M) ok).run R w=.ok (if ok then .tuple #[u,.bool true] else u) w:=by
      unfold Instr.lookup;rcases B with ⟨E,rfl⟩|⟨r,F,E,V⟩
      ·simp only[Sem.run_bind,Qw hu,Result.andThen_ok,E,z34 hd,z3v A D,Sem.run_pure]
      ·have L:(getObj r).run R w=.ok (.map g F) w:=by simp[getObj,Sem.run,V]
       simp only[Sem.run_bind,Qw hu,Result.andThen_ok,E,L,z34 hd,z3v A D,Sem.run_pure]
     refine Sf O (x:=if ok then .tuple #[u,.bool true] else u) ?_ Bl;cases ok with
     |true=>exact .tup (.cons Q (.cons (.bool _) .nil))
     |false=>exact Q
    ·rename_i U;have D:=zfq hb 0 U hm;have z:(Instr.lookup t (G x) (G M) ok).run R w=.ok (if ok then .tuple #[P,.bool false] else P) w:=by
      unfold Instr.lookup;rcases B with ⟨E,rfl⟩|⟨r,F,E,V⟩
      ·simp only[Sem.run_bind,Qw hu,Result.andThen_ok,E,z34 hd,z3v A D,Sem.run_pure,H]
      ·have L:(getObj r).run R w=.ok (.map g F) w:=by simp[getObj,Sem.run,V]
       simp only[Sem.run_bind,Qw hu,Result.andThen_ok,E,L,z34 hd,z3v A D,Sem.run_pure,H]
     refine Sf O (x:=if ok then .tuple #[P,.bool false] else P) ?_ Bl;cases ok with
     |true=>exact .tup (.cons I (.cons (.bool _) .nil))
     |false=>exact I
    ·exact trivial
  ·exact Qr R _
 ·exact Qr R _
def zd8(w:World){r k:Nat}(x:Obj)(h:k≠r):({ w with heap:=w.heap.setIfInBounds r x }:World).heap[k]?=w.heap[k]?:=by
 show (w.heap.setIfInBounds r x)[k]?=_;rw[Array.getElem?_setIfInBounds_ne J]
def putObj_heap_same(w:World){r:Nat}(x:Obj)(h:r<w.heap.size):({ w with heap:=w.heap.setIfInBounds r x }:World).heap[r]?=some x:=by
 show (w.heap.setIfInBounds r x)[r]?=_;simp[h]
def Rel.putObj{gH:CM}{H:Heap}{w:World}(h:Rel vX gH H w){o v:Nat}{L:Loc}(hL:gH o v=some L)(hB:vX.heap.size≤L.b)(ob:AObj)(x:Obj)
  (gD:Sl vX.heap.size gH { w with heap:=w.heap.setIfInBounds L.b x } o ob) (gg:∀c len C ro,ob≠.cells c len C ro):Rel vX gH (H.put o ob) { w with heap:=w.heap.setIfInBounds L.b x }:=by
 refine h.put (h.fresh _ _ _ hL) ob (h.low.trans ⟨rfl,rfl,rfl,N,λk hk=>zd8 w x J⟩) N ?_ gD (λc len C ro e=>absurd e (gg c len C ro));intro o' v' L' gF gG;refine zd8 w x (λe=>gF ?_);exact (h.excl _ _ _ _ _ _ hL gG e.symm hB).symm
def MR.length{C:CM}:∀{es:List (AV×AV×Nat)} {gg:List MapEntry},MR C es gg→es.length=gg.length
 |_,_,.nil=>rfl
 |_,_,.cons _ _ _ h=>by simp[MR.length h]
def zbs{D:CM}{d:TypeDesc}{k v:AV}{u x:Value}(hu:VR D k u)(A:VR D v x){E:Nat}:∀{F j:List (AV×AV×Nat)} {g:List MapEntry} {n:Bool} (i:Nat),zca d k v E F=some (j,n)→MR D F g →
  match n with
  |true=>Instr.findNow d u g i=some none∧MR D j (g++[{ key:=u,val:=x,born:=E }])
  |false=>∃B e y,Instr.findNow d u g i=some (some (B+i,y))∧g[B]?=some e∧Instr.sameBits 10000 e.key u=true∧MR D j (g.modify B λe=>{ e with key:=u,val:=x })
 |[],j,[],n,i,h,.nil=>by
  cases h;exact⟨rfl,.cons hu A rfl .nil⟩
 |(P,Q,b)::l,j,e::r,n,i,h,.cons hk hv hb hm=>by
  unfold zca at h;split at h
  ·rename_i C;cases h;obtain⟨z,G⟩:=z6n C hu hk;exact⟨0,e,e.val,by simp[Instr.findNow,z],rfl,G rfl,by simpa using MR.cons (e:={ e with key:=u,val:=x }) hu A hb hm⟩
  ·rename_i C;obtain⟨z,_⟩:=z6n C hu hk;split at h
   ·rename_i R T H;cases h;have:=zbs hu A (i+1) H hm;cases n with
    |true=>exact⟨by simpa [Instr.findNow,z] using this.1,.cons hk hv hb this.2⟩
    |false =>
     obtain⟨B,I,y,K,L,M,O⟩:=this;refine⟨B+1,I,y,?_,by simpa using L,M,by simpa using MR.cons hk hv hb O⟩;rw[show B+1+i=B+(i+1) from J];simpa [Instr.findNow,z] using K
   ·cases h
  ·cases h
def zc8(O:Program)(t:TypeId)(m k x:Operand):Qe O (z5t O t m k x) (λD=>do Instr.mapUpdate t (D m) (D k) (D x);pure .skip):=by
 unfold z5t;split
 ·rename_i gD X hu;split
  ·rename_i d hd;obtain⟨E,_⟩:=zez hd;intro w0 gg gH w gI D F P;dsimp only;split
   ·rename_i o ka va hm hk hx;have G:=P _ _ hm;have H:=P _ _ hk;have I:=P _ _ hx;split
    ·rename_i es L hg;generalize gF:D m=pm at G;cases G with
     |map B =>
      rename_i Y;obtain⟨M,j,Z,q2⟩:=F.obj o _ (F.fresh _ _ _ B) hg _ B;have K:=F.lt _ _ _ B;have z:(getObj Y.b).run O w=.ok (.map j L) w:=by simp[getObj,Sem.run,Z]
      have A:∀y,(setObj Y.b y).run O w=.ok () { w with heap:=w.heap.setIfInBounds Y.b y }:=by intro y;simp[setObj,Sem.run,Z]
      split
      ·rename_i Q R;obtain⟨T,U⟩:=zbs H I 0 R q2;refine⟨gg,{ w with heap:=w.heap.setIfInBounds Y.b (.map (j.push { key:=D k,val:=D x,born:=L }) (L+1)) },undef,CM.le_refl gg,F.putObj B M _ _ ?_ (λ_ _ _ _ e=>Ar),.tup .nil,.inr ⟨?_,rfl⟩⟩
       ·intro L' g;rw[B]at g;cases g;exact⟨M,_,putObj_heap_same w _ K,by rw[Array.toList_push];exact U⟩
       ·simp only[Instr.mapUpdate,Sem.run_bind,Qw hu,Result.andThen_ok,z,z34 hd,z3v E T,A,Sem.run_pure]
      ·rename_i Q R;obtain⟨gG,e,y,T,U,p3,p4⟩:=zbs H I 0 R q2;have V:j[gG]?=some e:=by simpa using U
       refine⟨gg,{ w with heap:=w.heap.setIfInBounds Y.b (.map (j.modify gG λe=>{ e with key:=D k,val:=D x }) L) },undef,CM.le_refl gg,F.putObj B M _ _ ?_ (λ_ _ _ _ e=>Ar),.tup .nil,.inr ⟨?_,rfl⟩⟩
       ·intro L' g;rw[B]at g;cases g;exact⟨M,_,putObj_heap_same w _ K,by rw[Array.toList_modify];exact p4⟩
       ·have C:(Instr.keyThatStays e.key (D k)).run O w=.ok (D k) w:=by simp[Instr.keyThatStays,p3]
        simp only[Instr.mapUpdate,Sem.run_bind,Qw hu,Result.andThen_ok,z,z34 hd,z3v E T,M6,V,Mg,L0,C,A,Sem.run_pure]
      ·exact trivial
    ·exact trivial
   ·exact trivial
  ·exact Qr O _
 ·exact Qr O _
def zs1(z:Program)(t:TypeId)(x:Operand):Qe z (rangeF z t x) (λA=>do pure (.value (←Instr.range t (A x)))):=by
 unfold rangeF;split
 ·rename_i hu;refine V1 λF G H w A a g ha=>?_
  split
  ·rename_i len n;generalize A x=I at ha;cases ha with
   | @str _ _ s B C =>
    obtain⟨D,E⟩:=g.push (.iter len n 0) (.stringIter s 0) 0 0 (λK j=>by
     rw[CM.ext_same]at j;cases j;exact⟨g.low.size,rfl,s,wt _ _,B,C⟩)
    refine⟨_,_,.pointer (some ⟨w.heap.size,0,none⟩),E,D,by simpa using VR.ptr (i:=0) (CM.ext_same G H.next 0 ⟨w.heap.size,0,0,0⟩),.inl ?_⟩;simp only[Instr.range,Sem.run_bind,Qw hu,Sem.run_pure,Result.andThen_ok,run_newObj];rfl
  ·exact trivial
 ·exact Qr z _
def zxd(Y:Program)(x:Operand)(j:Bool)(Z:TypeId):Qe Y (Zi x j) (λρ=>do pure (.value (←Instr.next (ρ x) j Z))):=by
 unfold Zi;split
 ·rename_i hs;subst hs;refine V1 λw0 gg gD w ρ a C ha=>?_
  split
  ·rename_i o;split
   ·rename_i len n g hg;generalize ρ x=px at ha;cases ha with
    | @ptr _ _ _ M D =>
     obtain⟨T,E,s,U,V,X⟩:=C.obj o _ (C.fresh _ _ _ D) hg _ D;have O:=C.lt _ _ _ D;have A:(getObj M.b).run Y w=.ok (.stringIter s g) w:=by simp[getObj,Sem.run,U]
     have F:∀y,(setObj M.b y).run Y w=.ok () { w with heap:=w.heap.setIfInBounds M.b y }:=by intro y;simp[setObj,Sem.run,U]
     have B:(⟨M.b,M.d+0,none⟩:Addr)=⟨M.b,0,none⟩:=by rw[E]
     rw[B];split
     ·rename_i G;have H:g<len:=by rw[Va]at G;simpa using G
      have z:g<s.size:=Hh
      split
      ·rename_i hc;have P:s.data.toList[g]?=some s[g]:=by
        rw[J7 (by rw[V];exact H)];rfl
       have I:=zix P;rw[X]at I;have Q:Nat.mod (Nat.div n (Nat.pow 256 g)) 256=s[g].toNat:=I;rw[Q]at hc ⊢;have R:s[g].toNat<128:=by rw[Va]at hc;simpa using hc
       have K:=decode_ascii s g z R;refine⟨gg,{ w with heap:=w.heap.setIfInBounds M.b (.stringIter s (g+1)) },.tuple #[.bool true,goInt g,.int .i32 (s[g].toNat:Int)],CM.le_refl gg,
        C.putObj D T _ _ ?_ (λ_ _ _ _ e=>Ar),.tup (.cons (.bool _) (.cons (.int _ _) (.cons (.int _ _) .nil))),.inl ?_⟩
       ·intro L' L;rw[D]at L;cases L;exact⟨T,E,s,putObj_heap_same w _ O,V,X⟩
       ·simp only[Instr.next,Sem.run_bind,A,Result.andThen_ok,J6 z,K,F,Sem.run_pure]
      ·exact trivial
     ·rename_i G;have H:¬g<len:=by rw[Va]at G;simpa using G
      have z:¬g<s.size:=Hh
      refine Sf C (x:=.tuple #[.bool false]) (.tup (.cons (.bool _) .nil)) ?_;simp only[Instr.next,Sem.run_bind,A,Result.andThen_ok,J1 z,Sem.run_pure]
   ·exact trivial
  ·exact trivial
 ·exact Qr Y _
end
section
open Go.RowKit (Below)
def Rel.bump{C:CM}{H:Heap}{w w':World}(h:Rel vX C H w){o len:Nat}{c:Tr AV}(ho:o<H.next)(gK:∃v L,C o v=some L)(hg:H.get o=some (.cells c len j false))(L':Loc)(c':Tr AV)(gF:Nat)
  (gH:Below vX.heap.size vX w') (gL:w.heap.size≤w'.heap.size) (gM:L'.b<w'.heap.size) (hex:∀o' v L,C o' v=some L→L.b=L'.b→o'=o)
  (gO:∀o' v L,o'≠o→C o' v=some L→w'.heap[L.b]?=w.heap[L.b]?) (gR:Sl vX.heap.size (C.ext o (j+1) L') w' o (.cells c' gF (j+1) false)) :
  Rel vX (C.ext o (j+1) L') (H.put o (.cells c' gF (j+1) false)) w'∧C.le (C.ext o (j+1) L'):=by
 have gG:C o (j+1)=none:=by
  cases e:C o (j+1) with
  |none=>rfl
  |some L=>have:=h.top _ _ _ _ _ ho hg _ _ e;omega
 have hle:C.le (C.ext o (j+1) L'):=CM.le_ext _ gG (.inl gK);refine⟨⟨by show max C.nx (o+1)=H.next;rw[h.nx];exact Nat.max_eq_left ho,gH,?_,?_,?_,?_,?_⟩,hle⟩
 ·intro o' v L hL;by_cases e:o'=o∧v=j+1
  ·rw[e.1];exact ho
  ·rw[CM.ext_ne _ _ e]at hL;exact h.fresh _ _ _ hL
 ·intro o' v L hL;by_cases e:o'=o∧v=j+1
  ·obtain⟨rfl,rfl⟩:=e;rw[CM.ext_same]at hL;cases hL;exact gM
  ·rw[CM.ext_ne _ _ e]at hL;exact Kt (h.lt _ _ _ hL) gL
 ·intro o1 v1 L1 o2 v2 L2 h1 h2 hb hB;by_cases e1:o1=o∧v1=j+1<;>by_cases e2:o2=o∧v2=j+1
  ·rw[e1.1,e2.1]
  ·obtain⟨rfl,rfl⟩:=e1;rw[CM.ext_same]at h1;cases h1;rw[CM.ext_ne _ _ e2]at h2;exact (hex _ _ _ h2 hb.symm).symm
  ·obtain⟨rfl,rfl⟩:=e2;rw[CM.ext_same]at h2;cases h2;rw[CM.ext_ne _ _ e1]at h1;exact hex _ _ _ h1 hb
  ·rw[CM.ext_ne _ _ e1]at h1;rw[CM.ext_ne _ _ e2]at h2;exact h.excl _ _ _ _ _ _ h1 h2 hb hB
 ·intro o' ob gD gg;by_cases e:o'=o
  ·subst e;rw[Heap.get_put_same]at gg;cases gg;exact gR
  ·have gI:o'<H.next:=gD;rw[Heap.get_put_ne H _ e]at gg;exact (h.obj _ _ gD gg).frame hle (λv L hL=>by rwa [CM.ext_ne _ _ (λq=>e q.1)]at hL) (λv L hL=>gO _ _ _ e hL)
 ·intro o' c1 gT gU gV gD gg v L hL;by_cases e:o'=o
  ·subst e;rw[Heap.get_put_same]at gg;cases gg;by_cases e2:v=j+1
   ·omega
   ·rw[CM.ext_ne _ _ J]at hL;have:=h.top _ _ _ _ _ ho hg _ _ hL;omega
  ·have gI:o'<H.next:=gD;rw[Heap.get_put_ne H _ e]at gg;rw[CM.ext_ne _ _ (λq=>e q.1)]at hL;exact h.top _ _ _ _ _ gD gg _ _ hL
structure AppX (P:Program) (w:World) (elem:TypeId) (size:Nat) (xt:TypeId) (x:Value) (n:Nat) (news:Array Value):Prop where
 und:∃d,P.underlying xt=some d∧((d=.string∨∃e,d=.slice e)∧(Builtin.lenOf x).run P w=.ok n w∧(∀w',w'.heap=w.heap→(Builtin.firstCells size n x).run P w'=.ok news w')
  ∨ (∃k,d=.int k)∧x=.int .i64 (Int.ofNat n)∧n≤1048576∧0<size∧∃zv,(∀w',(zeroValue elem).run P w'=.ok zv w')∧(∃i,P.info? elem=some i∧i.bytes≤65536)∧news=Builtin.zeroCells zv.cells n∧zv.cells.size=size)
def zf2(g:Array Value):Builtin.zeroCells g 0=#[]:=by simp[Builtin.zeroCells]
def z2h{w w':World}{st elem ty:TypeId}{n len cap:Nat}{base:Option Addr}{x:Value}(hu:C.underlying st=some (.slice elem))(H:Rt C elem=some g)
  (K:AppX C w elem g vY x n vH) (A:len+n≤cap)
  (j:match base with
   |none=>w'=w
   |some a=>(storeCells (a.add (len*g)) vH.toList).run C w=.ok () w') :
  (Builtin.append_ #[st,vY] ty #[.slice base len cap,x]).run C w=.ok (.slice base (len+n) cap) w':=by
 obtain⟨d,hd,z⟩:=K.und;unfold Builtin.append_;rcases z with ⟨D,B,L⟩|⟨⟨k,rfl⟩,rfl,hn,I,U,M,⟨i,hi,E⟩,rfl,O⟩
 ·rcases D with rfl|⟨e,rfl⟩
  all_goals
   simp only[Lz,Ks,Km,Sem.run_bind,Qw hu,Qw hd,Ve H,Result.andThen_ok,Sem.run_pure,My,M7,B,Sem.run_ite,J6 A,Bool.not_false,Lj,L w rfl];cases base with
   |none=>subst j;rfl
   |some a=>simp only[Sem.run_bind,j,Result.andThen_ok,Sem.run_pure]
 ·have P:IntKind.i64.wrap (Int.ofNat n)=Int.ofNat n:=Au
  have Q:¬(Int.ofNat n<0):=N
  have R:¬(Int.ofNat n*(i.bytes:Int)>2^48):=by
   have:(Int.ofNat n*(i.bytes:Int))=((n*i.bytes:Nat):Int):=N
   rw[this];have:n*i.bytes≤1048576*65536:=Mb hn E;omega
  simp only[Lz,Ks,Km,Sem.run_bind,Qw hu,Qw hd,Ve H,Result.andThen_ok,Sem.run_pure,Lj,asInt,asIntOf,P,Sem.run_ite,J1 Q,z6b hi,J1 R,Bool.not_true,My,M7];have T:(Int.ofNat n).toNat=n:=rfl;rw[T,J6 A];by_cases F:n*g=0
  ·have G:n=0:=by
    rcases Nat.mul_eq_zero.1 F with h|h
    ·exact h
    ·omega
   subst G;rw[zf2]at j;rw[J6 F];simp only[Result.andThen_ok];cases base with
   |none=>subst j;rfl
   |some a=>simp only[Sem.run_bind,j,Result.andThen_ok,Sem.run_pure]
  ·rw[J1 F];simp only[M,Result.andThen_ok];cases base with
   |none=>subst j;rfl
   |some a=>simp only[Sem.run_bind,j,Result.andThen_ok,Sem.run_pure]
def z75{w:World}{st elem ty:TypeId}{i:TypeInfo}{n len cap:Nat}{base:Option Addr}{x:Value}{olds:Array Value}(hu:C.underlying st=some (.slice elem))(hi:C.info? elem=some i)
  (U:AppX C w elem i.size vY x n vH) (K:cap<len+n) (G:i.bytes≤65536) (E:len+n≤2000000000) (L:∀w',(zeroValue elem).run C w'=.ok vz w')
  (z:(Builtin.firstCells i.size len (.slice base len cap)).run C w.drew=.ok olds w.drew) :
  (Builtin.append_ #[st,vY] ty #[.slice base len cap,x]).run C w =
   .ok (.slice (some ⟨w.heap.size,0,none⟩) (len+n) (grownCap w (len+n) cap elem)) (w.drew.alloc (.cells (olds++vH++Builtin.zeroCells vz.cells (grownCap w (len+n) cap elem-(len+n))) elem)):=by
 have R:Rt C elem=some i.size:=Ik
 obtain⟨d,hd,F⟩:=U.und;have A:¬(len+n≤cap):=J
 have B:¬(Builtin.nextslicecap (len+n) cap*i.bytes>2^48):=by
  have h1:(len+n)*i.bytes≤2000000000*65536:=Mb E G;have:=growslice_fits (bytes:=i.bytes) K J;omega
 have D:¬(((len+n:Nat):Int)>IntKind.i64.max):=by
  simp only[IntKind.max,IntKind.signed,IntKind.bits,Lj];omega
 have g:(Question.appendCap (len+n) cap elem).forced=false:=rfl;unfold Builtin.append_;rcases F with ⟨M,H,V⟩|⟨⟨k,rfl⟩,rfl,hn,T,O,I,⟨gg,hj,_⟩,rfl,X⟩
 ·have j:(Builtin.firstCells i.size len (.slice base len cap)).run C { w with drawn:=w.drawn+1 }=.ok olds { w with drawn:=w.drawn+1 }:=z;rcases M with rfl|⟨e,rfl⟩
  all_goals
   simp only[Lz,Ks,Km,Sem.run_bind,Qw hu,Qw hd,Ve R,Result.andThen_ok,Sem.run_pure,My,M7,H,Sem.run_ite,J1 A,z6b hi,D,false_and,J1 B,run_choose,g,run_askRoom];simp only[j,Result.andThen_ok,Bool.not_false,Lj,V { w with drawn:=w.drawn+1 } rfl,L,newRow,Sem.run_bind,run_newObj,Sem.run_pure];rfl
 ·obtain rfl:O=vz:=by have a:=I w;rw[L w]at a;cases a;rfl
  have Y:IntKind.i64.wrap (Int.ofNat n)=Int.ofNat n:=Au
  have Z:¬(Int.ofNat n<0):=N
  have e3:¬(Int.ofNat n*(i.bytes:Int)>2^48):=by
   have:(Int.ofNat n*(i.bytes:Int))=((n*i.bytes:Nat):Int):=N
   rw[this];have:n*i.bytes≤1048576*65536:=Mb hn G;omega
  simp only[Lz,Ks,Km,Sem.run_bind,Qw hu,Qw hd,Ve R,Result.andThen_ok,Sem.run_pure,Lj,asInt,asIntOf,Y,Sem.run_ite,J1 Z,z6b hi,J1 e3,Bool.not_true,My,M7];have e4:(Int.ofNat n).toNat=n:=rfl;rw[e4,J1 A];simp only[D,false_and,M7,Result.andThen_ok,J1 B,run_choose,g,My,run_askRoom];have j:(Builtin.firstCells i.size len (.slice base len cap)).run C { w with drawn:=w.drawn+1 }=.ok olds { w with drawn:=w.drawn+1 }:=z;simp only[j,Result.andThen_ok];by_cases P:n*i.size=0
  ·have Q:n=0:=by
    rcases Nat.mul_eq_zero.1 P with h|h
    ·exact h
    ·omega
   subst Q;rw[J6 P];simp only[Sem.run_pure,Result.andThen_ok,zf2,L,newRow,Sem.run_bind,run_newObj];rfl
  ·rw[J1 P];simp only[Sem.run_bind,I,Sem.run_pure,Result.andThen_ok,newRow,run_newObj];rfl
def zfw{P:Program}{t:TypeId}{l:List AV}(h:Vl P t=some l):∃v i,(∀w',(zeroValue t).run P w'=.ok v w')∧Xe v.cells.toList=some l∧P.info? t=some i∧l.length=i.size:=by
 unfold Vl at h;cases hi:P.info? t with
 |none=>simp[hi]at h
 |some i =>
  simp only[hi]at h;cases g:i.zero with
  |none=>simp[g]at h
  |some v =>
   simp only[g]at h;cases ha:Xe v.cells.toList with
   |none=>simp[ha]at h
   |some r =>
    simp only[ha]at h;split at h
    ·cases h;rename_i j;exact⟨v,i,λw'=>Ge,ha,rfl,j⟩
    ·cases h
def zb1{l r:List Value}{n:Nat}(h:l.length=n):(l++r).take n=l:=by rw[←h];simp
def zzp{M:Program}{C:CM}{w:World}(E:Rel K C F w){elem:TypeId}{i:TypeInfo}{n:Nat}{l:List AV}{cs:Array Value}{cap:Nat}(g:n≤cap)
  (O:l.length=n*i.size) (G:cs.size=cap*i.size) (hv:VRs C l (cs.toList.take l.length)) (H:∀a∈l,a.one=true) {D:Sem Next}
  (j:D.run M w=.ok (.value (.slice (some ⟨w.heap.size,0,none⟩) n cap)) (w.drew.alloc (.cells cs elem))):Tz M K C w D (kx F n i.size l):=by
 unfold kx;cases hn:newObj F l with
 |none=>exact trivial
 |some r =>
  obtain⟨o,P⟩:=r;have hm:n*i.size≤cap*i.size:=Kq _ g;obtain⟨I,z,A,B⟩:=E.drew.newRow hn elem (0,0) (vs:=cs) J hv H N;refine⟨I,_,_,z,A,?_,.inl j⟩;have:=VR.sl (i:=0) (len:=n) (esz:=i.size) (room:=none) (cap:=cap) B Ba Ba g (λr L=>by cases L) (λ_=>Ba);simpa using this
def zpu{P:Program}{C:CM}{w:World}(H:Rel K C F w){st elem ty:TypeId}{i:TypeInfo}(hu:P.underlying st=some (.slice elem))(hi:P.info? elem=some i)(jA:0<i.size)
  (gL:i.bytes≤65536) (hz:Vl P elem=some V) {s:AV} {x:Value} (hs:VR C s vz) {n:Nat} {j:List AV} {news:Array Value} (Z:AppX P w elem i.size vY x n news) (hn:n≤1048576)
  (D:VRs C j news.toList) (I:∀a∈j,a.one=true) (gF:j.length=n*i.size) :
  Tz P K C w (do pure (.value (←Builtin.append_ #[st,vY] ty #[vz,x]))) (Zk F i.size s n j):=by
 have Q:Rt P elem=some i.size:=Ik
 obtain⟨zv,jz,gM,jP,jB,zg⟩:=zfw hz;rw[hi]at jB;cases jB;have gO:zv.cells.size=i.size:=by
  have:=(jp (C:=C) jP).1.length;simp at this;omega
 have M:news.size=n*i.size:=by have:=D.length;simp at this;omega
 unfold Zk;split
 ·rename_i h0;have jC:n=0:=Kd h0;subst jC;have jD:news=#[]:=Mz J;subst jD;split
  ·cases hs;have z:=z2h (ty:=ty) (base:=none) (len:=0) (cap:=0) (w':=w) hu Q Z J rfl;exact Sf H .nilSl Bl
  ·cases hs with
   | @emp a cap =>
    have z:=z2h (ty:=ty) (base:=some a) (len:=0) (cap:=cap) (w':=w) hu Q Z J rfl;exact Sf H (x:=.slice (some a) 0 cap) .emp Bl
  ·rename_i o v k len jE gG;have jQ:=hs;cases hs with
   | @sl _ _ _ _ _ _ L cap O q1 q2 q3 =>
    have z:=z2h (ty:=ty) (base:=some ⟨L.b,L.d+k,none⟩) (len:=len) (cap:=cap) (w':=w) hu Q Z J rfl;exact Sf H jQ (by simp only[Sem.run_bind,z,Result.andThen_ok,Sem.run_pure];rfl)
  ·exact trivial
 ·rename_i h0;have jC:n≠0:=λe=>by rw[e]at h0;cases h0
  split
  ·cases hs;have T:=grownCap_ge w (0+n) 0 elem;refine zzp H (elem:=elem) (cap:=grownCap w (0+n) 0 elem) (cs:=#[]++news++Builtin.zeroCells zv.cells (grownCap w (0+n) 0 elem-(0+n))) J gF ?_ ?_ I ?_
   ·rw[M8,M8,size_zeroCells,gO,M];have:=z7w i.size (show 0+n≤grownCap w (0+n) 0 elem from T);simp at this ⊢;omega
   ·rw[Ns,Ns,zb1 Ab];simpa using D
   ·have:=z75 (ty:=ty) (base:=none) (len:=0) (cap:=0) (olds:=#[]) hu hi Z J gL J gM (by simp[Builtin.firstCells]);simp only[Sem.run_bind,this,Result.andThen_ok,Sem.run_pure,Kw]
  ·rename_i o v k len jE gG;split
   ·exact trivial
   ·rename_i he;rw[J2]at he;have gH:len≤S4:=Ki he.2;have jR:jE=i.size:=Kd he.1;subst jR;cases hs with
    | @sl _ _ _ _ _ _ L cap O q1 q2 q3 q4 q5 =>
     have U:(⟨L.b,L.d+k,none⟩:Addr).add (len*i.size)=⟨L.b,L.d+(k+len*i.size),none⟩:=z7p _ _ _ _;have jF:(len+n)*i.size=len*i.size+n*i.size:=Ky _ _ _;have gI:∀G,Tn F o v k (len*i.size)=some G→∃A:Array Value,(Builtin.firstCells i.size len (.slice (some ⟨L.b,L.d+k,none⟩) len cap)).run P w.drew=.ok A w.drew∧VRs C G A.toList∧(∀a∈G,a.one=true)∧G.length=len*i.size:=by
      intro G z;obtain⟨vs,p1,X,p3,p4,_,_⟩:=H.drew.read P z O;exact⟨vs.toArray,by simpa [Builtin.firstCells] using p1,by simpa using X,p3,p4⟩
     split
     ·rename_i r;obtain⟨jG,gR⟩:=q4 r rfl;subst jG;split
      ·rename_i R;have E:len+n≤cap:=Ki R;split
       ·rename_i H' hw;have gT:Zh F o v (k+len*i.size) j=some H':=hw;obtain⟨Y,p1,X⟩:=H.write P gT O D I;have jT:(len+n)*i.size≤cap*i.size:=Kq _ E;refine⟨C,Y,.slice (some ⟨L.b,L.d+k,none⟩) (len+n) cap,CM.le_refl C,X,.sl O (J:k+(len+n)*i.size≤L.n) q2 E (λr z=>by cases z;exact⟨rfl,gR⟩) (λe=>Ar),.inl ?_⟩;simp only[Sem.run_bind,z2h (w':=Y) (base:=some ⟨L.b,L.d+k,none⟩) hu Q Z E (by dsimp only;rw[U];exact p1),Result.andThen_ok,Sem.run_pure]
       ·exact trivial
      ·rename_i R;have jU:cap<len+n:=by
        rcases M5 cap (len+n) with h|h
        ·exact h
        ·rw[show Nat.ble (Nat.add len n) cap=true from Kc h]at R;cases R
       split
       ·rename_i G z;obtain⟨A,p1,X,p3,p4⟩:=gI G z;have gg:A.size=len*i.size:=by have:=X.length;simp at this;omega
        have T:=grownCap_ge w (len+n) cap elem;refine zzp H (elem:=elem) (cap:=grownCap w (len+n) cap elem) (cs:=A++news++Builtin.zeroCells zv.cells (grownCap w (len+n) cap elem-(len+n))) T ?_ ?_ ?_ ?_ ?_
        ·rw[J9,p4,gF];exact jF.symm
        ·rw[M8,M8,size_zeroCells,gO,M,gg];have:=z7w i.size T;omega
        ·rw[Ns,Ns,zb1 Ab];exact X.append D
        ·intro a ha;rcases Kx.1 ha with h|h
         ·exact p3 a h
         ·exact I a h
        ·have:=z75 (ty:=ty) (base:=some ⟨L.b,L.d+k,none⟩) hu hi Z jU gL (by unfold S4 at gH;omega) gM p1;simp only[Sem.run_bind,this,Result.andThen_ok,Sem.run_pure]
       ·exact trivial
     ·have gU:=q5 rfl;split
      ·rename_i c g jV T;split
       ·exact trivial
       ·rename_i hv;have jX:v=jV:=Kd hv;subst jX;have ho:=H.fresh _ _ _ O;have jY:=H.obj o _ ho T;obtain⟨p1,X,p3,vs,e,lo,jH,p4,p5,p6,p7⟩:=jY L O;split
        ·rename_i R;have E:k+(len+n)*i.size≤g:=Ki R;have gK:len+n≤cap:=by
          have:(len+n)*i.size≤cap*i.size:=J
          exact Ov this jA
         split
         ·rename_i H' hw;have gT:Zh F o v (k+len*i.size) j=some H':=hw;obtain⟨Y,r1,r2⟩:=H.write P gT O D I;refine⟨C,Y,.slice (some ⟨L.b,L.d+k,none⟩) (len+n) cap,CM.le_refl C,r2,.sl O (J:k+(len+n)*i.size≤L.n) q2 gK (λr z=>by cases z) (λ_=>gU),.inl ?_⟩;simp only[Sem.run_bind,z2h (w':=Y) (base:=some ⟨L.b,L.d+k,none⟩) hu Q Z gK (by dsimp only;rw[U];exact r1),Result.andThen_ok,Sem.run_pure]
         ·exact trivial
        ·rename_i j8;split
         ·exact trivial
         ·rename_i hk;have jZ:k=0:=Kd hk;subst jZ;split
          ·exact trivial
          ·rename_i jI;have gV:len*i.size=g:=Kd jI;by_cases hc:len+n≤cap
           ·
            have jT:(len+n)*i.size≤cap*i.size:=Kq _ hc;obtain⟨Y,j4,r1,r2,r3,r4,r5,r6,r7,r8,r9⟩:=z97 P ⟨L.b,L.d+(0+len*i.size),none⟩ news.toList 0 w vs e lo jH rfl p4 (D.one I) Ab
             (λjz hj gD=>by simp at hj gD;exact p6 jz J J)
            obtain⟨gZ,E⟩:=H.bump ho ⟨_,_,O⟩ T ⟨L.b,L.d,g+j.length,L.sz⟩ (T9 j g c) (g+j.length) (w':=Y)
             (H.low.trans ⟨r6,r7,r8,J,λjz hj=>r4 jz (by dsimp only;have:=X rfl;omega)⟩) J (show L.b<Y.heap.size by rw[r5];exact H.lt _ _ _ O)
             (λo' v' L' B hb=>(H.excl _ _ _ _ _ _ O B hb.symm (X rfl)).symm)
             (λo' v' L' j5 B=>r4 _ (λe'=>j5 (H.excl _ _ _ _ _ _ O B e'.symm (X rfl)).symm))
             (by
              intro L' B;rw[CM.ext_same]at B;cases B;refine⟨rfl,λ_=>X rfl,Ba,j4,e,lo,jH,r2,Ba,p6,?_⟩;refine lh.mono (CM.le_ext _ ?_ (.inl ⟨_,_,O⟩)) (p7.lay D I (J8 _) (J8 _) (.inr rfl) (λjz=>?_))
              ·cases e':C o (v+1) with
               |none=>rfl
               |some j6=>have:=H.top _ _ _ _ _ ho T _ _ e';omega
              ·rw[r9 jz];have:L.d+(0+len*i.size)+0=L.d+g:=J
               simp only[this])
            refine⟨_,Y,.slice (some ⟨L.b,L.d+0,none⟩) (len+n) cap,E,gZ,?_,.inl ?_⟩
            ·exact VR.sl (L:=⟨L.b,L.d,g+j.length,L.sz⟩) (i:=0) (len:=len+n) (esz:=i.size) (room:=none) (cap:=cap) (CM.ext_same C o (v+1) ⟨L.b,L.d,g+j.length,L.sz⟩)
              Ba Ba hc (λr z=>by cases z) (λ_=>Ba)
            ·simp only[Sem.run_bind,z2h (w':=Y) (base:=some ⟨L.b,L.d+0,none⟩) hu Q Z hc (by dsimp only;rw[U];exact r1),Result.andThen_ok,Sem.run_pure]
           ·
            have z:∃G,Tn F o v 0 (len*i.size)=some G:=by
             unfold Tn;rw[T];have hb:Nat.ble (Nat.add 0 (len*i.size)) g=true:=Kc (by show 0+len*i.size≤g;omega);simp only[K5,hb];have:∀m a,a+m≤g→∃l,Vk c a m=some l:=by
              intro m
              induction m with
              |zero=>intro a _;exact⟨[],rfl⟩
              |succ m ih =>
               intro a ha;obtain⟨x1,y1,_⟩:=p7 a J;obtain⟨l1,y2⟩:=ih (a+1) J;exact⟨x1::l1,by simp only[Vk,y1,y2]⟩
             exact this _ 0 J
            obtain⟨G,z⟩:=z;obtain⟨A,s1,s2,s3,s4⟩:=gI G z;have gg:A.size=len*i.size:=by have:=s2.length;simp at this;omega
            have jK:=grownCap_ge w (len+n) cap elem;have jL:=z75 (ty:=ty) (base:=some ⟨L.b,L.d+0,none⟩) hu hi Z J gL (by unfold S4 at gH;omega) gM s1;have zz:=z7w i.size jK;have jM:(A++news++Builtin.zeroCells zv.cells (grownCap w (len+n) cap elem-(len+n))).size=grownCap w (len+n) cap elem*i.size:=by
             rw[M8,M8,size_zeroCells,gO,M,gg];omega
            obtain⟨gZ,E⟩:=H.bump ho ⟨_,_,O⟩ T ⟨w.heap.size,0,g+j.length,grownCap w (len+n) cap elem*i.size⟩ (T9 j g c) (g+j.length)
             (w':=w.drew.alloc (.cells (A++news++Builtin.zeroCells zv.cells (grownCap w (len+n) cap elem-(len+n))) elem))
             (H.low.drew.alloc H.low.size _) (by rw[World.size_alloc,World.size_drew];omega) (by rw[World.size_alloc,World.size_drew];dsimp only;omega)
             (λo' v' L' B hb=>by have:=H.lt _ _ _ B;dsimp only at hb;omega)
             (λo' v' L' _ B=>z7n w.drew _ (H.lt _ _ _ B))
             (by
              intro L' B;rw[CM.ext_same]at B;cases B;refine⟨rfl,λ_=>H.low.size,Ba,_,elem,0,0,wt w.drew _,by rw[jM];exact J8 _,λ_ _ _=>J,?_⟩;have jg:C o (v+1)=none:=by
               cases e':C o (v+1) with
               |none=>rfl
               |some j6=>have:=H.top _ _ _ _ _ ho T _ _ e';omega
              refine lh.mono (CM.le_ext _ jg (.inl ⟨_,_,O⟩)) ?_;obtain⟨g1,g2⟩:=zf (show Vk c 0 (len*i.size)=some G by
               unfold Tn at z;rw[T]at z;dsimp only at z;split at z
               ·split at z
                ·exact z
                ·cases z
               ·cases z)
              intro jz hj;rw[get_ofList j g c jz,Kw];by_cases gD:g≤jz∧jz<g+j.length
              ·rw[J6 gD];obtain⟨a,x1,y1,y2,y3⟩:=D.get' (i:=jz-g) J;refine⟨a,y1,I a (Kj y1),x1,?_,y3⟩;rw[Nd (by rw[M8];omega),Array.getElem?_append_right J,gg,gV];simpa using y2
              ·rw[J1 gD];have j7:jz<len*i.size:=J
               have:=g2 jz j7;rw[Kw]at this;obtain⟨a,x1,y1,y2,y3⟩:=s2.get' (i:=jz) J;rw[y1]at this;refine⟨a,this,s3 a (Kj y1),x1,?_,y3⟩;rw[Nd (by rw[M8];omega),Nd J];simpa using y2)
            refine⟨_,_,.slice (some ⟨w.heap.size,0,none⟩) (len+n) (grownCap w (len+n) cap elem),E,gZ,?_,.inl ?_⟩
            ·have:=VR.sl (i:=0) (len:=len+n) (esz:=i.size) (room:=none) (cap:=grownCap w (len+n) cap elem) (CM.ext_same C o (v+1) ⟨w.heap.size,0,g+j.length,grownCap w (len+n) cap elem*i.size⟩)
              Ba Ba jK (λr z=>by cases z) (λ_=>Ba)
             simpa using this
            ·simp only[Sem.run_bind,jL,Result.andThen_ok,Sem.run_pure]
      ·exact trivial
  ·exact trivial
end
section
open Go.RowKit (Below)
def zqi{w:World}(h:K.heap=w.heap)(a:Addr):K.cell? a=w.cell? a:=by simp[World.cell?,h]
def zm2{P:Program}{C:CM}{w:World}(O:Rel K C F w){b:AV}{x:Value}(hb:VR C b x){n:Nat}{l:List AV}(h:ow F g b=some (n,l)) :
  ∃A:List Value,VRs C l A∧(∀a∈l,a.one=true)∧l.length=n*g∧(Builtin.lenOf x).run P w=.ok n w ∧
   ∀m,m≤n→∀z,z.heap=w.heap→(Builtin.firstCells g m x).run P z=.ok (A.take (m*g)).toArray z:=by
 unfold ow at h;split at h
 ·cases h;cases hb;exact⟨[],.nil,N,N,rfl,λm hm z _=>by simp[Builtin.firstCells]⟩
 ·cases h;cases hb with
  | @emp a cap =>
   refine⟨[],.nil,N,N,rfl,λm hm z _=>?_⟩;have:m=0:=J
   subst this;simp only[Builtin.firstCells,M0];rw[zaq P z a 0 [] rfl (λM H=>J)];rfl
 ·rename_i o v i len j I;split at h
  ·rename_i he;have E:j=g:=Kd he;subst E;split at h
   ·rename_i l' Q;cases h;cases hb with
    | @sl _ _ _ _ _ _ gg cap R =>
     obtain⟨A,_,D,T,L,_,U⟩:=O.read P Q R;refine⟨A,D,T,L,rfl,λm hm z hw=>?_⟩;have V:m*j≤n*j:=Kq _ hm;have X:A.length=n*j:=by have e1:=D.length;have e2:l.length=n*j:=L;omega
     simp only[Builtin.firstCells];refine zaq P z _ _ _ Ab (λM H=>?_);rw[z7p,zqi hw,U M (show M<Nat.mul n j by show M<n*j;omega),Lu H]
   ·cases h
  ·cases h
 ·rename_i len n';split at h
  ·rename_i G;cases h;have B:g=1:=Kd G;subst B;cases hb with
   | @str _ _ s Y D =>
    subst Y D;rw[unpack_pack];refine⟨s.data.toList.map λb=>Value.int .u8 (b.toNat:Int),?_,?_,N,rfl,λm hm z _=>?_⟩
    ·generalize s.data.toList=q
     induction q with
     |nil=>exact .nil
     |cons b q Z=>exact .cons (.int _ _) Z
    ·intro a ha;simp only[N0]at ha;obtain⟨b,_,rfl⟩:=ha;rfl
    ·simp only[Builtin.firstCells,Sem.run_pure]
     congr 1
     apply Od.1;rw[Md,Lib.extract_data];simp
  ·cases h
 ·cases h
def Qe.congr{P:Program}{f:OpF}{nx C:(Operand→Value)→Sem Next}(h:∀ρ,nx ρ=C ρ)(s:Qe P f nx):Qe P f C:=λw0 gg H w E ρ hR hρ=>by rw[←h ρ];exact s w0 gg H w E ρ hR hρ
def jm{a:Array vM}{x y:vM}(h:a.toList=[x,y]):a=#[x,y]:=Od.1 h
def ie{a:Array vM}{x:vM}(h:a.toList=[x]):a=#[x]:=Od.1 h
def zok(P:Program)(ts:Array TypeId)(D:Array Operand)(Q:TypeId):Qe P (zil P ts D) (λG=>do pure (.value (←Builtin.append_ ts Q (D.map G)))):=by
 unfold zil;split
 ·rename_i st R s x T E;have U:=jm T;have F:=jm E;subst U F;refine Qe.congr (nx:=λG=>do pure (.value (←Builtin.append_ #[st,R] Q #[G s,G x]))) (λG=>N) ?_;have H:∀g,P.underlying st=some (.slice g)→∀d,P.underlying R=some d→(d=.string∨∃e,d=.slice e)→Qe P (zbd P g s x) (λG=>do pure (.value (←Builtin.append_ #[st,R] Q #[G s,G x]))):=by
   intro g hu d hd V;unfold zbd;split
   ·rename_i i gF hi L;split
    ·rename_i hc;obtain⟨j,z⟩:=hc;refine ky λw0 C gG w G a b M ha hb=>?_
     split
     ·rename_i n l ht;split
      ·rename_i hn;have A:n≤1048576:=Ki hn;obtain⟨vs,h1,h2,h3,h4,h5⟩:=zm2 (P:=P) M hb ht;have gD:vs.length=n*i.size:=by have:=h1.length;omega
       refine zpu M hu hi j z L ha (news:=vs.toArray) ⟨d,hd,.inl ⟨V,h4,λw' hw=>?_⟩⟩ A (by simpa using h1) h2 h3;rw[h5 n (J8 _) w' hw,Kk J]
      ·exact trivial
     ·exact trivial
    ·exact Qr P _
   ·exact Qr P _
  split
  ·rename_i g k hu I;unfold zmo;split
   ·rename_i i gF hi L;split
    ·rename_i hc;obtain⟨j,z⟩:=hc;refine ky λw0 C gG w G a b M ha hb=>?_
     split
     ·rename_i n;split
      ·rename_i hn;have A:n≤1048576:=Ki hn;obtain⟨O,gH,X,Y,K,Z⟩:=zfw L;rw[hi]at K;cases K;obtain⟨k1,k2⟩:=jp (C:=C) Y;have gg:O.cells.size=i.size:=by have:=k1.length;simp at this;omega
       have B:VRs C (Wb gF n) (Builtin.zeroCells O.cells n).toList:=by
        unfold Builtin.zeroCells;rw[zck];exact z4o k1 n
       generalize G x=px at hb;cases hb;exact zpu M hu hi j z L ha (news:=Builtin.zeroCells O.cells n) ⟨_,I,.inr ⟨⟨_,rfl⟩,rfl,A,j,O,X,⟨i,hi,z⟩,rfl,gg⟩⟩ A B (z4q k2 n) (by rw[z65,Z])
      ·exact trivial
     ·exact trivial
    ·exact Qr P _
   ·exact Qr P _
  ·rename_i g e hu I;exact H g hu _ I (.inr ⟨e,rfl⟩)
  ·rename_i g hu I;exact H g hu _ I (.inl rfl)
  ·exact Qr P _
 ·exact Qr P _
def zw7(P:Program)(Q:Array TypeId)(g:Array Operand)(R:TypeId):Qe P (Y9 P Q g) (λD=>do pure (.value (←Builtin.copy_ Q R (g.map D)))):=by
 unfold Y9;split
 ·rename_i st xt s x F z;have G:=jm F;have A:=jm z;subst G A;refine Qe.congr (nx:=λD=>do pure (.value (←Builtin.copy_ #[st,xt] R #[D s,D x]))) (λD=>N) ?_;split
  ·rename_i T hu;split
   ·exact Qr P _
   ·rename_i j H;split
    ·rename_i U;refine ky λw0 gD gG w D a b E ha hb=>?_
     split
     ·rename_i n l ht;obtain⟨V,X,h2,h3,I,K⟩:=zm2 (P:=P) E hb ht;have gg:V.length=n*j:=by have:=X.length;omega
      split
      ·generalize D s=Y at ha;cases ha;refine Sf E (x:=.int .i64 0) (.int _ _) ?_;have B:=K 0 (Nh _) w rfl;have L:Nat.min n 0=0:=Nat.min_zero n;unfold Builtin.copy_;simp only[Lz,Ks,Km,Sem.run_bind,Qw hu,Result.andThen_ok,I,Ve H,L,B,Sem.run_pure];rfl
      ·generalize D s=Y at ha;cases ha with
       | @emp ad cap =>
        refine Sf E (x:=.int .i64 0) (.int _ _) ?_;have B:=K 0 (Nh _) w rfl;have L:Nat.min n 0=0:=Nat.min_zero n;unfold Builtin.copy_;simp only[Lz,Ks,Km,Sem.run_bind,Qw hu,Result.andThen_ok,I,Ve H,L,B,Sem.run_pure];simp[storeCells,goInt]
      ·rename_i o v i len C Z;split
       ·rename_i he;have M:C=j:=Kd he;subst M;split
        ·rename_i H' hw;generalize D s=Y at ha;cases ha with
         | @sl _ _ _ _ _ _ gF cap hL q1 q2 q3 =>
          have hm:Sx n len=Nat.min n len:=zka n len;have B:=K (Nat.min n len) (Nat.min_le_left _ _) w rfl;obtain⟨w',r1,r2⟩:=E.write P hw hL (X.take _) (λa ha=>h2 a (Oh ha));rw[hm]at r1 ⊢;refine⟨gD,w',.int .i64 (Int.ofNat (Nat.min n len)),CM.le_refl gD,r2,.int _ _,.inl ?_⟩;unfold Builtin.copy_;have O:(storeCells ⟨gF.b,gF.d+i,none⟩ (V.take (Nat.min n len*C))).run P w=.ok () w':=r1;simp only[Lz,Ks,Km,Sem.run_bind,Qw hu,Result.andThen_ok,I,Ve H,B,Sem.run_pure,O];rfl
        ·exact trivial
       ·exact trivial
      ·exact trivial
     ·exact trivial
    ·exact Qr P _
  ·exact Qr P _
 ·exact Qr P _
def zsd(B:Program)(T:Array TypeId)(g:Array Operand)(U:TypeId):Qe B (zrc B T g) (λD=>do pure (.value (←Builtin.clear_ T U (g.map D)))):=by
 unfold zrc;split
 ·rename_i st x E j;have F:=ie E;have z:=ie j;subst F z;refine Qe.congr (nx:=λD=>do pure (.value (←Builtin.clear_ #[st] U #[D x]))) (λD=>N) ?_;split
  ·rename_i V hu;split
   ·rename_i A gI hs hz;split
    ·rename_i X;refine V1 λw0 Y gK w D a G ha=>?_
     split
     ·generalize D x=Z at ha;cases ha;refine Sf G (x:=.tuple #[]) (.tup .nil) ?_;simp[Builtin.clear_,Qw hu]
     ·generalize D x=Z at ha;cases ha with
      | @emp ad cap =>
       refine Sf G (x:=.tuple #[]) (.tup .nil) ?_;simp[Builtin.clear_,Qw hu]
     ·rename_i o v i len H gg;split
      ·rename_i he;have I:H=A:=Kd he;subst I;split
       ·rename_i H' hw;generalize D x=Z at ha;cases ha with
        | @sl _ _ _ _ _ _ gH cap hL q1 q2 q3 =>
         obtain⟨K,gL,L,M,gF,gG⟩:=zfw hz;obtain⟨k1,k2⟩:=jp (C:=Y) M;obtain⟨O,P,r2⟩:=G.write B hw hL (z4o k1 len) (z4q k2 len);by_cases Q:len=0
         ·subst Q;have:O=w:=by
           have:(storeCells ⟨gH.b,gH.d+i,none⟩ (V7 K.cells.toList 0)).run B w=.ok () w:=rfl;rw[this]at P;cases P;rfl
          subst this;exact⟨Y,O,.tuple #[],CM.le_refl Y,r2,.tup .nil,.inl (by simp[Builtin.clear_,Qw hu])⟩
         ·refine⟨Y,O,.tuple #[],CM.le_refl Y,r2,.tup .nil,.inl ?_⟩;unfold Builtin.clear_;have R:(Builtin.zeroCells K.cells len).toList=V7 K.cells.toList len:=by unfold Builtin.zeroCells;exact zck _ _
          obtain⟨gD,rfl⟩:∃k,len=k+1:=⟨len-1,J⟩;simp only[Lz,Ks,Sem.run_bind,Qw hu,Result.andThen_ok,L,Sem.run_pure,R,P]
       ·exact trivial
      ·exact trivial
     ·exact trivial
    ·exact Qr B _
   ·exact Qr B _
  ·exact Qr B _
 ·exact Qr B _
def zxj(H:Program)(t I:TypeId)(x:Operand):Qe H (Ya H t x) (λj=>do pure (.value (←Builtin.len_ #[t] I #[j x]))):=by
 unfold Ya;split
 ·rename_i hu;refine V1 λD K L w j a g ha=>?_
  split
  ·generalize j x=z at ha;cases ha with
   | @str _ _ s M O =>
    subst M O;exact Sf g (x:=.int .i64 (Int.ofNat s.size)) (.int _ _) Bo
  ·exact trivial
 ·rename_i e hu;refine V1 λD K L w j a g ha=>?_
  split
  ·rename_i o v i len P E;generalize j x=z at ha;cases ha with
   |sl=>exact Sf g (x:=.int .i64 (Int.ofNat len)) (.int _ _) Bo
  ·generalize j x=z at ha;cases ha;exact Sf g (x:=.int .i64 0) (.int _ _) Bo
  ·generalize j x=z at ha;cases ha;exact Sf g (x:=.int .i64 0) (.int _ _) Bo
  ·exact trivial
 ·rename_i k e hu;refine V1 λD K L w j a g ha=>?_
  split
  ·generalize j x=z at ha;cases ha;exact Sf g (x:=.int .i64 0) (.int _ _) Bo
  ·rename_i o;split
   ·rename_i F Q R;generalize j x=z at ha;cases ha with
    | @map _ V G =>
     obtain⟨_,A,T,U⟩:=g.obj o _ (g.fresh _ _ _ G) R _ G;have B:F.length=A.size:=by have:=U.length;simpa using this
     have C:(getObj V.b).run H w=.ok (.map A Q) w:=by simp[getObj,Sem.run,T]
     exact Sf g (x:=.int .i64 (Int.ofNat F.length)) (.int _ _) (by simp[Builtin.len_,Qw hu,C,goInt,B])
   ·exact trivial
  ·exact trivial
 ·rename_i n e hu;refine V1 λD K L w j a g ha=>?_
  exact Sf g (x:=.int .i64 (Int.ofNat n)) (.int _ _) Bo
 ·exact Qr H _
def zyl(z:Program)(t A:TypeId)(x:Operand):Qe z (Zy z t x) (λj=>do pure (.value (←Builtin.cap_ #[t] A #[j x]))):=by
 unfold Zy;split
 ·rename_i e hu;refine V1 λE F G w j a g ha=>?_
  split
  ·generalize j x=B at ha;cases ha;exact Sf g (x:=.int .i64 0) (.int _ _) (by simp[Builtin.cap_,Qw hu,goInt])
  ·rename_i r;generalize j x=B at ha;cases ha with
   |sl _ _ _ _ C =>
    obtain⟨D,_⟩:=C r rfl;subst D;exact Sf g (.int .i64 _) (by simp[Builtin.cap_,Qw hu,goInt])
  ·exact trivial
 ·exact Qr z _
def iu{P:Program}{w:World}{a b r:AV}(h:Z0 M a b=some r){u v:Value}(hu:VR O a u)(hv:VR O b v) :
  ∃j,(if M then Builtin.max2 u v else Builtin.min2 u v).run P w=.ok j w∧VR O r j:=by
 unfold Z0 at h;split at h
 ·rename_i k x z y;split at h
  ·rename_i hk;have:=z81 hk;subst this;cases hu;cases hv;split at h
   ·split at h
    ·rename_i g;rw[z7o]at g;cases h;refine⟨.int k y,?_,.int _ _⟩;have:y>x:=Be
     simp[Builtin.max2,this]
    ·rename_i g;rw[z7o]at g;cases h;refine⟨.int k x,?_,.int _ _⟩;have:¬y>x:=Be
     simp[Builtin.max2,this]
   ·split at h
    ·rename_i g;rw[z7o]at g;cases h;refine⟨.int k y,?_,.int _ _⟩;have:y<x:=Be
     simp[Builtin.min2,this]
    ·rename_i g;rw[z7o]at g;cases h;refine⟨.int k x,?_,.int _ _⟩;have:¬y<x:=Be
     simp[Builtin.min2,this]
  ·cases h
 ·cases h
def zh1{P:Program}{w:World}{B:CM}{g:Bool}:∀{l:List AV} {a r:AV},lu g a l=some r→∀{u:Value} {j:List Value},VR B a u→VRs B l j →
  ∃A,(j.foldlM (if g then Builtin.max2 else Builtin.min2) u).run P w=.ok A w∧VR B r A
 |[],a,r,h,u,[],hu,.nil=>by cases h;exact⟨u,N,hu⟩
 |b::l,a,r,h,u,v::j,hu,.cons e C=>by
  unfold lu at h;split at h
  ·rename_i c hc;obtain⟨A,D,E⟩:=iu (P:=P) (w:=w) hc hu e;obtain⟨F,G,H⟩:=zh1 (P:=P) (w:=w) h E C;refine⟨F,?_,H⟩;have z:((if g then Builtin.max2 else Builtin.min2) u v).run P w=.ok A w:=by cases g<;>simpa using D
   simp only[List.foldlM_cons,Sem.run_bind,z,Result.andThen_ok,G]
  ·cases h
def zoe(P:Program)(A:Bool)(g:Array Operand)(C:Array TypeId)(D:TypeId) :
  Qe P (W8 A g.toList) (λB=>do pure (.value (←if A then Builtin.max_ C D (g.map B) else Builtin.min_ C D (g.map B)))):=by
 intro M T U w O B E F;unfold W8;dsimp only;cases G:(opds g.toList).run O with
 |none=>exact trivial
 |some H =>
  cases H with
  |nil=>exact trivial
  |cons a l =>
   cases a with
   |int k n =>
    refine zc7 E λr I=>?_
    have hv:=z7t F G;have j:(g.map B).toList=g.toList.map B:=Md ..;generalize Q:g.toList.map B=V at hv j;cases hv with
    |cons e K =>
     obtain⟨R,z,L⟩:=zh1 (P:=P) (w:=w) I e K;refine⟨R,?_,L⟩;cases A
     ·simp only[My,M7,Builtin.min_,j]at z ⊢;simp only[Sem.run_bind,z,Result.andThen_ok,Sem.run_pure]
     ·simp only[Lj,Builtin.max_,j]at z ⊢;simp only[Sem.run_bind,z,Result.andThen_ok,Sem.run_pure]
   |_=>exact trivial
def zgo{E:CM}{d:TypeDesc}{k:AV}{u:Value}(hu:VR E k u):∀{D j:List (AV×AV×Nat)} {g:List MapEntry} (i:Nat),zj4 d k D=some j→MR E D g →
  (Instr.findNow d u g i=some none∧MR E j g)∨(∃A y,Instr.findNow d u g i=some (some (A+i,y))∧A<g.length∧MR E j (g.eraseIdx A))
 |[],j,[],i,h,.nil=>by cases h;exact .inl ⟨rfl,.nil⟩
 |(H,I,b)::l,j,e::r,i,h,.cons hk hv hb hm=>by
  unfold zj4 at h;split at h
  ·rename_i z;cases h;exact .inr ⟨0,e.val,by simp[Instr.findNow,(z6n z hu hk).1],N,Gw⟩
  ·rename_i z;split at h
   ·rename_i K F;cases h;rcases zgo hu (i+1) F hm with ⟨B,C⟩|⟨A,y,B,C,G⟩
    ·exact .inl ⟨by simpa [Instr.findNow,(z6n z hu hk).1] using B,.cons hk hv hb C⟩
    ·refine .inr ⟨A+1,y,?_,Cp,.cons hk hv hb G⟩;rw[show A+1+i=A+(i+1) from J];simpa [Instr.findNow,(z6n z hu hk).1] using B
   ·cases h
  ·cases h
def zq9(K:Program)(T:Array TypeId)(z:Array Operand)(U:TypeId):Qe K (zhy K T z) (λL=>do pure (.value (←Builtin.delete_ T U (z.map L)))):=by
 unfold zhy;split
 ·rename_i st xt s x M C;have O:=jm M;have D:=jm C;subst O D;refine Qe.congr (nx:=λL=>do pure (.value (←Builtin.delete_ #[st,xt] U #[L s,L x]))) (λL=>N) ?_;split
  ·rename_i gg e hu;split
   ·rename_i d hd;obtain⟨F,_⟩:=zez hd;refine ky λw0 Y gF w L a b G ha hb=>?_
    split
    ·rename_i o;split
     ·rename_i es P hg;split
      ·rename_i gD hs;generalize L s=ps at ha;cases ha with
       | @map _ V E =>
        obtain⟨I,g,X,q2⟩:=G.obj o _ (G.fresh _ _ _ E) hg _ E;have H:=G.lt _ _ _ E;have A:(getObj V.b).run K w=.ok (.map g P) w:=by simp[getObj,Sem.run,X]
        have B:∀y,(setObj V.b y).run K w=.ok () { w with heap:=w.heap.setIfInBounds V.b y }:=by intro y;simp[setObj,Sem.run,X]
        rcases zgo hb 0 hs q2 with ⟨Q,R⟩|⟨Z,y,Q,R,p3⟩
        ·refine⟨Y,{ w with heap:=w.heap.setIfInBounds V.b (.map g P) },.tuple #[],CM.le_refl Y,G.putObj E I _ _ ?_ (λ_ _ _ _ e=>Ar),.tup .nil,.inl ?_⟩
         ·intro L' j;rw[E]at j;cases j;exact⟨I,_,putObj_heap_same w _ H,R⟩
         ·unfold Builtin.delete_;simp only[Lz,Ks,Km,Sem.run_bind,Qw hu,Result.andThen_ok,A,z34 hd,z3v F Q,B,Sem.run_pure]
        ·refine⟨Y,{ w with heap:=w.heap.setIfInBounds V.b (.map (g.eraseIdxIfInBounds Z) P) },.tuple #[],CM.le_refl Y,G.putObj E I _ _ ?_ (λ_ _ _ _ e=>Ar),.tup .nil,.inl ?_⟩
         ·intro L' j;rw[E]at j;cases j;refine⟨I,_,putObj_heap_same w _ H,?_⟩;have hj:Z<g.size:=Dl
          have:(g.eraseIdxIfInBounds Z).toList=g.toList.eraseIdx Z:=by
           simp[Array.eraseIdxIfInBounds,hj]
          rw[this];exact p3
         ·unfold Builtin.delete_;simp only[Lz,Ks,Km,Sem.run_bind,Qw hu,Result.andThen_ok,A,z34 hd,z3v F Q,M6,B,Sem.run_pure]
      ·exact trivial
     ·exact trivial
    ·exact trivial
   ·exact Qr K _
  ·exact Qr K _
 ·exact Qr K _
end
section
open Go.RowKit (Below)
def zc4{w:World}{f:Nat}(h:z7j C f=true)(args:Array Value):(callFunc f args).run C w=.ok (.enter f args) w:=by
 unfold z7j at h;cases g:C.funcs[f]? with
 |none=>rw[g]at h;cases h
 |some fn =>
  rw[g]at h;simp only[J2,bne_iff_ne,ne_eq]at h;obtain⟨A,z⟩:=h;have j:fn.body≠none:=by intro e;rw[e]at z;cases z
  simp[callFunc,g,A,j]
def zzr{w:World}{gv:Value}(E:VR O G gv){vs:Array Value}(hv:VRs O V vs.toList){F:Sem Next}
  (g:∀fn first cap,gv=.func fn first cap→F.run C w=(invoke (.fn fn cap) (first++vs)).run C w):Tz C K O w F (zd5 C G V):=by
 unfold zd5;split
 ·rename_i f first cap
  split
  ·rename_i hc;cases E with
   | @fn _ I _ _ j z A B H =>
    cases A with
    |same =>
     refine⟨j.toList++vs.toList++z.toList,(B.append hv).append H,.inl ⟨f,rfl,?_⟩⟩;rw[g _ _ _ rfl];have:(j++vs++z)=(j.toList++vs.toList++z.toList).toArray:=N
     rw[←this];exact zc4 hc _
  ·exact trivial
 ·rename_i l cap;cases E with
  | @fn _ I _ _ j z A B H =>
   cases A with
   |same _ h=>exact absurd rfl (h l)
   | @yield _ M L =>
    have D:j=#[]:=by
     have:=B.length;exact Mz (by simpa using this.symm)
    subst D;refine⟨vs.toList,hv,.inr ⟨l,M,rfl,L,?_⟩⟩;rw[g _ _ _ rfl];simp[invoke]
 ·exact trivial
theorem zvx {fn : Func} (g : fn.name = "maps.clone") (j : fn.origin = "") : Extern.findNext fn = none ∧ Extern.find fn = some Extern.MapsClone.clone := by
 have z : Extern.allNextRows.lookup "maps.clone" = none := Aa
 have A : Extern.allNextRows.lookup "" = none := Aa
 have B : Extern.allGenericRows.lookup "maps.clone" = none := Aa
 have C : Extern.allTypedRows.lookup "maps.clone" = none := Aa
 have D : Extern.allRows.lookup "maps.clone" = some Extern.MapsClone.clone := Aa
 refine⟨?_,?_⟩
 ·unfold Extern.findNext;dsimp only;rw[g,j,z,A];rfl
 ·unfold Extern.find;dsimp only;rw[g,B,C,D];rfl
def zxp{P:Program}{w:World}{r:Nat}{z:Array MapEntry}(t:TypeId)(hb:w.heap[r]?=some (.map z g)) :
  (Extern.MapsClone.clone #[.iface t (.map (some r))]).run P w=.ok (.iface t (.map (some w.heap.size))) (w.alloc (.map z g)):=by
 have e:Extern.MapsClone.clone #[.iface t (.map (some r))]=(getObj r >>= λo=>match o with
   |.map j g=>(_root_.Go.newObj (.map j g) >>= λn=>pure (.iface t (.map (some n))))
   | _ => stuck "maps.clone: a map expected") := rfl
 rw[e];simp[MapKept.run_getObj_map hb,Result.andThen,go_sem]
def td{P:Program}{w:World}(g:Rel K O F w){f:Nat}(j:zg6 P f=true){vs:Array Value}(hv:VRs O V vs.toList) :
  Tz P K O w (callFunc f vs) (ztp F V):=by
 unfold zg6 at j;split at j
 ·rename_i fn D;simp only[J2,Oa]at j;obtain⟨⟨H,M⟩,Q⟩:=j;obtain⟨R,T⟩:=zvx H M;have z:=run_callFunc_extern (P:=P) D (by rw[H];decide) Q R T vs w;unfold ztp;split
  ·rename_i t o;split
   ·rename_i U I X
    ·generalize E:vs.toList=l at hv;cases hv with
     |cons G Y =>
      cases Y;cases G with
      |iface G =>
       cases G with
       | @map _ gg L =>
        have A:vs=#[.iface t (.map (some gg.b))]:=Od.1 E;obtain⟨q1,B,Z,q3⟩:=g.obj _ _ (g.fresh _ _ _ L) X gg L;obtain⟨p1,p2⟩:=g.push (.map U I) (.map B I) 0 0 (λL' C=>by
         rw[CM.ext_same]at C;cases C;exact⟨g.low.size,B,wt _ _,q3.mono (CM.le_ext _ (g.next_none 0) (.inr (Ni g.nx)))⟩)
        refine⟨_,_,.iface t (.map (some w.heap.size)),p2,p1,.iface (.map (CM.ext_same _ _ _ _)),.inl ?_⟩;rw[z,A,zxp t Z];rfl
   ·exact trivial
  ·exact trivial
 ·cases j
def zp8{w:World}{t:TypeId}{g:String}{f:Nat}(h:zij C t g=some f)(v:Value):(method (C.types.size+Made.depth) t v g).run C w=.ok (f,v) w:=by
 unfold zij at h;have hd:C.types.size+Made.depth=(C.types.size+99)+1:=rfl;rw[hd];cases hi:C.info? t with
 |none=>rw[hi]at h;cases h
 |some i =>
  rw[hi]at h;dsimp only at h;cases hm:i.methods.find? (·.name==g) with
  |none=>rw[hm]at h;cases h
  |some m =>
   rw[hm]at h;dsimp only at h;split at h
   ·rename_i B;have j:m.path=#[]:=Array.isEmpty_iff.1 B;unfold method;simp only[Sem.run_bind,z6b hi,Result.andThen_ok,hm,j,follow,Sem.run_pure];split at h
    ·rename_i D e z hu;cases h;simp only[z,Sem.run_bind,receiverAt,Qw hu,Result.andThen_ok,Place.get,Sem.run_pure]
    ·cases h
    ·rename_i D d A z hu;cases h;simp only[z,Sem.run_bind,receiverAt,Qw hu,Result.andThen_ok];cases d<;>first|rfl|exact absurd hu (A _)
    ·cases h
   ·cases h
def zwy(z:Program)(c:Call)(o:Oper)(ho:o.op=.call c):Qe z (xm z c) (λj=>execOp j o):=by
 have F:∀j,execOp j o=(do let d ←resolve j c o.type;invoke d.target d.args):=λj=>Ai
 refine Qe.congr (λj=>(F j).symm) ?_;unfold xm;split
 ·rename_i b hb;have G:∀j,(do let d ←resolve j c o.type;invoke d.target d.args:Sem Next)=builtin b c.argTypes o.type (c.args.map fun | .const _=>true|_=>false) (c.args.map j):=by
   intro j;simp only[resolve,hb];rfl
  refine Qe.congr (λj=>(G j).symm) ?_;split
  ·split
   ·rename_i t x H I;have K:=ie H;have L:=ie I;exact Qe.congr (λj=>by rw[K,L];simp[builtin]) (zxj z t o.type x)
   ·exact Qr z _
  ·split
   ·rename_i t x H I;have K:=ie H;have L:=ie I;exact Qe.congr (λj=>by rw[K,L];simp[builtin]) (zyl z t o.type x)
   ·exact Qr z _
  ·exact Qe.congr (λj=>Dt) (zoe z true c.args c.argTypes o.type)
  ·exact Qe.congr (λj=>Dt) (zoe z false c.args c.argTypes o.type)
  ·exact Qe.congr (λj=>Dt) (zok z c.argTypes c.args o.type)
  ·exact Qe.congr (λj=>Dt) (zw7 z c.argTypes c.args o.type)
  ·exact Qe.congr (λj=>Dt) (zsd z c.argTypes c.args o.type)
  ·exact Qe.congr (λj=>Dt) (zq9 z c.argTypes c.args o.type)
  ·exact Qr z _
 ·rename_i f X;intro Y gF gG w gH j Z A;dsimp only;split
  ·rename_i gI hg;split
   ·rename_i l E;have B:Tz z Y gF w (do let d ←resolve j c o.type;invoke d.target d.args) (zd5 z gI l):=by
     refine zzr (A _ _ hg) (vs:=c.args.map j) (by rw[Md];exact z7t A E) (λfn first cap hv=>?_);simp only[resolve,X,hv,Deferred.ofValue,Sem.run_bind,Sem.run_pure,Result.andThen_ok]
    unfold zjy;split
    ·rename_i f';split
     ·rename_i M;have hk:=td Z M (vs:=c.args.map j) (by rw[Md];exact z7t A E);have hv:=A _ _ hg;generalize O:j f=gv at hv;cases hv with
      | @fn _ g' _ _ l' r' P Q R =>
       cases P with
       |same =>
        have T:l'=#[]:=Mz (by simpa using Q.length.symm);have U:r'=#[]:=Mz (by simpa using R.length.symm);subst T U;have C:(do let d ←resolve j c o.type;invoke d.target d.args:Sem Next).run z w=(callFunc f' (c.args.map j)).run z w:=by
         simp only[resolve,X,O,Deferred.ofValue,Sem.run_bind,Sem.run_pure,Result.andThen_ok,invoke];simp
        unfold Tz at hk ⊢;split at hk
        ·exact trivial
        ·obtain⟨C',w',x,a1,a2,a3,a4⟩:=hk;exact⟨C',w',x,a1,a2,a3,by rw[C];exact a4⟩
        ·rename_i t gg g;unfold ztp at g;split at g
         ·split at g<;>cases g
         ·cases g
     ·exact B
    ·exact B
   ·exact trivial
  ·exact trivial
 ·rename_i r gD hr;intro Y gF gG w gH j Z A;dsimp only;split
  ·rename_i t v hv;split
   ·rename_i f hm;split
    ·rename_i l E;split
     ·rename_i hc;have D:=A _ _ hv;generalize V:j r=pv at D;cases D with
      | @iface _ _ u hu =>
       refine⟨u::c.args.toList.map j,.cons hu (z7t A E),.inl ⟨f,rfl,?_⟩⟩;have T:(#[Value.iface t u]++c.args.map j)[0]?=some (Value.iface t u):=by rw[Nd N];rfl
       have U:(#[Value.iface t u]++c.args.map j).extract 1 (#[Value.iface t u]++c.args.map j).size=c.args.map j:=N
       have e3:(#[u]++c.args.map j)=(u::c.args.toList.map j).toArray:=N
       simp only[resolve,hr,V,Sem.run_bind,Sem.run_pure,Result.andThen_ok,invoke,T,U,callMethod,run_program,zp8 hm u,e3];exact zc4 hc _
     ·exact trivial
    ·exact trivial
   ·exact trivial
  ·exact trivial
def xo(P:Program)(o:Oper):Qe P (Qq P o.op) (λg=>execOp g o):=by
 generalize ho:o.op=op;cases op with
 |move x=>exact Qe.congr (λg=>Ai) (zli P x)
 |assign x=>exact Qe.congr (λg=>Ai) (zli P x)
 |pick c a b=>exact Qe.congr (λg=>Ai) (zx0 P c a b)
 |alloc t=>exact Qe.congr (λg=>by simp only[execOp,ho]) (zrk P t)
 |box t x=>exact Qe.congr (λg=>Ai) (iz P t x)
 |build t j=>exact Qe.congr (λg=>Ai) (zsn P t j)
 |buildSlice t n j=>exact Qe.congr (λg=>Ai) (zhf P t n j)
 |load t a=>exact Qe.congr (λg=>Ai) (zwd P t a)
 |store t a x=>exact Qe.congr (λg=>Ai) (ztd P t a x)
 |nilCheck x=>exact zl3 P x o ho
 |binOp op t x y z=>exact zyv P op t z x y o ho
 |unOp op t x=>exact yk P op t x o ho
 |convert s d x=>exact Qe.congr (λg=>Ai) (zwu P s d x)
 |makeInterface t x=>exact Qe.congr (λg=>Ai) (znm P t x)
 |makeFunc f a b =>
  cases f with
  |yield l=>exact Qr P _
  |_=>exact Qe.congr (λg=>Ai) (zq1 P _ a b (λl e=>Ar))
 |makeMap t r=>exact Qe.congr (λg=>Ai) (ztc P t r)
 |makeSlice t l c=>exact Qe.congr (λg=>Ai) (zmy P t l c)
 |slice t x a b c=>exact Qe.congr (λg=>Ai) (zrp P t x a b c)
 |fieldAddr t x f=>exact Qe.congr (λg=>Ai) (zia P t x f)
 |field t x f=>exact Qe.congr (λg=>Ai) (zsj P t x f)
 |indexAddr t x i=>exact Qe.congr (λg=>Ai) (zj8 P t x i)
 |index t x i=>exact Qe.congr (λg=>Ai) (zrm P t x i)
 |lookup t x i ok=>exact Qe.congr (λg=>Ai) (zqn P t x i ok)
 |mapUpdate t m k x=>exact Qe.congr (λg=>Ai) (zc8 P t m k x)
 |insert t m k x=>exact Qe.congr (λg=>Ai) (zc8 P t m k x)
 |range t x=>exact Qe.congr (λg=>Ai) (zs1 P t x)
 |next A s=>exact Qe.congr (λg=>Ai) (zxd P A s o.type)
 |typeAssert x t a ok=>exact Qe.congr (λg=>Ai) (zp3 P x t a ok)
 |extract t i=>exact Qe.congr (λg=>Ai) (zml P t i)
 |call c=>exact zwy P c o ho
 |_=>exact Qr P _
end
section
open Go.RowKit (Below)
def zpg(P:Program)(A:World)(F:CM)(w:World)(t:Tgt)(B:List Value)(v:AV)(C:Heap):Prop :=
 match t with
 |.fn f=>∀cs,∃g w' j z,F.le g∧Rel A g C w'∧VR g v j∧Steps P (lone (Frame.enter P f B.toArray .normal) cs w) (lone z cs w')∧z.fn=f∧z.leaving P w' (.returned j)
 |.yield l=>∀E,F l 0=some E→∀c cs,∃g w' j f D a b,F.le g∧Rel A g C w'∧VR g v j∧(Instr.yield E.b B.toArray).run P w=.ok (.round E.b f D a b) w ∧
   Steps P (lone (Frame.round E.b f D a b .normal) (c::cs) w) (lone (c.finish j) cs w')
def nw(P:Program)(c:Ti):Prop :=
 ∀j B C w t g z v A,Rel j B C w→VRs B g z→c t g C=.ok v A→zpg P j B w t z v A
def zzh(P:Program):nw P noO:=λ_ _ _ _ _ _ _ _ _ _ _ h=>Ak
noncomputable def Rs(d:Option Tmp)(a:AV)(E:Tr AV):Tr AV:=match d with
 |none=>E
 |some d=>Rf a (Pz d) E
def zc0{n:Nat}{d:Option Tmp}{p:PutF}(h:Tq n d=some p):(∀a E,p.run a E=Rs d a E)∧∀t,d=some t→t<n:=by
 unfold Tq at h;split at h
 ·cases h;exact⟨λ_ _=>rfl,λt e=>Ar⟩
 ·split at h
  ·rename_i hd;cases h;exact⟨λ_ _=>rfl,λt e=>by cases e;exact hd⟩
  ·cases h
def ER.put{n:Nat}{gD:CM}{E:Tr AV}{a:Act}(h:ER n gD E a.tmps){d:Option Tmp}(hd:∀t,d=some t→t<n){C:AV}{x:Value}(hv:VR gD C x):ER n gD (Rs d C E) (a.put d x).tmps:=by
 obtain⟨h1,h2,h3⟩:=h;cases d with
 |none=>exact⟨h1,h2,h3⟩
 |some d =>
  have gg:(d:Nat)<n:=hd d rfl;refine⟨by show (a.tmps.setIfInBounds d x).size=n;simpa using h1,h2,λt ht=>?_⟩;show OVR gD (Pg (Pz t) (Rf C (Pz d) E)) ((a.tmps.setIfInBounds d x).getD t undef);rw[zjm];by_cases e:t=d
  ·subst e;rw[J6 rfl];have:(a.tmps.setIfInBounds t x).getD t undef=x:=by
    rw[K7,Array.getElem?_setIfInBounds_self_of_lt (show t<a.tmps.size by rw[h1];exact gg)];rfl
   rw[this];exact hv
  ·rw[J1 e];have:(a.tmps.setIfInBounds d x).getD t undef=a.tmps.getD t undef:=by
    rw[K7,Array.getElem?_setIfInBounds_ne (λq=>e q.symm),←K7]
   rw[this];exact h3 t ht
def zkn{n:Nat}{E:Tr AV}(h:ER n O E vH)(ops:Array Oper)(o:Oper):(Vh ops o).run E=Region.wanted o (yielded ops vH):=by
 obtain⟨H,I,K⟩:=h;unfold Vh Region.wanted;cases M:o.guard with
 |none=>rfl
 |some L =>
  obtain⟨Q,A⟩:=L;dsimp only;unfold yielded;cases hd:(ops[Q]?).bind (·.dst) with
  |none=>rfl
  |some d =>
   dsimp only[Option.bind];split
   ·rename_i j;dsimp only;have g:=K d j;by_cases B:d<vH.size
    ·have z:vH[d]?=some vH[d]:=Ma B;have D:vH.getD d undef=vH[d]:=by rw[K7,z];rfl
     rw[D]at g;rw[z];generalize vH[d]=v at g;cases C:Pg (Pz d) E with
     |none =>
      rw[C]at g;have:v=undef:=g;subst this;rfl
     |some F =>
      rw[C]at g;have G:VR O F v:=g;cases G with
      |bool b=>cases b<;>cases A<;>rfl
      |_=>rfl
    ·have z:vH[d]?=none:=N7 (Nat.le_of_not_lt B);have D:vH.getD d undef=undef:=by rw[K7,z];rfl
     rw[D]at g;rw[z];cases C:Pg (Pz d) E with
     |none=>rfl
     |some F =>
      rw[C]at g;have G:VR O F undef:=g;cases G;rfl
   ·rename_i j;have z:vH[d]?=none:=N7 (by rw[H];exact K8 I (Oq (Nat.lt_of_not_le j)));rw[z];rfl
section steps
variable {P : Program} {b : Frame} {a : Act} {k : List Item} {cs : List Frame} {w w' : World} {ops : Array Oper}
def zuh{i:Nat}{rest:List Nat}{o:Oper}(ho:ops[i]?=some o)(v:Value):(b.atR a (.inRegion ops (i::rest)::k)).finish v=b.atR (a.put o.dst v) (.inRegion ops rest::k):=by
 rw[Frame.finish_atR,ho];rfl
def zuu{i:Nat}{rest:List Nat}{o:Oper}{x:Value}(ho:ops[i]?=some o)(hw:Region.wanted o (yielded ops a.tmps)=true)(hd:∀c,o.op≠.defer c)
  (g:(execOp a.eval o).run P w=.ok (.value x) w') :
  step P (lone (b.atR a (.inRegion ops (i::rest)::k)) cs w)=.next (lone (b.atR (a.put o.dst x) (.inRegion ops rest::k)) cs w'):=by
 refine step_lone_go ?_;rw[stepGR_op (b:=b) (k:=k) (cs:=cs) ho hw,Oper.semAt_eq _ _ _ hd,←zuh ho];simp[stepG.apply,Sem.runT_eq,g]
def tr{i:Nat}{rest:List Nat}{o:Oper}(ho:ops[i]?=some o)(hw:Region.wanted o (yielded ops a.tmps)=true)(hd:∀c,o.op≠.defer c)
  (g:(execOp a.eval o).run P w=.ok .skip w') :
  step P (lone (b.atR a (.inRegion ops (i::rest)::k)) cs w)=.next (lone (b.atR (a.put o.dst undef) (.inRegion ops rest::k)) cs w'):=by
 refine step_lone_go ?_;rw[stepGR_op (b:=b) (k:=k) (cs:=cs) ho hw,Oper.semAt_eq _ _ _ hd,←zuh ho];simp[stepG.apply,Sem.runT_eq,g]
def zx4{i:Nat}{rest:List Nat}{o:Oper}{f:Nat}(ho:ops[i]?=some o)(hw:Region.wanted o (yielded ops a.tmps)=true)(hd:∀c,o.op≠.defer c)
  (g:(execOp a.eval o).run P w=.ok (.enter f vH) w') :
  step P (lone (b.atR a (.inRegion ops (i::rest)::k)) cs w)=.next (lone (Frame.enter P f vH .normal) (b.atR a (.inRegion ops (i::rest)::k)::cs) w'):=by
 refine step_lone_go ?_;rw[stepGR_op (b:=b) (k:=k) (cs:=cs) ho hw,Oper.semAt_eq _ _ _ hd];simp[stepG.apply,Sem.runT_eq,g,Frame.atR]
def vu{i:Nat}{rest:List Nat}{o:Oper}{l f:Nat}{x y:Code}(ho:ops[i]?=some o)(hw:Region.wanted o (yielded ops a.tmps)=true)(hd:∀c,o.op≠.defer c)
  (g:(execOp a.eval o).run P w=.ok (.round l f vH x y) w') :
  step P (lone (b.atR a (.inRegion ops (i::rest)::k)) cs w)=.next (lone (Frame.round l f vH x y .normal) (b.atR a (.inRegion ops (i::rest)::k)::cs) w'):=by
 refine step_lone_go ?_;rw[stepGR_op (b:=b) (k:=k) (cs:=cs) ho hw,Oper.semAt_eq _ _ _ hd];simp[stepG.apply,Sem.runT_eq,g]
end steps
def zk6{P:Program}{o:Oper}{E:Tr AV}{H:Heap}(h:(Qq P o.op).run E H≠.no):∀c,o.op≠.defer c:=by
 intro c e;rw[e]at h;exact h rfl
def zk5{P:Program}{c:Ti}(hc:nw P c){n:Nat}{ops:Array Oper}{i:Nat}{o:Oper}(ho:ops[i]?=some o){H:Heap}{w:World}{E:Tr AV}{a:Act}
  (Z:Rel K O H w) (hE:ER n O E a.tmps) (h:(Ts P n ops o).run c E H=.ok Q F) (b:Frame) (rest:List Nat) (k:List Item) (cs:List Frame) :
  ∃C w' x av,O.le C∧Rel K C F w'∧VR C av x∧Q=Rs o.dst av E∧(∀t,o.dst=some t→t<n) ∧
   Steps P (lone (b.atR a (.inRegion ops (i::rest)::k)) cs w) (lone (b.atR (a.put o.dst x) (.inRegion ops rest::k)) cs w'):=by
 unfold Ts at h;cases hp:Tq n o.dst with
 |none=>rw[hp]at h;cases h
 |some p =>
  rw[hp]at h;dsimp only at h;obtain⟨g,z⟩:=zc0 hp;have X:=zkn hE ops o;cases T:(Vh ops o).run E with
  |false =>
   rw[T]at h X;cases h;refine⟨O,w,undef,Um,CM.le_refl O,Z,.tup .nil,g _ _,z,.one ?_⟩;have:=stepR_op_skip (P:=P) (b:=b) (a:=a) (k:=k) (cs:=cs) (w:=w) (ops:=ops) (i:=i) (rest:=rest) (by rw[ho];simpa using X.symm);rw[this,ho];rfl
  |true =>
   rw[T]at h X;dsimp only at h;have hw:Region.wanted o (yielded ops a.tmps)=true:=X.symm;have Y:=xo P o K O H w E a.eval Z (za9 hE);cases U:(Qq P o.op).run E H with
   |no=>rw[U]at h;cases h
   |val v H2 =>
    rw[U]at h Y;cases h;have A:=zk6 (P:=P) (o:=o) (E:=E) (H:=H) (by rw[U];intro e;cases e);obtain⟨C,w',x,L,M,R,D⟩:=Y;rcases D with D|⟨D,rfl⟩
    ·exact⟨C,w',x,v,L,M,R,g _ _,z,.one (zuu ho hw A D)⟩
    ·exact⟨C,w',undef,v,L,M,R,g _ _,z,.one (tr ho hw A D)⟩
   |call t V =>
    rw[U]at h Y;dsimp only at h;have A:=zk6 (P:=P) (o:=o) (E:=E) (H:=H) (by rw[U];intro e;cases e);cases G:c t V H with
    |no=>rw[G]at h;cases h
    |ok v H2 =>
     rw[G]at h;cases h;obtain⟨vs,hv,I⟩:=Y;have B:=hc _ _ _ _ _ _ _ _ _ Z hv G;rcases I with ⟨f,rfl,j⟩|⟨l,gg,rfl,hL,j⟩
     ·obtain⟨C,w',v',fr,L,M,R,D,h5,h6⟩:=B (b.atR a (.inRegion ops (i::rest)::k)::cs);refine⟨C,w',v',v,L,M,R,g _ _,z,.head (zx4 ho hw A j) (Steps.trans D (.one ?_))⟩;rw[step_leave_returned h6,zuh ho]
     ·obtain⟨C,w',v',f,tm,x,y,L,M,R,D,h5⟩:=B gg hL (b.atR a (.inRegion ops (i::rest)::k)) cs;rw[D]at j;refine⟨C,w',v',v,L,M,R,g _ _,z,.head (vu ho hw A j) ?_⟩;rw[←zuh ho];exact h5
def zot{P:Program}{c:Ti}(hc:nw P c){n:Nat}{ops:Array Oper}(b:Frame)(k:List Item)(cs:List Frame):∀(l:List Oper) (i:Nat),ops.toList.drop i=l →
  ∀{j:World} {C:CM} {K z:Heap} {w:World} {L A:Tr AV} {a:Act},Rel j C K w→ER n C L a.tmps→(zd P n ops l).run c L K=.ok A z →
  ∃D w' E,C.le D∧Rel j D z w'∧ER n D A E.tmps∧E.defers=a.defers ∧
   Steps P (lone (b.atR a (.inRegion ops (List.range' i l.length)::k)) cs w) (lone (b.atR E (.inRegion ops []::k)) cs w')
 |[],i,g,j,C,K,z,w,L,A,a,F,B,h=>by
  cases h;exact⟨C,w,a,CM.le_refl C,F,B,rfl,.refl _ _⟩
 |o::l,i,g,j,C,K,z,w,L,A,a,F,B,h=>by
  have hi:i<ops.toList.length:=by
   rcases M5 i ops.toList.length with G|G
   ·exact G
   ·rw[List.drop_eq_nil_of_le G]at g;cases g
  rw[Lt hi]at g;injection g with ho g
  have H:ops[i]?=some o:=by rw[←ho];simp at hi ⊢
  unfold zd at h;dsimp only at h;cases I:(Ts P n ops o).run c L K with
  |no=>rw[I]at h;cases h
  |ok E1 H1 =>
   rw[I]at h;dsimp only at h;obtain⟨C1,w1,x,av,M,O,Q,R,T,U⟩:=zk5 hc H F B I b (List.range' (i+1) l.length) k cs;subst R;obtain⟨V,X,Y,Z,r2,r3,r4,r5⟩:=zot hc b k cs l (i+1) g (a:=a.put o.dst x) O ((B.mono M).put T Q) h;refine⟨V,X,Y,CM.le_trans M Z,r2,r3,?_,?_⟩
   ·rw[r4];cases o.dst<;>rfl
   ·rw[show (o::l).length=l.length+1 from rfl,List.range'_succ];exact Steps.trans U r5
end
section
def Uu(g:List Nat)(E' E:Tr AV):Prop:=∀t∈g,t≤S4→Pg (Pz t) E'=Pg (Pz t) E
def ub{x:Operand}{E E':Tr AV}(h:Uu (zgu [x]) E' E):(P3 x).run E'=(P3 x).run E:=by
 cases x with
 |tmp t =>
  unfold P3;dsimp only;split
  ·rename_i g;dsimp only;rw[h t (by simp[zgu]) (Ki g)]
  ·rfl
 |const v=>unfold P3;dsimp only;split<;>rfl
 |func f=>rfl
 |global j=>rfl
def Uu.opds:∀{l:List Operand} {E E':Tr AV},Uu (zgu l) E' E→∀x∈l,(P3 x).run E'=(P3 x).run E
 |[],_,_,_,x,hx=>by cases hx
 |y::l,E,E',h,x,hx=>by
  rcases Ka.1 hx with rfl|hx
  ·refine ub (λt ht=>h t ?_);cases x<;>simp_all [zgu]
  ·refine Uu.opds (l:=l) (λt ht=>h t ?_) x hx;cases y<;>simp_all [zgu]
section cong
variable {E E' : Tr AV} {H : Heap}
def opds_cong:∀{l:List Operand},(∀x∈l,(P3 x).run E'=(P3 x).run E)→(opds l).run E'=(opds l).run E
 |[],_=>rfl
 |x::l,h=>by
  simp only[opds];rw[h x N,opds_cong (λy g=>h y As)]
def W1{x:Operand}{f:Heap→AV→OR}(h:(P3 x).run E'=(P3 x).run E):(So x f).run E' H=(So x f).run E H:=by
 simp only[So];rw[h]
def kh{x y:Operand}{f:Heap→AV→AV→OR}(h:(P3 x).run E'=(P3 x).run E)(k:(P3 y).run E'=(P3 y).run E):(We x y f).run E' H=(We x y f).run E H:=by
 simp only[We];rw[h,k]
def zjf{x:Option Operand}(h:∀y,x=some y→(P3 y).run E'=(P3 y).run E):(Sy x).run E'=(Sy x).run E:=by
 cases x with
 |none=>rfl
 |some y=>simp only[Sy];rw[h y rfl]
def fillA_cong:∀{g:List Part} {j:List AV},(∀p∈g,p.v.run E'=p.v.run E)→rh j g E'=rh j g E
 |[],_,_=>rfl
 |p::g,j,h=>by
  simp only[rh];rw[h p N];split
  ·rfl
  ·split
   ·rfl
   ·split
    ·split
     ·exact fillA_cong (λq z=>h q Aq)
     ·rfl
    ·rfl
def z8e{g:Nat→Option (Nat×Nat)}:∀{l:List (Nat×Operand)} {z:List Part},z8x g l=some z→(∀x∈l.map (·.2),(P3 x).run E'=(P3 x).run E)→∀p∈z,p.v.run E'=p.v.run E
 |[],z,h,_,p,j=>by cases h;cases j
 |(i,x)::l,z,h,A,p,j=>by
  simp only[z8x]at h;split at h
  ·cases h
  ·split at h
   ·cases h
   ·rename_i r C;cases h;rcases Ka.1 j with rfl|j
    ·exact A x N
    ·exact z8e C (λy B=>A y (by simp at B ⊢;exact .inr B)) p j
end cong
def zw5{c:Call}{E E':Tr AV}{H:Heap}(h:∀x∈c.operands.toList,(P3 x).run E'=(P3 x).run E):(xm C c).run E' H=(xm C c).run E H:=by
 have ha:∀x∈c.args.toList,(P3 x).run E'=(P3 x).run E:=λx j=>h x (by simp[Call.operands]at j ⊢;exact .inr j)
 unfold xm;split
 ·split
  ·split
   ·rename_i q;rw[q]at ha;unfold Ya;split<;>first|rfl|exact W1 (ha _ N)
   ·rfl
  ·split
   ·rename_i q;rw[q]at ha;unfold Zy;split<;>first|rfl|exact W1 (ha _ N)
   ·rfl
  ·simp only[W8];rw[opds_cong ha]
  ·simp only[W8];rw[opds_cong ha]
  ·unfold zil;split
   ·rename_i q;rw[q]at ha;split
    ·unfold zmo;split
     ·split
      ·exact kh (ha _ N) (ha _ N)
      ·rfl
     ·rfl
    ·unfold zbd;split
     ·split
      ·exact kh (ha _ N) (ha _ N)
      ·rfl
     ·rfl
    ·unfold zbd;split
     ·split
      ·exact kh (ha _ N) (ha _ N)
      ·rfl
     ·rfl
    ·rfl
   ·rfl
  ·unfold Y9;split
   ·rename_i q;rw[q]at ha;split
    ·split
     ·rfl
     ·split
      ·exact kh (ha _ N) (ha _ N)
      ·rfl
    ·rfl
   ·rfl
  ·unfold zrc;split
   ·rename_i q;rw[q]at ha;split
    ·split
     ·split
      ·exact W1 (ha _ N)
      ·rfl
     ·rfl
    ·rfl
   ·rfl
  ·unfold zhy;split
   ·rename_i q;rw[q]at ha;split
    ·split
     ·exact kh (ha _ N) (ha _ N)
     ·rfl
    ·rfl
   ·rfl
  ·rfl
 ·rename_i f q;have g:(P3 f).run E'=(P3 f).run E:=h f (by simp[Call.operands,q]);dsimp only;rw[g,opds_cong ha]
 ·rename_i r z q;have g:(P3 r).run E'=(P3 r).run E:=h r (by simp[Call.operands,q]);dsimp only;rw[g,opds_cong ha]
def zih{o:Op}{E E':Tr AV}{H:Heap}(h:∀x∈o.operands.toList,(P3 x).run E'=(P3 x).run E):(Qq C o).run E' H=(Qq C o).run E H:=by
 unfold Qq;split
 ·exact W1 (h _ Ad)
 ·exact W1 (h _ Ad)
 ·rename_i c a b;dsimp only;rw[h c Ad,h a Ad,h b Ad]
 ·split<;>rfl
 ·exact W1 (h _ Ad)
 ·rename_i t g;have z:∀x∈g.toList.map (·.2),(P3 x).run E'=(P3 x).run E:=λx j=>h x Eu
  unfold zj7;split
  ·rfl
  ·split
   ·split
    ·rfl
    ·split
     ·rfl
     ·rename_i q;dsimp only;rw[fillA_cong (z8e q z)]
   ·split
    ·rfl
    ·split
     ·rfl
     ·rename_i q;dsimp only;rw[fillA_cong (z8e q z)]
   ·rfl
 ·rename_i t len g;have z:∀x∈g.toList.map (·.2),(P3 x).run E'=(P3 x).run E:=λx j=>h x Eu
  unfold z3u;split
  ·split
   ·rfl
   ·split
    ·rfl
    ·split
     ·split
      ·rfl
      ·rename_i q;dsimp only;rw[fillA_cong (z8e q z)]
     ·rfl
  ·rfl
 ·unfold zss;split<;>first|rfl|exact W1 (h _ Ad)
 ·unfold zoq;split<;>first|rfl|exact kh (h _ Ad) (h _ Ad)
 ·exact W1 (h _ Ad)
 ·exact kh (h _ Ad) (h _ Ad)
 ·exact W1 (h _ Ad)
 ·unfold Y6;split
  ·exact W1 (h _ Ad)
  ·split<;>first|rfl|exact W1 (h _ Ad)
  ·exact W1 (h _ Ad)
  ·split<;>first|rfl|exact W1 (h _ Ad)
  ·rfl
 ·unfold zas;split<;>first|rfl|exact W1 (h _ Ad)
 ·rename_i f first cap
  split
  ·rfl
  ·simp only[ze1];rw[opds_cong (l:=first.toList) (λx j=>h x (by simp[Op.operands]at j ⊢;exact .inl j)),opds_cong (l:=cap.toList) (λx j=>h x (by simp[Op.operands]at j ⊢;exact .inr j))]
 ·unfold zgf;split
  ·rfl
  ·split<;>first|rfl|exact W1 (h _ Ad)
 ·unfold z8o;split
  ·split
   ·rfl
   ·split
    ·rfl
    ·split
     ·exact kh (h _ Ad) (h _ Ad)
     ·rfl
  ·rfl
 ·rename_i t x F hi G;have A:=h x Ad;have B:(Sy F).run E'=(Sy F).run E:=zjf (λy e=>h y Hi);have D:(Sy hi).run E'=(Sy hi).run E:=zjf (λy e=>h y Hi);have I:(Sy G).run E'=(Sy G).run E:=zjf (λy e=>h y Hi);unfold zeo;split
  ·split
   ·rfl
   ·dsimp only;rw[A,B,D]
  ·split
   ·rfl
   ·split
    ·rfl
    ·dsimp only;rw[A,B,D,I]
  ·split
   ·rfl
   ·split
    ·rfl
    ·dsimp only;rw[A,B,D,I]
  ·rfl
 ·unfold z5z;split
  ·split
   ·rfl
   ·split<;>first|rfl|exact W1 (h _ Ad)
  ·rfl
 ·unfold ziz;split
  ·split
   ·rfl
   ·split<;>first|rfl|exact W1 (h _ Ad)
  ·rfl
 ·unfold z5s;split
  ·split
   ·rfl
   ·exact kh (h _ Ad) (h _ Ad)
  ·split
   ·rfl
   ·exact kh (h _ Ad) (h _ Ad)
  ·rfl
 ·unfold zk1;split
  ·exact kh (h _ Ad) (h _ Ad)
  ·split
   ·exact kh (h _ Ad) (h _ Ad)
   ·rfl
  ·rfl
 ·unfold zds;split
  ·split
   ·exact kh (h _ Ad) (h _ Ad)
   ·rfl
  ·rfl
 ·rename_i t m k x;unfold z5t;split
  ·split
   ·dsimp only;rw[h m Ad,h k Ad,h x Ad]
   ·rfl
  ·rfl
 ·rename_i t m k x;unfold z5t;split
  ·split
   ·dsimp only;rw[h m Ad,h k Ad,h x Ad]
   ·rfl
  ·rfl
 ·unfold rangeF;split<;>first|rfl|exact W1 (h _ Ad)
 ·unfold Zi;split<;>first|rfl|exact W1 (h _ Ad)
 ·unfold ze8;split
  ·rfl
  ·split
   ·rfl
   ·exact W1 (h _ Ad)
  ·rfl
 ·exact W1 (h _ Ad)
 ·exact zw5 (λx j=>h x Eu)
 ·rfl
def z3q{ops:Array Oper}{o:Oper}{E E':Tr AV}(h:Uu (Xo ops o) E' E):(Vh ops o).run E'=(Vh ops o).run E:=by
 unfold Vh;split
 ·rfl
 ·rename_i A j z;split
  ·rfl
  ·rename_i d hd;split
   ·rename_i g;dsimp only;rw[h d (by simp[Xo,z,hd]) g]
   ·rfl
end
inductive QR (H H2:Heap):OR→OR→Prop where
 |no:QR H H2 .no .no
 |val (v:AV):QR H H2 (.val v H) (.val v H2)
def Wi(j:OpF):Prop:=∀z A g,QR A g (j.run z A) (j.run z g)
inductive RR (H:Heap):OR→Prop where
 |no:RR H .no
 |val (v:AV):RR H (.val v H)
def bw(j:OpF):Prop:=∀z g,RR g (j.run z g)
def Wi.reads{F:OpF}(h:Wi F):bw F:=λE H=>by
 have:=h E H H;generalize F.run E H=r at this;cases this with
 |no=>exact .no
 |val v=>exact .val v
def quiet_stuck:Wi Qh:=λ_ _ _=>.no
def reads_stuck:bw Qh:=λ_ _=>.no
def QR.ret1{H H2:Heap}(o:Option AV):QR H H2 (ret1 H o) (Sv.ret1 H2 o):=by cases o<;>constructor
def RR.ret1{H:Heap}(o:Option AV):RR H (Sv.ret1 H o):=by cases o<;>constructor
def ap{x:Operand}{f:Heap→AV→OR}(h:∀a j g,QR j g (f j a) (f g a)):Wi (So x f):=λz j g=>by
 simp only[So];cases (P3 x).run z with
 |none=>exact .no
 |some a=>exact h a j g
def z6l{x y:Operand}{f:Heap→AV→AV→OR}(h:∀a b j g,QR j g (f j a b) (f g a b)):Wi (We x y f):=λz j g=>by
 simp only[We];cases (P3 x).run z with
 |none=>exact .no
 |some a =>
  cases (P3 y).run z with
  |none=>exact .no
  |some b=>exact h a b j g
def z60{x:Operand}{f:Heap→AV→OR}(h:∀a g,RR g (f g a)):bw (So x f):=λj g=>by
 simp only[So];cases (P3 x).run j with
 |none=>exact .no
 |some a=>exact h a g
def zov{x y:Operand}{f:Heap→AV→AV→OR}(h:∀a b g,RR g (f g a b)):bw (We x y f):=λj g=>by
 simp only[We];cases (P3 x).run j with
 |none=>exact .no
 |some a =>
  cases (P3 y).run j with
  |none=>exact .no
  |some b=>exact h a b g
def zs7(z:Program)(t:TypeId)(g:Array (Nat×Operand)):Wi (zj7 z t g):=by
 unfold zj7;split
 ·exact quiet_stuck
 ·split
  ·split
   ·exact quiet_stuck
   ·split
    ·exact quiet_stuck
    ·intro A B j;dsimp only;split
     ·exact .val _
     ·exact .no
  ·split
   ·exact quiet_stuck
   ·split
    ·exact quiet_stuck
    ·intro A B j;dsimp only;split
     ·exact .val _
     ·exact .no
  ·exact quiet_stuck
def zl9(j g:Heap)(a:AV):QR j g (z7x j a) (z7x g a):=by
 unfold z7x;split<;>constructor
def znz(g:Program)(t:TypeId)(x:Operand):Wi (zas g t x):=by
 unfold zas;split
 ·exact quiet_stuck
 ·exact ap λa z j=>.val _
 ·exact quiet_stuck
def zp7(f:Fn)(x y:Array Operand):Wi (ze1 f x y):=λj z g=>by
 simp only[ze1];split
 ·split<;>constructor
 ·exact .no
def zjj(g:Program)(s:TypeId)(x:Operand)(f:Nat):Wi (z5z g s x f):=by
 unfold z5z;split
 ·split
  ·exact quiet_stuck
  ·split
   ·exact quiet_stuck
   ·exact quiet_stuck
   ·exact ap λa z j=>Bu
 ·exact quiet_stuck
def zrz(g:Program)(s:TypeId)(x:Operand)(f:Nat):Wi (ziz g s x f):=by
 unfold ziz;split
 ·split
  ·exact quiet_stuck
  ·split
   ·exact ap λa z j=>by
     split
     ·exact .ret1 _
     ·exact .no
   ·exact quiet_stuck
 ·exact quiet_stuck
def zkb(A:Program)(t:TypeId)(x g:Operand):Wi (z5s A t x g):=by
 unfold z5s;split
 ·split
  ·exact quiet_stuck
  ·refine z6l λa b B j=>?_
   split
   ·rename_i len z _ _ n;cases Nat.blt n len
    ·exact .no
    ·dsimp only;split<;>constructor
   ·exact .no
 ·split
  ·exact quiet_stuck
  ·refine z6l λa b B j=>?_
   split
   ·split<;>constructor
   ·exact .no
 ·exact quiet_stuck
def zru(z:Program)(t:TypeId)(x g:Operand):Wi (zk1 z t x g):=by
 unfold zk1;split
 ·refine z6l λa b A j=>?_
  split
  ·split<;>constructor
  ·exact .no
 ·split
  ·refine z6l λa b A j=>?_
   split
   ·split
    ·exact .ret1 _
    ·exact .no
   ·exact .no
  ·exact quiet_stuck
 ·exact quiet_stuck
def zr3(g:Program)(x:Operand)(t:TypeId)(ok:Bool):Wi (ze8 g x t ok):=by
 unfold ze8;split
 ·exact quiet_stuck
 ·split
  ·exact quiet_stuck
  ·refine ap λa z j=>?_
   split
   ·cases ok<;>constructor
   ·split
    ·constructor
    ·cases ok<;>constructor
   ·exact .no
 ·exact quiet_stuck
def zmm(x:Operand)(i:Nat):Wi (zhr x i):=ap λa j g=>by
 split
 ·exact .ret1 _
 ·exact .no
def zjq{t:TypeId}{x:Operand}{g hi j:Option Operand}(h:zr5 C t=false):Wi (zeo C t x g hi j):=by
 unfold zeo;split
 ·split
  ·exact quiet_stuck
  ·intro A B z;dsimp only;split
   ·split
    ·split<;>constructor
    ·exact .no
   ·exact .no
 ·split
  ·exact quiet_stuck
  ·split
   ·exact quiet_stuck
   ·intro A B z;dsimp only;split
    ·exact .ret1 _
    ·split<;>constructor
    ·split<;>constructor
    ·exact .no
 ·rename_i q;simp[zr5,q]at h
 ·exact quiet_stuck
def zrn(A:Program)(t:TypeId)(x:Operand)(j hi z:Option Operand):bw (zeo A t x j hi z):=by
 cases g:zr5 A t
 ·exact (zjq g).reads
 ·unfold zr5 at g;unfold zeo;split at g
  ·rename_i q;rw[q];dsimp only;split
   ·exact reads_stuck
   ·split
    ·exact reads_stuck
    ·intro B C;dsimp only;split
     ·split
      ·split
       ·split
        ·exact .ret1 _
        ·exact .no
       ·exact .no
      ·exact .no
     ·exact .no
  ·cases g
def zwe{s d:TypeId}{x:Operand}(hd:zqm C d=false)(g:zqm C s=false):Wi (Y6 C s d x):=by
 unfold Y6;split
 ·exact ap λa z j=>Bu
 ·rename_i q _;simp[zqm,q]at g
 ·exact ap λa z j=>Bu
 ·rename_i q;simp[zqm,q]at hd
 ·exact quiet_stuck
def zvt{s d:TypeId}{x:Operand}(hd:zqm C d=false):bw (Y6 C s d x):=by
 unfold Y6;split
 ·exact z60 λa g=>Bu
 ·split
  ·refine z60 λa g=>?_
   split
   ·exact .val _
   ·split
    ·split<;>constructor
    ·exact .no
   ·exact .no
  ·exact reads_stuck
 ·exact z60 λa g=>Bu
 ·rename_i q;simp[zqm,q]at hd
 ·exact reads_stuck
def zwg(g:Program)(t:TypeId)(x:Operand):bw (zss g t x):=by
 unfold zss;split
 ·exact z60 λa j=>by
   split
   ·split<;>constructor
   ·exact .no
 ·exact z60 λa j=>by
   split
   ·split<;>constructor
   ·exact .no
 ·exact reads_stuck
def zob(j:Program)(t:TypeId)(x g:Operand)(ok:Bool):bw (zds j t x g ok):=by
 unfold zds;split
 ·split
  ·refine zov λa b z=>?_
   split
   ·exact .no
   ·split<;>constructor
  ·exact reads_stuck
 ·exact reads_stuck
def zr9{t:TypeId}{x:Operand}(h:zoy C t=false):Wi (Ya C t x):=by
 unfold Ya;split
 ·exact ap λa j g=>Bu
 ·exact ap λa j g=>Bu
 ·rename_i q;simp[zoy,q]at h
 ·exact ap λa j g=>.val _
 ·exact quiet_stuck
def zy5(j:Program)(t:TypeId)(x:Operand):bw (Ya j t x):=by
 cases g:zoy j t
 ·exact (zr9 g).reads
 ·unfold zoy at g;unfold Ya;split at g
  ·rename_i q;rw[q];refine z60 λa z=>?_
   split
   ·exact .val _
   ·split<;>constructor
   ·exact .no
  ·cases g
def zxw(g:Program)(t:TypeId)(x:Operand):Wi (Zy g t x):=by
 unfold Zy;split
 ·exact ap λa z j=>Bu
 ·exact quiet_stuck
def zr4(g:Bool)(l:List Operand):Wi (W8 g l):=λz A j=>by
 simp only[W8];split
 ·exact .ret1 _
 ·exact .no
def zq2{c:Call}:(zgc C c=.quiet→Wi (xm C c))∧(zgc C c=.rd→bw (xm C c)):=by
 unfold zgc xm;split
 ·rename_i q;rw[q];dsimp only;split
  ·rename_i t g;rw[g];split
   ·rename_i hm;exact⟨λh=>Ak,λ_=>by
     split
     ·exact zy5 _ _ _
     ·exact reads_stuck⟩
   ·rename_i hm;refine⟨λ_=>?_,λh=>Ak⟩;split
    ·rename_i e _ ;cases e;exact zr9 Gw
    ·exact quiet_stuck
  ·exact⟨λh=>Ak,λh=>Ak⟩
 ·rename_i q;rw[q];refine⟨λ_=>?_,λh=>Ak⟩;dsimp only;split
  ·exact zxw _ _ _
  ·exact quiet_stuck
 ·rename_i q;rw[q];exact⟨λ_=>zr4 _ _,λh=>Ak⟩
 ·rename_i q;rw[q];exact⟨λ_=>zr4 _ _,λh=>Ak⟩
 ·exact⟨λh=>Ak,λh=>Ak⟩
def zcv{P:Program}{o:Op}:(cls P o=.quiet→Wi (Qq P o))∧(cls P o=.rd→bw (Qq P o)):=by
 unfold cls;split
 ·exact⟨λ_=>ap λa j g=>.val _,λh=>Ak⟩
 ·exact⟨λ_=>ap λa j g=>.val _,λh=>Ak⟩
 ·refine⟨λ_ A j g=>?_,λh=>Ak⟩;simp only[Qq];split
  ·exact .ret1 _
  ·exact .ret1 _
  ·exact .no
 ·exact⟨λ_=>zs7 _ _ _,λh=>Ak⟩
 ·exact⟨λ_=>ap λa j g=>zl9 _ _ _,λh=>Ak⟩
 ·exact⟨λ_=>z6l λa b j g=>.ret1 _,λh=>Ak⟩
 ·exact⟨λ_=>ap λa j g=>.ret1 _,λh=>Ak⟩
 ·exact⟨λ_=>znz _ _ _,λh=>Ak⟩
 ·rename_i f x y;refine⟨λ_=>?_,λh=>Ak⟩;simp only[Qq];split
  ·exact quiet_stuck
  ·exact zp7 _ _ _
 ·exact⟨λ_=>zjj _ _ _ _,λh=>Ak⟩
 ·exact⟨λ_=>zrz _ _ _ _,λh=>Ak⟩
 ·exact⟨λ_=>zkb _ _ _ _,λh=>Ak⟩
 ·exact⟨λ_=>zru _ _ _ _,λh=>Ak⟩
 ·exact⟨λ_=>zr3 _ _ _ _,λh=>Ak⟩
 ·exact⟨λ_=>zmm _ _,λh=>Ak⟩
 ·split
  ·exact⟨λh=>Ak,λ_=>zrn _ _ _ _ _ _⟩
  ·rename_i h;exact⟨λ_=>zjq Aw,λh=>Ak⟩
 ·split
  ·exact⟨λh=>Ak,λh=>Ak⟩
  ·rename_i hd;split
   ·exact⟨λh=>Ak,λ_=>zvt (by simpa using hd)⟩
   ·rename_i z;exact⟨λ_=>zwe (by simpa using hd) Dh,λh=>Ak⟩
 ·exact⟨λh=>Ak,λ_=>zwg _ _ _⟩
 ·exact⟨λh=>Ak,λ_=>zob _ _ _ _ _⟩
 ·exact zq2
 all_goals exact⟨λh=>Ak,λh=>Ak⟩
def z6a{P:Program}{n:Nat}{ops:Array Oper}{o:Oper}{k:Ti}(h:(Ts P n ops o).run k Q F=.ok uV vU) :
  ∃v,uV=Rs o.dst v Q∧(∀d,o.dst=some d→d<n)∧∀j,Uu (Xo ops o) j Q→(Ts P n ops o).run k j F=.ok (Rs o.dst v j) vU:=by
 unfold Ts at h ⊢;cases G:Tq n o.dst with
 |none=>rw[G]at h;cases h
 |some p =>
  rw[G]at h;dsimp only at h ⊢;obtain⟨g,A⟩:=zc0 G;have B:∀j,Uu (Xo ops o) j Q→(Qq P o.op).run j F=(Qq P o.op).run Q F:=λj z =>
   zih (Uu.opds (λt H=>z t (by simp[Xo,H])))
  cases C:(Vh ops o).run Q with
  |false =>
   rw[C]at h;cases h;refine⟨Um,g _ _,A,λj z=>?_⟩;rw[z3q z,C];dsimp only;rw[g]
  |true =>
   rw[C]at h;dsimp only at h;cases D:(Qq P o.op).run Q F with
   |no=>rw[D]at h;cases h
   |val v I =>
    rw[D]at h;cases h;refine⟨v,g _ _,A,λj z=>?_⟩;rw[z3q z,C,B j z,D];dsimp only;rw[g]
   |call t E =>
    rw[D]at h;dsimp only at h;cases hc:k t E F with
    |no=>rw[hc]at h;cases h
    |ok v I =>
     rw[hc]at h;cases h;refine⟨v,g _ _,A,λj z=>?_⟩;rw[z3q z,C,B j z,D];dsimp only;rw[hc];dsimp only;rw[g]
def z67{P:Program}{n:Nat}{ops:Array Oper}{o:Oper}{k:Ti}(A:bw (Qq P o.op))(h:(Ts P n ops o).run k Q F=.ok uV vU):vU=F:=by
 unfold Ts at h;cases g:Tq n o.dst with
 |none=>rw[g]at h;cases h
 |some p =>
  rw[g]at h;dsimp only at h;cases j:(Vh ops o).run Q with
  |false=>rw[j]at h;cases h;rfl
  |true =>
   rw[j]at h;dsimp only at h;have z:=A Q F;generalize (Qq P o.op).run Q F=r at h z;cases z with
   |no=>cases h
   |val v=>cases h;rfl
def zlc{P:Program}{n:Nat}{ops:Array Oper}{o:Oper}{k:Ti}(B:Wi (Qq P o.op))(h:(Ts P n ops o).run k Q F=.ok uV vU)(g:Heap) :
  (Ts P n ops o).run k Q g=.ok uV g:=by
 unfold Ts at h ⊢;cases z:Tq n o.dst with
 |none=>rw[z]at h;cases h
 |some p =>
  rw[z]at h;dsimp only at h ⊢;cases A:(Vh ops o).run Q with
  |false=>rw[A]at h;cases h;rfl
  |true =>
   rw[A]at h;dsimp only at h ⊢;have j:=B Q F g;generalize (Qq P o.op).run Q F=r at h j;generalize (Qq P o.op).run Q g=C at j ⊢;cases j with
   |no=>cases h
   |val v=>cases h;rfl
end Go.Sv
