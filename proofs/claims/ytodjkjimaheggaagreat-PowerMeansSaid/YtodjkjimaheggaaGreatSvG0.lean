/- Texts of the evaluator, of the logic over it, of plain arithmetic. -/
import Derived.AtR
import Derived.Laws.Sem
import Derived.Laws.World
import Derived.KernelRfl
import Derived.Below
import Derived.Laws.Strings
import Derived.Laws.StructEq
import Derived.Lib.Strings
import Derived.Lib.ConvBytes
import Derived.Laws.BytesArg
import Derived.Laws.RangeString
import Derived.MapKept
import Derived.Laws.Append
import Derived.Laws.AppendOwn
import Derived.Laws.Externs
import Derived.RangeFuncIn
import Derived.RangeFuncRecord
set_option linter.unusedSimpArgs false
set_option linter.defProp false
namespace Go.Sv
variable{g j vU:Nat}{C:Program}{K vZ:World}{R:Bool}{v8:TypeId}{vQ:Type}{vM:Array Value}{vH:Option Nat}{vG:Value}
noncomputable section
abbrev Hu:=@List.getElem?_eq_some_iff
abbrev Hv:=@List.getD_eq_getElem?_getD
abbrev Hw:=@List.getElem?_set_ne
abbrev Hx:=@if_neg
abbrev Hy:=@Bool.and_eq_true
abbrev Hz:=@Int.eq_ofNat_of_zero_le
abbrev H0:=@List.getElem?_set_self
abbrev H6:=@List.getElem?_eq_getElem
abbrev H7:=@if_pos
abbrev H8:=@List.getElem?_append_left
abbrev H9:=@List.length_append
abbrev Ia:=@Nat.le_refl
abbrev Ib:=@Nat.ble_eq_true_of_le
abbrev Ic:=@decide_eq_true_eq
abbrev Ie:=@Nat.eq_of_beq_eq_true
abbrev If:=@List.mem_cons
abbrev Ig:=@List.length_cons
abbrev Ih:=@Nat.le_of_ble_eq_true
abbrev Ii:=@Nat.mul_le_mul_right
abbrev Ij:=@List.getElem?_append_right
abbrev Ik:=@List.mem_cons_of_mem
abbrev Il:=@List.getElem?_concat_length
abbrev Im:=@List.take_of_length_le
abbrev In:=@Int.toNat_natCast
abbrev Io:=@List.getElem?_cons_succ
abbrev Ip:=@List.eq_nil_of_length_eq_zero
abbrev Iq:=@List.mem_of_getElem?
abbrev Ir:=@List.mem_append
abbrev Is:=@List.getElem?_cons_zero
abbrev It:=@Int.ofNat_eq_natCast
abbrev Iu:=@Nat.add_mul
abbrev Iv:=@Nat.mod_eq_of_lt
abbrev Iw:=@List.mem_append_right
abbrev Ix:=@List.length_nil
abbrev Iy:=@Nat.zero_add
abbrev Iz:=@Nat.pow_succ
abbrev I0:=@Nat.lt_of_lt_of_le
abbrev I3:=@UInt64.toNat_inj
abbrev I4:=@decide_eq_false_iff_not
abbrev I5:=@List.set_eq_take_append_cons_drop
abbrev I6:=@List.cons_append
abbrev I7:=@List.mem_cons_self
abbrev I8:=@Nat.beq_refl
abbrev I9:=@Array.getD_eq_getD_getElem?
abbrev Ja:=@Nat.le_trans
abbrev Jb:=@List.any_eq_true
abbrev Jc:=@UInt64.le_iff_toNat_le
abbrev Jd:=@Bool.or_eq_true
abbrev Je:=@UInt64.toNat_ofNat'
abbrev Jf:=@Bool.not_eq_true'
abbrev Jg:=@List.take_succ_eq_append_getElem
abbrev Jh:=@Nat.mul_mod
abbrev Ji:=@List.map_set
abbrev Jj:=@List.append_assoc
abbrev Jk:=@UInt64.toNat_add
abbrev Jl:=@Nat.lt_succ_self
abbrev Jm:=@UInt64.lt_iff_toNat_lt
abbrev Jn:=@Nat.mul_le_mul
abbrev Jo:=@if_true
abbrev Jp:=@List.append_nil
abbrev Jq:=@Int.natCast_nonneg
abbrev Jr:=@List.drop_eq_getElem_cons
abbrev Js:=@decide_eq_true
abbrev Jt:=@Nat.mul_comm
abbrev Ju:=@List.getElem?_take_of_lt
abbrev Jv:=@List.all_eq_true
abbrev Jw:=@List.getElem?_map
abbrev Jx:=@Bool.eq_iff_iff
abbrev Jy:=@List.getElem?_toArray
abbrev Jz:=@Option.getD_some
abbrev J0:=@List.drop_of_length_le
abbrev J1:=@Nat.mod_lt
abbrev J2:=@Array.getElem?_eq_getElem
abbrev J3:=@List.length_set
abbrev J4:=@List.length_take
abbrev J5:=@Array.toList_map
abbrev J6:=@List.mem_iff_getElem
abbrev J7:=@Option.map_some
abbrev J8:=@Nat.min_eq_left
abbrev J9:=@List.not_mem_nil
abbrev Ka:=@of_decide_eq_true
abbrev Kb:=@Nat.one_mul
abbrev Kc:=@Int.emod_eq_of_lt
abbrev Kd:=@List.mem_iff_getElem?
abbrev Ke:=@List.getElem?_eq_none
abbrev Kf:=@Nat.mul_assoc
abbrev Kg:=@Nat.add_assoc
abbrev Kh:=@List.mem_range
abbrev Ki:=@List.all_cons
abbrev Kj:=@Nat.pow_le_pow_right
abbrev Kk:=@List.map_cons
abbrev Kl:=@Nat.add_zero
abbrev Km:=@List.drop_zero
abbrev Kn:=@Nat.two_pow_pos
abbrev Kq:=@Nat.pow_add
abbrev Kr:=@Nat.le_max_left
abbrev Ks:=@Bool.false_eq_true
abbrev Kt:=@Array.eq_empty_of_size_eq_zero
abbrev Ku:=@Nat.lt_or_ge
abbrev Kw:=@Nat.mul_one
abbrev Kx:=@List.flatMap_cons
abbrev Ky:=@Array.size_append
abbrev Kz:=@List.take_left'
abbrev K0:=@List.replicate_succ
abbrev K2:=@Nat.zero_mul
abbrev K3:=@Nat.div_div_eq_div_mul
abbrev K5:=@Nat.zero_le
abbrev K6:=@Nat.div_eq_of_lt
abbrev K7:=@List.take_length
abbrev K8:=@List.getElem_mem
abbrev K9:=@Array.getElem?_append_left
abbrev La:=@List.set_append_right
abbrev Le:=@List.map_append
abbrev Lf:=@Nat.testBit_eq_decide_div_mod_eq
abbrev Lh:=@Nat.le_of_eq
abbrev Li:=@List.mem_append_left
abbrev Lj:=@Nat.le_max_right
abbrev Lk:=@Nat.mul_add
abbrev Ll:=@Nat.sub_self
abbrev Ln:=@BitVec.toNat_ofNat
abbrev Lp:=@if_false
abbrev Lq:=@List.any_eq_false
abbrev Lr:=@true_and
abbrev Ls:=@beq_iff_eq
abbrev Lt:=@UInt64.toNat_sub
abbrev Lu:=@Array.toList_append
abbrev Lv:=@List.map_take
abbrev Lw:=@Bool.true_and
abbrev Ly:=@decide_eq_false
abbrev Lz:=@List.nil_append
abbrev L5:=@Nat.le_succ
abbrev L6:=@or_false
abbrev L7:=@Nat.succ_mul
abbrev L8:=@Nat.le_mul_of_pos_left
abbrev L9:=@List.getElem?_set
abbrev Ma:=@List.ext_getElem?
abbrev Mb:=@List.all_eq_false
abbrev Mc:=@Array.getElem?_eq_none
abbrev Md:=@List.replicate_append_replicate
abbrev Me:=@List.take_append_drop
abbrev Mf:=@Bool.and_eq_false_iff
abbrev Mg:=@UInt64.toNat_mul
abbrev Mh:=@Array.toList_inj
abbrev Mi:=@List.take_append_of_le_length
abbrev Mj:=@List.mem_of_mem_take
abbrev Ml:=@UInt64.toNat_or
abbrev Mm:=@Nat.not_lt_zero
abbrev Mn:=@Nat.div_le_self
abbrev Mo:=@Nat.mul_le_mul_left
abbrev Mp:=@Int.toNat_of_nonneg
abbrev Mq:=@Nat.two_pow_add_eq_or_of_lt
abbrev Mr:=@Nat.lt_trans
abbrev Mt:=@Nat.le_of_lt
abbrev Mu:=@List.mem_map
abbrev Mv:=@Nat.le_of_mul_le_mul_right
abbrev Mw:=@List.take_zero
abbrev My:=@List.take_take
abbrev Mz:=@List.set_cons_zero
abbrev M0:=@List.set_cons_succ
abbrev M1:=@List.mem_singleton
abbrev M2:=@List.getElem?_drop
abbrev M3:=@Int.tmod_eq_emod_of_nonneg
abbrev M4:=@Nat.mul_left_comm
abbrev M5:=@UInt64.not_lt
abbrev M6:=@Bool.toNat_le
def J{p:Prop}(h:p:=by omega):p:=h
def N{p:Prop}(h:p:=by simp):p:=h
def Aa{p:Prop}(h:p:=by kernel_rfl):p:=h
def Ab{p:Prop}(h:p:=by simp;omega):p:=h
def Ac{p:Prop}(h:p:=by decide):p:=h
def Ad{p:Prop}(h:p:=by simp[Op.operands]):p:=h
def Ae{p:Prop}(h:p:=by simp[z]):p:=h
def Af{p:Prop}(h:p:=by simp[j]):p:=h
def Ah{p:Prop}(h:p:=by simp[F]):p:=h
def Ai{p:Prop}(h:p:=by simp[execOp,ho]):p:=h
def Ak{p:Prop}(h:p:=by simp[E]):p:=h
def Al{p:Prop}(h:p:=by simp[C]):p:=h
def Am{p:Prop}(h:p:=by simp only[Pn.p];omega):p:=h
def An{p:Prop}(h:p:=by cases h):p:=h
def Ao{p:Prop}(h:p:=by simp[B]):p:=h
def Aq{p:Prop}(h:p:=by obtain⟨_,_,h,_⟩:=id h;exact (Hu.1 h).1):p:=h
def Ar{p:Prop}(h:p:=by cases e):p:=h
def As{p:Prop}(h:p:=by simp[A]):p:=h
def At{p:Prop}(h:p:=by simp[D]):p:=h
def Au{p:Prop}(h:p:=by simp only[IntKind.wrap,IntKind.bits,IntKind.signed];simp;omega):p:=h
def Av{p:Prop}(h:p:=by simp[g]):p:=h
def Aw{p:Prop}(h:p:=by unfold R3;omega):p:=h
def Ax{p:Prop}(h:p:=by simpa using h):p:=h
def Ay{p:Prop}(h:p:=by dsimp only;omega):p:=h
def A0{p:Prop}(h:p:=by simp[Vc,Zh,kz,tr,wn,qg,lh]):p:=h
def A6{p:Prop}(h:p:=by simp[G]):p:=h
def A7{p:Prop}(h:p:=by simp only[Pw.es];omega):p:=h
def A8{p:Prop}(h:p:=by simp only[Pw.acc,Pw.t];omega):p:=h
def A9{p:Prop}(h:p:=by simp[M]):p:=h
def Ba{p:Prop}(h:p:=by simp[H]):p:=h
def Bb{p:Prop}(h:p:=by simp only;omega):p:=h
def Bc{p:Prop}(h:p:=by simp[dats,LV.dat,Rg]):p:=h
def Bd{p:Prop}(h:p:=by simp[I]):p:=h
def Be{p:Prop}(h:p:=by simpa using g):p:=h
def Bg{p:Prop}(h:p:=by simp only[Sem.run_bind,z,Result.andThen_ok,Sem.run_pure]):p:=h
def Bh{p:Prop}(h:p:=by simp[dats,LV.dat,Nk,Ts,Tu]):p:=h
def Bi{p:Prop}(h:p:=by simp[Builtin.len_,O2 hu,goInt]):p:=h
def Bj{p:Prop}(h:p:=by simp[K]):p:=h
def Bk{p:Prop}(h:p:=by simp only[Pw.cur];omega):p:=h
def Bl{p:Prop}(h:p:=by simp[Na];omega):p:=h
def Bm{p:Prop}(h:p:=by split<;>constructor):p:=h
def Bn{p:Prop}(h:p:=by simp[T]):p:=h
def Bo{p:Prop}(h:p:=by simp[dats,LV.dat]):p:=h
def Bq{p:Prop}(h:p:=by simp at h):p:=h
def Br{p:Prop}(h:p:=by have:o<H.next+1:=ho;omega):p:=h
def Bs{p:Prop}(h:p:=by simpa using j):p:=h
def Bt{p:Prop}(h:p:=by simpa using H):p:=h
def Bu{p:Prop}(h:p:=by simp only[Ob];omega):p:=h
def Bv{p:Prop}(h:p:=by simp[U]):p:=h
def Bx{p:Prop}(h:p:=by simp[LV.dat,dats]):p:=h
def By{p:Prop}(h:p:=by simp[Nf,Nj,cK]):p:=h
def Bz{p:Prop}(h:p:=by simp[L]):p:=h
def B0{p:Prop}(h:p:=by dsimp;omega):p:=h
def B1{p:Prop}(h:p:=by simpa using G):p:=h
def B3{p:Prop}(h:p:=by rw[←q',h1]at e;exact ho _ _ _ _ (Option.some.inj e).symm):p:=h
def B4{p:Prop}(h:p:=by simp[Nk]):p:=h
def B5{p:Prop}(h:p:=by cases h;rfl):p:=h
def B6{p:Prop}(h:p:=by rw[Oh O];exact L):p:=h
def B7{p:Prop}(h:p:=by simpa using E):p:=h
def B8{p:Prop}(h:p:=by simp[R]):p:=h
def B9{p:Prop}(h:p:=by have:=g.b;simpa [Pn.p] using this):p:=h
def Ca{p:Prop}(h:p:=by simp only[It];omega):p:=h
def Cb{p:Prop}(h:p:=by simp[Vt]):p:=h
def Cc{p:Prop}(h:p:=by simp[gg]):p:=h
def Cd{p:Prop}(h:p:=by rw[j,C]):p:=h
def Ce{p:Prop}(h:p:=by rw[flat_frL];simp):p:=h
def Cg{p:Prop}(h:p:=by simp[val]):p:=h
def Ch{p:Prop}(h:p:=by simp[Pw.en]):p:=h
def Ci{p:Prop}(h:p:=by simp[Nf,cK]):p:=h
def Cj{p:Prop}(h:p:=by simpa using A):p:=h
def Ck{p:Prop}(h:p:=by simp only[Oo];unfold Np;rw[z]):p:=h
def Cl{p:Prop}(h:p:=by simp at e):p:=h
def Cm{p:Prop}(h:p:=by simpa using C):p:=h
def Cn{p:Prop}(h:p:=by rw[C,O];exact F):p:=h
def Co{p:Prop}(h:p:=by rw[flat_frL];unfold Pw.expB;split<;>simp):p:=h
def Cp{p:Prop}(h:p:=by simp[flat_frL]):p:=h
def Cq{p:Prop}(h:p:=by cases op<;>rfl):p:=h
def Cr{p:Prop}(h:p:=by simp only[Ww];omega):p:=h
def Cs{p:Prop}(h:p:=by simp only[Pw.acc,Pw.ent,Pw.tab];omega):p:=h
def Ct{p:Prop}(h:p:=by simpa using z):p:=h
def Cu{p:Prop}(h:p:=by simp[M8]at h;omega):p:=h
def Cv{p:Prop}(h:p:=by rw[O];exact U):p:=h
def Cw{p:Prop}(h:p:=by simp[Rz];omega):p:=h
def Cy{p:Prop}(h:p:=by simp only[Pw.acc,Pw.t,Pw.en];omega):p:=h
def Cz{p:Prop}(h:p:=by rw[me hl.2.2 hx,me hl.2.1 hx,me hl.2.2 hx,me hl.2.1 hx];exact h.low x hx):p:=h
def C3{p:Prop}(h:p:=by simp[vl]):p:=h
def C4{p:Prop}(h:p:=by simp[Qu,M8,N8,Zz,eh,Z8]):p:=h
def C5{p:Prop}(h:p:=by simp[So]):p:=h
def C6{p:Prop}(h:p:=by simp[Pw.ent]):p:=h
def C7{p:Prop}(h:p:=by simp[Pw.acc]):p:=h
def C8{p:Prop}(h:p:=by simp[builtin]):p:=h
def C9{p:Prop}(h:p:=by rw[←r6.length];exact r1):p:=h
def Da{p:Prop}(h:p:=by rw[H9,h2,hx,Iu];omega):p:=h
def Db{p:Prop}(h:p:=by unfold w9;omega):p:=h
def Dc{p:Prop}(h:p:=by simp[Q,P];omega):p:=h
def Dd{p:Prop}(h:p:=by simpa [binOp] using j):p:=h
def De{p:Prop}(h:p:=by rw[mw];exact .int k _):p:=h
def Df{p:Prop}(h:p:=by rw[hg o rfl];exact r2):p:=h
def Dg{p:Prop}(h:p:=by simpa using r1):p:=h
def Dh{p:Prop}(h:p:=by simp[wr];omega):p:=h
def Di{p:Prop}(h:p:=by simp[U9];omega):p:=h
def Dk{p:Prop}(h:p:=by simp[P]):p:=h
def Dl{p:Prop}(h:p:=by simp[O]):p:=h
def Dm{p:Prop}(h:p:=by simp only[Pw.ent,Pw.tab];omega):p:=h
def Do{p:Prop}(h:p:=by simpa using hi):p:=h
def Dp{p:Prop}(h:p:=by simp[e]):p:=h
def Dq{p:Prop}(h:p:=by simp[cK]):p:=h
def Dr{p:Prop}(h:p:=by simp[Qf]):p:=h
def Ds{p:Prop}(h:p:=by simp only[Pw.acc,Pw.es];omega):p:=h
def Dt{p:Prop}(h:p:=by simp only[Ig];omega):p:=h
def Du{p:Prop}(h:p:=by simp[V]):p:=h
def Dv{p:Prop}(h:p:=by simp only[Pw.cur,Pw.t];omega):p:=h
def Dw{p:Prop}(h:p:=by show Int.ofNat (a.toNat ||| b.toNat)<_;simp only[It];omega):p:=h
def Dx{p:Prop}(h:p:=by show Int.ofNat (a.toNat &&& b.toNat)<_;simp only[It];omega):p:=h
def Dy{p:Prop}(h:p:=by rw[H9,J4,T];show min (len*j) l.length+n*j=(len+n)*j;omega):p:=h
def Dz{p:Prop}(h:p:=by have:=List.findIdx_le_length (p:=p) (xs:=l);omega):p:=h
def D0{p:Prop}(h:p:=by simpa using K):p:=h
def D3{p:Prop}(h:p:=by simpa [Op.operands] using j):p:=h
def D4{p:Prop}(h:p:=by simp[execOp,ho,j]):p:=h
def D5{p:Prop}(h:p:=by simp[O6,Oa];omega):p:=h
def D6{p:Prop}(h:p:=by simp[Nf,cK];omega):p:=h
def D7{p:Prop}(h:p:=by simp[Nf,Qv];omega):p:=h
def D8{p:Prop}(h:p:=by simp[h.l,h.i]):p:=h
def D9{p:Prop}(h:p:=by simp[binOp,Op.intArith];rfl):p:=h
def Ea{p:Prop}(h:p:=by have:=(hm.ev.row e).1;omega):p:=h
def Ec{p:Prop}(h:p:=by simp[Pn.p]):p:=h
def Ed{p:Prop}(h:p:=by simp only[Is,Option.some.injEq]at h;subst h;exact⟨_,rfl,e⟩):p:=h
def Ee{p:Prop}(h:p:=by rw[Oh A];exact K):p:=h
def Eg{p:Prop}(h:p:=by simp[Z]):p:=h
def Eh{p:Prop}(h:p:=by simp[RU]):p:=h
def Ei{p:Prop}(h:p:=by grind):p:=h
def Ej{p:Prop}(h:p:=by simp[dats,LV.dat,Ts,zdd]):p:=h
def Ek{p:Prop}(h:p:=by simp[Pw.es]):p:=h
def El{p:Prop}(h:p:=by rw[←h3];exact gg):p:=h
def Em{p:Prop}(h:p:=by have:=g.wa;have:=g.k;have:=g.b;simp only[Pw.t];omega):p:=h
def En{p:Prop}(h:p:=by simp[hs.len]):p:=h
def Eo{p:Prop}(h:p:=by simp[cK]at h):p:=h
def Ep{p:Prop}(h:p:=by simp[binOp,Op.intCmp];rfl):p:=h
def Er{p:Prop}(h:p:=by rw[H8 (Hu.1 e).1];exact e):p:=h
def Es{p:Prop}(h:p:=by have:=z.s;have:=z.z;omega):p:=h
def Et{p:Prop}(h:p:=by simp[dats,LV.dat,Ts,Tu]):p:=h
def Eu{p:Prop}(h:p:=by simp only[Pw.tab];omega):p:=h
def Ev{p:Prop}(h:p:=by simp only[Pw.acc];omega):p:=h
def Ew{p:Prop}(h:p:=by cases q):p:=h
def Ey{p:Prop}(h:p:=by simp[h.i]):p:=h
def Ez{p:Prop}(h:p:=by rw[e]):p:=h
def E4{p:Prop}(h:p:=by simp[Oa];omega):p:=h
def E5{p:Prop}(h:p:=by have:=congrArg List.length hd;simp at this;omega):p:=h
def E6{p:Prop}(h:p:=by unfold Rf;omega):p:=h
def E7{p:Prop}(h:p:=by simp[zeroValue,xj hi,g]):p:=h
def E8{p:Prop}(h:p:=by simp only[Fr.cat,Fr.noW,zeu r g,Bool.and_assoc]):p:=h
def E9{p:Prop}(h:p:=by rw[h]):p:=h
def Fa{p:Prop}(h:p:=by have:=(D1.lt e).1;omega):p:=h
def Fb{p:Prop}(h:p:=by rw[Oh I,jD Q];exact T):p:=h
def Fe{p:Prop}(h:p:=by unfold Nm;split<;>simp):p:=h
def Ff{p:Prop}(h:p:=by simpa using hm):p:=h
def Fg{p:Prop}(h:p:=by simpa using M):p:=h
def Fh{p:Prop}(h:p:=by simp[N7]):p:=h
def Fi{p:Prop}(h:p:=by simp only[Pw.t];omega):p:=h
def Fj{p:Prop}(h:p:=by rw[I8,show Nat.ble len Q1=true from Ib C];rfl):p:=h
def Fk{p:Prop}(h:p:=by have:=g.k;have:=g.nk;show (p.n.k:Int)≤_;omega):p:=h
def Fl{p:Prop}(h:p:=by simp[Rv,hb,Rz];omega):p:=h
def Fo{p:Prop}(h:p:=by simp[M8];omega):p:=h
def Fp{p:Prop}(h:p:=by simp[LV.dat,dats,mj]):p:=h
def Fq{p:Prop}(h:p:=by simp at j;subst j;simp only[Pw.cur,Lr];omega):p:=h
def Ft{p:Prop}(h:p:=by simp at j;subst j;simp only[Pw.acc,Lr];omega):p:=h
def Fu{p:Prop}(h:p:=by rw[q];rfl):p:=h
def Fv{p:Prop}(h:p:=by simp[binOp,Op.intCmp]):p:=h
def Fw{p:Prop}(h:p:=by rw[hb _ _ C];exact h2):p:=h
def Fx{p:Prop}(h:p:=by have:s.data.toList.length=s.size:=rfl;omega):p:=h
def Fy{p:Prop}(h:p:=by simpa using U):p:=h
def F0{p:Prop}(h:p:=by simpa using D):p:=h
def F1{p:Prop}(h:p:=by simp[Rv,U,Rz];omega):p:=h
def F2{p:Prop}(h:p:=by simp[Op.operands,e]):p:=h
def F3{p:Prop}(h:p:=by rw[Fr.cat,Fr.stp,Fr.stp,stp_cat r g];omega):p:=h
def F4{p:Prop}(h:p:=by simpa using e):p:=h
def F5{p:Prop}(h:p:=by rw[j]):p:=h
def F6{p:Prop}(h:p:=by simp[Q]):p:=h
def F7{p:Prop}(h:p:=by unfold S5;rw[V6];split<;>simp[flat_frL]):p:=h
def F8{p:Prop}(h:p:=by simp[Nf,Qv]):p:=h
def F9{p:Prop}(h:p:=by simp[Hv,hj]):p:=h
def Ga{p:Prop}(h:p:=by rw[z];omega):p:=h
def Gb{p:Prop}(h:p:=by have:=u.toNat_lt;simp only[It];omega):p:=h
def Gc{p:Prop}(h:p:=by have:=h.fc.2;omega):p:=h
def Ge{p:Prop}(h:p:=by simp[Q6]at h;omega):p:=h
def Gf{p:Prop}(h:p:=by simp[Nv]at h;omega):p:=h
def Gg{p:Prop}(h:p:=by simp only[It];exact Int.ofNat_lt.2 F):p:=h
def Gh{p:Prop}(h:p:=by show y+1≤2*9223372036854775808;omega):p:=h
def Gi{p:Prop}(h:p:=by show x+1≤2*9223372036854775808;omega):p:=h
def Gj{p:Prop}(h:p:=by rw[q2];simp only[Pw.en,Pw.tab];omega):p:=h
def Gk{p:Prop}(h:p:=by rw[Vw,z51]):p:=h
def Gl{p:Prop}(h:p:=by simp[Px,hi]):p:=h
def Gm{p:Prop}(h:p:=by simp[Oy,cK]):p:=h
def Gn{p:Prop}(h:p:=by show s.i+1≤_;omega):p:=h
def Gp{p:Prop}(h:p:=by rw[k]):p:=h
def Gq{p:Prop}(h:p:=by rw[C];omega):p:=h
def Gr{p:Prop}(h:p:=by simp[stepG,stepG.exec,Frame.atR]):p:=h
def Gs{p:Prop}(h:p:=by simp[Q9,(zir j ops l _ (i+1) 0).1]):p:=h
def Gt{p:Prop}(h:p:=by simp[LV.dat,bf]):p:=h
def Gu{p:Prop}(h:p:=by rw[Fr.cat,Fr.cat,Fr.cat,zg2 r g h]):p:=h
def Gv{p:Prop}(h:p:=by constructor<;>(dsimp only;omega)):p:=h
def Gw{p:Prop}(h:p:=by rw[Na,Hx J];omega):p:=h
def Gx{p:Prop}(h:p:=by show (iU (p.p.at_+(off:Int))).toNat<sz p.b;rw[zx8 J];exact h):p:=h
def Gy{p:Prop}(h:p:=by show (iU (p.p.at_+(off:Int))).toNat+m≤sz p.b;rw[zx8 J];exact h):p:=h
def Gz{p:Prop}(h:p:=by have:=zdo (J1 (val gK) (J:0<val gg));omega):p:=h
def Ha{p:Prop}(h:p:=by rw[hx];exact List.mem_flatMap.2 ⟨_,N,gg⟩):p:=h
def Hc{p:Prop}(h:p:=by rw[Na,Hx J]):p:=h
inductive Tr (α:Type) where
 |e
 |n (v:Option α) (l r:Tr α)
structure GetF (α:Type) where run:Tr α→Option α
structure SetF (α:Type) where run:α→Tr α→Tr α
def getF{g:Type}:List Bool→GetF g
 |[]=>⟨λt=>Tr.rec none (λv _ _ _ _=>v) t⟩
 |b::p=>match b with
  |true=>⟨λt=>Tr.rec none (λ_ l _ _ _=>(getF p).run l) t⟩
  |false=>⟨λt=>Tr.rec none (λ_ _ r _ _=>(getF p).run r) t⟩
def t8{g:Type}:List Bool→SetF g
 |[]=>⟨λa t=>Tr.rec (.n (some a) .e .e) (λ_ l r _ _=>.n (some a) l r) t⟩
 |b::p=>match b with
  |true=>⟨λa t=>Tr.rec (.n none ((t8 p).run a .e) .e) (λv l r _ _=>.n v ((t8 p).run a l) r) t⟩
  |false=>⟨λa t=>Tr.rec (.n none .e ((t8 p).run a .e)) (λv l r _ _=>.n v l ((t8 p).run a r)) t⟩
def Nc(p:List Bool)(t:Tr vQ):Option vQ:=(getF p).run t
def Pg(a:vQ)(p:List Bool)(t:Tr vQ):Tr vQ:=(t8 p).run a t
def zum:Nat→Nat→List Bool
 |0,_=>[]
 |f+1,k=>match k with
  |0=>[]
  |k+1=>Nat.beq (Nat.mod k 2) 0::zum f (Nat.div k 2)
def Nz(k:Nat):List Bool:=zum (Nat.succ k) k
def Q1:Nat:=1000000000
def Sa{g:Type}:List g→Nat→Tr g→Tr g
 |[],_,t=>t
 |a::l,i,t=>Sa l (i+1) (Pg a (Nz i) t)
inductive AV where
 |bool (b:Bool)
 |int (k:IntKind) (n:Int)
 |str (len n:Nat)
 |nilPtr
 |ptr (o v i:Nat)
 |nilSl
 |sl (o v i len esz:Nat) (room:Option Nat)
 |emp
 |nilMap
 |map (o:Nat)
 |nilFn
 |fn (f:Fn) (first cap:List AV)
 |nilIf
 |iface (t:TypeId) (v:AV)
 |agg (cs:List AV)
 |tup (vs:List AV)
 deriving Inhabited
def AV.cells:AV→Option (List AV)
 |.agg cs=>some cs
 |.tup _=>none
 |v=>some [v]
def Po:List UInt8→Nat
 |[]=>0
 |b::l=>b.toNat+256*Po l
def zr:Value→Option AV
 |.bool b=>some (.bool b)
 |.int k n=>some (.int k n)
 |.string s=>some (.str s.data.toList.length (Po s.data.toList))
 |.pointer none=>some .nilPtr
 |.slice none 0 0=>some .nilSl
 |.map none=>some .nilMap
 |.nilFunc=>some .nilFn
 |.nilIface=>some .nilIf
 |_=>none
def Vk:List Value→Option (List AV)
 |[]=>some []
 |v::l=>match zr v with
  |none=>none
  |some a=>match Vk l with
   |none=>none
   |some r=>some (a::r)
def Yp:Value→Option AV
 |.agg g=>(Vk g.toList).map .agg
 |.tuple j=>if j.size=0 then some (.tup []) else none
 |v=>zr v
inductive AObj where
 |cells (c:Tr AV) (len ver:Nat) (ro:Bool)
 |map (es:List (AV×AV×Nat)) (clock:Nat)
 |iter (len n pos:Nat)
 |loop (st:LoopState) (pend:Option Code) (f nt:Nat) (env:Tr AV) (ps:Array Tmp) (assign body:Code) (defers:Nat)
 |defd (isOpen:Bool)
structure Heap where
 t:Tr AObj
 next:Nat
def Heap.get(H:Heap)(o:Nat):Option AObj:=Nc (Nz o) H.t
def Heap.put(H:Heap)(o:Nat)(x:AObj):Heap:=⟨Pg x (Nz o) H.t,H.next⟩
def Heap.push(H:Heap)(x:AObj):Heap:=⟨Pg x (Nz H.next) H.t,H.next+1⟩
def Tl(c:Tr AV):Nat→Nat→Option (List AV)
 |_,0=>some []
 |i,n+1=>match Nc (Nz i) c with
  |none=>none
  |some a=>match Tl c (i+1) n with
   |none=>none
   |some l=>some (a::l)
def Rs(j:Heap)(o v i n:Nat):Option (List AV) :=
 match j.get o with
 |some (.cells c len g _)=>match Nat.beq v g with
  |true=>match Nat.ble (Nat.add i n) len with
   |true=>Tl c i n
   |false=>none
  |false=>none
 |_=>none
def Xe(j:Heap)(o v i:Nat)(l:List AV):Option Heap :=
 match j.get o with
 |some (.cells c len g false)=>match Nat.beq v g with
  |true=>match Nat.ble (Nat.add i l.length) len with
   |true=>some (j.put o (.cells (Sa l i c) len g false))
   |false=>none
  |false=>none
 |_=>none
def newObj(g:Heap)(l:List AV):Option (Nat×Heap):=some (g.next,g.push (.cells (Sa l 0 .e) l.length 0 false))
inductive Tgt where
 |fn (f:Nat)
 |yield (l:Nat)
inductive OR where
 |no
 |val (v:AV) (H:Heap)
 |call (t:Tgt) (args:List AV)
structure OpdF where run:Tr AV→Option AV
structure OpF where run:Tr AV→Heap→OR
def Sq:AV:=.tup []
def N6(x:Operand):OpdF :=
 match x with
 |.tmp t=>match Nat.ble t Q1 with
  |true=>⟨λg=>Option.rec (some Sq) (λv=>some v) (Nc (Nz t) g)⟩
  |false=>⟨λ_=>none⟩
 |.const v=>match Yp v with
  |some a=>⟨λ_=>some a⟩
  |none=>⟨λ_=>none⟩
 |.func f=>⟨λ_=>some (.fn (.func f) [] [])⟩
 |.global _=>⟨λ_=>none⟩
structure OpdsF where run:Tr AV→Option (List AV)
def opds:List Operand→OpdsF
 |[]=>⟨λ_=>some []⟩
 |x::l=>⟨λg=>match (N6 x).run g with
  |none=>none
  |some a=>match (opds l).run g with
   |none=>none
   |some r=>some (a::r)⟩
def Om:OpF:=⟨λ_ _=>.no⟩
def ret1(g:Heap)(o:Option AV):OR:=match o with
 |some v=>.val v g
 |none=>.no
def Qw(x:Operand)(f:Heap→AV→OR):OpF:=⟨λg j=>Option.rec .no (λa=>f j a) ((N6 x).run g)⟩
def Ui(x y:Operand)(f:Heap→AV→AV→OR):OpF:=⟨λg j=>Option.rec .no (λa=>Option.rec .no (λb=>f j a b) ((N6 y).run g)) ((N6 x).run g)⟩
def Px(g:Program)(t:TypeId):Option Nat:=(g.info? t).map (·.size)
def To(g:Program)(t:TypeId):Option Bool:=match g.underlying t with
 |some (.struct _)|some (.array _ _)=>some true
 |some _=>some false
 |none=>none
def Th(g:Program)(t:TypeId):Option (List AV):=match g.info? t with
 |some i=>match i.zero with
  |some v=>match Vk v.cells.toList with
   |some l=>if l.length=i.size then some l else none
   |none=>none
  |none=>none
 |none=>none
def zv2(g:Program)(t:TypeId):Option AV:=match g.info? t with
 |some i=>match i.zero with
  |some v=>Yp v
  |none=>none
 |none=>none
def Yh(j:Heap)(l:List AV):OR:=match newObj j l with
 |some (o,g)=>.val (.ptr o 0 0) g
 |none=>.no
def pq:IntKind→Nat
 |.i8=>0 |.i16=>1 |.i32=>2 |.i64=>3 |.u8=>4 |.u16=>5 |.u32=>6 |.u64=>7
def ap(k g:IntKind):Bool:=Nat.beq (pq k) (pq g)
def eq(a b:Int):Bool:=match a,b with
 |.ofNat x,.ofNat y=>Nat.beq x y
 |.negSucc x,.negSucc y=>Nat.beq x y
 |_,_=>false
def ltI(a b:Int):Bool:=match a,b with
 |.ofNat x,.ofNat y=>Nat.blt x y
 |.negSucc x,.negSucc y=>Nat.blt y x
 |.negSucc _,.ofNat _=>true
 |.ofNat _,.negSucc _=>false
def Zi:IntKind→Nat
 |.i8=>128 |.u8=>128 |.i16=>32768 |.u16=>32768 |.i32=>2147483648 |.u32=>2147483648
 |.i64=>9223372036854775808 |.u64=>9223372036854775808
def V8(k:IntKind)(n:Int):Int:=match n with
 |.ofNat m=>match Nat.blt m (Zi k) with
  |true=>.ofNat m
  |false=>k.wrap (.ofNat m)
 |.negSucc m=>k.wrap (.negSucc m)
def Wj(k:IntKind):Nat:=Nat.mul 2 (Zi k)
def m7(f:Nat→Nat→Nat)(k:IntKind)(a b:Int):Option AV:=match a,b with
 |.ofNat x,.ofNat y=>match Nat.blt x (Wj k) with
  |true=>match Nat.blt y (Wj k) with
   |true=>some (.int k (V8 k (.ofNat (f x y))))
   |false=>none
  |false=>none
 |_,_=>none
def ug(b:Int):Bool:=match b with
 |.ofNat n=>Nat.beq n 0
 |_=>false
def zv5(op:BinOp)(k:IntKind)(a b:Int):Option AV :=
 match op with
 |.add=>some (.int k (V8 k (Int.add a b)))
 |.sub=>some (.int k (V8 k (Int.sub a b)))
 |.mul=>some (.int k (V8 k (Int.mul a b)))
 |.quo=>match ug b with
  |true=>none
  |false=>some (.int k (V8 k (Int.tdiv a b)))
 |.rem=>match ug b with
  |true=>none
  |false=>some (.int k (Int.tmod a b))
 |.and=>m7 Nat.land k a b
 |.or=>m7 Nat.lor k a b
 |.xor=>m7 Nat.xor k a b
 |.andNot=>m7 (λx y=>Nat.xor x (Nat.land x y)) k a b
 |.eql=>some (.bool (eq a b))
 |.neq=>some (.bool (!(eq a b)))
 |.lss=>some (.bool (ltI a b))
 |.leq=>some (.bool (!(ltI b a)))
 |.gtr=>some (.bool (ltI b a))
 |.geq=>some (.bool (!(ltI a b)))
 |_=>none
def Qy(a b:Nat):Nat:=match Nat.ble a b with
 |true=>a
 |false=>b
def zq8(op:BinOp)(k:IntKind)(a:Int)(y:Int):Option AV :=
 match a,y with
 |.ofNat x,.ofNat y=>match op with
  |.shl=>some (.int k (V8 k (.ofNat (Nat.mul x (Nat.pow 2 (Qy y k.bits))))))
  |.shr=>some (.int k (.ofNat (Nat.div x (Nat.pow 2 (Qy y k.bits)))))
  |_=>none
 |_,_=>none
def Xn:Nat→Nat→List Nat
 |0,_=>[]
 |len+1,n=>Nat.mod n 256::Xn len (Nat.div n 256)
def xh:List Nat→List Nat→Bool
 |_,[]=>false
 |[],_::_=>true
 |a::x,b::y=>Nat.blt a b || (Nat.beq a b&&xh x y)
def zyu(op:BinOp)(g a j b:Nat):Option AV :=
 match op with
 |.add=>match Nat.ble (Nat.add g j) Q1 with
  |true=>some (.str (Nat.add g j) (Nat.add a (Nat.mul b (Nat.pow 256 g))))
  |false=>none
 |.eql=>some (.bool (Nat.beq g j&&Nat.beq a b))
 |.neq=>some (.bool (!(Nat.beq g j&&Nat.beq a b)))
 |.lss=>some (.bool (xh (Xn g a) (Xn j b)))
 |.gtr=>some (.bool (!(xh (Xn g a) (Xn j b) || (Nat.beq g j&&Nat.beq a b))))
 |.leq=>some (.bool (xh (Xn g a) (Xn j b) || (Nat.beq g j&&Nat.beq a b)))
 |.geq=>some (.bool (!(xh (Xn g a) (Xn j b))))
 |_=>none
def fk(l:List AV)(g n:Nat):Option (List AV):=match Nat.ble (Nat.add g n) l.length with
 |true=>some ((l.drop g).take n)
 |false=>none
def ny(z:Bool)(g:Nat)(l:List AV)(j:Nat):Option AV :=
 match z with
 |true=>match fk l j g with
  |some r=>some (.agg r)
  |none=>none
 |false=>l[j]?
def zxv(j:Program)(t:TypeId)(l:List AV)(g:Nat):Option AV :=
 match To j t,Px j t with
 |some z,some n=>ny z n l g
 |_,_=>none
def sv(z:Program)(f:TypeId→AV→AV→Option Bool)(g j:List AV):List Field→Option Bool
 |[]=>some true
 | fd :: l => match fd.name != "_" with
  |true=>match zxv z fd.type g fd.offset,zxv z fd.type j fd.offset with
   |some a,some b=>match f fd.type a b with
    |some true=>sv z f g j l
    |some false=>some false
    |none=>none
   |_,_=>none
  |false=>sv z f g j l
def eqEs(z:Program)(f:TypeId→AV→AV→Option Bool)(t:TypeId)(n:Nat)(g j:List AV):List Nat→Option Bool
 |[]=>some true
 |i::l=>match zxv z t g (Nat.mul i n),zxv z t j (Nat.mul i n) with
  |some a,some b=>match f t a b with
   |some true=>eqEs z f t n g j l
   |some false=>some false
   |none=>none
  |_,_=>none
def sh(z:Program)(f:TypeId→AV→AV→Option Bool)(t:TypeId)(a b:AV):Option Bool:=match z.underlying t,a,b with
  |some .bool,.bool x,.bool y=>some (x==y)
  |some (.int _),.int k x,.int A y=>match ap k A with
   |true=>some (eq x y)
   |false=>none
  |some .string,.str B x,.str C y=>some (Nat.beq B C&&Nat.beq x y)
  |some (.pointer _),.nilPtr,.nilPtr=>some true
  |some (.pointer _),.nilPtr,.ptr _ _ _=>some false
  |some (.pointer _),.ptr _ _ _,.nilPtr=>some false
  |some (.interface _),.nilIf,.nilIf=>some true
  |some (.interface _),.nilIf,.iface _ _=>some false
  |some (.interface _),.iface _ _,.nilIf=>some false
  |some (.slice _),.nilSl,.nilSl=>some true
  |some (.slice _),.nilSl,.sl _ _ _ _ _ _=>some false
  |some (.slice _),.sl _ _ _ _ _ _,.nilSl=>some false
  |some (.slice _),.nilSl,.emp=>some false
  |some (.slice _),.emp,.nilSl=>some false
  |some (.map _ _),.nilMap,.nilMap=>some true
  |some (.map _ _),.nilMap,.map _=>some false
  |some (.map _ _),.map _,.nilMap=>some false
  |some (.func _ _ _),.nilFn,.nilFn=>some true
  |some (.func _ _ _),.nilFn,.fn _ _ _=>some false
  |some (.func _ _ _),.fn _ _ _,.nilFn=>some false
  |some (.struct D),.agg g,.agg j=>match z.stoodInHeld t with
   |true=>none
   |false=>sv z f g j D.toList
  |some (.array n e),.agg g,.agg j=>match Px z e with
   |some s=>eqEs z f e s g j (List.range n)
   |none=>none
  |_,_,_=>none
def eqT(g:Program):Nat→TypeId→AV→AV→Option Bool
 |0=>λ_ _ _=>none
 |d+1=>sh g (eqT g d)
def zmu(g:Program)(j:Bool)(t:TypeId)(a b:AV):Bool:=match a,b with
 |.nilIf,.nilIf=>j
 |.agg _,.agg _=>!(g.eqGuardType g.depth t)
 |_,_=>true
def Sn(g:Program)(j:Bool)(t:TypeId)(a b:AV):Option Bool:=match zmu g j t a b with
 |true=>eqT g 20 t a b
 |false=>none
def notB:Option Bool→Option AV
 |some b=>some (.bool (!b))
 |none=>none
def yesB:Option Bool→Option AV
 |some b=>some (.bool b)
 |none=>none
def Yd:Operand→Bool
 |.const _=>true
 |_=>false
def Qe(A:Program)(op:BinOp)(B:Bool)(t:TypeId)(a b:AV):Option AV :=
 match a,b with
 |.int k x,.int g y=>match op with
  |.shl=>zq8 .shl k x y
  |.shr=>zq8 .shr k x y
  |op=>match ap k g with
   |true=>zv5 op k x y
   |false=>none
 |.str j x,.str z y=>zyu op j x z y
 |a,b=>match op with
  |.eql=>yesB (Sn A B t a b)
  |.neq=>notB (Sn A B t a b)
  |_=>none
def unA(op:UnOp)(a:AV):Option AV :=
 match op,a with
 |.neg,.int k n=>some (.int k (V8 k (Int.sub 0 n)))
 |.xor,.int k n=>some (.int k (k.wrap (BitVec.ofInt k.bits (if k.signed then -1 else k.max) ^^^ BitVec.ofInt k.bits n).toNat))
 |.not,.bool b=>some (.bool (!b))
 |_,_=>none
def Vl:List AV→Nat→List AV→List AV
 |g,_,[]=>g
 |g,i,a::l=>Vl (g.set i a) (i+1) l
structure Part where
 off:Nat
 size:Nat
 v:OpdF
def vh(cs:List AV):List Part→Tr AV→Option (List AV)
 |[],_=>some cs
 |p::g,j=>match p.v.run j with
  |none=>none
  |some a=>match a.cells with
   |none=>none
   |some l=>match Nat.beq l.length p.size with
    |true=>match Nat.ble (Nat.add p.off p.size) cs.length with
     |true=>vh (Vl cs p.off l) g j
     |false=>none
    |false=>none
def wy(g:Nat→Option (Nat×Nat)):List (Nat×Operand)→Option (List Part)
 |[]=>some []
 |(i,x)::l=>match g i with
  |none=>none
  |some (o,s)=>match wy g l with
   |none=>none
   |some r=>some (⟨o,s,N6 x⟩::r)
def zde(g:Program):List Field→Option (List (Nat×Nat))
 |[]=>some []
 |f::l=>match Px g f.type with
  |none=>none
  |some s=>match zde g l with
   |none=>none
   |some r=>some ((f.offset,s)::r)
def zln(D:Program)(t:TypeId)(g:Array (Nat×Operand)):OpF :=
 match Th D t with
 |none=>Om
 |some C=>match D.underlying t with
  |some (.struct j)=>match zde D j.toList with
   |none=>Om
   |some pl=>match wy (pl[·]?) g.toList with
    |none=>Om
    |some B=>⟨λE F=>match vh C B E with
     |some l=>.val (.agg l) F
     |none=>.no⟩
  |some (.array _ A)=>match Px D A with
   |none=>Om
   |some z=>match wy (λi=>some (i*z,z)) g.toList with
    |none=>Om
    |some B=>⟨λE F=>match vh C B E with
     |some l=>.val (.agg l) F
     |none=>.no⟩
  |_=>Om
def Uj(l:List AV):Nat→List AV
 |0=>[]
 |n+1=>l++Uj l n
def z3x(A:Program)(t:TypeId)(len:Nat)(z:Array (Nat×Operand)):OpF :=
 match A.underlying t with
 |some (.slice j)=>match Px A j with
  |none=>Om
  |some g=>match Th A j with
   |none=>Om
   |some D=>if len*g≤2^20∧0<g then
     match wy (λi=>some (i*g,g)) z.toList with
     |none=>Om
     |some B=>⟨λE F=>match vh (Uj D len) B E with
      |some l=>match newObj F l with
       |some (o,C)=>.val (.sl o 0 0 len g (some len)) C
       |none=>.no
      |none=>.no⟩
    else Om
 |_=>Om
def zto(j:Program)(t:TypeId)(x:Operand):OpF :=
 match To j t,Px j t with
 |some true,some n=>Qw x λg a=>match a with
  |.ptr o v i=>match Rs g o v i n with
   |some l=>.val (.agg l) g
   |none=>.no
  |_=>.no
 |some false,some _=>Qw x λg a=>match a with
  |.ptr o v i=>match Rs g o v i 1 with
   |some [c]=>.val c g
   |_=>.no
  |_=>.no
 |_,_=>Om
def zqy(j:Program)(t:TypeId)(x y:Operand):OpF :=
 match Px j t with
 |some n=>Ui x y λz a b=>match a with
  |.ptr o v i=>match b.cells with
   |some l=>match Nat.beq l.length n with
    |true=>match Xe z o v i l with
     |some g=>.val Sq g
     |none=>.no
    |false=>.no
   |none=>.no
  |_=>.no
 |none=>Om
def z85(g:Heap)(a:AV):OR:=match a with
 |.ptr o v i=>.val (.ptr o v i) g
 |.iface t v=>.val (.iface t v) g
 |.fn (.func f) l c=>.val (.fn (.func f) l c) g
 |.map o=>.val (.map o) g
 |_=>.no
def W2(P:Program)(src dst:TypeId)(x:Operand):OpF :=
 match P.underlying src,P.underlying dst with
 |some _,some (.int k)=>Qw x λH a=>match a with
  |.int _ n=>.val (.int k (V8 k n)) H
  |_=>.no
 |some (.slice e),some .string=>match P.underlying e with
  |some (.int .u8)=>Qw x λH a=>match a with
   |.nilSl=>.val (.str 0 0) H
   |.sl o v i len 1 _=>match Rs H o v i len with
    |some l=>match bytesA l with
     |some n=>.val (.str len n) H
     |none=>.no
    |none=>.no
   |_=>.no
  |_=>Om
 |some _,some .string=>Qw x λH a=>match a with
  |.str l n=>.val (.str l n) H
  |_=>.no
 |some _,some (.slice e)=>match P.underlying e,Px P e with
  |some (.int .u8),some 1=>Qw x λH a=>match a with
   |.str len n=>match newObj H ((Xn len n).map λ(b:Nat)=>AV.int .u8 (Int.ofNat b)) with
    |some (o,H')=>.val (.sl o 0 0 len 1 none) H'
    |none=>.no
   |_=>.no
  |_,_=>Om
 |_,_=>Om
where
 bytesA:List AV→Option Nat
  |[]=>some 0
  |.int .u8 (.ofNat b)::l=>if Nat.blt b 256 then match bytesA l with
   |some n=>some (b+256*n)
   |none=>none
   else none
  |_=>none
def zam(g:Program)(t:TypeId)(x:Operand):OpF :=
 match g.underlying t with
 |some (.interface _)=>Om
 |some _=>Qw x λj a=>.val (.iface t a) j
 |none=>Om
def zek(f:Fn)(first cap:Array Operand):OpF :=
 ⟨λg j=>match (opds first.toList).run g with
  |some l=>match (opds cap.toList).run g with
   |some r=>.val (.fn f l r) j
   |none=>.no
  |none=>.no⟩
def jp(g:Heap):OR:=.val (.map g.next) (g.push (.map [] 0))
def zhu(j:Program)(t:TypeId)(r:Option Operand):OpF :=
 match r with
 |none=>⟨λ_ g=>jp g⟩
 |some x=>match j.underlying t with
  |some (.map _ _)=>Qw x λg a=>match a with
   |.int _ _=>jp g
   |_=>.no
  |_=>Om
def z8z(j:Program)(t:TypeId)(l c:Operand):OpF :=
 match j.underlying t with
 |some (.slice g)=>match j.info? g with
  |none=>Om
  |some i=>match Th j g with
   |none=>Om
   |some A=>if 0<i.size∧i.bytes≤2^16 then Ui l c λB a b=>match a,b with
    |.int .i64 (.ofNat l),.int .i64 (.ofNat c)=>match Nat.ble l c with
     |true=>match Nat.ble c 1048576 with
      |true=>match newObj B (Uj A c) with
       |some (o,z)=>.val (.sl o 0 0 l i.size (some c)) z
       |none=>.no
      |false=>.no
     |false=>.no
    |_,_=>.no
    else Om
 |_=>Om
structure OptF where run:Tr AV→Option (Option Nat)
def Qx:Option Operand→OptF
 |none=>⟨λ_=>some none⟩
 |some x=>⟨λg=>match (N6 x).run g with
  |some (.int _ (.ofNat n))=>some (some n)
  |_=>none⟩
def rq(l h m o v i g:Nat):AV :=
 match Nat.beq l m with
 |true=>match Nat.beq l 0 with
  |true=>.sl o v i 0 g (some 0)
  |false=>.emp
 |false=>.sl o v (Nat.add i (Nat.mul l g)) (Nat.sub h l) g (some (Nat.sub m l))
def z8u(l h j:Nat)(A:Option Nat)(o v i g:Nat)(z:Option Nat):Option AV :=
 match Nat.ble l h with
 |false=>none
 |true=>match Nat.ble h j with
  |false=>none
  |true=>match A with
   |some m=>match Nat.ble h m with
    |false=>none
    |true=>match Nat.ble m j with
     |false=>none
     |true=>some (rq l h m o v i g)
   |none=>match z with
    |some r=>some (rq l h r o v i g)
    |none=>match Nat.beq l 0 with
     |true=>some (.sl o v i h g none)
     |false=>match Nat.beq l h with
      |true=>some .emp
      |false=>some (.sl o v (Nat.add i (Nat.mul l g)) (Nat.sub h l) g none)
def Wq(g:Nat)(z hi mx:Option Nat)(o v i len j:Nat)(room:Option Nat):Option AV :=
 match Nat.beq j g with
 |false=>none
 |true=>z8u (z.getD 0) (hi.getD len) (room.getD len) mx o v i j room
def zgd(P:Program)(t:TypeId)(x:Operand)(j hi mx:Option Operand):OpF :=
 match P.underlying t with
 |some .string=>match mx with
  |some _=>Om
  |none=>⟨λA D=>match (N6 x).run A,(Qx j).run A,(Qx hi).run A with
   |some (.str len n),some j,some hi =>
    let l:=j.getD 0;let h:=hi.getD len
    match Nat.ble l h with
    |true=>match Nat.ble h len with
     |true=>.val (.str (Nat.sub h l) (Nat.mod (Nat.div n (Nat.pow 256 l)) (Nat.pow 256 (Nat.sub h l)))) D
     |false=>.no
    |false=>.no
   |_,_,_=>.no⟩
 |some (.slice z)=>if mx.isSome&&hi.isNone then Om else match Px P z with
  |none=>Om
  |some g=>⟨λA D=>match (N6 x).run A,(Qx j).run A,(Qx hi).run A,(Qx mx).run A with
   |some (.sl o v i len E B),some j,some hi,some mx=>ret1 D (Wq g j hi mx o v i len E B)
   |some .nilSl,some j,some hi,some none=>match Nat.beq (Nat.add (j.getD 0) (hi.getD 0)) 0 with
    |true=>.val .nilSl D
    |false=>.no
   |some .emp,some j,some hi,some none=>match Nat.beq (Nat.add (j.getD 0) (hi.getD 0)) 0 with
    |true=>.val .emp D
    |false=>.no
   |_,_,_,_=>.no⟩
 |some (.array n z)=>if mx.isSome&&hi.isNone then Om else match Px P z with
  |none=>Om
  |some g=>⟨λA D=>match (N6 x).run A,(Qx j).run A,(Qx hi).run A,(Qx mx).run A with
   |some (.ptr o v i),some j,some hi,some mx=>match D.get o with
    |some (.cells _ C F false)=>match Nat.beq v F with
     |true=>match Nat.ble (Nat.add i (Nat.mul n g)) C with
      |true=>ret1 D (Wq g j hi mx o v i n g (some n))
      |false=>.no
     |false=>.no
    |_=>.no
   |_,_,_,_=>.no⟩
 |_=>Om
def z61(z:Program)(s:TypeId)(x:Operand)(f:Nat):OpF :=
 match z.underlying s with
 |some (.struct g)=>match g[f]? with
  |none=>Om
  |some fd=>match Px z fd.type with
   |none=>Om
   |some 0=>Om
   |some _=>let j:=fd.offset;Qw x λA a=>match a with
    |.ptr o v i=>.val (.ptr o v (Nat.add i j)) A
    |_=>.no
 |_=>Om
def zlk(z:Program)(t:TypeId)(x:Operand)(f:Nat):OpF :=
 match z.underlying t with
 |some (.struct g)=>match g[f]? with
  |none=>Om
  |some fd=>match To z fd.type,Px z fd.type with
   |some A,some n=>let j:=fd.offset;Qw x λB a=>match a with
    |.agg l=>ret1 B (ny A n l j)
    |_=>.no
   |_,_=>Om
 |_=>Om
def z5y(B:Program)(t:TypeId)(x A:Operand):OpF :=
 match B.underlying t with
 |some (.slice g)=>match Px B g with
  |none=>Om
  |some j=>Ui x A λC a b=>match a,b with
   |.sl o v i len z _,.int _ (.ofNat n)=>match Nat.blt n len with
    |true=>match Nat.beq z j with
     |true=>.val (.ptr o v (Nat.add i (Nat.mul n z))) C
     |false=>.no
    |false=>.no
   |_,_=>.no
 |some (.array len g)=>match Px B g with
  |none=>Om
  |some j=>Ui x A λC a b=>match a,b with
   |.ptr o v i,.int _ (.ofNat n)=>match Nat.blt n len with
    |true=>.val (.ptr o v (Nat.add i (Nat.mul n j))) C
    |false=>.no
   |_,_=>.no
 |_=>Om
def zju(A:Program)(t:TypeId)(x z:Operand):OpF :=
 match A.underlying t with
 |some .string=>Ui x z λB a b=>match a,b with
  |.str len n,.int _ (.ofNat i)=>match Nat.blt i len with
   |true=>.val (.int .u8 (Int.ofNat (Nat.mod (Nat.div n (Nat.pow 256 i)) 256))) B
   |false=>.no
  |_,_=>.no
 |some (.array len g)=>match To A g,Px A g with
  |some C,some j=>Ui x z λB a b=>match a,b with
   |.agg l,.int _ (.ofNat n)=>match Nat.blt n len with
    |true=>ret1 B (ny C j l (Nat.mul n j))
    |false=>.no
   |_,_=>.no
  |_,_=>Om
 |_=>Om
def zo2(d:TypeDesc)(a b:AV):Option Bool:=match d,a,b with
 |.int _,.int k a,.int g b=>match ap k g with
  |true=>some (eq a b)
  |false=>none
 |.string,.str j a,.str z b=>some (Nat.beq j z&&Nat.beq a b)
 |.bool,.bool a,.bool b=>some (a==b)
 |_,_,_=>none
def Wi(g:Program)(t:TypeId):Option TypeDesc:=match g.underlying t with
 |some .bool=>some .bool
 |some (.int k)=>some (.int k)
 |some .string=>some .string
 |_=>none
def zru(d:TypeDesc)(k:AV):List (AV×AV×Nat)→Option (Option AV)
 |[]=>some none
 |(g,v,_)::l=>match zo2 d k g with
  |some true=>some (some v)
  |some false=>zru d k l
  |none=>none
def zci(d:TypeDesc)(k v:AV)(g:Nat):List (AV×AV×Nat)→Option (List (AV×AV×Nat)×Bool)
 |[]=>some ([(k,v,g)],true)
 |(j,z,b)::l=>match zo2 d k j with
  |some true=>some ((k,v,b)::l,false)
  |some false=>match zci d k v g l with
   |some (r,n)=>some ((j,z,b)::r,n)
   |none=>none
  |none=>none
def zl7(d:TypeDesc)(k:AV):List (AV×AV×Nat)→Option (List (AV×AV×Nat))
 |[]=>some []
 |(g,j,b)::l=>match zo2 d k g with
  |some true=>some l
  |some false=>match zl7 d k l with
   |some r=>some ((g,j,b)::r)
   |none=>none
  |none=>none
def W6(j:Heap)(a:AV):Option (List (AV×AV×Nat)):=match a with
 |.nilMap=>some []
 |.map o=>match j.get o with
  |some (.map g _)=>some g
  |_=>none
 |_=>none
def zf1(z:Program)(t:TypeId)(x A:Operand)(ok:Bool):OpF :=
 match z.underlying t with
 |some (.map j g)=>match Wi z j,zv2 z g with
  |some d,some D=>Ui x A λB a b=>match W6 B a with
   |none=>.no
   |some C=>match zru d b C with
    |some (some v)=>.val (if ok then .tup [v,.bool true] else v) B
    |some none=>.val (if ok then .tup [D,.bool false] else D) B
    |none=>.no
  |_,_=>Om
 |_=>Om
def z6a(D:Program)(t:TypeId)(m k x:Operand):OpF :=
 match D.underlying t with
 |some (.map z _)=>match Wi D z with
  |some d=>⟨λA B=>match (N6 m).run A,(N6 k).run A,(N6 x).run A with
   |some (.map o),some k,some v=>match B.get o with
    |some (.map C g)=>match zci d k v g C with
     |some (j,true)=>.val Sq (B.put o (.map j (Nat.add g 1)))
     |some (j,false)=>.val Sq (B.put o (.map j g))
     |none=>.no
    |_=>.no
   |_,_,_=>.no⟩
  |none=>Om
 |_=>Om
def rangeF(j:Program)(t:TypeId)(x:Operand):OpF :=
 match j.underlying t with
 |some .string=>Qw x λg a=>match a with
  |.str len n=>.val (.ptr g.next 0 0) (g.push (.iter len n 0))
  |_=>.no
 |_=>Om
def Xh(x:Operand)(g:Bool):OpF :=
 if g then Qw x λz a=>match a with
  |.ptr o 0 0=>match z.get o with
   |some (.iter len n j)=>match Nat.blt j len with
    |true=>match Nat.blt (Nat.mod (Nat.div n (Nat.pow 256 j)) 256) 128 with
     |true=>.val (.tup [.bool true,.int .i64 (Int.ofNat j),.int .i32 (Int.ofNat (Nat.mod (Nat.div n (Nat.pow 256 j)) 256))]) (z.put o (.iter len n (Nat.add j 1)))
     |false=>.no
    |false=>.val (.tup [.bool false]) z
   |_=>.no
  |_=>.no
 else Om
def zew(z:Program)(x:Operand)(g:TypeId)(ok:Bool):OpF :=
 match z.underlying g with
 |some (.interface _)=>Om
 |some _=>match zv2 z g with
  |none=>Om
  |some A=>Qw x λj a=>match a with
   |.nilIf=>if ok then .val (.tup [A,.bool false]) j else .no
   |.iface t v=>match Nat.beq t g with
    |true=>.val (if ok then .tup [v,.bool true] else v) j
    |false=>if ok then .val (.tup [A,.bool false]) j else .no
   |_=>.no
 |none=>Om
def zj3(x:Operand)(i:Nat):OpF:=Qw x λg a=>match a with
 |.tup l=>ret1 g l[i]?
 |_=>.no
def Wg(z:Program)(t:TypeId)(x:Operand):OpF :=
 match z.underlying t with
 |some .string=>Qw x λg a=>match a with
  |.str l _=>.val (.int .i64 (Int.ofNat l)) g
  |_=>.no
 |some (.slice _)=>Qw x λg a=>match a with
  |.sl _ _ _ len _ _=>.val (.int .i64 (Int.ofNat len)) g
  |.nilSl=>.val (.int .i64 0) g
  |.emp=>.val (.int .i64 0) g
  |_=>.no
 |some (.map _ _)=>Qw x λg a=>match a with
  |.nilMap=>.val (.int .i64 0) g
  |.map o=>match g.get o with
   |some (.map j _)=>.val (.int .i64 (Int.ofNat j.length)) g
   |_=>.no
  |_=>.no
 |some (.array n _)=>Qw x λg _=>.val (.int .i64 (Int.ofNat n)) g
 |_=>Om
def Zf(j:Program)(t:TypeId)(x:Operand):OpF :=
 match j.underlying t with
 |some (.slice _)=>Qw x λg a=>match a with
  |.nilSl=>.val (.int .i64 0) g
  |.sl _ _ _ _ _ (some r)=>.val (.int .i64 (Int.ofNat r)) g
  |_=>.no
 |_=>Om
def Zg(g:Bool):AV→AV→Option AV
 |.int k x,.int j y=>match ap k j with
  |true=>match g with
   |true=>match ltI x y with
    |true=>some (.int k y)
    |false=>some (.int k x)
   |false=>match ltI y x with
    |true=>some (.int k y)
    |false=>some (.int k x)
  |false=>none
 |_,_=>none
def l9(g:Bool):AV→List AV→Option AV
 |a,[]=>some a
 |a,b::l=>match Zg g a b with
  |some c=>l9 g c l
  |none=>none
def Vh(j:Bool)(g:List Operand):OpF:=⟨λz A=>match (opds g).run z with
 |some (.int k n::l)=>ret1 A (l9 j (.int k n) l)
 |_=>.no⟩
def vx(z:Heap)(g:Nat):AV→Option (Nat×List AV)
 |.nilSl=>some (0,[])
 |.emp=>some (0,[])
 |.sl o v i len j _=>match Nat.beq j g with
  |true=>match Rs z o v i (Nat.mul len g) with
   |some l=>some (len,l)
   |none=>none
  |false=>none
 |.str len n=>if Nat.beq g 1 then some (len,(Xn len n).map λ(b:Nat)=>AV.int .u8 (Int.ofNat b)) else none
 |_=>none
def mv(z:Heap)(n g:Nat)(l:List AV):OR :=
 match newObj z l with
 |some (o,j)=>.val (.sl o 0 0 n g none) j
 |none=>.no
def X1(D:Heap)(j:Nat)(s:AV)(n:Nat)(A:List AV):OR :=
 match Nat.beq n 0 with
 |true=>match s with
  |.nilSl=>.val .nilSl D
  |.emp=>.val .emp D
  |.sl o v i len g B=>.val (.sl o v i len g B) D
  |_=>.no
 |false=>match s with
  |.nilSl=>mv D n j A
  |.sl o v i len g B=>match Nat.beq g j&&Nat.ble len Q1 with
   |false=>.no
   |true=>match B with
    |some r=>match Nat.ble (Nat.add len n) r with
     |true=>match Xe D o v (Nat.add i (Nat.mul len g)) A with
      |some E=>.val (.sl o v i (Nat.add len n) g (some r)) E
      |none=>.no
     |false=>match Rs D o v i (Nat.mul len j) with
      |some F=>mv D (Nat.add len n) j (F++A)
      |none=>.no
    |none=>match D.get o with
     |some (.cells c z C false)=>match Nat.beq v C with
      |false=>.no
      |true=>match Nat.ble (Nat.add i (Nat.mul (Nat.add len n) g)) z with
       |true=>match Xe D o v (Nat.add i (Nat.mul len g)) A with
        |some E=>.val (.sl o v i (Nat.add len n) g none) E
        |none=>.no
       |false=>match Nat.beq i 0 with
        |false=>.no
        |true=>match Nat.beq (Nat.mul len g) z with
         |false=>.no
         |true=>.val (.sl o (Nat.add C 1) 0 (Nat.add len n) g none) (D.put o (.cells (Sa A z c) (Nat.add z A.length) (Nat.add C 1) false))
     |_=>.no
  |_=>.no
def zo5(P:Program)(g:TypeId)(s x:Operand):OpF :=
 match P.info? g,Th P g with
 |some i,some j=>if 0<i.size∧i.bytes≤65536 then Ui s x λz a b=>match b with
   |.int .i64 (.ofNat n)=>match Nat.ble n 1048576 with
    |true=>X1 z i.size a n (Uj j n)
    |false=>.no
   |_=>.no
  else Om
 |_,_=>Om
def zcp(P:Program)(g:TypeId)(s x:Operand):OpF :=
 match P.info? g,Th P g with
 |some i,some _=>if 0<i.size∧i.bytes≤65536 then Ui s x λj a b=>match vx j i.size b with
   |some (n,l)=>match Nat.ble n 1048576 with
    |true=>X1 j i.size a n l
    |false=>.no
   |none=>.no
  else Om
 |_,_=>Om
def zm0(P:Program)(z:Array TypeId)(j:Array Operand):OpF :=
 match z.toList,j.toList with
 |[st,A],[s,x]=>match P.underlying st,P.underlying A with
  |some (.slice g),some (.int _)=>zo5 P g s x
  |some (.slice g),some (.slice _)=>zcp P g s x
  |some (.slice g),some .string=>zcp P g s x
  |_,_=>Om
 |_,_=>Om
def zz4(P:Program)(C:Array TypeId)(j:Array Operand):OpF :=
 match C.toList,j.toList with
 |[st,_],[d,x]=>match P.underlying st with
  |some (.slice z)=>match Px P z with
   |none=>Om
   |some g=>if 0<g then Ui d x λB a b=>match vx B g b with
    |some (n,l)=>match a with
     |.nilSl=>.val (.int .i64 0) B
     |.emp=>.val (.int .i64 0) B
     |.sl o v i len A _=>match Nat.beq A g with
      |true=>match Xe B o v i (l.take (Nat.mul (Qy n len) g)) with
       |some D=>.val (.int .i64 (Int.ofNat (Qy n len))) D
       |none=>.no
      |false=>.no
     |_=>.no
    |none=>.no
    else Om
  |_=>Om
 |_,_=>Om
def zt2(B:Program)(C:Array TypeId)(z:Array Operand):OpF :=
 match C.toList,z.toList with
 |[st],[x]=>match B.underlying st with
  |some (.slice g)=>match Px B g,Th B g with
   |some j,some F=>if 0<j then Qw x λD a=>match a with
    |.nilSl=>.val Sq D
    |.emp=>.val Sq D
    |.sl o v i len A _=>match Nat.beq A j with
     |true=>match Xe D o v i (Uj F len) with
      |some E=>.val Sq E
      |none=>.no
     |false=>.no
    |_=>.no
    else Om
   |_,_=>Om
  |_=>Om
 |_,_=>Om
def zlx(D:Program)(B:Array TypeId)(j:Array Operand):OpF :=
 match B.toList,j.toList with
 |[mt,_],[m,k]=>match D.underlying mt with
  |some (.map z _)=>match Wi D z with
   |some d=>Ui m k λE a b=>match a with
    |.map o=>match E.get o with
     |some (.map C g)=>match zl7 d b C with
      |some A=>.val Sq (E.put o (.map A g))
      |none=>.no
     |_=>.no
    |_=>.no
   |none=>Om
  |_=>Om
 |_,_=>Om
def zb(g:Program)(f:Nat):Bool:=match g.funcs[f]? with
 | some fn => fn.name != "runtime.NumGoroutine" && fn.body.isSome
 |none=>false
def zjn(j:Program)(t:TypeId)(g:String):Option Nat:=match j.info? t with
 |some i=>match i.methods.find? (·.name==g) with
  |some m=>if m.path.isEmpty then match m.func,j.underlying t with
   |some (f,true),some (.pointer _)=>some f
   |some (_,false),some (.pointer _)=>none
   |some (f,false),some _=>some f
   |_,_=>none
   else none
  |none=>none
 |none=>none
def wm(g:Program)(f:AV)(args:List AV):OR:=match f with
 |.fn (.func f) first cap=>if zb g f then .call (.fn f) (first++args++cap) else .no
 |.fn (.yield l) [] _=>.call (.yield l) args
 |_=>.no
def zgt(P:Program)(f:Nat):Bool:=match P.funcs[f]? with
 | some fn => fn.name == "maps.clone" && fn.origin == "" && fn.body.isNone
 |none=>false
def zwb(g:Heap):List AV→OR
 |[.iface t (.map o)]=>match g.get o with
  |some (.map j z)=>.val (.iface t (.map g.next)) (g.push (.map j z))
  |_=>.no
 |_=>.no
def zje(j:Program)(A:Heap)(z:AV)(g:List AV):OR:=match z with
 |.fn (.func f) [] []=>match zgt j f with
  |true=>zwb A g
  |false=>wm j z g
 |_=>wm j z g
def oh(j:Program)(c:Call):OpF :=
 match c.callee with
 |.builtin b=>match b with
  |.len=>match c.argTypes.toList,c.args.toList with
   |[t],[x]=>Wg j t x
   |_,_=>Om
  |.cap=>match c.argTypes.toList,c.args.toList with
   |[t],[x]=>Zf j t x
   |_,_=>Om
  |.max=>Vh true c.args.toList
  |.min=>Vh false c.args.toList
  |.append=>zm0 j c.argTypes c.args
  |.copy=>zz4 j c.argTypes c.args
  |.clear=>zt2 j c.argTypes c.args
  |.delete=>zlx j c.argTypes c.args
  |_=>Om
 |.value f=>⟨λz A=>match (N6 f).run z with
  |some B=>match (opds c.args.toList).run z with
   |some l=>zje j A B l
   |none=>.no
  |none=>.no⟩
 |.invoke r g=>⟨λz _=>match (N6 r).run z with
  |some (.iface t v)=>match zjn j t g with
   |some f=>match (opds c.args.toList).run z with
    |some l=>if zb j f then .call (.fn f) (v::l) else .no
    |none=>.no
   |none=>.no
  |_=>.no⟩
def Ow(P:Program)(o:Op):OpF :=
 match o with
 |.move x |.assign x=>Qw x λj a=>.val a j
 |.pick c a b=>⟨λz j=>match (N6 c).run z with
  |some (.bool true)=>ret1 j ((N6 a).run z)
  |some (.bool false)=>ret1 j ((N6 b).run z)
  |_=>.no⟩
 |.alloc t=>match Th P t with
  |some l=>⟨λ_ j=>Yh j l⟩
  |none=>Om
 |.box _ x=>Qw x λj a=>match a.cells with
  |some l=>Yh j l
  |none=>.no
 |.build t g=>zln P t g
 |.buildSlice t len g=>z3x P t len g
 |.load t a=>zto P t a
 |.store t a x=>zqy P t a x
 |.nilCheck x=>Qw x z85
 |.binOp op t x y _=>let D:=Yd x || Yd y;Ui x y λj a b=>ret1 j (Qe P op D t a b)
 |.unOp op _ x=>Qw x λj a=>ret1 j (unA op a)
 |.convert s d x=>W2 P s d x
 |.makeInterface t x=>zam P t x
 |.makeFunc f first cap=>match f with
  |.yield _=>Om
  |f=>zek f first cap
 |.makeMap t r=>zhu P t r
 |.makeSlice t l c=>z8z P t l c
 |.slice t x A hi B=>zgd P t x A hi B
 |.fieldAddr s x f=>z61 P s x f
 |.field t x f=>zlk P t x f
 |.indexAddr t x i=>z5y P t x i
 |.index t x i=>zju P t x i
 |.lookup t x i ok=>zf1 P t x i ok
 |.mapUpdate t m k x |.insert t m k x=>z6a P t m k x
 |.range t x=>rangeF P t x
 |.next C s=>Xh C s
 |.typeAssert x _ t ok=>zew P x t ok
 |.extract t i=>zj3 t i
 |.call c=>oh P c
 |_=>Om
inductive RV where
 |no
 |ok (v:AV) (H:Heap)
abbrev Ry:=Tgt→List AV→Heap→RV
inductive OE where
 |no
 |ok (E:Tr AV) (H:Heap)
structure SeqF where run:Ry→Tr AV→Heap→OE
structure PutF where run:AV→Tr AV→Tr AV
def Rp(n:Nat)(d:Option Tmp):Option PutF :=
 match d with
 |none=>some ⟨λ_ g=>g⟩
 |some d=>if d<n then some ⟨λa g=>Pg a (Nz d) g⟩ else none
structure GuardF where run:Tr AV→Bool
def Tf(ops:Array Oper)(o:Oper):GuardF :=
 match o.guard with
 |none=>⟨λ_=>true⟩
 |some (j,g)=>match (ops[j]?).bind (·.dst) with
  |none=>⟨λ_=>false⟩
  |some d=>if d≤Q1 then ⟨λz=>match Nc (Nz d) z with
   |some (.bool b)=>match b with
    |true=>g
    |false=>!g
   |_=>false⟩ else ⟨λ_=>false⟩
def Rt(P:Program)(n:Nat)(ops:Array Oper)(o:Oper):SeqF :=
 match Rp n o.dst with
 |none=>⟨λ_ _ _=>.no⟩
 |some p=>⟨λc z A=>Bool.rec (.ok (p.run Sq z) A)
   (OR.rec .no (λv j=>.ok (p.run v z) j) (λt g=>RV.rec .no (λv j=>.ok (p.run v z) j) (c t g A)) ((Ow P o.op).run z A))
   ((Tf ops o).run z)⟩
def wu(B:Program)(n:Nat)(ops:Array Oper):List Oper→SeqF
 |[]=>⟨λ_ g j=>.ok g j⟩
 |o::l=>⟨λc g j=>OE.rec .no (λz A=>(wu B n ops l).run c z A) ((Rt B n ops o).run c g j)⟩
inductive Cls where
 |quiet|rd|ch|al
def zst(g:Program)(t:TypeId):Bool:=match g.underlying t with
 |some (.map _ _)=>true
 |_=>false
def zr3(g:Program)(t:TypeId):Bool:=match g.underlying t with
 |some (.array _ _)=>true
 |_=>false
def zqi(g:Program)(t:TypeId):Bool:=match g.underlying t with
 |some (.slice _)=>true
 |_=>false
def zh4(g:Program)(c:Call):Cls:=match c.callee with
 |.builtin .len=>match c.argTypes.toList with
  |[t]=>if zst g t then .rd else .quiet
  |_=>.ch
 |.builtin .cap |.builtin .max |.builtin .min=>.quiet
 |_=>.ch
def cls(g:Program)(o:Op):Cls :=
 match o with
 |.move _ |.assign _ |.pick _ _ _ |.build _ _ |.nilCheck _ |.binOp _ _ _ _ _ |.unOp _ _ _ |.makeInterface _ _ |.makeFunc _ _ _ |.fieldAddr _ _ _
 |.field _ _ _ |.indexAddr _ _ _ |.index _ _ _ |.typeAssert _ _ _ _ |.extract _ _=>.quiet
 |.slice t _ _ _ _=>if zr3 g t then .rd else .quiet
 |.convert s d _=>if zqi g d then .ch else if zqi g s then .rd else .quiet
 |.load _ _ |.lookup _ _ _ _=>.rd
 |.call c=>zh4 g c
 |.alloc _ |.box _ _ |.buildSlice _ _ _ |.makeSlice _ _ _ |.makeMap _ _=>.al
 |_=>.ch
def zi5(g:List Nat):List Edge→Nat
 |[]=>0
 |e::l=>match Region.binds .any e with
  |true=>Nat.lor (Nat.lor (2^e.on) (g.getD e.on 0)) (zi5 g l)
  |false=>zi5 g l
def zt4:List Nat→Nat
 |[]=>0
 |t::l=>Nat.lor (2^t) (zt4 l)
def zhx:List Operand→List Nat
 |[]=>[]
 |.tmp t::l=>t::zhx l
 |_::l=>zhx l
def Vq(ops:Array Oper)(o:Oper):List Nat :=
 zhx o.op.operands.toList++(match o.guard with
  |some (g,_)=>((ops[g]?).bind (·.dst)).toList
  |none=>[])
structure DOp where
 o:Oper
 i:Nat
 m:Nat
 lm:Nat
 c:Cls
def Q9(j:Program)(ops:Array Oper):List Oper→List Nat→Nat→List DOp
 |[],_,_=>[]
 |o::l,g,i=>⟨o,i,zi5 g o.after.toList,zt4 (Vq ops o),cls j o.op⟩::Q9 j ops l (g++[zi5 g o.after.toList]) (i+1)
def Np(x:DOp):Bool:=match x.c with
 |.ch=>true
 |_=>false
def Vf(x:DOp):Bool:=match x.c with
 |.rd=>true
 |.al=>true
 |_=>false
def ztk(x:DOp):Bool:=match x.c with
 |.quiet=>true
 |_=>false
def zxl(x y:DOp):Bool:=match y.o.dst with
 |none=>true
 |some d=>match Nat.testBit x.lm d with
  |false=>true
  |true=>match Nat.beq x.i y.i with
   |true=>!(Vf x)
   |false=>match Nat.testBit x.m y.i with
    |true=>true
    |false=>match Nat.testBit y.m x.i with
     |true=>!(Vf x)
     |false=>false
def W0{g:Type}(f:g→Bool):List g→Bool
 |[]=>true
 |a::l=>match f a with
  |true=>W0 f l
  |false=>false
def zi(g:List DOp):Bool:=W0 (λx=>W0 (zxl x) g) g
def zrp:List DOp→Nat→Bool
 |[],_=>true
 |x::l,seen=>match x.o.dst with
  |none=>zrp l seen
  |some d=>match Nat.testBit seen d with
   |true=>false
   |false=>zrp l (Nat.lor (2^d) seen)
def P9:List DOp→Nat→Nat→Option Nat
 |[],seen,_=>some seen
 |x::l,seen,g=>match Nat.beq (Nat.land x.m seen) x.m with
  |false=>none
  |true=>match Nat.testBit seen x.i with
   |true=>none
   |false=>match ztk x with
    |true=>P9 l (Nat.lor (2^x.i) seen) g
    |false=>match Nat.beq (Nat.land g x.m) g with
     |false=>none
     |true=>match Np x with
      |true=>P9 l (Nat.lor (2^x.i) seen) (Nat.lor (2^x.i) g)
      |false=>P9 l (Nat.lor (2^x.i) seen) g
def Oo{g:Type}(f:g→Bool):List g→List g
 |[]=>[]
 |a::l=>match f a with
  |true=>a::Oo f l
  |false=>Oo f l
def rank(x:DOp):List DOp→Nat
 |[]=>0
 |c::l=>match Nat.testBit x.m c.i with
  |true=>Nat.succ (rank x l)
  |false=>rank x l
def ol(j g:List DOp)(p:Nat):List DOp:=Oo (λx=>match Np x with
 |true=>false
 |false=>Nat.beq (rank x g) p) j
def zp1(z g:List DOp):List DOp→Nat→List DOp
 |[],_=>[]
 |c::j,p=>c::(ol z g p++zp1 z g j (p+1))
def Xx(j g:List DOp):List DOp:=ol j g 0++zp1 j g g 1
def lu{g:Type}(f:g→g→Bool):List g→List g→Bool
 |[],[]=>true
 |a::l,b::r=>match f a b with
  |true=>lu f l r
  |false=>false
 |_,_=>false
def R4:Nat→AV→AV→Bool
 |0,_,_=>false
 |n+1,a,b=>match a,b with
  |.bool x,.bool y=>x==y
  |.int k x,.int C y=>ap k C&&eq x y
  |.str l x,.str m y=>Nat.beq l m&&Nat.beq x y
  |.nilPtr,.nilPtr=>true
  |.ptr o v i,.ptr g j z=>Nat.beq o g&&Nat.beq v j&&Nat.beq i z
  |.nilSl,.nilSl=>true
  |.sl o v i l e r,.sl g j z D E F=>Nat.beq o g&&Nat.beq v j&&Nat.beq i z&&Nat.beq l D&&Nat.beq e E&&r==F
  |.emp,.emp=>true
  |.nilMap,.nilMap=>true
  |.map o,.map g=>Nat.beq o g
  |.nilFn,.nilFn=>true
  |.fn (.func f) x y,.fn (.func G) A B=>Nat.beq f G&&lu (R4 n) x A&&lu (R4 n) y B
  |.fn (.yield f) x y,.fn (.yield G) A B=>Nat.beq f G&&lu (R4 n) x A&&lu (R4 n) y B
  |.nilIf,.nilIf=>true
  |.iface t v,.iface H j=>Nat.beq t H&&R4 n v j
  |.agg x,.agg y=>lu (R4 n) x y
  |.tup x,.tup y=>lu (R4 n) x y
  |_,_=>false
def Ok:AV→Option Nat
 |.ptr o _ _=>some o
 |.sl o _ _ _ _ _=>some o
 |.map o=>some o
 |_=>none
def Q7(id:Nat):AV→AV
 |.ptr _ v i=>.ptr id v i
 |.sl _ v i l e r=>.sl id v i l e r
 |.map _=>.map id
 |v=>v
def zu8(c g:Tr AV)(len:Nat):Bool:=match Tl c 0 len,Tl g 0 len with
 |some l,some j=>lu (R4 30) l j
 |_,_=>false
def eqObj:AObj→AObj→Bool
 |.cells c len z B,.cells C g j A=>Nat.beq len g&&Nat.beq z j&&B==A&&zu8 c C len
 |.map [] k,.map [] D=>Nat.beq k D
 |_,_=>false
def dm(b:Bool)(x y:vQ):Bool:=match b with
 |true=>true
 |false=>@decide (x=y) (Classical.propDecidable _)
def Y8(v g:AV)(z j:Heap):Bool:=match Ok v with
 |none=>false
 |some id=>match dm (R4 30 v (Q7 id g)) v (Q7 id g) with
  |false=>false
  |true=>match z.get id,j.get z.next with
   |some a,some b=>dm (eqObj a b) a b
   |_,_=>false
structure ChkF where run:Tr AV→Heap→Bool
def kx(P:Program)(ops:Array Oper)(x:DOp):ChkF :=
 match x.o.dst with
 |none=>⟨λ_ _=>false⟩
 |some d=>⟨λj A=>match (Tf ops x.o).run j with
  |false=>true
  |true=>match Nc (Nz d) j with
   |none=>false
   |some v=>match (Ow P x.o.op).run j A with
    |.val g z=>match x.c with
     |.al=>Y8 v g A z
     |_=>dm (R4 30 v g) v g
    |_=>false⟩
def z7r(g:Program)(ops:Array Oper):List DOp→ChkF
 |[]=>⟨λ_ _=>true⟩
 |x::l=>⟨λj z=>match (kx g ops x).run j z with
  |true=>(z7r g ops l).run j z
  |false=>false⟩
def Wb(P:Program)(n:Nat)(ops:Array Oper):List DOp→List DOp→SeqF
 |[],_=>⟨λ_ B C=>.ok B C⟩
 |x::l,g=>match x.c with
  |.quiet=>⟨λk B C=>OE.rec .no (λz A=>(Wb P n ops l g).run k z A) ((Rt P n ops x.o).run k B C)⟩
  |.rd=>⟨λk B C=>OE.rec .no (λz A=>(Wb P n ops l (x::g)).run k z A) ((Rt P n ops x.o).run k B C)⟩
  |.al=>⟨λk B C=>OE.rec .no (λz A=>Bool.rec .no ((Wb P n ops l (x::g)).run k z A) ((z7r P ops (x::g)).run z A)) ((Rt P n ops x.o).run k B C)⟩
  |.ch =>
   let j:=Oo (λy=>!(Nat.testBit x.m y.i)) g
   ⟨λk B C=>OE.rec .no (λz A=>Bool.rec .no ((Wb P n ops l j).run k z A) ((z7r P ops j).run z A)) ((Rt P n ops x.o).run k B C)⟩
def Yq(n:Nat)(j g:List DOp):Bool:=match P9 g 0 0 with
 |none=>false
 |some s=>match Nat.beq s (Nat.sub (2^n) 1) with
  |false=>false
  |true=>match zrp j 0 with
   |false=>false
   |true=>zi j
def zb2(A:Program)(n:Nat)(ops:Array Oper):SeqF :=
 let z:=Q9 A ops ops.toList [] 0;let g:=Oo Np z;let j:=Xx z g
 match Yq ops.size z j with
 |true=>Wb A n ops j []
 |false=>⟨λ_ _ _=>.no⟩
inductive Ex where
 |normal
 |exit (id:Nat)
 |ret
inductive Res where
 |no
 |ok (x:Ex) (E:Tr AV) (D:List Nat) (H:Heap)
structure CodeF where run:Ry→Nat→Option Nat→Tr AV→List Nat→Heap→Res
def stuckC:CodeF:=⟨λ_ _ _ _ _ _=>.no⟩
def om(f:Tr AV→List Nat→Heap→Res):Nat→Tr AV→List Nat→Heap→Res
 |0,_,_,_=>.no
 |m+1,A,B,C=>match f A B C with
  |.no=>.no
  |.ok x g j z=>match x with
   |.normal=>om f m g j z
   |x=>.ok x g j z
def zgs(f n:Nat)(j:Array Tmp)(assign body:Code)(z:Option Nat)(A:Tr AV)(B:List Nat)(g:Heap):Option (Nat×List Nat×Heap) :=
 match z with
 |none=>some (Nat.add g.next 1,g.next::B,(g.push (.defd true)).push (.loop .ready none f n A j assign body g.next))
 |some l=>match g.get l with
  |some (.loop _ _ _ _ _ _ _ _ d)=>some (g.next,B,g.push (.loop .ready none f n A j assign body d))
  |_=>none
def exOf:Code→Option Ex
 |.ret=>some .ret
 |.exit id=>some (.exit id)
 |_=>none
def zp7(l:Nat)(z:Heap):Option (Option Code×Heap):=match z.get l with
 |some (.loop st g f n A j a b d)=>match st with
  |.busy=>none
  |_=>some (g,z.put l (.loop .exhausted g f n A j a b d))
 |_=>none
def Qt(P:Program)(f n:Nat):Code→CodeF
 |.skip=>⟨λ_ _ _ j A B=>.ok .normal j A B⟩
 |.region _ ops draw =>
  let s:=match draw with
   |true=>zb2 P n ops
   |false=>wu P n ops ops.toList
  ⟨λk _ _ j A B=>match s.run k j B with
   |.no=>.no
   |.ok D z=>.ok .normal D A z⟩
 |.seq a b=>⟨λk m g j A B=>Res.rec .no (λx D C z=>Ex.rec ((Qt P f n b).run k m g D C z) (λid=>.ok (.exit id) D C z) (.ok .ret D C z) x)
   ((Qt P f n a).run k m g j A B)⟩
 |.cond c a b=>⟨λk m g j A B=>match (N6 c).run j with
  |some (.bool t)=>match t with
   |true=>(Qt P f n a).run k m g j A B
   |false=>(Qt P f n b).run k m g j A B
  |_=>.no⟩
 |.block id c=>⟨λk m g j A B=>match (Qt P f n c).run k m g j A B with
  |.no=>.no
  |.ok x D C z=>match x with
   |.exit E=>match Nat.beq E id with
    |true=>.ok .normal D C z
    |false=>.ok (.exit E) D C z
   |x=>.ok x D C z⟩
 |.loop c=>⟨λk m g j A B=>om ((Qt P f n c).run k m g) m j A B⟩
 |.rangeFunc H I a b=>⟨λk _ g j A B=>match (N6 H).run j with
  |none=>.no
  |some gv=>match zgs f n I a b g j A B with
   |none=>.no
   |some (l,C,z)=>match wm P gv [.fn (.yield l) [] []] with
    |.call (.fn H) F=>match k (.fn H) F z with
     |.no=>.no
     |.ok _ K=>match zp7 l K with
      |none=>.no
      |some (none,G)=>.ok .normal j C G
      |some (some c,G)=>match exOf c with
       |none=>.no
       |some x=>.ok x j C G
    |_=>.no⟩
 |.exit id=>⟨λ_ _ _ j A B=>.ok (.exit id) j A B⟩
 |.scope c=>⟨λk m g j A B=>(Qt P f n c).run k m g j A B⟩
 |.label _=>⟨λ_ _ _ j A B=>.ok .normal j A B⟩
 |.ret=>⟨λ_ _ _ j A B=>.ok .ret j A B⟩
 |_=>stuckC
structure ResF where run:Tr AV→Heap→Option AV
def resF(z:Program)(r:ResultVar):ResF :=
 match r with
 |.tmp t=>⟨λg _=>(N6 (.tmp t)).run g⟩
 |.cell a t=>match To z t,Px z t with
  |some true,some n=>⟨λg j=>match (N6 (.tmp a)).run g with
   |some (.ptr o v i)=>match Rs j o v i n with
    |some l=>some (.agg l)
    |none=>none
   |_=>none⟩
  |some false,some _=>⟨λg j=>match (N6 (.tmp a)).run g with
   |some (.ptr o v i)=>match Rs j o v i 1 with
    |some [c]=>some c
    |_=>none
   |_=>none⟩
  |_,_=>⟨λ_ _=>none⟩
structure RessF where run:Tr AV→Heap→Option (List AV)
def zri(g:Program):List ResultVar→RessF
 |[]=>⟨λ_ _=>some []⟩
 |r::l=>⟨λj z=>match (resF g r).run j z with
  |none=>none
  |some a=>match (zri g l).run j z with
   |none=>none
   |some b=>some (a::b)⟩
def zas:List Nat→Heap→Option Heap
 |[],g=>some g
 |d::l,g=>match g.get d with
  |some (.defd true)=>zas l (g.put d (.defd false))
  |_=>none
structure FunF where run:Ry→Nat→List AV→Heap→RV
def zhr(A:Program)(f:Nat):FunF :=
 match A.funcs[f]? with
 |none=>⟨λ_ _ _ _=>.no⟩
 |some fn=>match fn.body with
  |none=>⟨λ_ _ _ _=>.no⟩
  |some j=>if fn.ntmps≤Q1 then
   ⟨λk m g C=>match Nat.ble g.length fn.ntmps with
    |false=>.no
    |true=>match (Qt A f fn.ntmps j).run k m none (Sa g 0 .e) [] C with
     |.no=>.no
     |.ok x D E B=>match x with
      |.exit _=>.no
      |_=>match zas E B with
       |none=>.no
       |some z=>match (zri A fn.results.toList).run D z with
        |some [v]=>.ok v z
        |some l=>.ok (.tup l) z
        |none=>.no⟩
   else ⟨λ_ _ _ _=>.no⟩
def W4:List Tmp→List AV→Nat→Tr AV→Option (Tr AV)
 |[],[],_,g=>some g
 |p::j,a::as,n,g=>match Nat.blt p n with
  |true=>W4 j as n (Pg a (Nz p) g)
  |false=>none
 |_,_,_,_=>none
def zxj(l:Nat)(z:Heap):Option Heap:=match z.get l with
 |some (.loop .ready g f n A j a b d)=>some (z.put l (.loop .busy g f n A j a b d))
 |_=>none
def zk4(l:Nat)(x:Ex)(j:Heap):RV:=match j.get l with
 |some (.loop _ _ f n z g a b d)=>match x with
  |.normal=>.ok (.bool true) (j.put l (.loop .ready none f n z g a b d))
  |.ret=>.ok (.bool false) (j.put l (.loop .done (some .ret) f n z g a b d))
  |.exit id=>.ok (.bool false) (j.put l (.loop .done (some (.exit id)) f n z g a b d))
 |_=>.no
def S8(P:Program)(O:Ry):Nat→Ry
 |0=>λ_ _ _=>.no
 |m+1=>λt g z=>match t with
  |.fn f=>match O (.fn f) g z with
   |.ok v A=>.ok v A
   |.no=>(zhr P f).run (S8 P O m) m g z
  |.yield l=>match z.get l with
   |some (.loop .ready none f n G B a b _)=>match W4 B.toList g n G with
    |none=>.no
    |some C=>match (Qt P f n a).run (S8 P O m) m (some l) C [] z with
     |.ok .normal D [] E=>match zxj l E with
      |none=>.no
      |some j=>match (Qt P f n b).run (S8 P O m) m (some l) D [] j with
       |.no=>.no
       |.ok x _ H F=>match H with
        |[]=>zk4 l x F
        |_=>.no
     |_=>.no
   |_=>.no
end
variable{G vT:Heap}{I:AV}{T vC:Tr AV}{X:List AV}
section
open Go.RowKit (Below)
section tries
variable {α : Type}
def ee(p:List Bool):Nc p (Tr.e:Tr α)=none:=by
 cases p with
 |nil=>rfl
 |cons b p=>cases b<;>rfl
def zja(p:List Bool)(v:Option α)(l r:Tr α):Nc (true::p) (.n v l r)=Nc p l:=rfl
def zjv(p:List Bool)(v:Option α)(l r:Tr α):Nc (false::p) (.n v l r)=Nc p r:=rfl
def zn1(a:α):Pg a [] .e=.n (some a) .e .e:=rfl
def zos(a:α)(p:List Bool):Pg a (true::p) .e=.n none (Pg a p .e) .e:=rfl
def zoa(a:α)(p:List Bool):Pg a (false::p) .e=.n none .e (Pg a p .e):=rfl
def zw9(a:α)(p:List Bool)(v:Option α)(l r:Tr α):Pg a (true::p) (.n v l r)=.n v (Pg a p l) r:=rfl
def zw5(a:α)(p:List Bool)(v:Option α)(l r:Tr α):Pg a (false::p) (.n v l r)=.n v l (Pg a p r):=rfl
def z3i(a:α):∀(p:List Bool) (t:Tr α),Nc p (Pg a p t)=some a
 |[],.e=>rfl
 |[],.n _ _ _=>rfl
 |true::p,.e=>by rw[zos,zja];exact z3i a p _
 |false::p,.e=>by rw[zoa,zjv];exact z3i a p _
 |true::p,.n v l r=>by rw[zw9,zja];exact z3i a p _
 |false::p,.n v l r=>by rw[zw5,zjv];exact z3i a p _
def z73(a:α):∀(p q:List Bool) (t:Tr α),p≠q→Nc q (Pg a p t)=Nc q t
 |[],[],_,h=>absurd rfl h
 |[],true::q,.e,_=>by rw[zn1,zja,ee,ee]
 |[],false::q,.e,_=>by rw[zn1,zjv,ee,ee]
 |[],true::q,.n _ _ _,_=>rfl
 |[],false::q,.n _ _ _,_=>rfl
 |true::p,[],.e,_=>rfl
 |false::p,[],.e,_=>rfl
 |true::p,[],.n _ _ _,_=>rfl
 |false::p,[],.n _ _ _,_=>rfl
 |true::p,true::q,.e,h=>by rw[zos,zja,z73 a p q _ (λe=>h Ez),ee,ee]
 |true::p,false::q,.e,_=>by rw[zos,zjv,ee,ee]
 |false::p,true::q,.e,_=>by rw[zoa,zja,ee,ee]
 |false::p,false::q,.e,h=>by rw[zoa,zjv,z73 a p q _ (λe=>h Ez),ee,ee]
 |true::p,true::q,.n _ l _,h=>by rw[zw9,zja,zja];exact z73 a p q l (λe=>h Ez)
 |true::p,false::q,.n _ _ _,_=>rfl
 |false::p,true::q,.n _ _ _,_=>rfl
 |false::p,false::q,.n _ _ r,h=>by rw[zw5,zjv,zjv];exact z73 a p q r (λe=>h Ez)
def pathF_inj:∀(f j g k:Nat),g<f→k<j→zum f g=zum j k→g=k
 |0,_,g,k,B,_,_=>J
 |_,0,g,k,_,C,_=>J
 |f+1,j+1,0,0,_,_,_=>rfl
 |f+1,j+1,0,k+1,_,_,h=>by simp[zum]at h
 |f+1,j+1,g+1,0,_,_,h=>by simp[zum]at h
 |f+1,j+1,g+1,k+1,B,C,h=>by
  simp only[zum,List.cons.injEq]at h;obtain⟨z,A⟩:=h;have D:Nat.div g 2=g/2:=rfl;have E:Nat.div k 2=k/2:=rfl;have F:Nat.mod g 2=g%2:=rfl;have G:Nat.mod k 2=k%2:=rfl;rw[D,E]at A;rw[F,G]at z;have:=pathF_inj f j (g/2) (k/2) J J A;have q:∀x:Nat,Nat.beq x 0=true↔x=0:=λx=>by cases x<;>simp[Nat.beq]
  have H:(g%2=0↔k%2=0):=by
   rw[←q,←q,z]
  omega
def zyq{k:Nat}(h:Nz g=Nz k):g=k :=
 pathF_inj _ _ g k (Jl _) (Jl _) h
def zla{k:Nat}(a:α)(t:Tr α) :
  Nc (Nz k) (Pg a (Nz g) t)=if k=g then some a else Nc (Nz k) t:=by
 by_cases h:k=g
 ·subst h;rw[H7 rfl];exact z3i a _ t
 ·rw[Hx h];exact z73 a _ _ t (λe=>h (zyq e.symm))
def zce(g:Nat)(a:α)(t:Tr α):Nc (Nz g) (Pg a (Nz g) t)=some a:=z3i a _ t
def z6b{k:Nat}(h:k≠g)(a:α)(t:Tr α) :
  Nc (Nz k) (Pg a (Nz g) t)=Nc (Nz k) t:=by rw[zla,Hx h]
def get_ofList:∀(l:List α) (i:Nat) (t:Tr α) (k:Nat),
  Nc (Nz k) (Sa l i t)=if i≤k∧k<i+l.length then l[k-i]? else Nc (Nz k) t
 |[],i,t,k=>by simp only[Sa,Ix];rw[Hx J]
 |a::l,i,t,k=>by
  simp only[Ig];rw[Sa,get_ofList l (i+1) _ k];by_cases g:i+1≤k∧k<i+1+l.length
  ·rw[H7 g,H7 J];have:k-i=(k-(i+1))+1:=J
   rw[this,Io]
  ·rw[Hx g,zla];by_cases j:k=i
   ·subst j;rw[H7 rfl,H7 J];simp
   ·rw[Hx j,Hx J]
end tries
def xl{c:Tr AV}:∀{n i:Nat} {l:List AV},Tl c i n=some l→l.length=n∧∀g,g<n→Nc (Nz (i+g)) c=l[g]?
 |0,i,l,h=>by
  simp only[Tl,Option.some.injEq]at h;subst h;exact⟨rfl,λg j=>J⟩
 |n+1,i,l,h=>by
  simp only[Tl]at h;split at h
  ·cases h
  ·rename_i a z;split at h
   ·cases h
   ·rename_i r A;cases h;obtain⟨B,C⟩:=xl A;refine⟨Ao,λg j=>?_⟩;cases g with
    |zero=>simpa using z
    |succ g=>have:=C g J;rw[Io,←this];congr 2;omega
structure Loc where
 b:Nat
 d:Nat
 n:Nat
 sz:Nat
structure CM where
 f:Nat→Nat→Option Loc
 nx:Nat
instance:CoeFun CM (λ_=>Nat→Nat→Option Loc):=⟨CM.f⟩
def CM.keep(gg C:CM):Prop:=∀o v L,gg o v=some L→C o v=some L
structure CM.le (C C':CM):Prop where
 keep:C.keep C'
 nx:C.nx≤C'.nx
 new:∀o v L,C' o v=some L→(∃v' L',C o v'=some L')∨C.nx≤o
def CM.le_refl(C:CM):C.le C:=⟨λ_ _ _ h=>h,Ia _,λ_ v L h=>.inl ⟨v,L,h⟩⟩
def CM.le_trans{A B C:CM}(h:A.le B)(k:B.le C):A.le C:=by
 refine⟨λo v L e=>k.keep o v L (h.keep o v L e),Ja h.nx k.nx,λo v L e=>?_⟩;rcases k.new o v L e with ⟨v',L',e'⟩|e'
 ·exact h.new o v' L' e'
 ·exact .inr (Ja h.nx e')
inductive FR (C:CM):Fn→Fn→Prop where
 |same (f:Fn) (h:∀l,f≠.yield l):FR C f f
 |yield {l:Nat} {L:Loc} (h:C l 0=some L):FR C (.yield l) (.yield L.b)
def FR.mono{C C':CM}(h:C.keep C'){f g:Fn}:FR C f g→FR C' f g
 |.same f hf=>.same f hf
 |.yield e=>.yield (h _ _ _ e)
def AV.one:AV→Bool
 |.agg _=>false
 |.tup _=>false
 |_=>true
mutual
inductive VR (C:CM):AV→Value→Prop where
 |bool (b:Bool):VR C (.bool b) (.bool b)
 |int (k:IntKind) (n:Int):VR C (.int k n) (.int k n)
 |str {len n:Nat} {s:ByteArray} (h1:s.data.toList.length=len) (h2:Po s.data.toList=n):VR C (.str len n) (.string s)
 |nilPtr:VR C .nilPtr (.pointer none)
 |ptr {o v i:Nat} {L:Loc} (h:C o v=some L):VR C (.ptr o v i) (.pointer (some ⟨L.b,L.d+i,none⟩))
 |nilSl:VR C .nilSl (.slice none 0 0)
 |sl {o v i len esz:Nat} {room:Option Nat} {L:Loc} {cap:Nat} (h:C o v=some L) (h1:i+len*esz≤L.n) (h2:L.d+i+cap*esz≤L.sz) (h3:len≤cap)
   (h4:∀r,room=some r→cap=r∧i+r*esz≤L.n) (h5:room=none→L.d+i+cap*esz=L.sz) :
   VR C (.sl o v i len esz room) (.slice (some ⟨L.b,L.d+i,none⟩) len cap)
 |emp {a:Addr} {cap:Nat}:VR C .emp (.slice (some a) 0 cap)
 |nilMap:VR C .nilMap (.map none)
 |map {o:Nat} {L:Loc} (h:C o 0=some L):VR C (.map o) (.map (some L.b))
 |nilFn:VR C .nilFn .nilFunc
 |fn {f g:Fn} {l r:List AV} {l' r':Array Value} (h:FR C f g) (hl:VRs C l l'.toList) (hr:VRs C r r'.toList):VR C (.fn f l r) (.func g l' r')
 |nilIf:VR C .nilIf .nilIface
 |iface {t:TypeId} {a:AV} {v:Value} (h:VR C a v):VR C (.iface t a) (.iface t v)
 |agg {l:List AV} {vs:Array Value} (h:VRs C l vs.toList) (h1:∀a∈l,a.one=true):VR C (.agg l) (.agg vs)
 |tup {l:List AV} {vs:Array Value} (h:VRs C l vs.toList):VR C (.tup l) (.tuple vs)
inductive VRs (C:CM):List AV→List Value→Prop where
 |nil:VRs C [] []
 |cons {a:AV} {v:Value} {l:List AV} {r:List Value} (h:VR C a v) (hs:VRs C l r):VRs C (a::l) (v::r)
end
mutual
def VR.mono'{gg C:CM}(h:gg.keep C):∀{a:AV} {v:Value},VR gg a v→VR C a v
 |_,_,.bool b=>.bool b
 |_,_,.int k n=>.int k n
 |_,_,.str h1 h2=>.str h1 h2
 |_,_,.nilPtr=>.nilPtr
 |_,_,.ptr e=>.ptr (h _ _ _ e)
 |_,_,.nilSl=>.nilSl
 |_,_,.sl e h1 h2 h3 h4 h5=>.sl (h _ _ _ e) h1 h2 h3 h4 h5
 |_,_,.emp=>.emp
 |_,_,.nilMap=>.nilMap
 |_,_,.map e=>.map (h _ _ _ e)
 |_,_,.nilFn=>.nilFn
 |_,_,.fn hf hl hr=>.fn (hf.mono h) (VRs.mono' h hl) (VRs.mono' h hr)
 |_,_,.nilIf=>.nilIf
 |_,_,.iface e=>.iface (VR.mono' h e)
 |_,_,.agg e h1=>.agg (VRs.mono' h e) h1
 |_,_,.tup e=>.tup (VRs.mono' h e)
def VRs.mono'{gg C:CM}(h:gg.keep C):∀{l:List AV} {r:List Value},VRs gg l r→VRs C l r
 |_,_,.nil=>.nil
 |_,_,.cons e es=>.cons (VR.mono' h e) (VRs.mono' h es)
end
def VR.mono{C C':CM}(h:C.le C'){a:AV}{v:Value}(k:VR C a v):VR C' a v:=k.mono' h.keep
def VRs.mono{C C':CM}(h:C.le C'){a:List AV}{v:List Value}(k:VRs C a v):VRs C' a v:=k.mono' h.keep
def VRs.length{C:CM}:∀{l:List AV} {r:List Value},VRs C l r→l.length=r.length
 |_,_,.nil=>rfl
 |_,_,.cons _ es=>by simp[VRs.length es]
def VRs.get{C:CM}:∀{l:List AV} {r:List Value},VRs C l r→∀{i:Nat} {a:AV},l[i]?=some a→∃v,r[i]?=some v∧VR C a v
 |_,_,.nil,i,a,h=>Bq
 |_,_,.cons e es,0,a,h=>Ed
 |_,_,.cons e es,i+1,a,h=>by simp only[Io]at h ⊢;exact VRs.get es h
def VRs.mk{gg:CM}:∀{l:List AV} {r:List Value},l.length=r.length→(∀(i:Nat) (a:AV),l[i]?=some a→∃v,r[i]?=some v∧VR gg a v)→VRs gg l r
 |[],[],_,_=>.nil
 |[],_::_,h,_=>Bq
 |_::_,[],h,_=>Bq
 |a::l,v::r,h,k=>by
  obtain⟨v',hv,C⟩:=k 0 a rfl;simp only[Is,Option.some.injEq]at hv;subst hv;exact .cons C (VRs.mk Ax (λi a hi=>by have:=k (i+1) a Do;simpa using this))
def VRs.append{C:CM}:∀{l:List AV} {r:List Value} {l':List AV} {r':List Value},VRs C l r→VRs C l' r'→VRs C (l++l') (r++r')
 |_,_,_,_,.nil,k=>k
 |_,_,_,_,.cons e es,k=>.cons e (VRs.append es k)
def VRs.drop{C:CM}:∀{l:List AV} {r:List Value},VRs C l r→∀n,VRs C (l.drop n) (r.drop n)
 |_,_,h,0=>h
 |_,_,.nil,_+1=>.nil
 |_,_,.cons _ es,n+1=>VRs.drop es n
def VRs.take{C:CM}:∀{l:List AV} {r:List Value},VRs C l r→∀n,VRs C (l.take n) (r.take n)
 |_,_,_,0=>.nil
 |_,_,.nil,_+1=>.nil
 |_,_,.cons e es,n+1=>.cons e (VRs.take es n)
def VR.one{C:CM}{a:AV}{v:Value}(h:VR C a v):v.oneCell'=a.one:=by cases h<;>rfl
def zs2{C:CM}{v:Value}{a:AV}(h:zr v=some a):VR C a v∧a.one=true:=by
 unfold zr at h;split at h<;>first
  |(cases h;done)
  |(cases h;exact⟨by constructor<;>rfl,rfl⟩)
  |(cases h;exact⟨by constructor,rfl⟩)
def jw{C:CM}:∀{l:List Value} {r:List AV},Vk l=some r→VRs C r l∧∀a∈r,a.one=true
 |[],r,h=>by cases h;exact⟨.nil,N⟩
 |v::l,r,h=>by
  simp only[Vk]at h;split at h
  ·cases h
  ·rename_i a g;split at h
   ·cases h
   ·rename_i E j;cases h;obtain⟨z,A⟩:=jw (C:=C) j;obtain⟨B,D⟩:=zs2 (C:=C) g;exact⟨.cons B z,by simpa using ⟨D,A⟩⟩
def zjw{C:CM}{v:Value}{a:AV}(h:Yp v=some a):VR C a v:=by
 unfold Yp at h;split at h
 ·rename_i j;cases g:Vk j.toList with
  |none=>simp[g]at h
  |some r =>
   simp only[g,J7,Option.some.injEq]at h;subst h;obtain⟨z,A⟩:=jw (C:=C) g;exact .agg z A
 ·rename_i B;split at h
  ·rename_i D;cases h;have:B=#[]:=Kt D;subst this;exact .tup .nil
  ·cases h
 ·exact (zs2 h).1
def VR.cells{C:CM}{a:AV}{v:Value}(h:VR C a v){l:List AV}(hl:a.cells=some l):VRs C l v.cells.toList∧∀x∈l,x.one=true:=by
 cases h with
 |agg h h1=>simp only[AV.cells,Option.some.injEq]at hl;subst hl;exact⟨by simpa [Value.cells] using h,h1⟩
 |tup h=>simp[AV.cells]at hl
 |_=>simp only[AV.cells,Option.some.injEq]at hl;subst hl;exact⟨by simp only[Value.cells];exact .cons (by constructor<;>assumption) .nil,by simp[AV.one]⟩
def mr(C:CM)(c:Tr AV)(len:Nat)(g:Array Value)(d:Nat):Prop :=
 ∀i,i<len→∃a,Nc (Nz i) c=some a∧a.one=true∧∃v,g[d+i]?=some v∧VR C a v
inductive MR (C:CM):List (AV×AV×Nat)→List MapEntry→Prop where
 |nil:MR C [] []
 |cons {k v:AV} {b:Nat} {e:MapEntry} {l:List (AV×AV×Nat)} {r:List MapEntry} (hk:VR C k e.key) (hv:VR C v e.val) (hb:e.born=b) (h:MR C l r):MR C ((k,v,b)::l) (e::r)
def OVR(g:CM)(a:Option AV)(v:Value):Prop:=match a with
 |some a=>VR g a v
 |none=>v=undef
def ER(n:Nat)(j:CM)(E:Tr AV)(g:Array Value):Prop :=
 g.size=n∧n≤Q1∧∀t,t≤Q1→OVR j (Nc (Nz t) E) (g.getD t undef)
def Qr(E:Nat)(A:CM)(w:World)(o:Nat):AObj→Prop
 |.cells c len B I=>∀g,A o B=some g→g.n=len∧(I=false→E≤g.b)∧g.d+len≤g.sz∧∃C e F hi,w.heap[g.b]?=some (.cells C e (F,hi))∧g.sz≤C.size ∧
   (∀i,g.d≤i→i<g.sz→¬(F≤i∧i<hi))∧mr A c len C g.d
 |.map K L=>∀g,A o 0=some g→E≤g.b∧∃j:Array MapEntry,w.heap[g.b]?=some (.map j L)∧MR A K j.toList
 |.iter len n D=>∀g,A o 0=some g→E≤g.b∧g.d=0∧∃s:ByteArray,w.heap[g.b]?=some (.stringIter s D)∧s.data.toList.length=len∧Po s.data.toList=n
 |.loop st z f n O M a b d=>∀g,A o 0=some g→E≤g.b∧∃G H,A d 0=some H∧w.heap[g.b]?=some (.loop { state:=st,pending:=z,fn:=f,tmps:=G,params:=M,assign:=a,body:=b,defers:=H.b })∧ER n A O G
 |.defd op=>∀g,A o 0=some g→E≤g.b∧w.heap[g.b]?=some (.deferred (if op then some [] else none))
structure Rel (w0:World) (C:CM) (H:Heap) (w:World):Prop where
 nx:C.nx=H.next
 low:Below w0.heap.size w0 w
 fresh:∀o v L,C o v=some L→o<H.next
 lt:∀o v L,C o v=some L→L.b<w.heap.size
 excl:∀o v L o' v' L',C o v=some L→C o' v'=some L'→L.b=L'.b→w0.heap.size≤L.b→o=o'
 obj:∀o ob,o<H.next→H.get o=some ob→Qr w0.heap.size C w o ob
 top:∀o c len ver ro,o<H.next→H.get o=some (.cells c len ver ro)→∀v L,C o v=some L→v≤ver
end
variable{M:CM}
section
open Go.RowKit (Below)
def CM.ext(gg:CM)(o v:Nat)(L:Loc):CM:=⟨λC v'=>if C=o∧v'=v then some L else gg C v',max gg.nx (o+1)⟩
def CM.ext_same(C:CM)(o v:Nat)(L:Loc):C.ext o v L o v=some L:=by simp[CM.ext]
def CM.ext_ne(C:CM){o v:Nat}(L:Loc)(h:¬(j=o∧vU=v)):C.ext o v L j vU=C j vU:=by simp only[CM.ext];rw[Hx h]
def CM.le_ext{C:CM}{o v:Nat}(L:Loc)(h:C o v=none)(hn:(∃v' L',C o v'=some L')∨C.nx≤o):C.le (C.ext o v L):=by
 refine⟨λo' v' L' h'=>?_,Kr _ _,λo' v' L' h'=>?_⟩
 ·by_cases e:o'=o∧v'=v
  ·obtain⟨rfl,rfl⟩:=e;rw[h]at h';cases h'
  ·rw[CM.ext_ne C L e];exact h'
 ·by_cases e:o'=o∧v'=v
  ·obtain⟨rfl,rfl⟩:=e;exact hn
  ·rw[CM.ext_ne C L e]at h';exact .inl ⟨v',L',h'⟩
def MR.mono'{gg C:CM}(h:gg.keep C):∀{l:List (AV×AV×Nat)} {r:List MapEntry},MR gg l r→MR C l r
 |_,_,.nil=>.nil
 |_,_,.cons hk hv hb hs=>.cons (hk.mono' h) (hv.mono' h) hb (MR.mono' h hs)
def OVR.mono'{gg C:CM}(h:gg.keep C){a:Option AV}{v:Value}(k:OVR gg a v):OVR C a v:=by
 cases a with
 |none=>exact k
 |some a=>exact VR.mono' h k
def ER.mono'{gg C:CM}(h:gg.keep C){n:Nat}{E:Tr AV}{tm:Array Value}(k:ER n gg E tm):ER n C E tm :=
 ⟨k.1,k.2.1,λt ht=>(k.2.2 t ht).mono' h⟩
def mr.mono'{gg C:CM}(h:gg.keep C){c:Tr AV}{len:Nat}{vs:Array Value}{d:Nat}(k:mr gg c len vs d):mr C c len vs d :=
 λi hi=>let ⟨a,h1,h2,v,h3,h4⟩:=k i hi;⟨a,h1,h2,v,h3,h4.mono' h⟩
def MR.mono{C C':CM}(h:C.le C'){l:List (AV×AV×Nat)}{r:List MapEntry}(k:MR C l r):MR C' l r:=k.mono' h.keep
def ER.mono{C C':CM}(h:C.le C'){n:Nat}{E:Tr AV}(k:ER n C E vM):ER n C' E vM:=k.mono' h.keep
def mr.mono{C C':CM}(h:C.le C'){c:Tr AV}{len:Nat}{vs:Array Value}{d:Nat}(k:mr C c len vs d):mr C' c len vs d:=k.mono' h.keep
def Qr.frame'{B:Nat}{gz C':CM}{w:World}{o:Nat}{ob:AObj}(h:Qr B gz w o ob)(hc:gz.keep C')(hn:∀v L,C' o v=some L→gz o v=some L)
  (hb:∀v L,gz o v=some L→vZ.heap[L.b]?=w.heap[L.b]?):Qr B C' vZ o ob:=by
 cases ob with
 |cells c len gA ro =>
  intro L hL;have C:=hn _ _ hL;obtain⟨h1,h2,h3,vs,e,lo,hi,h4,h5,h6,h7⟩:=h L C;exact⟨h1,h2,h3,vs,e,lo,hi,by rw[hb _ _ C];exact h4,h5,h6,h7.mono' hc⟩
 |map es ck =>
  intro L hL;have C:=hn _ _ hL;obtain⟨h1,gg,h2,h3⟩:=h L C;exact⟨h1,gg,Fw,h3.mono' hc⟩
 |iter len n pos =>
  intro L hL;have C:=hn _ _ hL;obtain⟨h1,h0,s,h2,h3⟩:=h L C;exact⟨h1,h0,s,Fw,h3⟩
 |loop st pend f n E ps a b d =>
  intro L hL;have C:=hn _ _ hL;obtain⟨h1,tm,Ld,h2,h3,h4⟩:=h L C;exact⟨h1,tm,Ld,hc _ _ _ h2,by rw[hb _ _ C];exact h3,h4.mono' hc⟩
 |defd op =>
  intro L hL;have C:=hn _ _ hL;obtain⟨h1,h2⟩:=h L C;exact⟨h1,Fw⟩
def Qr.frame{B:Nat}{gg C:CM}{w:World}{o:Nat}{ob:AObj}(h:Qr B gg w o ob)(hc:gg.le C)(hn:∀v L,C o v=some L→gg o v=some L)
  (hb:∀v L,gg o v=some L→vZ.heap[L.b]?=w.heap[L.b]?):Qr B C vZ o ob:=h.frame' hc.keep hn hb
def Heap.get_push_same(H:Heap)(x:AObj):(H.push x).get H.next=some x:=zce _ _ _
def Heap.get_push_ne(H:Heap)(x:AObj){o:Nat}(ho:o<H.next):(H.push x).get o=H.get o :=
 z6b J _ _
def Heap.get_put_same(H:Heap)(o:Nat)(x:AObj):(H.put o x).get o=some x:=zce _ _ _
def Heap.get_put_ne(H:Heap){o:Nat}(x:AObj)(gg:j≠o):(H.put o x).get j=H.get j:=z6b gg _ _
def z7s(w:World)(x:Obj){k:Nat}(h:k<w.heap.size):(w.alloc x).heap[k]?=w.heap[k]?:=Below.heap_alloc w x k h
def vi(w:World)(x:Obj):(w.alloc x).heap[w.heap.size]?=some x:=by
 show (w.heap.push x)[w.heap.size]?=some x;simp
def Rel.next_none{C:CM}{H:Heap}{w:World}(h:Rel vZ C H w)(v:Nat):C H.next v=none:=by
 cases e:C H.next v with
 |none=>rfl
 |some L=>have:=h.fresh _ _ _ e;omega
def Rel.push{w0:World}{gA:CM}{H:Heap}{w:World}(h:Rel w0 gA H w)(ob:AObj)(x:Obj)(n sz:Nat)
  (gC:Qr w0.heap.size (gA.ext H.next 0 ⟨w.heap.size,0,n,sz⟩) (w.alloc x) H.next ob) :
  Rel w0 (gA.ext H.next 0 ⟨w.heap.size,0,n,sz⟩) (H.push ob) (w.alloc x)∧gA.le (gA.ext H.next 0 ⟨w.heap.size,0,n,sz⟩):=by
 have hle:gA.le (gA.ext H.next 0 ⟨w.heap.size,0,n,sz⟩):=CM.le_ext _ (h.next_none 0) (.inr (Lh h.nx));refine⟨⟨by show max gA.nx (H.next+1)=H.next+1;rw[h.nx];exact Nat.max_eq_right (L5 _),h.low.alloc h.low.size x,?_,?_,?_,?_,?_⟩,hle⟩
 ·intro o v L C;show o<H.next+1;by_cases e:o=H.next∧v=0
  ·omega
  ·rw[CM.ext_ne _ _ e]at C;have:=h.fresh _ _ _ C;omega
 ·intro o v L C;rw[World.size_alloc];by_cases e:o=H.next∧v=0
  ·obtain⟨rfl,rfl⟩:=e;rw[CM.ext_same]at C;cases C;exact Jl _
  ·rw[CM.ext_ne _ _ e]at C;have:=h.lt _ _ _ C;omega
 ·intro o v L o' v' L' C gg hb hB;by_cases e:o=H.next∧v=0<;>by_cases e':o'=H.next∧v'=0
  ·omega
  ·obtain⟨rfl,rfl⟩:=e;rw[CM.ext_same]at C;cases C;rw[CM.ext_ne _ _ e']at gg;have:=h.lt _ _ _ gg;dsimp at hb;omega
  ·obtain⟨rfl,rfl⟩:=e';rw[CM.ext_same]at gg;cases gg;rw[CM.ext_ne _ _ e]at C;have:=h.lt _ _ _ C;dsimp at hb;omega
  ·rw[CM.ext_ne _ _ e]at C;rw[CM.ext_ne _ _ e']at gg;exact h.excl _ _ _ _ _ _ C gg hb hB
 ·intro o gD ho hg;by_cases e:o=H.next
  ·subst e;rw[Heap.get_push_same]at hg;cases hg;exact gC
  ·have gz:o<H.next:=Br
   rw[Heap.get_push_ne _ _ gz]at hg;refine (h.obj _ _ gz hg).frame hle (λv L C=>?_) (λv L C=>z7s _ _ (h.lt _ _ _ C))
   rwa [CM.ext_ne _ _ J]at C
 ·intro o c len gE ro ho hg v L C;by_cases e:o=H.next
  ·subst e;by_cases ev:v=0
   ·omega
   ·rw[CM.ext_ne _ _ J]at C;have:=h.fresh _ _ _ C;omega
  ·have gz:o<H.next:=Br
   rw[Heap.get_push_ne _ _ gz]at hg;rw[CM.ext_ne _ _ J]at C;exact h.top _ _ _ _ _ gz hg _ _ C
def Rel.put{w0:World}{gF:CM}{H:Heap}{w w':World}(h:Rel w0 gF H w){o:Nat}(ho:o<H.next)(ob:AObj)(gg:Below w0.heap.size w0 w')
  (gC:w.heap.size≤w'.heap.size) (gD:∀o' v L,o'≠o→gF o' v=some L→w'.heap[L.b]?=w.heap[L.b]?) (gE:Qr w0.heap.size gF w' o ob)
  (gz:∀c len ver ro,ob=.cells c len ver ro→∀v L,gF o v=some L→v≤ver):Rel w0 gF (H.put o ob) w':=by
 refine⟨h.nx,gg,h.fresh,λo v L hL=>I0 (h.lt o v L hL) gC,h.excl,?_,?_⟩
 ·intro o' gG C hg;by_cases e:o'=o
  ·subst e;rw[Heap.get_put_same]at hg;cases hg;exact gE
  ·have gA:o'<H.next:=C;rw[Heap.get_put_ne H ob e]at hg;exact (h.obj _ _ C hg).frame (CM.le_refl gF) (λv L hL=>hL) (λv L hL=>gD _ _ _ e hL)
 ·intro o' c len ver ro C hg v L hL;by_cases e:o'=o
  ·subst e;rw[Heap.get_put_same]at hg;cases hg;exact gz _ _ _ _ rfl v L hL
  ·have gA:o'<H.next:=C;rw[Heap.get_put_ne H ob e]at hg;exact h.top _ _ _ _ _ C hg _ _ hL
def Rel.drew{w0:World}{C:CM}{H:Heap}{w:World}(h:Rel w0 C H w):Rel w0 C H w.drew :=
 ⟨h.nx,h.low.drew,h.fresh,h.lt,h.excl,λo ob ho hg=>(h.obj o ob ho hg).frame (CM.le_refl C) (λ_ _ hL=>hL) (λ_ _ _=>rfl),h.top⟩
def z9v(B:Program)(w:World)(a:Addr):∀(n i:Nat) (g:Array Value) (r:List Value),r.length=n→(∀z,z<n→w.cell? (a.add (i+z))=r[z]?) →
  (loadCellsFrom a i n g).run B w=.ok (g++r.toArray) w
 |0,i,g,r,j,_=>by
  have:r=[]:=Ip j;subst this;simp[loadCellsFrom]
 |n+1,i,g,r,j,h=>by
  cases r with
  |nil=>simp at j
  |cons v r =>
   have A:w.cell? (a.add i)=some v:=by simpa using h 0 J
   simp only[loadCellsFrom,Sem.run_bind,run_load,A,Result.andThen_ok];rw[z9v B w a n (i+1) (g.push v) r Bs (λz C=>by
    have:=h (z+1) J;rw[show i+1+z=i+(z+1) from J,this,Io])]
   simp
def zav(A:Program)(w:World)(a:Addr)(n:Nat)(r:List Value)(j:r.length=n)(h:∀g,g<n→w.cell? (a.add g)=r[g]?) :
  (loadCells a n).run A w=.ok r.toArray w:=by
 unfold loadCells;rw[z9v A w a n 0 #[] r j (λg z=>by rw[Iy];exact h g z)];simp
def zt(b d i g:Nat):(⟨b,d+i,none⟩:Addr).add g=⟨b,d+(i+g),none⟩:=by
 unfold Addr.add;by_cases h:g=0
 ·subst h;simp
 ·rw[Hx h];simp[Kg]
def zkj{w:World}{b i:Nat}{e:TypeId}{g:Nat×Nat}(h:w.heap[b]?=some (.cells vM e g)):w.cell? ⟨b,i,none⟩=vM[i]?:=by
 simp[World.cell?,h]
def Rel.read{C:CM}{H:Heap}{w:World}(h:Rel vZ C H w)(P:Program){o v i n:Nat}{l:List AV}(hr:Rs H o v i n=some l){L:Loc}(hL:C o v=some L) :
  ∃vs:List Value,(loadCells ⟨L.b,L.d+i,none⟩ n).run P w=.ok vs.toArray w∧VRs C l vs∧(∀a∈l,a.one=true)∧l.length=n∧i+n≤L.n ∧
   (∀j,j<n→w.cell? ⟨L.b,L.d+(i+j),none⟩=vs[j]?):=by
 unfold Rs at hr;split at hr
 ·rename_i c len gF ro hg;split at hr
  ·rename_i hv;have gA:=Ie hv;subst gA;split at hr
   ·rename_i hle;have gE:i+n≤len:=Ih hle;have gC:=h.obj o _ (h.fresh _ _ _ hL) hg;obtain⟨h1,_,h3,vs,e,lo,hi,h4,h5,h6,h7⟩:=gC L hL;obtain⟨k1,k2⟩:=xl hr;have hex:∀j,j<n→∃a,l[j]?=some a∧a.one=true∧∃x,vs[L.d+(i+j)]?=some x∧VR C a x:=by
     intro j hj;obtain⟨a,q1,q2,x,q3,q4⟩:=h7 (i+j) J;exact⟨a,by rw[←k2 j hj];exact q1,q2,x,q3,q4⟩
    have gG:L.d+(i+n)≤vs.size:=J
    let r:List Value:=(List.range n).map λj=>vs.getD (L.d+(i+j)) undef
    have gD:r.length=n:=by simp[r]
    have gg:∀j,j<n→vs[L.d+(i+j)]?=r[j]?:=by
     intro j hj;simp only[r,Jw,List.getElem?_range hj,J7];rw[J2 J,I9,J2 J];rfl
    refine⟨r,?_,?_,?_,k1,J,?_⟩
    ·exact zav P w _ n r gD (λj hj=>by rw[zt,zkj h4];exact gg j hj)
    ·refine VRs.mk J (λj a hj=>?_);have gz:j<n:=by have:=(Hu.1 hj).1;omega
     obtain⟨a',q1,_,x,q3,q4⟩:=hex j gz;rw[hj]at q1;cases q1;exact⟨x,by rw[←gg j gz];exact q3,q4⟩
    ·intro a ha;obtain⟨j,hj,rfl⟩:=List.getElem_of_mem ha;obtain⟨a',q1,q2,_⟩:=hex j J;rw[H6 hj]at q1;cases q1;exact q2
    ·intro j hj;rw[zkj h4];exact gg j hj
   ·cases hr
  ·cases hr
 ·cases hr
def z9c(O:Program)(a:Addr):∀(r:List Value) (i:Nat) (w:World) (A:Array Value) (e:TypeId) (B hi:Nat),a.spot=none→w.heap[a.block]?=some (.cells A e (B,hi)) →
  (∀v∈r,v.oneCell'=true)→a.off+i+r.length≤A.size→(∀z,a.off+i≤z→z<a.off+i+r.length→¬(B≤z∧z<hi)) →
  ∃w' j,(storeCells a r i).run O w=.ok () w'∧w'.heap[a.block]?=some (.cells j e (B,hi))∧j.size=A.size∧(∀k,k≠a.block→w'.heap[k]?=w.heap[k]?) ∧
   w'.heap.size=w.heap.size∧w'.os=w.os∧w'.tape=w.tape∧w'.output=w.output∧(∀z,j[z]?=if a.off+i≤z∧z<a.off+i+r.length then r[z-(a.off+i)]? else A[z]?)
 |[],i,w,A,e,B,hi,_,E,_,_,_=>by
  refine⟨w,A,rfl,E,rfl,λ_ _=>rfl,rfl,rfl,rfl,rfl,λz=>?_⟩;rw[Hx N]
 |v::r,i,w,A,e,B,hi,P,E,hv,H,I=>by
  simp only[Ig]at H I;have g:a.add i=⟨a.block,a.off+i,none⟩:=by
   unfold Addr.add;by_cases h:i=0
   ·subst h;simp;cases a;simp_all
   ·rw[Hx h]
  have C : w.cell? (a.add i) = some (A[a.off + i]' J) := by
   rw[g,zkj E,J2]
  have K:w.frozen? (a.add i)=false:=by
   rw[g];simp only[World.frozen?,E];have:=I (a.off+i) J J;simp only[Mf,I4];omega
  have F:(store (a.add i) v).run O w=.ok () (w.setCell (a.add i) v):=by
   rw[run_store O w _ v .plain (hv v N),C];simp[K]
  have G:(w.setCell (a.add i) v).heap[a.block]?=some (.cells (A.setIfInBounds (a.off+i) v) e (B,hi)):=by
   rw[g];simp only[World.setCell,Array.getElem?_modify,Jo,E,J7];simp
  obtain⟨w',j,Q,R,T,U,V,X,Y,Z,h9⟩:=z9c O a r (i+1) (w.setCell (a.add i) v) _ e B hi P G (λx hx=>hv x (by simp[hx]))
   (by rw[Array.size_setIfInBounds];omega) (λz L D=>I z J J)
  refine⟨w',j,?_,R,by rw[T,Array.size_setIfInBounds],?_,?_,X,Y,Z,?_⟩
  ·simp only[storeCells,Sem.run_bind,F,Result.andThen_ok];exact Q
  ·intro k M;rw[U k M];exact Below.heap_setCell w (a.add i) v k (by rw[g];exact M)
  ·rw[V,World.size_setCell]
  ·intro z;rw[h9 z];by_cases L:a.off+(i+1)≤z∧z<a.off+(i+1)+r.length
   ·rw[H7 L,H7 Dt];have:z-(a.off+i)=(z-(a.off+(i+1)))+1:=J
    rw[this,Io]
   ·rw[Hx L,Array.getElem?_setIfInBounds];by_cases D:a.off+i=z
    ·subst D;rw[H7 rfl,H7 J,H7 Dt];simp
    ·rw[Hx D,Hx Dt]
def VRs.get'{C:CM}{l:List AV}{r:List Value}(h:VRs C l r){i:Nat}(hi:i<l.length):∃a v,l[i]?=some a∧r[i]?=some v∧VR C a v:=by
 obtain⟨v,h1,h2⟩:=h.get (H6 hi);exact⟨_,v,H6 hi,h1,h2⟩
def VRs.one{C:CM}:∀{l:List AV} {r:List Value},VRs C l r→(∀a∈l,a.one=true)→∀v∈r,v.oneCell'=true
 |_,_,.nil,_,v,hv=>by simp at hv
 |_,_,.cons e es,h,v,hv=>by
  rcases If.1 hv with rfl|hv
  ·rw[e.one];exact h _ N
  ·exact VRs.one es (λa ha=>h a (by simp[ha])) v hv
def mr.lay{C:CM}{c:Tr AV}{len:Nat}{gg:Array Value}{d i:Nat}{l:List AV}{r:List Value}(h:mr C c len vM d)(hv:VRs C l r)(h1:∀a∈l,a.one=true)
  (hi:i≤len) (_hle:i+l.length≤j) (gC:j≤len∨j=i+l.length)
  (gA:∀gD,gg[gD]?=if d+i≤gD∧gD<d+i+r.length then r[gD-(d+i)]? else vM[gD]?):mr C (Sa l i c) j gg d:=by
 intro k hk;rw[get_ofList l i c k];have hlen:=hv.length;rw[gA];by_cases gz:i≤k∧k<i+l.length
 ·rw[H7 gz,H7 J];obtain⟨a,v,q1,q2,q3⟩:=hv.get' (i:=k-i) J;refine⟨a,q1,h1 a (Iq q1),v,?_,q3⟩;rw[show d+k-(d+i)=k-i from J];exact q2
 ·rw[Hx gz,Hx J];exact h k J
def Rel.write{C:CM}{H:Heap}{w:World}(h:Rel vZ C H w)(P:Program){o v i:Nat}{l:List AV}(hw:Xe H o v i l=some vT){L:Loc}(hL:C o v=some L)
  {r:List Value} (hr:VRs C l r) (h1:∀a∈l,a.one=true):∃w',(storeCells ⟨L.b,L.d+i,none⟩ r).run P w=.ok () w'∧Rel vZ C vT w':=by
 unfold Xe at hw;split at hw
 ·rename_i c len gH hg;split at hw
  ·rename_i hv;have gz:=Ie hv;subst gz;split at hw
   ·rename_i hle;have gg:i+l.length≤len:=Ih hle;cases hw;have ho:=h.fresh _ _ _ hL;have gA:=h.obj o _ ho hg;obtain⟨q1,q2,q3,vs,e,lo,hi,q4,q5,q6,q7⟩:=gA L hL;have gI:=hr.length;obtain⟨w',gC,k1,k2,k3,k4,k5,k6,k7,k8,k9⟩:=z9c P ⟨L.b,L.d+i,none⟩ r 0 w vs e lo hi rfl q4 (hr.one h1) B0 (λgK hj gD=>by dsimp at hj gD;exact q6 gK J J);refine⟨w',k1,h.put ho _ ?_ J ?_ ?_ ?_⟩
    ·exact h.low.trans ⟨k6,k7,k8,J,λk hk=>k4 k (by dsimp;have:=q2 rfl;omega)⟩
    ·intro o' v' L' gE j;refine k4 _ (λe'=>gE ?_);exact (h.excl _ _ _ _ _ _ hL j e'.symm (q2 rfl)).symm
    ·intro L' j;rw[hL]at j;cases j;refine⟨q1,q2,q3,gC,e,lo,hi,k2,J,q6,q7.lay hr h1 J gg (.inl (Ia _)) (λgK=>?_)⟩;rw[k9 gK];rfl
    ·intro c' gF gG gL he v' L' j;cases he;exact h.top _ _ _ _ _ ho hg _ _ j
   ·cases hw
  ·cases hw
 ·cases hw
def Rel.newRow{C:CM}{H:Heap}{w:World}(h:Rel vZ C H w){l:List AV}{o:Nat}(hn:newObj H l=some (o,vT))(e:TypeId)(fz:Nat×Nat){vs:Array Value}
  (hle:l.length≤vs.size) (hv:VRs C l (vs.toList.take l.length)) (h1:∀a∈l,a.one=true) (gz:∀i,i<vs.size→¬(fz.1≤i∧i<fz.2)) :
  ∃C',C.le C'∧Rel vZ C' vT (w.alloc (.cells vs e fz))∧C' o 0=some ⟨w.heap.size,0,l.length,vs.size⟩:=by
 unfold Sv.newObj at hn;cases hn;have gg:C.le (C.ext H.next 0 ⟨w.heap.size,0,l.length,vs.size⟩):=CM.le_ext _ (h.next_none 0) (.inr (Lh h.nx));refine⟨C.ext H.next 0 ⟨w.heap.size,0,l.length,vs.size⟩,gg,(h.push _ _ l.length vs.size ?_).1,CM.ext_same _ _ _ _⟩;intro L hL;rw[CM.ext_same]at hL;cases hL;refine⟨rfl,λ_=>h.low.size,B0,vs,e,fz.1,fz.2,vi _ _,Ia _,λi _ hi=>gz i hi,?_⟩;intro k hk;rw[get_ofList l 0 .e k,H7 J];obtain⟨a,v,q1,q2,q3⟩:=hv.get' (i:=k) hk;refine⟨a,by simpa using q1,h1 a (Iq q1),v,?_,q3.mono gg⟩;rw[Ju hk]at q2;simpa using q2
end
section
open Go.RowKit (Below)
section sem
variable {P : Program} {w : World}
def O2{t:TypeId}{d:TypeDesc}(h:P.underlying t=some d):(underlying t).run P w=.ok d w:=by
 simp[underlying,h]
def xj{t:TypeId}{i:TypeInfo}(h:P.info? t=some i):(typeInfo t).run P w=.ok i w:=by
 simp[typeInfo,h]
def Tg{t:TypeId}{n:Nat}(h:Px P t=some n):(sizeOf t).run P w=.ok n w:=by
 unfold Px at h;cases hi:P.info? t with
 |none=>simp[hi]at h
 |some i=>simp only[hi,J7,Option.some.injEq]at h;simp[sizeOf,xj hi,h]
def za2{t:TypeId}{b:Bool}(h:To P t=some b):(isAgg t).run P w=.ok b w:=by
 unfold To at h;cases hu:P.underlying t with
 |none=>simp[hu]at h
 |some d=>cases d<;>simp[hu]at h<;>subst h<;>simp[isAgg,O2 hu]
def z6r{t:TypeId}{l:List AV}(h:Th P t=some l):∃v i,(zeroValue t).run P w=.ok v w∧Vk v.cells.toList=some l∧P.info? t=some i∧l.length=i.size:=by
 unfold Th at h;cases hi:P.info? t with
 |none=>simp[hi]at h
 |some i =>
  simp only[hi]at h;cases g:i.zero with
  |none=>simp[g]at h
  |some v =>
   simp only[g]at h;cases j:Vk v.cells.toList with
   |none=>simp[j]at h
   |some r =>
    simp only[j]at h;split at h
    ·cases h;rename_i z;exact⟨v,i,E7,j,rfl,z⟩
    ·cases h
def zqx{t:TypeId}{a:AV}(h:zv2 P t=some a):∃v,(zeroValue t).run P w=.ok v w∧Yp v=some a:=by
 unfold zv2 at h;cases hi:P.info? t with
 |none=>simp[hi]at h
 |some i =>
  simp only[hi]at h;cases g:i.zero with
  |none=>simp[g]at h
  |some v=>simp only[g]at h;exact⟨v,E7,h⟩
end sem
def zsa(g:CM)(j:Tr AV)(z:Operand→Value):Prop:=∀x a,(N6 x).run j=some a→VR g a (z x)
def zaj{n:Nat}{E:Tr AV}{a:Act}(h:ER n M E a.tmps):zsa M E a.eval:=by
 intro x A g;cases x with
 |tmp t =>
  unfold N6 at g;dsimp only at g;split at g
  ·rename_i j;have:=h.2.2 t (Ih j);dsimp only at g;show VR M A (a.tmps.getD t undef);cases z:Nc (Nz t) E with
   |none=>rw[z]at g this;cases g;rw[show a.tmps.getD t undef=undef from this];exact .tup .nil
   |some b=>rw[z]at g this;cases g;exact this
  ·cases g
 |const v =>
  unfold N6 at g;dsimp only at g;split at g
  ·rename_i b j;cases g;exact zjw j
  ·cases g
 |global B=>cases g
 |func f=>cases g;exact .fn (.same _ (λl e=>Ar)) .nil .nil
def z83{B:CM}{C:Tr AV}{D:Operand→Value}(h:zsa B C D):∀{j:List Operand} {l:List AV},(opds j).run C=some l→VRs B l (j.map D)
 |[],l,g=>by cases g;exact .nil
 |x::j,l,g=>by
  unfold opds at g;dsimp only at g;split at g
  ·cases g
  ·rename_i a z;split at g
   ·cases g
   ·rename_i r A;cases g;exact .cons (h _ _ z) (z83 h A)
def vp(P:Program)(A:World)(C:CM)(w:World)(z:Sem Next)(v:AV)(B:Heap):Prop :=
 ∃g j x,C.le g∧Rel A g B j∧VR g v x∧(z.run P w=.ok (.value x) j∨(z.run P w=.ok .skip j∧x=undef))
def CallOk(P:Program)(A:CM)(w:World)(z:Sem Next)(t:Tgt)(g:List AV):Prop :=
 ∃j:List Value,VRs A g j∧((∃f,t=.fn f∧z.run P w=.ok (.enter f j.toArray) w)∨(∃l B,t=.yield l∧A l 0=some B∧z.run P w=(Instr.yield B.b j.toArray).run P w))
def R0(P:Program)(z:World)(C:CM)(w:World)(j:Sem Next):OR→Prop
 |.no=>True
 |.val v A=>vp P z C w j v A
 |.call t g=>CallOk P C w j t g
def Oi(P:Program)(f:OpF)(nx:(Operand→Value)→Sem Next):Prop :=
 ∀g j z w A B,Rel g j z w→zsa j A B→R0 P g j w (nx B) (f.run A z)
def O0(P:Program)(nx:(Operand→Value)→Sem Next):Oi P Om nx:=λ_ _ _ _ _ _ _ _=>trivial
def T3{P:Program}{x:Operand}{f:Heap→AV→OR}{nx:(Operand→Value)→Sem Next}
  (h:∀g C j w z a,Rel g C j w→VR C a (z x)→R0 P g C w (nx z) (f j a)):Oi P (Qw x f) nx:=by
 intro g C j w E z A B;show R0 P g C w (nx z) (Option.rec OR.no (λa=>f j a) ((N6 x).run E));cases D:(N6 x).run E with
 |none=>exact trivial
 |some a=>exact h _ _ _ _ _ _ A (B _ _ D)
def mq{P:Program}{x y:Operand}{f:Heap→AV→AV→OR}{nx:(Operand→Value)→Sem Next}
  (h:∀g C A w j a b,Rel g C A w→VR C a (j x)→VR C b (j y)→R0 P g C w (nx j) (f A a b)):Oi P (Ui x y f) nx:=by
 intro g C A w B j D z;show R0 P g C w (nx j) (Option.rec OR.no (λa=>Option.rec OR.no (λb=>f A a b) ((N6 y).run B)) ((N6 x).run B));cases E:(N6 x).run B with
 |none=>exact trivial
 |some a =>
  cases F:(N6 y).run B with
  |none=>exact trivial
  |some b=>exact h _ _ _ _ _ _ _ D (z _ _ E) (z _ _ F)
def Qo{P:Program}{C:CM}{w:World}{nx:Sem Next}{v:AV}{x:Value}(j:Rel K C G w)(hv:VR C v x)(g:nx.run P w=.ok (.value x) w) :
  vp P K C w nx v G:=⟨C,w,x,CM.le_refl C,j,hv,.inl g⟩
def znv(P:Program)(x:Operand):Oi P (Qw x λj a=>.val a j) (λz=>pure (.value (z x))) :=
 T3 λ_ _ _ _ _ _ g hv=>Qo g hv rfl
def zy2(P:Program)(c a b:Operand):Oi P (Ow P (.pick c a b)) (λB=>do pure (.value (if ←asBool (B c) then B a else B b))):=by
 intro E I H w C B D z;show R0 P E I w _ (match (N6 c).run C with
  |some (.bool true)=>ret1 H ((N6 a).run C)
  |some (.bool false)=>ret1 H ((N6 b).run C)
  |_=>.no)
 split
 ·rename_i A;have g:=z _ _ A;cases F:(N6 a).run C with
  |none=>exact trivial
  |some v =>
   have hv:=z _ _ F;refine Qo D hv ?_;cases j:B c<;>rw[j]at g<;>cases g;simp[asBool,j]
 ·rename_i A;have g:=z _ _ A;cases G:(N6 b).run C with
  |none=>exact trivial
  |some v =>
   have hv:=z _ _ G;refine Qo D hv ?_;cases j:B c<;>rw[j]at g<;>cases g;simp[asBool,j]
 ·exact trivial
def zsd{P:Program}{C:CM}{w:World}(F:Rel K C G w)(t:TypeId){l:List AV}(hv:VRs C l vM.toList)(H:∀a∈l,a.one=true)
  {E:Sem Next} (j:E.run P w=.ok (.value (.pointer (some ⟨w.heap.size,0,none⟩))) (w.alloc (.cells vM t))):R0 P K C w E (Yh G l):=by
 unfold Yh;cases I:newObj G l with
 |none=>exact trivial
 |some r =>
  obtain⟨o,M⟩:=r;have g:l.length=vM.toList.length:=hv.length;have z:l.length=vM.size:=Be
  obtain⟨L,A,B,D⟩:=F.newRow I t (0,0) (vs:=vM) J (by rw[g,K7];exact hv) H N;exact⟨L,_,_,A,B,by simpa using VR.ptr (i:=0) D,.inl j⟩
def zv0(P:Program)(t:TypeId):Oi P (Ow P (.alloc t)) (λ_=>do pure (.value (←Instr.alloc t true (.tuple #[])))):=by
 intro g G j w H M z I;show R0 P g G w _ (OpF.run (match Th P t with
  |some l=>⟨λ_ j=>Yh j l⟩
  |none=>Om) H j)
 cases A:Th P t with
 |none=>exact trivial
 |some l =>
  obtain⟨v,i,B,D,K,L⟩:=z6r (w:=w) A;obtain⟨E,F⟩:=jw (C:=G) D;refine zsd z t E F ?_;simp[Instr.alloc,B,newVar,newRow]
def il(P:Program)(t:TypeId)(x:Operand):Oi P (Ow P (.box t x)) (λB=>do pure (.value (←Instr.box t (B x)))):=by
 refine T3 λC D E w B a g hv=>?_
 cases j:a.cells with
 |none=>exact trivial
 |some l =>
  obtain⟨z,A⟩:=hv.cells j;exact zsd g t z A (by simp[Instr.box,newVar,newRow])
def zy4(P:Program)(t:TypeId)(x:Operand):Oi P (zto P t x) (λE=>do pure (.value (←Instr.loadAt t (E x)))):=by
 unfold zto;split
 ·rename_i n z F;refine T3 λI Q R w E a g hv=>?_
  split
  ·rename_i o v i;split
   ·rename_i l A;generalize K:E x=L at hv;cases hv with
    |ptr B =>
     obtain⟨C,G,D,H,M,_⟩:=g.read P A B;refine Qo g (.agg (vs:=C.toArray) F0 H) ?_;simp[Instr.loadAt,Instr.sureAddr,loadVar,za2 z,Tg F,G]
   ·exact trivial
  ·exact trivial
 ·rename_i n z F;refine T3 λI Q R w E a g hv=>?_
  split
  ·rename_i o v i;split
   ·rename_i c A;generalize K:E x=L at hv;cases hv with
    |ptr B =>
     obtain⟨C,G,D,H,M,T,O⟩:=g.read P A B;have j:=O 0 J
     match C,D with
     |[u],.cons hu .nil =>
      refine Qo g hu ?_;simp only[Kl,Is]at j;simp[Instr.loadAt,Instr.sureAddr,loadVar,za2 z,j]
   ·exact trivial
  ·exact trivial
 ·exact O0 P _
def ztz(P:Program)(t:TypeId)(x y:Operand):Oi P (zqy P t x y) (λj=>do Instr.storeAt t (j x) (j y);pure .skip):=by
 unfold zqy;split
 ·rename_i n A;refine mq λM L T w j a b B hv C=>?_
  split
  ·rename_i o v i;split
   ·rename_i l D;split
    ·rename_i E;split
     ·rename_i O hw;generalize Q:j x=R at hv;cases hv with
      |ptr F =>
       obtain⟨z,G⟩:=C.cells D;obtain⟨H,I,K⟩:=B.write P hw F z G;refine⟨L,H,undef,CM.le_refl L,K,.tup .nil,.inr ⟨?_,rfl⟩⟩;have g:(j y).cells.size=n:=by have:=z.length;have:=Ie E;simp at *;omega
       simp[Instr.storeAt,Instr.sureAddr,storeVar,Tg A,g,I]
     ·exact trivial
    ·exact trivial
   ·exact trivial
  ·exact trivial
 ·exact O0 P _
def zms(P:Program)(x:Operand)(o:Oper)(ho:o.op=.nilCheck x):Oi P (Qw x z85) (λB=>execOp B o):=by
 refine T3 λD E F w B a z hv=>?_
 unfold z85;split
 ·generalize j:B x=A at hv;have g:=hv;cases hv with
  |ptr C=>exact Qo z g D4
 ·generalize j:B x=A at hv;have g:=hv;cases hv with
  |iface h=>exact Qo z g D4
 ·generalize j:B x=A at hv;have g:=hv;cases hv with
  |fn h=>cases h with
   |same=>exact Qo z g D4
 ·generalize j:B x=A at hv;have g:=hv;cases hv with
  |map C=>exact Qo z g D4
 ·exact trivial
end
section
open Go.RowKit (Below)
def z8o{k g:IntKind}(h:ap k g=true):k=g:=by
 cases k<;>cases g<;>first|rfl|(exact absurd h Ac)
def z8w(a b:Int):eq a b=(a==b):=by
 cases a<;>cases b
 ·rename_i x y;show Nat.beq x y=_;rw[Jx];simp[Nat.beq_eq];omega
 ·show false=_;symm;rw[beq_eq_false_iff_ne];intro h;cases h
 ·show false=_;symm;rw[beq_eq_false_iff_ne];intro h;cases h
 ·rename_i x y;show Nat.beq x y=_;rw[Jx];simp[Nat.beq_eq]
def Tb{a b:Nat}:Nat.blt a b=decide (a<b):=by
 rw[Jx];simp[Nat.blt,Nat.ble_eq];omega
def z7t(a b:Int):ltI a b=decide (a<b):=by
 cases a<;>cases b
 ·rename_i x y;show Nat.blt x y=_;rw[Tb,decide_eq_decide];simp
 ·rename_i x y;show false=_;symm;rw[I4];have:=Int.negSucc_lt_zero y;simp;omega
 ·rename_i x y;show true=_;symm;rw[decide_eq_true_iff];have:=Int.negSucc_lt_zero x;simp;omega
 ·rename_i x y;show Nat.blt y x=_;rw[Tb,decide_eq_decide];omega
def z97(k:IntKind):2^k.bits=Wj k:=by cases k<;>rfl
def mw(k:IntKind)(n:Int):V8 k n=k.wrap n:=by
 cases n with
 |negSucc m=>rfl
 |ofNat m =>
  unfold V8;dsimp only;split
  ·rename_i h;have g:m<Zi k:=by rw[Tb]at h;simpa using h
   cases k<;>simp only[Zi]at g<;>simp only[IntKind.wrap,IntKind.bits,IntKind.signed]<;>simp<;>omega
  ·rfl
def zwk(b:Int):ug b=true↔b=0:=by
 cases b with
 |ofNat n=>simp[ug,Nat.beq_eq]
 |negSucc n=>simp[ug]
section bits
variable {k : IntKind} {x y : Nat}
def z6y(w x:Nat):BitVec.ofInt w (Int.ofNat x)=BitVec.ofNat w x:=by
 show BitVec.ofInt w ((x:Nat):Int)=_;exact BitVec.ofInt_natCast w x
def qr(g:x<Wj k)(j:y<Wj k):(BitVec.ofInt k.bits (Int.ofNat x) &&& BitVec.ofInt k.bits (Int.ofNat y)).toNat=Nat.land x y:=by
 rw[←z97]at g j;rw[z6y,z6y,BitVec.toNat_and,Ln,Ln,Iv g,Iv j];rfl
def y6(g:x<Wj k)(j:y<Wj k):(BitVec.ofInt k.bits (Int.ofNat x) ||| BitVec.ofInt k.bits (Int.ofNat y)).toNat=Nat.lor x y:=by
 rw[←z97]at g j;rw[z6y,z6y,BitVec.toNat_or,Ln,Ln,Iv g,Iv j];rfl
def sg(g:x<Wj k)(j:y<Wj k):(BitVec.ofInt k.bits (Int.ofNat x) ^^^ BitVec.ofInt k.bits (Int.ofNat y)).toNat=Nat.xor x y:=by
 rw[←z97]at g j;rw[z6y,z6y,BitVec.toNat_xor,Ln,Ln,Iv g,Iv j];rfl
def zv1(g:x<Wj k)(_hy:y<Wj k) :
  (BitVec.ofInt k.bits (Int.ofNat x) &&& ~~~(BitVec.ofInt k.bits (Int.ofNat y))).toNat=Nat.xor x (Nat.land x y):=by
 rw[←z97]at g;rw[z6y,z6y];apply Nat.eq_of_testBit_eq;intro i;rw[BitVec.testBit_toNat,BitVec.getLsbD_and,BitVec.getLsbD_not,BitVec.getLsbD_ofNat,BitVec.getLsbD_ofNat];show _=(x ^^^ (x &&& y)).testBit i;rw[Nat.testBit_xor,Nat.testBit_and];by_cases hi:i<k.bits
 ·simp only[hi,decide_true,Lw];cases x.testBit i<;>cases y.testBit i<;>rfl
 ·have:x.testBit i=false:=Nat.testBit_lt_two_pow (I0 g (Kj J J));simp[this,hi]
end bits
def zka(a b:Nat):Qy a b=min a b:=by
 unfold Qy;split
 ·rename_i h;have:=Ih h;omega
 ·rename_i h;have:¬a≤b:=λg=>by rw[Ib g]at h;cases h
  omega
def zd5{P:Program}{w:World}{f:Nat→Nat→Nat}{op:BinOp}{k:IntKind}{a b:Int}{v:AV}(h:m7 f k a b=some v)
  (z:∀x y:Nat,x<Wj k→y<Wj k→(Op.intBits op k (Int.ofNat x) (Int.ofNat y)).run P w=.ok (.int k (k.wrap (Int.ofNat (f x y)))) w) :
  ∃n,v=.int k n∧(Op.intBits op k a b).run P w=.ok (.int k n) w:=by
 unfold m7 at h;split at h
 ·rename_i x y;split at h
  ·rename_i g;split at h
   ·rename_i j;cases h;rw[Tb]at g j;exact⟨_,rfl,by rw[z x y Be Bs,mw]⟩
   ·cases h
  ·cases h
 ·cases h
def zxw(P:Program)(w:World){op:BinOp}{k:IntKind}{a b:Int}{v:AV}(t:TypeId)(h:zv5 op k a b=some v) :
  ∃x,(binOp op t (.int k a) (.int k b)).run P w=.ok x w∧∀g,VR g v x:=by
 cases op<;>simp only[zv5]at h
 case add=>cases h;exact⟨_,D9,λg=>De⟩
 case sub=>cases h;exact⟨_,D9,λg=>De⟩
 case mul=>cases h;exact⟨_,D9,λg=>De⟩
 case quo =>
  split at h
  ·cases h
  ·rename_i B;cases h;have C:b≠0:=λe=>by rw[(zwk b).2 e]at B;cases B
   exact⟨.int k (k.wrap (a.tdiv b)),by simp[binOp,Op.intDiv,C],λg=>De⟩
 case rem =>
  split at h
  ·cases h
  ·rename_i B;cases h;have C:b≠0:=λe=>by rw[(zwk b).2 e]at B;cases B
   exact⟨.int k (a.tmod b),by simp[binOp,Op.intDiv,C],λg=>.int k _⟩
 case and =>
  obtain⟨n,rfl,j⟩:=zd5 (P:=P) (w:=w) (op:=.and) h (λx y z A=>by simp only[Op.intBits,qr z A];rfl);exact⟨_,Dd,λg=>.int k n⟩
 case or =>
  obtain⟨n,rfl,j⟩:=zd5 (P:=P) (w:=w) (op:=.or) h (λx y z A=>by simp only[Op.intBits,y6 z A];rfl);exact⟨_,Dd,λg=>.int k n⟩
 case xor =>
  obtain⟨n,rfl,j⟩:=zd5 (P:=P) (w:=w) (op:=.xor) h (λx y z A=>by simp only[Op.intBits,sg z A];rfl);exact⟨_,Dd,λg=>.int k n⟩
 case andNot =>
  obtain⟨n,rfl,j⟩:=zd5 (P:=P) (w:=w) (op:=.andNot) h (λx y z A=>by simp only[Op.intBits,zv1 z A];rfl);exact⟨_,Dd,λg=>.int k n⟩
 case eql=>cases h;exact⟨_,Ep,λg=>by rw[z8w];exact .bool _⟩
 case neq=>cases h;exact⟨.bool (a != b),Fv,λg=>by rw[z8w];exact .bool _⟩
 case lss=>cases h;exact⟨_,Ep,λg=>by rw[z7t];exact .bool _⟩
 case gtr=>cases h;exact⟨_,Ep,λg=>by rw[z7t];exact .bool _⟩
 case leq =>
  cases h;refine⟨.bool (decide (a≤b)),Fv,λg=>?_⟩;rw[z7t,show (!decide (b<a))=decide (a≤b) from by rw[Jx];simp];exact .bool _
 case geq =>
  cases h;refine⟨.bool (decide (a ≥ b)),Fv,λg=>?_⟩;rw[z7t,show (!decide (a<b))=decide (a ≥ b) from by rw[Jx];simp];exact .bool _
 all_goals cases h
def zjh(A:Program)(w:World){op:BinOp}(g:op=.shl∨op=.shr){k j:IntKind}{a b:Int}{v:AV}(t:TypeId)(h:zq8 op k a b=some v) :
  ∃x,(binOp op t (.int k a) (.int j b)).run A w=.ok x w∧∀z,VR z v x:=by
 unfold zq8 at h;split at h
 ·rename_i x y;rcases g with rfl|rfl
  ·simp only[Option.some.injEq]at h;subst h;refine⟨.int k (k.wrap (Int.ofNat x*2^(min y k.bits))),?_,λz=>?_⟩
   ·have:¬((Int.ofNat y)<0):=N
    simp only[binOp,Op.shift];rw[Hx this];rfl
   ·rw[mw,zka];have:Int.ofNat (x.mul (Nat.pow 2 (min y k.bits)))=Int.ofNat x*2^(min y k.bits):=by
     show ((x*2^(min y k.bits):Nat):Int)=_;simp
    rw[this];exact .int k _
  ·simp only[Option.some.injEq]at h;subst h;refine⟨.int k ((Int.ofNat x).fdiv (2^(min y k.bits))),?_,λz=>?_⟩
   ·have:¬((Int.ofNat y)<0):=N
    simp only[binOp,Op.shift];rw[Hx this];rfl
   ·rw[zka];have:Int.ofNat (x.div (Nat.pow 2 (min y k.bits)))=(Int.ofNat x).fdiv (2^(min y k.bits)):=by
     show ((x/2^(min y k.bits):Nat):Int)=((x:Nat):Int).fdiv (2^(min y k.bits));have e:((2:Int)^(min y k.bits))=((2^(min y k.bits):Nat):Int):=N
     rw[e,Int.fdiv_eq_ediv_of_nonneg _ (Jq _)];rfl
    rw[this];exact .int k _
 ·cases h
end
section
open Go.RowKit (Below)
def packL_append:∀a b:List UInt8,Po (a++b)=Po a+Po b*256^a.length
 |[],b=>by simp[Po]
 |x::a,b=>by
  simp only[I6,Po,packL_append a b,Ig,Iz];rw[Lk,Kg,Jt (256^a.length) 256,M4 256]
def packL_inj:∀{a b:List UInt8},a.length=b.length→Po a=Po b→a=b
 |[],[],_,_=>rfl
 |[],_::_,h,_=>Bq
 |_::_,[],h,_=>Bq
 |x::a,y::b,h,k=>by
  simp only[Po]at k;have z:=x.toNat_lt;have A:=y.toNat_lt;have g:x.toNat=y.toNat:=J
  have j:Po a=Po b:=J
  rw[packL_inj Ax j,UInt8.toNat_inj.1 g]
def packL_drop:∀(i:Nat) (l:List UInt8),Po (l.drop i)=Po l/256^i
 |0,l=>N
 |i+1,[]=>by simp[Po]
 |i+1,b::l=>by
  rw[List.drop_succ_cons,packL_drop i l];have g:=b.toNat_lt;simp only[Po,Iz];rw[Jt (256^i) 256,←K3]
  congr 1
  omega
def packL_take:∀(i:Nat) (l:List UInt8),Po (l.take i)=Po l%256^i
 |0,l=>by simp[Po,Nat.mod_one]
 |i+1,[]=>by simp[Po]
 |i+1,b::l=>by
  rw[List.take_succ_cons];simp only[Po];rw[packL_take i l,Iz,Jt (256^i) 256];have g:=b.toNat_lt;rw[Nat.mod_mul,Nat.add_mul_mod_self_left,Iv g,Nat.add_mul_div_left _ _ J,K6 g,Iy]
def zjz{l:List UInt8}{i:Nat}{b:UInt8}(h:l[i]?=some b):Po l/256^i%256=b.toNat:=by
 rw[←packL_drop];have hi:=(Hu.1 h).1;rw[Jr hi,Po,(Hu.1 h).2];have g:=b.toNat_lt;omega
def unpack_pack:∀l:List UInt8,Xn l.length (Po l)=l.map (·.toNat)
 |[]=>rfl
 |b::l=>by
  have z:=b.toNat_lt;simp only[Ig,Xn,Po,Kk];have g:Nat.mod (b.toNat+256*Po l) 256=b.toNat:=by show (b.toNat+256*Po l)%256=_;omega
  have j:Nat.div (b.toNat+256*Po l) 256=Po l:=by show (b.toNat+256*Po l)/256=_;omega
  rw[g,j,unpack_pack l]
def less_spec:∀a b:List UInt8,Op.bytesLess a b=xh (a.map (·.toNat)) (b.map (·.toNat))
 |_,[]=>by simp[Op.bytesLess,xh]
 |[],_::_=>by simp[Op.bytesLess,xh]
 |x::a,y::b=>by
  simp only[Op.bytesLess,xh,Kk,less_spec a b,Tb];have g:decide (x<y)=decide (x.toNat<y.toNat):=by rw[decide_eq_decide];exact UInt8.lt_iff_toNat_lt
  have j:(x==y)=Nat.beq x.toNat y.toNat:=by
   rw[Jx];simp[Nat.beq_eq,UInt8.toNat_inj]
  rw[g,j]
def zgy{a b:ByteArray}:(a.toList==b.toList)=(Nat.beq a.data.toList.length b.data.toList.length&&Nat.beq (Po a.data.toList) (Po b.data.toList)):=by
 rw[ByteArray.toList_eq,ByteArray.toList_eq,Jx];simp only[Ls,Hy,Nat.beq_eq];exact⟨λh=>by rw[h];exact⟨rfl,rfl⟩,λ⟨g,j⟩=>packL_inj g j⟩
def zyp{a b:ByteArray}:Op.bytesLess a.toList b.toList=xh (Xn a.data.toList.length (Po a.data.toList)) (Xn b.data.toList.length (Po b.data.toList)):=by
 rw[ByteArray.toList_eq,ByteArray.toList_eq,less_spec,unpack_pack,unpack_pack]
def zki(a b:ByteArray):(a++b).data.toList=a.data.toList++b.data.toList:=by
 simp
def zxo(D:Program)(w:World){op:BinOp}{x y:ByteArray}{v:AV}(t:TypeId)
  (h:zyu op x.data.toList.length (Po x.data.toList) y.data.toList.length (Po y.data.toList)=some v) :
  ∃u,(binOp op t (.string x) (.string y)).run D w=.ok u w∧∀z,VR z v u:=by
 have A:binOp op t (.string x) (.string y)=Op.stringOp op x y∨op=.shl∨op=.shr:=by cases op<;>simp[binOp]
 rcases A with A|rfl|rfl
 ·rw[A];have he:=zgy (a:=x) (b:=y);have j:=zyp (a:=x) (b:=y);unfold Op.stringOp;cases op<;>simp only[zyu]at h
  case add =>
   split at h
   ·rename_i B;cases h;have g:=Ih B;have C:x.size+y.size≤Q1:=g;refine⟨.string (x++y),?_,λz=>.str ?_ ?_⟩
    ·dsimp only;rw[Hx]
     ·rfl
     ·simp only[IntKind.max,IntKind.signed,IntKind.bits,Jo];unfold Q1 at C;omega
    ·rw[zki,H9];rfl
    ·rw[zki,packL_append];rfl
   ·cases h
  case eql=>cases h;exact⟨_,rfl,λz=>by rw[←he];exact .bool _⟩
  case neq=>cases h;exact⟨_,rfl,λz=>by rw[←he];exact .bool _⟩
  case lss=>cases h;exact⟨_,rfl,λz=>by rw[←j];exact .bool _⟩
  case leq=>cases h;exact⟨_,rfl,λz=>by rw[←j,←he];exact .bool _⟩
  case gtr=>cases h;exact⟨_,rfl,λz=>by rw[←j,←he];exact .bool _⟩
  case geq=>cases h;exact⟨_,rfl,λz=>by rw[←j];exact .bool _⟩
  all_goals cases h
 ·simp[zyu]at h
 ·simp[zyu]at h
end
section
open Go.RowKit (Below)
def jh{l r:List AV}{n:Nat}(h:fk l g n=some r)(hv:VRs M l vM.toList)(z:∀a∈l,a.one=true) :
  VRs M r (vM.extract g (g+n)).toList∧(∀a∈r,a.one=true)∧r.length=n:=by
 unfold fk at h;split at h
 ·rename_i A;have j:=Ih A;cases h;have e:(vM.extract g (g+n)).toList=(vM.toList.drop g).take n:=by
   rw[Array.toList_extract,List.extract_eq_take_drop,Nat.add_sub_cancel_left]
  refine⟨by rw[e];exact (hv.drop g).take n,λa B=>z a (List.mem_of_mem_drop (Mj B)),?_⟩;have C:g+n≤l.length:=j;simp;omega
 ·cases h
def zha{w:World}{t:TypeId}{n:Nat}(A:To C t=some R)(B:Px C t=some n){l:List AV}{a:AV}(h:ny R n l g=some a)
  (hv:VRs M l vM.toList) (D:∀a∈l,a.one=true):∃v,(part t vM g).run C w=.ok v w∧VR M a v:=by
 unfold ny at h;cases R with
 |true =>
  simp only at h;cases j:fk l g n with
  |none=>rw[j]at h;cases h
  |some r =>
   rw[j]at h;cases h;obtain⟨E,F,_⟩:=jh j hv D;exact⟨_,by simp[part,za2 A,Tg B],.agg E F⟩
 |false =>
  simp only at h;obtain⟨v,G,H⟩:=hv.get h;have z:vM[g]?=some v:=B1
  exact⟨v,by simp[part,za2 A,z],H⟩
def zdq{w:World}{t:TypeId}{l:List AV}{a:AV}(h:zxv C t l g=some a)
  (hv:VRs M l vM.toList) (j:∀a∈l,a.one=true):∃v,(part t vM g).run C w=.ok v w∧VR M a v:=by
 unfold zxv at h;split at h
 ·rename_i B n z A;exact zha z A h hv j
 ·cases h
def zj9{t:TypeId}{g:Array Field}(h:C.underlying t=some (.struct g)):C.fieldsOf t=g:=by simp[Program.fieldsOf,h]
def zeo(d:Nat)(t:TypeId)(n:Nat)(g j:Array Value):List Nat→Sem Bool
 |[]=>pure true
 |i::l=>do
  let a ←part t g (i*n);let b ←part t j (i*n);let r ←Op.equalIn d t a b
  if (!r)=true then pure false else zeo d t n g j l
def zh0(w:World)(d:Nat){t e:TypeId}{n s:Nat}(g j:Array Value)(D:C.underlying t=some (.array n e))(E:Px C e=some s) :
  (Op.equalIn (d+1) t (.agg g) (.agg j)).run C w=(zeo d e s g j (List.range n)).run C w:=by
 simp only[Op.equalIn,Sem.run_bind,O2 D,Result.andThen_ok,Tg E,Std.Legacy.Range.forIn_eq_forIn_range'];have:List.range' 0 n=List.range n:=List.range_eq_range'.symm;simp only[Std.Legacy.Range.size,Nat.sub_zero,Nat.add_sub_cancel,Nat.div_one,this];generalize List.range n=l
 induction l generalizing w with
 |nil=>simp[zeo]
 |cons i l F =>
  simp only[List.forIn_cons,zeo,Sem.run_bind,Sem.run_ite];generalize (part e g (i*s)).run C w=G;cases G with
  |ok a z =>
   simp only[Result.andThen_ok];generalize (part e j (i*s)).run C z=H;cases H with
   |ok b A =>
    simp only[Result.andThen_ok];generalize (Op.equalIn d e a b).run C A=I;cases I with
    |ok r B =>
     cases r
     ·simp only[Result.andThen_ok,Bool.not_false,Jo,Sem.run_pure]
     ·simp only[Result.andThen_ok,Bool.not_true,Ks,Lp,Sem.run_pure];exact F B
    |halt x B=>simp[Result.andThen]
   |halt x A=>simp[Result.andThen]
  |halt x z=>simp[Result.andThen]
def zls{Q:Program}{w:World}{P:CM}{d:Nat}{f:TypeId→AV→AV→Option Bool}
  (A:∀t a b r x y,f t a b=some r→VR P a x→VR P b y→(Op.equalIn d t x y).run Q w=.ok r w)
  {B C:List AV} {H I:Array Value} (D:VRs P B H.toList) (j:∀a∈B,a.one=true) (E:VRs P C I.toList) (z:∀a∈C,a.one=true) :
  ∀{F:List Field} {r:Bool},sv Q f B C F=some r→(Op.eqFields d H I F).run Q w=.ok r w
 |[],r,h=>B5
 |fd::F,r,h=>by
  unfold sv at h;split at h
  ·rename_i G
   have g : fd.name ≠ "_" := B1
   split at h
   ·rename_i a b R T;obtain⟨u,K,L⟩:=zdq (w:=w) R D j;obtain⟨v,M,O⟩:=zdq (w:=w) T E z;split at h
    ·rename_i he;have:=A _ _ _ _ _ _ he L O;simp only[Op.eqFields,H7 g,Sem.run_bind,K,M,this,Result.andThen_ok];simpa using zls A D j E z h
    ·rename_i he;have:=A _ _ _ _ _ _ he L O;cases h;simp only[Op.eqFields,H7 g,Sem.run_bind,K,M,this,Result.andThen_ok];simp
    ·cases h
   ·cases h
  ·rename_i G
   have g : fd.name = "_" := B1
   simp only[Op.eqFields,g,ne_eq,not_true_eq_false,Lp];exact zls A D j E z h
def zql{G:Program}{w:World}{M:CM}{d:Nat}{f:TypeId→AV→AV→Option Bool}{t:TypeId}{n:Nat}
  (B:∀t a b r x y,f t a b=some r→VR M a x→VR M b y→(Op.equalIn d t x y).run G w=.ok r w)
  {C D:List AV} {E F:Array Value} (H:VRs M C E.toList) (g:∀a∈C,a.one=true) (I:VRs M D F.toList) (j:∀a∈D,a.one=true) :
  ∀{l:List Nat} {r:Bool},eqEs G f t n C D l=some r→(zeo d t n E F l).run G w=.ok r w
 |[],r,h=>B5
 |i::l,r,h=>by
  unfold eqEs at h;split at h
  ·rename_i a b O P;obtain⟨u,Q,K⟩:=zdq (w:=w) O H g;obtain⟨v,R,L⟩:=zdq (w:=w) P I j;have z:(part t E (i*n)).run G w=.ok u w:=Q;have A:(part t F (i*n)).run G w=.ok v w:=R;split at h
   ·rename_i he;have:=B _ _ _ _ _ _ he K L;simp only[zeo,Sem.run_bind,z,A,this,Result.andThen_ok];simpa using zql B H g I j h
   ·rename_i he;have:=B _ _ _ _ _ _ he K L;cases h;simp only[zeo,Sem.run_bind,z,A,this,Result.andThen_ok];simp
   ·cases h
  ·cases h
set_option maxHeartbeats 1000000 in
def fg{w:World}{d:Nat}{f:TypeId→AV→AV→Option Bool}
  (D:∀t a b r x y,f t a b=some r→VR M a x→VR M b y→(Op.equalIn d t x y).run C w=.ok r w)
  {t:TypeId} {a b:AV} {r:Bool} {x y:Value} (h:sh C f t a b=some r) (g:VR M a x) (j:VR M b y):(Op.equalIn (d+1) t x y).run C w=.ok r w:=by
  unfold sh at h;split at h
  case h_1 hu=>cases h;cases g;cases j;simp[Op.equalIn,O2 hu]
  case h_2 hu =>
   split at h
   ·rename_i E;cases h;cases g;cases j;have:=z8o E;subst this;simp[Op.equalIn,O2 hu,z8w]
   ·cases h
  case h_3 hu =>
   cases h;cases g with
   |str F G =>
    cases j with
    |str H I =>
     subst F G H I;rw[←zgy,←beq_toListBytes];simp[Op.equalIn,O2 hu]
  case h_21 hu =>
   split at h
   ·cases h
   ·rename_i B;cases g with
    |agg g z =>
     cases j with
     |agg j A =>
      rw[run_equalIn_struct w d t _ _ (by rw[zj9 hu];exact hu) (by simpa using B),zj9 hu];exact zls D g z j A h
  case h_22 hu =>
   split at h
   ·rename_i s B;cases g with
    |agg g z =>
     cases j with
     |agg j A =>
      rw[zh0 w d _ _ hu B];exact zql D g z j A h
   ·cases h
  case h_23=>cases h
  all_goals
   rename_i hu;cases h;cases g;cases j;simp[Op.equalIn,O2 hu]
def zwf{z:Program}{w:World}{A:CM}(d:Nat):∀(n:Nat) (t:TypeId) (a b:AV) (r:Bool) (x y:Value),eqT z n t a b=some r→VR A a x→VR A b y →
  (Op.equalIn (d+n) t x y).run z w=.ok r w
 |0,_,_,_,_,_,_,h,_,_=>An
 |n+1,_,_,_,_,_,_,h,g,j=>fg (λt a b r x y=>zwf d n t a b r x y) h g j
end
section
open Go.RowKit (Below)
def zf8{w:World}(op:BinOp)(t:TypeId)(x y:Operand){a b:Value}(g:¬(a=.nilIface∧b=.nilIface))(j:∀c d,¬(a=.agg c∧b=.agg d)) :
  (eqGuard op t x y a b).run C w=.ok () w:=by
 unfold eqGuard;split<;>first
  |rfl
  | (rw [Hx (by decide)]
     split
     ·exact absurd ⟨rfl,rfl⟩ g
     ·exact absurd ⟨rfl,rfl⟩ (j _ _)
     ·rfl)
def zr4{w:World}(op:BinOp)(t:TypeId)(x y:Operand)(k g:IntKind)(a b:Int):(eqGuard op t x y (.int k a) (.int g b)).run C w=.ok () w :=
 zf8 op t x y (λh=>by cases h.1) (λ_ _ h=>by cases h.1)
def znd{w:World}(op:BinOp)(t:TypeId)(x y:Operand){a b:AV}{u v:Value}(hu:VR M a u)(hv:VR M b v)
  (g:zmu C (Yd x || Yd y) t a b=true):(eqGuard op t x y u v).run C w=.ok () w:=by
 by_cases j:u=.nilIface∧v=.nilIface
 ·obtain⟨rfl,rfl⟩:=j;cases hu;cases hv;have A:(Yd x || Yd y)=true:=g;unfold eqGuard;split<;>first
   |rfl
   | (rw [Hx (by decide)]
      dsimp only;rw[H7]
      ·rfl
      ·cases x<;>cases y<;>simp_all [Yd])
 ·by_cases z:∃c d,u=.agg c∧v=.agg d
  ·obtain⟨c,d,rfl,rfl⟩:=z;cases hu;cases hv;exact run_eqGuard_agg w op t x y c d (by simpa [zmu] using g)
  ·exact zf8 op t x y j (λc d h=>z ⟨c,d,h⟩)
def gc{t:TypeId}{a b:AV}{u v:Value}(hu:VR M a u)(hv:VR M b v)(g:∀k x j y,¬(a=.int k x∧b=.int j y))(z:∀l x m y,¬(a=.str l x∧b=.str m y)) :
  binOp .eql t u v=(do pure (.bool (←Op.equal t u v)))∧binOp .neq t u v=(do pure (.bool (!(←Op.equal t u v)))):=by
 cases hu<;>cases hv<;>first
  |exact⟨rfl,rfl⟩
  |exact absurd ⟨rfl,rfl⟩ (g _ _ _ _)
  |exact absurd ⟨rfl,rfl⟩ (z _ _ _ _)
def zvq{w:World}{t:TypeId}{a b:AV}{r:Bool}(h:Sn C R t a b=some r){u v:Value}(hu:VR M a u)(hv:VR M b v) :
  zmu C R t a b=true∧(Op.equal t u v).run C w=.ok r w:=by
 unfold Sn at h;split at h
 ·rename_i g;exact⟨g,zwf 9980 20 t a b r u v h hu hv⟩
 ·cases h
def kf{w:World}{op:BinOp}{t:TypeId}(x y:Operand){a b r:AV}(h:Qe C op (Yd x || Yd y) t a b=some r){u v:Value}(hu:VR M a u)(hv:VR M b v) :
  (eqGuard op t x y u v).run C w=.ok () w∧∃z,(binOp op t u v).run C w=.ok z w∧VR M r z:=by
 unfold Qe at h;split at h
 ·cases hu;cases hv;refine⟨zr4 op t x y _ _ _ _,?_⟩;split at h
  ·obtain⟨z,g,j⟩:=zjh C w (.inl rfl) t h;exact⟨z,g,j M⟩
  ·obtain⟨z,g,j⟩:=zjh C w (.inr rfl) t h;exact⟨z,g,j M⟩
  ·split at h
   ·rename_i B;have:=z8o B;subst this;obtain⟨z,g,j⟩:=zxw C w t h;exact⟨z,g,j M⟩
   ·cases h
 ·cases hu with
  |str g j =>
   cases hv with
   |str D E =>
    subst g j D E;refine⟨zf8 op t x y (λh=>by cases h.1) (λ_ _ h=>by cases h.1),?_⟩;obtain⟨z,g,j⟩:=zxo C w t h;exact⟨z,g,j M⟩
 ·rename_i F G;have A:=gc (t:=t) hu hv (λk x H y e=>F k x H y e.1 e.2) (λl x m y e=>G l x m y e.1 e.2);split at h
  ·cases he:Sn C (Yd x || Yd y) t a b with
   |none=>rw[he]at h;cases h
   |some s =>
    rw[he]at h;cases h;obtain⟨g,j⟩:=zvq (w:=w) he hu hv;exact⟨znd _ t x y hu hv g,.bool s,by rw[A.1];simp[j],.bool s⟩
  ·cases he:Sn C (Yd x || Yd y) t a b with
   |none=>rw[he]at h;cases h
   |some s =>
    rw[he]at h;cases h;obtain⟨g,j⟩:=zvq (w:=w) he hu hv;exact⟨znd _ t x y hu hv g,.bool (!s),by rw[A.2];simp[j],.bool (!s)⟩
  ·cases h
def zby{P:Program}{w:World}{g:Sem Next}{o:Option AV}(j:Rel K M G w)
  (h:∀a,o=some a→∃z,g.run P w=.ok (.value z) w∧VR M a z):R0 P K M w g (ret1 G o):=by
 cases o with
 |none=>exact trivial
 |some a=>obtain⟨z,A,B⟩:=h a rfl;exact Qo j B A
def ic(F:Program)(op:BinOp)(t g:TypeId)(x y:Operand)(o:Oper)(ho:o.op=.binOp op t x y g):Oi F (Ow F (.binOp op t x y g)) (λG=>execOp G o):=by
 refine mq λH K L w G a b j z A=>zby j λr B=>?_
 obtain⟨C,I,D,E⟩:=kf (w:=w) x y B z A;exact⟨I,by simp[execOp,ho,C,D],E⟩
def tu(D:Program)(op:UnOp)(t:TypeId)(x:Operand)(o:Oper)(ho:o.op=.unOp op t x):Oi D (Ow D (.unOp op t x)) (λA=>execOp A o):=by
 refine T3 λE F G w A a C g=>zby C λr j=>?_
 unfold unA at j;split at j
 ·rename_i k n;cases j;generalize z:A x=B at g;cases g;exact⟨.int k (k.wrap (0-n)),by simp[execOp,ho,z,Op.unary,Op.intArith],by rw[mw];exact .int _ _⟩
 ·rename_i k n;cases j;generalize z:A x=B at g;cases g;exact⟨.int k (k.wrap (BitVec.ofInt k.bits (if k.signed then -1 else k.max) ^^^ BitVec.ofInt k.bits n).toNat),by simp[execOp,ho,z,Op.unary,Op.intBits],.int _ _⟩
 ·rename_i b;cases j;generalize z:A x=B at g;cases g;exact⟨.bool (!b),by simp[execOp,ho,z,Op.unary],.bool _⟩
 ·cases j
def VRs.set{C:CM}:∀{l:List AV} {r:List Value},VRs C l r→∀(i:Nat) {a:AV} {v:Value},VR C a v→VRs C (l.set i a) (r.set i v)
 |_,_,.nil,_,_,_,_=>.nil
 |_,_,.cons _ es,0,_,_,h=>.cons h es
 |_,_,.cons e es,i+1,_,_,h=>.cons e (VRs.set es i h)
def zy{l:List AV}(h:∀a∈l,a.one=true){i:Nat}{a:AV}(j:a.one=true):∀b∈l.set i a,b.one=true:=by
 intro b z;rcases List.mem_or_eq_of_mem_set z with g|g
 ·exact h b g
 ·rw[g];exact j
def zpz{C:CM}{off:Nat}:∀(l:List AV) (r:List Value) (g:List AV) (z:Array Value) (j:Nat),VRs C l r→(∀a∈l,a.one=true)→VRs C g z.toList→(∀a∈g,a.one=true) →
  VRs C (Vl g (off+j) l) ((r.zipIdx j).foldl (λg (c,j)=>g.setIfInBounds (off+j) c) z).toList∧(∀a∈Vl g (off+j) l,a.one=true)
 |[],_,g,z,j,.nil,_,h,A=>⟨h,A⟩
 |a::l,v::r,g,z,j,.cons e D,B,h,A=>by
  simp only[Vl,List.zipIdx_cons,List.foldl_cons];have:=zpz (off:=off) l r (g.set (off+j) a) (z.setIfInBounds (off+j) v) (j+1) D (λb E=>B b Ak)
   (by rw[Array.toList_setIfInBounds];exact h.set _ e) (zy A (B a N))
  rw[show off+j+1=off+(j+1) from J];exact this
def zxx(v:Array Value)(off:Nat)(j:Array Value):v.zipIdx.foldl (λg (c,z)=>g.setIfInBounds (off+z) c) j=(v.toList.zipIdx 0).foldl (λg (c,z)=>g.setIfInBounds (off+z) c) j:=by
 rw[←Array.foldl_toList,Array.toList_zipIdx]
def z72{j:Nat→Option (Nat×Nat)}:∀{l:List (Nat×Operand)} {G:List Part},wy j l=some G →
  ∀{C:CM} {X:Tr AV} {I:Operand→Value},zsa C X I→∀{z r:List AV} {A:Array Value},vh z G X=some r→VRs C z A.toList→(∀a∈z,a.one=true) →
  ∃H,Instr.fill j A (l.map λ(i,x)=>(i,I x))=some H∧VRs C r H.toList∧(∀a∈r,a.one=true)
 |[],G,h,C,X,I,K,z,r,A,g,hv,L=>by
  cases h;cases g;exact⟨A,rfl,hv,L⟩
 |(i,x)::l,G,h,C,X,I,K,z,r,A,g,hv,L=>by
  simp only[wy]at h;split at h
  ·cases h
  ·rename_i o s M;split at h
   ·cases h
   ·rename_i Y O;cases h;simp only[vh]at g;split at g
    ·cases g
    ·rename_i a Z;split at g
     ·cases g
     ·rename_i q hq;split at g
      ·rename_i D;split at g
       ·rename_i P;have B:q.length=s:=Ie D;have U:o+s≤z.length:=Ih P;obtain⟨V,k2⟩:=(K _ _ Z).cells hq;have Q:=V.length;have R:=hv.length;have T:=zpz (off:=o) q _ z A 0 V k2 hv L;rw[Kl]at T;obtain⟨H,q1,q2,q3⟩:=z72 O K g T.1 T.2;refine⟨H,?_,q2,q3⟩;have e1:(I x).cells.size=s:=by rw[←B,Q];simp
        have E:¬((decide ((I x).cells.size≠s) || decide (o+(I x).cells.size>A.size))=true):=by
         intro F;simp only[ne_eq,Jd,Ic]at F;rcases F with F|F
         ·exact F e1
         ·simp at R;omega
        rw[Kk];simp only[Instr.fill,M];rw[Hx E,zxx];exact q1
       ·cases g
      ·cases g
def zgl{z:Program}{w:World}:∀{l:List Field} {r:List (Nat×Nat)},zde z l=some r →
  (l.mapM λf=>do pure (f.offset,←sizeOf f.type):Sem (List (Nat×Nat))).run z w=.ok r w
 |[],r,h=>B5
 |f::l,r,h=>by
  simp only[zde]at h;split at h
  ·cases h
  ·rename_i s g;split at h
   ·cases h
   ·rename_i A j;cases h;simp only[List.mapM_cons,Sem.run_bind,Tg g,Result.andThen_ok,Sem.run_pure,zgl j]
def zug(B:Program)(t:TypeId)(g:Array (Nat×Operand)):Oi B (zln B t g) (λT=>do pure (.value (←Instr.build t (g.map λ(i,x)=>(i,T x))))):=by
 unfold zln;split
 ·exact O0 B _
 ·rename_i cs U;split
  ·rename_i j hu;split
   ·exact O0 B _
   ·rename_i pl D;split
    ·exact O0 B _
    ·rename_i X A;intro Y Z gg w gz T E F;dsimp only;split
     ·rename_i l G;obtain⟨v,i,H,I,h3,h4⟩:=z6r (w:=w) U;obtain⟨K,L⟩:=jw (C:=Z) I;obtain⟨M,O,P,Q⟩:=z72 A F G K L;refine Qo E (.agg P Q) ?_;have hm:(j.mapM λf=>do pure (f.offset,←sizeOf f.type):Sem (Array (Nat×Nat))).run B w=.ok pl.toArray w:=by
       rw[Array.mapM_eq_mapM_toList];simp only[Sem.run_map,zgl D,Result.andThen_ok]
      have R:Instr.fill (pl.toArray[·]?) v.cells (g.map λ(i,x)=>(i,T x)).toList=some M:=by
       rw[J5];have:(λi:Nat=>pl.toArray[i]?)=(λi:Nat=>pl[i]?):=by funext i;simp
       rw[this];exact O
      simp only[Instr.build,Sem.run_bind,H,O2 hu,hm,Result.andThen_ok,R,Sem.run_pure]
     ·exact trivial
  ·rename_i n V hu;split
   ·exact O0 B _
   ·rename_i z hs;split
    ·exact O0 B _
    ·rename_i X A;intro Y Z gg w gz T E F;dsimp only;split
     ·rename_i l G;obtain⟨v,i,H,I,h3,h4⟩:=z6r (w:=w) U;obtain⟨K,L⟩:=jw (C:=Z) I;obtain⟨M,O,P,Q⟩:=z72 A F G K L;refine Qo E (.agg P Q) ?_;have R:Instr.fill (λi=>some (i*z,z)) v.cells (g.map λ(i,x)=>(i,T x)).toList=some M:=by
       rw[J5];exact O
      simp only[Instr.build,Sem.run_bind,H,O2 hu,Tg hs,Result.andThen_ok,R,Sem.run_pure]
     ·exact trivial
  ·exact O0 B _
end
section
open Go.RowKit (Below)
def z6o(l:List AV):∀n,(Uj l n).length=n*l.length
 |0=>by simp[Uj]
 |n+1=>by rw[Uj,H9,z6o l n,L7];omega
def z4x{l:List AV}(h:∀a∈l,a.one=true):∀n,∀a∈Uj l n,a.one=true
 |0,a,g=>by simp[Uj]at g
 |n+1,a,g=>by
  rw[Uj,Ir]at g;rcases g with g|g
  ·exact h a g
  ·exact z4x h n a g
def Un(l:List Value):Nat→List Value
 |0=>[]
 |n+1=>l++Un l n
def z4w{C:CM}{l:List AV}{r:List Value}(h:VRs C l r):∀n,VRs C (Uj l n) (Un r n)
 |0=>.nil
 |n+1=>h.append (z4w h n)
def zji(l:List Value):∀n,(Un l n).length=n*l.length
 |0=>by simp[Un]
 |n+1=>by rw[Un,H9,zji l n,L7];omega
def zww(l:List Value):∀(n i:Nat),i<n*l.length→(Un l n)[i]?=l[i%l.length]?
 |0,i,h=>Bq
 |n+1,i,h=>by
  rw[L7]at h;rw[Un];by_cases hi:i<l.length
  ·rw[H8 hi,Iv hi]
  ·have j:0<l.length:=by
    rcases Nat.eq_zero_or_pos l.length with g|g
    ·rw[g]at h;omega
    ·exact g
   rw[Ij J,zww l n _ J,Nat.mod_eq_sub_mod (J:l.length≤i)]
def zdk(g:Array Value)(n:Nat):((Array.range (n*g.size)).map λi=>g[i%g.size]!).toList=Un g.toList n:=by
 apply Ma;intro i;rw[J5,Jw];by_cases hi:i<n*g.size
 ·rw[zww _ _ _ Do];have z:0<g.size:=by
   rcases Nat.eq_zero_or_pos g.size with j|j
   ·rw[j]at hi;omega
   ·exact j
  have hm:i%g.size<g.size:=J1 _ z;simp[hi,hm,getElem!_pos]
 ·have A:(Un g.toList n).length≤i:=by rw[zji];simp;omega
  rw[Ke A,Ke Do];rfl
def zhn(f:Nat→Value):(Array.range 0).map f=#[]:=N
def zdx(g:Nat):∀(q:List (Value×Nat)) (a:Array Value),(q.foldl (λj (c,z)=>j.setIfInBounds (g+z) c) a).size=a.size
 |[],_=>rfl
 |x::q,a=>by rw[List.foldl_cons,zdx g q];simp
def zk7{pl:Nat→Option (Nat×Nat)}:∀{g:List (Nat×Value)} {a b:Array Value},Instr.fill pl a g=some b→b.size=a.size
 |[],_,_,h=>B5
 |(i,v)::g,a,b,h=>by
  simp only[Instr.fill]at h;split at h
  ·cases h
  ·split at h
   ·cases h
   ·rw[zk7 h,←Array.foldl_toList,zdx]
def zvx{Q:Program}{C:CM}{w:World}(I:Rel K C G w)(t:TypeId){l:List AV}{o len esz:Nat}{cs:Array Value}(L:newObj G l=some (o,vT))
  (hv:VRs C l cs.toList) (M:∀a∈l,a.one=true) {cap:Nat} (R:cap*esz=l.length) (j:len≤cap)
  {F:Sem Next} (A:F.run Q w=.ok (.value (.slice (some ⟨w.heap.size,0,none⟩) len cap)) (w.alloc (.cells cs t))):vp Q K C w F (.sl o 0 0 len esz (some cap)) vT:=by
 have g:l.length=cs.toList.length:=hv.length;have B:l.length=cs.size:=Be
 obtain⟨O,z,D,E⟩:=I.newRow L t (0,0) (vs:=cs) J (by rw[g,K7];exact hv) M N;have H:len*esz≤cap*esz:=Ii _ j;refine⟨O,_,_,z,D,?_,.inl A⟩;have:=VR.sl (i:=0) (len:=len) (esz:=esz) (room:=some cap) (cap:=cap) E B0 B0 j (λr P=>by cases P;exact⟨rfl,B0⟩) (λh=>An);simpa using this
def zij(G:Program)(t:TypeId)(len:Nat)(j:Array (Nat×Operand)) :
  Oi G (z3x G t len j) (λV=>do pure (.value (←Instr.buildSlice t len (j.map λ(i,x)=>(i,V x))))):=by
 unfold z3x;split
 ·rename_i A hu;split
  ·exact O0 G _
  ·rename_i g F;split
   ·exact O0 G _
   ·rename_i gz X;split
    ·rename_i z;obtain⟨Y,P⟩:=z;split
     ·exact O0 G _
     ·rename_i ps H;intro w0 C gA w gC V Z hρ;dsimp only;split
      ·rename_i l hl;split
       ·rename_i o H' hn;obtain⟨v,i,h1,h2,h3,h4⟩:=z6r (w:=w) X;obtain⟨I,k2⟩:=jw (C:=C) h2;have K:v.cells.size=g:=by
         have B:=I.length;unfold Px at F;rw[h3]at F;simp at F B;omega
        have gg:gz.length=g:=by have B:=I.length;simp at B;omega
        have D:VRs C (Uj gz len) ((Array.range (len*g)).map λi=>v.cells[i%v.cells.size]!).toList:=by
         rw[←K,zdk];exact z4w I len
        obtain⟨Q,R,T,q3⟩:=z72 H hρ hl D (z4x k2 len);have L:l.length=len*g:=by
         have B:=T.length;have e3:=zk7 R;simp at e3 B;omega
        refine zvx Z A hn T q3 L.symm (Ia _) ?_;have U:Instr.fill (λi=>some (i*g,g)) ((Array.range (len*g)).map λi=>v.cells[i%v.cells.size]!) (j.map λ(i,x)=>(i,V x)).toList=some Q:=by
         rw[J5];exact R
        have E:¬(len*g>2^24):=J
        simp only[Instr.buildSlice,Sem.run_bind,O2 hu,Tg F,Result.andThen_ok,Sem.run_ite,Hx E];by_cases M:len*g=0
        ·rw[H7 M];have O:Instr.fill (λi=>some (i*g,g)) ((Array.range (len*g)).map λi=>(#[]:Array Value)[i%(#[]:Array Value).size]!) (j.map λ(i,x)=>(i,V x)).toList=some Q:=by
          rw[←U,M,zhn,zhn]
         simp only[Sem.run_pure,Result.andThen_ok,O,newRow,Sem.run_bind,run_newObj];rfl
        ·rw[Hx M];simp only[Sem.run_bind,h1,Sem.run_pure,Result.andThen_ok,U,newRow,run_newObj];rfl
       ·exact trivial
      ·exact trivial
    ·exact O0 G _
 ·exact O0 G _
def zor(A:Program)(t:TypeId)(l c:Operand):Oi A (z8z A t l c) (λI=>do pure (.value (←Instr.makeSlice t (I l) (I c)))):=by
 unfold z8z;split
 ·rename_i g hu;split
  ·exact O0 A _
  ·rename_i i hi;split
   ·exact O0 A _
   ·rename_i gg Q;split
    ·rename_i j;obtain⟨K,B⟩:=j;refine mq λw0 C gz w I a b R L M=>?_
     split
     ·rename_i x y;split
      ·rename_i D;split
       ·rename_i T;split
        ·rename_i o H' U;have z:x≤y:=Ih D;have E:y≤1048576:=Ih T;obtain⟨v,gA,V,X,O,Y⟩:=z6r (w:=w) Q;obtain⟨P,Z⟩:=jw (C:=C) X;rw[hi]at O;cases O;have F:v.cells.size=i.size:=by have G:=P.length;simp at G;omega
         generalize I l=pl at L;generalize I c=pc at M;cases L;cases M;refine zvx R g U (cs:=(Array.range (y*i.size)).map λk=>v.cells[k%v.cells.size]!) (by rw[←F,zdk];exact z4w P y) (z4x Z y) (by rw[z6o,Y]) z ?_;have G:IntKind.i64.wrap (Int.ofNat x)=Int.ofNat x:=Au
         have e2:IntKind.i64.wrap (Int.ofNat y)=Int.ofNat y:=Au
         have e3:i.bytes*y≤65536*1048576:=Jn B E;have e4:¬((decide (Int.ofNat y<0) || decide ((i.bytes:Int)*Int.ofNat y>2^48) || decide (Int.ofNat x<0) || decide (Int.ofNat x>Int.ofNat y))=true):=by
          have e5:((i.bytes:Int)*Int.ofNat y)=((i.bytes*y:Nat):Int):=N
          rw[e5];simp only[Jd,Ic,not_or];refine⟨⟨⟨N,Ab⟩,N⟩,Ab⟩
         simp only[Instr.makeSlice,Sem.run_bind,O2 hu,xj hi,asInt,asIntOf,Sem.run_pure,Result.andThen_ok,G,e2,Sem.run_ite,Hx e4,run_askRoom,Tg (show Px A g=some i.size from Gl)];have e6:(Int.ofNat y).toNat=y:=rfl;have e7:(Int.ofNat x).toNat=x:=rfl;rw[e6,e7];by_cases H:y*i.size=0
         ·rw[H7 H];simp only[Sem.run_pure,Result.andThen_ok,newRow,Sem.run_bind,run_newObj];have:((Array.range (y*i.size)).map λk=>(#[]:Array Value)[k%(#[]:Array Value).size]!)=((Array.range (y*i.size)).map λk=>v.cells[k%v.cells.size]!):=by rw[H,zhn,zhn]
          rw[this];rfl
         ·rw[Hx H];simp only[Sem.run_bind,V,Sem.run_pure,Result.andThen_ok,newRow,run_newObj];rfl
        ·exact trivial
       ·exact trivial
      ·exact trivial
     ·exact trivial
    ·exact O0 A _
 ·exact O0 A _
def zo6(j:Program)(t:TypeId)(x:Operand):Oi j (zam j t x) (λB=>do pure (.value (←Instr.makeInterface t (B x)))):=by
 unfold zam;split
 ·exact O0 j _
 ·rename_i d g hu;refine T3 λC D E w B a z A=>Qo z (.iface A) ?_
  simp only[Instr.makeInterface,Sem.run_bind,O2 hu,Result.andThen_ok];cases d<;>first|rfl|exact absurd hu (g _)
 ·exact O0 j _
def zrx(D:Program)(f:Fn)(first cap:Array Operand)(z:∀l,f≠.yield l):Oi D (zek f first cap) (λg=>do pure (.value (←Instr.makeFunc f (first.map g) (cap.map g)))):=by
 intro E F G w H g A j;unfold zek;dsimp only;split
 ·rename_i l B;split
  ·rename_i r C;refine Qo A (.fn (.same f z) (l':=first.map g) (r':=cap.map g) ?_ ?_) rfl
   ·rw[J5];exact z83 j B
   ·rw[J5];exact z83 j C
  ·exact trivial
 ·exact trivial
def znt{w:World}(j:Rel K M G w){z:Sem Next}(g:z.run C w=.ok (.value (.map (some w.heap.size))) (w.alloc (.map #[] 0))) :
  R0 C K M w z (jp G):=by
 unfold jp;obtain⟨B,D⟩:=j.push (.map [] 0) (.map #[] 0) 0 0 (λE A=>by
  rw[CM.ext_same]at A;cases A;exact⟨j.low.size,#[],vi _ _,.nil⟩)
 exact⟨_,_,_,D,B,.map (CM.ext_same _ _ _ _),.inl g⟩
def zva(A:Program)(t:TypeId)(r:Option Operand):Oi A (zhu A t r) (λz=>do pure (.value (←Instr.makeMap t (r.map z)))):=by
 unfold zhu;split
 ·intro B D E w H z g F;exact znt g (by simp[Instr.makeMap])
 ·rename_i x;split
  ·rename_i k e hu;refine T3 λB D E w z a g j=>?_
   split
   ·generalize C:z x=G at j;cases j;exact znt g (by simp[Instr.makeMap,O2 hu,C,asInt,asIntOf])
   ·exact trivial
  ·exact O0 A _
def zlq(z:Program)(t:TypeId)(x:Operand)(f:Nat):Oi z (z61 z t x f) (λB=>do pure (.value (←Instr.fieldAt t (B x) f))):=by
 unfold z61;split
 ·rename_i g hu;split
  ·exact O0 z _
  ·rename_i fd C;split
   ·exact O0 z _
   ·exact O0 z _
   ·rename_i n D E;refine T3 λH L M w B a F A=>?_
    split
    ·rename_i o v i;generalize I:B x=K at A;cases A with
     |ptr G =>
      refine Qo F (.ptr (i:=i+fd.offset) G) ?_;have j:n≠0:=D;simp[Instr.fieldAt,O2 hu,C,Instr.sureAddr,fieldPlace,Tg E,j,zt]
    ·exact trivial
 ·exact O0 z _
def zu9(A:Program)(t:TypeId)(x:Operand)(f:Nat):Oi A (zlk A t x f) (λB=>do pure (.value (←Instr.field t (B x) f))):=by
 unfold zlk;split
 ·rename_i g hu;split
  ·exact O0 A _
  ·rename_i fd C;split
   ·rename_i P n D E;refine T3 λK Q R w B a F j=>?_
    split
    ·generalize L:B x=M at j;cases j with
     |agg j z =>
      refine zby F λr G=>?_
      obtain⟨O,H,I⟩:=zha (w:=w) D E G j z;exact⟨O,by simp[Instr.field,O2 hu,C,asAgg,H],I⟩
    ·exact trivial
   ·exact O0 A _
 ·exact O0 A _
end
section
open Go.RowKit (Below)
def z8m{l c:Nat}(e:Nat)(h:l≤c):l*e+(c-l)*e=c*e:=by
 rw[←Iu];congr 1;omega
def jd(r:Option Nat)(v:Option Value):Prop:=match r with
 |none=>v=none
 |some n=>∃k,v=some (.int k (Int.ofNat n))
def cj{g:Operand→Value}(j:zsa M T g){x:Option Operand}{r:Option Nat}(h:(Qx x).run T=some r):jd r (x.map g):=by
 cases x with
 |none=>cases h;rfl
 |some x =>
  unfold Qx at h;dsimp only at h;split at h
  ·rename_i k n z;cases h;have:=j _ _ z;generalize hv:g x=v at this;cases this;exact⟨k,by simp[hv]⟩
  ·cases h
def zd{w:World}(k:IntKind){n y:Nat}(c:BoundsCode)(h:n≤y):(Instr.sliceBound (.int k (Int.ofNat n)) y c).run C w=.ok n w:=by
 have:(0:Int)≤Int.ofNat n∧Int.ofNat n≤(y:Int):=⟨N,Ab⟩;simp only[Instr.sliceBound,asIntOf,Sem.run_bind,Sem.run_pure,Result.andThen_ok,Sem.run_ite,H7 this];rfl
def z3u{P:Program}{w:World}(g:Bool){len cap:Nat}{hi mx:Option Nat}{a b c:Option Value}(A:jd vH a)(C:jd hi b)(E:jd mx c)
  (hm:mx.isSome=true→hi.isSome=true) (j:vH.getD 0≤hi.getD len) (z:hi.getD len≤mx.getD cap) (B:mx.getD cap≤cap) :
  (Instr.sliceBounds g len cap a b c).run P w=.ok (vH.getD 0,hi.getD len,mx.getD cap) w:=by
 cases mx with
 |none =>
  cases E;simp only[Option.getD_none]at z B;cases hi with
  |none =>
   cases C;cases vH with
   |none=>cases A;simp[Instr.sliceBounds]
   |some l =>
    obtain⟨k,rfl⟩:=A;simp only[Jz,Option.getD_none]at j;simp only[Instr.sliceBounds,Sem.run_bind,Sem.run_pure,Result.andThen_ok,zd k _ j,Option.getD]
  |some h =>
   obtain⟨k,rfl⟩:=C;simp only[Jz]at j z;cases vH with
   |none=>cases A;simp only[Instr.sliceBounds,Sem.run_bind,Sem.run_pure,Result.andThen_ok,zd k _ z,Option.getD]
   |some l =>
    obtain⟨D,rfl⟩:=A;simp only[Jz]at j;simp only[Instr.sliceBounds,Sem.run_bind,Sem.run_pure,Result.andThen_ok,zd k _ z,zd D _ j,Option.getD]
 |some m =>
  obtain⟨F,rfl⟩:=E;simp only[Jz]at z B;cases hi with
  |none=>simp at hm
  |some h =>
   obtain⟨k,rfl⟩:=C;simp only[Jz]at j z;cases vH with
   |none=>cases A;simp only[Instr.sliceBounds,Sem.run_bind,Sem.run_pure,Result.andThen_ok,zd F _ B,zd k _ z,Option.getD]
   |some l =>
    obtain⟨D,rfl⟩:=A;simp only[Jz]at j;simp only[Instr.sliceBounds,Sem.run_bind,Sem.run_pure,Result.andThen_ok,zd F _ B,zd k _ z,zd D _ j,Option.getD]
def zn4{o v i l h m:Nat}{z:Loc}(B:M o v=some z)(C:l≤h)(D:h≤m)(H:i+m*g≤z.n)(I:z.d+i+m*g≤z.sz) :
  VR M (rq l h m o v i g) (.slice (some (if m=l then ⟨z.b,z.d+i,none⟩ else (⟨z.b,z.d+i,none⟩:Addr).add (l*g))) (h-l) (m-l)):=by
 unfold rq;split
 ·rename_i he;have j:l=m:=Ie he;subst j;have:h=l:=J
  subst this;rw[H7 rfl,Ll];split
  ·exact .sl B J J (Ia _) (λr A=>by cases A;exact⟨rfl,J⟩) (λe=>Ar)
  ·exact .emp
 ·rename_i he;have j:¬m=l:=λe=>by rw[e,I8]at he;cases he
  rw[Hx j,zt];have K:=z8m g (Ja C D);have L:=z8m g C;have O:h*g≤m*g:=Ii _ D;have E:Nat.add i (Nat.mul l g)=i+l*g:=rfl;have F:Nat.sub h l=h-l:=rfl;have G:Nat.sub m l=m-l:=rfl;rw[E,F,G];exact .sl B J J J (λr A=>by cases A;exact⟨rfl,J⟩) (λe=>Ar)
def zgn{o v i len l h cap:Nat}{room mx:Option Nat}{r:AV}{C:Loc}(H:M o v=some C)(Y:i+len*g≤C.n)(U:C.d+i+cap*g≤C.sz)(Z:len≤cap)
  (V:∀r,room=some r→cap=r∧i+r*g≤C.n) (h5:room=none→C.d+i+cap*g=C.sz) (z:z8u l h (room.getD len) mx o v i g room=some r) :
  l≤h∧h≤mx.getD cap∧mx.getD cap≤cap ∧
  VR M r (.slice (some (if mx.getD cap=l then ⟨C.b,C.d+i,none⟩ else (⟨C.b,C.d+i,none⟩:Addr).add (l*g))) (h-l) (mx.getD cap-l)):=by
 unfold z8u at z;split at z
 ·cases z
 ·rename_i I;have j:l≤h:=Ih I;split at z
  ·cases z
  ·rename_i K;have A:h≤room.getD len:=Ih K;have L:room.getD len≤cap∧i+room.getD len*g≤C.n:=by
    cases room with
    |none=>exact⟨Z,Y⟩
    |some r=>obtain⟨E,F⟩:=V r rfl;exact⟨Ak,F⟩
   split at z
   ·rename_i m;split at z
    ·cases z
    ·rename_i O;have D:h≤m:=Ih O;split at z
     ·cases z
     ·rename_i P;have G:m≤room.getD len:=Ih P;cases z;have E:m*g≤room.getD len*g:=Ii _ G;have F:m*g≤cap*g:=Ii _ J;exact⟨j,D,Ab,zn4 H j D J J⟩
   ·split at z
    ·rename_i rr;cases z;obtain⟨E,F⟩:=V rr rfl;subst E;exact⟨j,A,Ia _,zn4 H j A F U⟩
    ·have Q:=h5 rfl;simp only[Option.getD_none]at A ⊢;have q3:h*g≤len*g:=Ii _ A;split at z
     ·rename_i X;have R:l=0:=Ie X;subst R;cases z;refine⟨j,J,Ia _,?_⟩;have e:(if cap=0 then (⟨C.b,C.d+i,none⟩:Addr) else (⟨C.b,C.d+i,none⟩:Addr).add (0*g))=⟨C.b,C.d+i,none⟩:=by
       split
       ·rfl
       ·rw[zt];simp
      rw[e];exact .sl H J Fy J (λr T=>by cases T) (λ_=>by simpa using Q)
     ·rename_i X;split at z
      ·rename_i B;have e:l=h:=Ie B;subst e;cases z;refine⟨j,J,Ia _,?_⟩;rw[Ll];exact .emp
      ·rename_i B;have gg:¬l=h:=λe=>by rw[e,I8]at B;cases B
       cases z;refine⟨j,J,Ia _,?_⟩;rw[Hx J,zt];have E:=z8m g (J:l≤cap);have F:=z8m g j;have e1:Nat.add i (Nat.mul l g)=i+l*g:=rfl;have e2:Nat.sub h l=h-l:=rfl;rw[e1,e2];exact .sl H J J J (λr T=>by cases T) (λ_=>J)
def zdj{g:Type}(f:vQ→g)(x:Option vQ):(x.map f).isSome=x.isSome:=by cases x<;>rfl
def jd.isSome{r:Option Nat}{v:Option Value}(h:jd r v):r.isSome=v.isSome:=by
 cases r with
 |none=>rw[show v=none from h];rfl
 |some n=>obtain⟨k,rfl⟩:=h;rfl
def zui(P:Program)(t:TypeId)(x:Operand)(lo hi mx:Option Operand) :
  Oi P (zgd P t x lo hi mx) (λI=>do pure (.value (←Instr.sliceAt t (I x) (lo.map I) (hi.map I) (mx.map I)))):=by
 unfold zgd;split
 ·rename_i hu;split
  ·exact O0 P _
  ·intro w0 gI gK w gL I E j;dsimp only;split
   ·rename_i len n l h F G H;split
    ·rename_i h1;split
     ·rename_i h2;have Y:l.getD 0≤h.getD len:=Ih h1;have K:h.getD len≤len:=Ih h2;have hv:=j _ _ F;have z:=cj j G;have g:=cj j H;generalize I x=X at hv;cases hv with
      | @str _ _ s L M =>
       subst L M;have B:=z3u (P:=P) (w:=w) false (len:=s.size) (cap:=s.size) (mx:=none) (c:=none) z g rfl N Y D0 N;refine Qo E (x:=.string (s.extract (l.getD 0) (h.getD s.size))) (.str ?_ ?_) ?_
       ·rw[Lib.extract_data];have:(s.data.toList.length)=s.size:=rfl;simp;rw[this]at K;omega
       ·rw[Lib.extract_data,packL_take,packL_drop];rfl
       ·simp only[Instr.sliceAt,Sem.run_bind,O2 hu,Result.andThen_ok,Instr.slice,Option.map_none,Option.isSome_none];simp[B]
     ·exact trivial
    ·exact trivial
   ·exact trivial
 ·rename_i O hu;split
  ·exact O0 P _
  ·rename_i Z;split
   ·exact O0 P _
   ·rename_i C Q;intro w0 gI gK w gL I E j;dsimp only;split
    ·rename_i o v i len gg gG l h m F G H hm;refine zby E λr D=>?_
     have hv:=j _ _ F;have z:=cj j G;have g:=cj j H;have A:=cj j hm;generalize I x=X at hv;cases hv with
     | @sl _ _ _ _ _ _ gM cap R q1 q2 q3 q4 q5 =>
      unfold Wq at D;split at D
      ·cases D
      ·rename_i gz;have T:gg=C:=Ie gz;subst T;obtain⟨k1,k2,k3,k4⟩:=zgn R q1 q2 q3 q4 q5 D;have B:=z3u (P:=P) (w:=w) true (len:=len) (cap:=cap) z g A (by
        rw[A.isSome,g.isSome,zdj,zdj];intro e;cases hi<;>simp_all) k1 k2 k3
       refine⟨_,?_,k4⟩;simp only[Instr.sliceAt,Sem.run_bind,O2 hu,Result.andThen_ok,Instr.slice,B,Tg Q,Sem.run_pure,J7];split<;>simp_all
    ·rename_i l h F G H hm;split
     ·rename_i h0;have gA:l.getD 0+h.getD 0=0:=Ie h0;have hv:=j _ _ F;have z:=cj j G;have g:=cj j H;have A:=cj j hm;generalize I x=X at hv;cases hv;have B:=z3u (P:=P) (w:=w) true (len:=0) (cap:=0) z g A N J Ab N;refine Qo E .nilSl ?_;have L:l.getD 0=0:=J
      have M:h.getD 0=0:=J
      rw[L,M]at B;simp only[Instr.sliceAt,Sem.run_bind,O2 hu,Result.andThen_ok,Instr.slice,B,Tg Q,Sem.run_pure];simp
     ·exact trivial
    ·rename_i l h F G H hm;split
     ·rename_i h0;have gA:l.getD 0+h.getD 0=0:=Ie h0;have hv:=j _ _ F;have z:=cj j G;have g:=cj j H;have A:=cj j hm;generalize I x=X at hv;cases hv with
      | @emp a cap =>
       have B:=z3u (P:=P) (w:=w) true (len:=0) (cap:=cap) z g A N J Ab N;have L:l.getD 0=0:=J
       have M:h.getD 0=0:=J
       rw[L,M]at B;refine Qo E (x:=.slice (some (if cap=0 then a else a.add 0)) 0 cap) .emp ?_;simp only[Instr.sliceAt,Sem.run_bind,O2 hu,Result.andThen_ok,Instr.slice,B,Tg Q,Sem.run_pure];simp;split<;>rfl
     ·exact trivial
    ·exact trivial
 ·rename_i n O hu;split
  ·exact O0 P _
  ·rename_i Z;split
   ·exact O0 P _
   ·rename_i C Q;intro w0 gI gK w gL I E j;dsimp only;split
    ·rename_i o v i l h m F G H hm;split
     ·rename_i c U gC hg;split
      ·rename_i gD;split
       ·rename_i gE;have gH:i+n*C≤U:=Ih gE;have V:v=gC:=Ie gD;subst V;refine zby E λr D=>?_
        have hv:=j _ _ F;have z:=cj j G;have g:=cj j H;have A:=cj j hm;generalize I x=X at hv;cases hv with
        | @ptr _ _ _ gM R =>
         unfold Wq at D;simp only[I8]at D;have gF:=E.obj o _ (E.fresh _ _ _ R) hg;obtain⟨p1,_,p3,_⟩:=gF gM R;obtain⟨k1,k2,k3,k4⟩:=zgn (cap:=n) (len:=n) (room:=some n) R J J (Ia _) (λr D=>by cases D;exact⟨rfl,J⟩) (λe=>Ar) D;have B:=z3u (P:=P) (w:=w) false (len:=n) (cap:=n) z g A (by
          rw[A.isSome,g.isSome,zdj,zdj];intro e;cases hi<;>simp_all) k1 k2 k3
         refine⟨_,?_,k4⟩;simp only[Instr.sliceAt,Instr.sureAddr,Sem.run_bind,O2 hu,Result.andThen_ok,B,Tg Q,Sem.run_pure]
       ·exact trivial
      ·exact trivial
     ·exact trivial
    ·exact trivial
 ·exact O0 P _
end
section
open Go.RowKit (Below)
def zl0(M:Program)(t:TypeId)(x D:Operand):Oi M (z5y M t x D) (λE=>do pure (.value (←Instr.indexAt t (E x) (E D)))):=by
 unfold z5y;split
 ·rename_i j hu;split
  ·exact O0 M _
  ·rename_i g F;refine mq λP T U w E a b G z A=>?_
   split
   ·rename_i o v i len B O k n;split
    ·rename_i C;split
     ·rename_i he;have H:n<len:=by rw[Tb]at C;simpa using C
      have I:B=g:=Ie he;subst I;generalize E x=Q at z;generalize E D=R at A;cases A;cases z with
      |sl K =>
       refine Qo G (.ptr (i:=i+n*B) K) ?_;have L:(0:Int)≤Int.ofNat n∧Int.ofNat n<(len:Int):=⟨N,Ab⟩;simp only[Instr.indexAt,asIntOf,Sem.run_bind,Sem.run_pure,Result.andThen_ok,O2 hu,Sem.run_ite,H7 L,Tg F];rw[zt];rfl
     ·exact trivial
    ·exact trivial
   ·exact trivial
 ·rename_i len j hu;split
  ·exact O0 M _
  ·rename_i g F;refine mq λP T U w E a b G z A=>?_
   split
   ·rename_i o v i k n;split
    ·rename_i C;have H:n<len:=by rw[Tb]at C;simpa using C
     generalize E x=Q at z;generalize E D=R at A;cases A;cases z with
     |ptr K =>
      refine Qo G (.ptr (i:=i+n*g) K) ?_;have L:(0:Int)≤Int.ofNat n∧Int.ofNat n<(len:Int):=⟨N,Ab⟩;simp only[Instr.indexAt,asIntOf,Instr.sureAddr,Sem.run_bind,Sem.run_pure,Result.andThen_ok,O2 hu,Sem.run_ite,H7 L,Tg F];rw[zt];rfl
    ·exact trivial
   ·exact trivial
 ·exact O0 M _
def zux(L:Program)(t:TypeId)(x D:Operand):Oi L (zju L t x D) (λE=>do pure (.value (←Instr.index t (E x) (E D)))):=by
 unfold zju;split
 ·rename_i hu;refine mq λO gg gz w E a b F g z=>?_
  split
  ·rename_i len n k i;split
   ·rename_i A;have j:i<len:=by rw[Tb]at A;simpa using A
    generalize E x=P at g;generalize E D=Q at z;cases z;cases g with
    | @str _ _ s G R =>
     subst G R;have hi:i<s.size:=j;have H:s.data.toList[i]?=some s[i]:=by
      rw[H6 Bs];rfl
     have T:=zjz H;refine Qo F (x:=.int .u8 s[i].toNat) ?_ ?_
     ·have:Int.ofNat (Nat.mod (Nat.div (Po s.data.toList) (Nat.pow 256 i)) 256)=(s[i].toNat:Int):=by
       show ((Po s.data.toList/256^i%256:Nat):Int)=_;rw[T]
      rw[this];exact .int _ _
     ·simp only[Instr.index,asIntOf,Sem.run_bind,Sem.run_pure,Result.andThen_ok,O2 hu];have U:(0:Int)≤Int.ofNat i:=N
      rw[H7 U];have:s[(Int.ofNat i).toNat]?=some s[i]:=by
       show s[i]?=some s[i];simp[hi]
      rw[this];rfl
   ·exact trivial
  ·exact trivial
 ·rename_i len B hu;split
  ·rename_i gA C H M;refine mq λO gg gz w E a b F g z=>?_
   split
   ·rename_i l k n;split
    ·rename_i A;have j:n<len:=by rw[Tb]at A;simpa using A
     generalize E x=P at g;generalize E D=Q at z;cases z;cases g with
     |agg g I =>
      refine zby F λr V=>?_
      obtain⟨Z,X,Y⟩:=zha (w:=w) H M V g I;refine⟨Z,?_,Y⟩;have G:(0:Int)≤Int.ofNat n∧Int.ofNat n<(len:Int):=⟨N,Ab⟩;have K:(part B _ ((Int.ofNat n).toNat*C)).run L w=.ok Z w:=X;simp only[Instr.index,asIntOf,Sem.run_bind,Sem.run_pure,Result.andThen_ok,O2 hu,Sem.run_ite,H7 G,Tg M,K]
    ·exact trivial
   ·exact trivial
  ·exact O0 L _
 ·exact O0 L _
def zjp{F:CM}:∀{l:List AV} {n:Nat} {vs:List Value},W2.bytesA l=some n→VRs F l vs→∃g:List UInt8,g.length=l.length∧Po g=n∧vs=g.map (λb=>Value.int .u8 (b.toNat:Int))
 |[],n,_,h,.nil=>by cases h;exact⟨[],rfl,rfl,rfl⟩
 |a::l,n,_,h,.cons e A=>by
  unfold W2.bytesA at h;split at h
  ·rename_i j;cases j
  ·rename_i b G j;cases j;split at h
   ·rename_i z;split at h
    ·rename_i m hm;cases h;have B:b<256:=by rw[Tb]at z;simpa using z
     cases e;obtain⟨g,C,D,E⟩:=zjp hm A;have hu:(UInt8.ofNat b).toNat=b:=Ab
     exact⟨UInt8.ofNat b::g,Al,by rw[Po,hu,D],by rw[Kk,hu,E];rfl⟩
    ·cases h
   ·cases h
  ·cases h
def zm5(g:List UInt8):(strOfNums (g.map λb=>(b.toNat:Int))).data.toList=g:=by
 simp[strOfNums,Function.comp_def]
def zoq(w:World)(e:TypeId)(s:ByteArray):Lib.bytesWorld w e s=w.drew.alloc (.cells (Lib.bytesCells w e s) e ((Lib.bytesCells w e s).size,(Lib.bytesCells w e s).size+1)):=by
 have g:(Lib.bytesWorld w e s).heap=(w.drew.alloc (.cells (Lib.bytesCells w e s) e ((Lib.bytesCells w e s).size,(Lib.bytesCells w e s).size+1))).heap:=by
  apply Array.ext_getElem?;intro i;rcases Nat.lt_trichotomy i w.heap.size with h|h|h
  ·rw[Lib.bytesWorld_at_old w e s i h,z7s w.drew _ (show i<w.drew.heap.size from h)];rfl
  ·subst h;rw[Lib.bytesWorld_at_new];exact (vi w.drew _).symm
  ·rw[Mc (by rw[Lib.bytesWorld_size];omega),Mc (by rw[World.size_alloc];show w.heap.size+1≤i;omega)]
 show ({ heap:=(Lib.bytesWorld w e s).heap,tape:=w.tape,drawn:=w.drawn+1,os:=w.os,output:=w.output }:World)=_;rw[g];rfl
def zyb(P:Program)(z A:TypeId)(x:Operand):Oi P (W2 P z A x) (λI=>do pure (.value (←convert z A (I x)))):=by
 unfold W2;split
 ·rename_i s k D hd;refine T3 λO gg gz w I a B j=>?_
  split
  ·rename_i k' n;generalize I x=K at j;cases j;refine Qo B (x:=.int k (k.wrap n)) (by rw[mw];exact .int _ _) ?_;simp only[convert,Sem.run_bind,O2 D,O2 hd,Result.andThen_ok,Conv.intToInt,Sem.run_pure]
  ·exact trivial
 ·rename_i e D hd;split
  ·rename_i he;refine T3 λO gg gz w I a B j=>?_
   split
   ·generalize I x=K at j;cases j;refine Qo B (x:=.string .empty) (.str rfl rfl) ?_;simp only[Sem.run_bind,run_convert_bytes_nil w z e D he 0 0 A hd,Result.andThen_ok,Sem.run_pure]
   ·rename_i o v i len Y;split
    ·rename_i l hl;split
     ·rename_i n L;generalize I x=K at j;cases j with
      | @sl _ _ _ _ _ _ gC cap hL =>
       obtain⟨vs,Z,Q,h3,h4,h5,h6⟩:=B.read P hl hL;obtain⟨M,q1,q2,q3⟩:=zjp L Q;have H:M.length=len:=J
       refine Qo B (x:=.string (strOfNums (M.map λb=>(b.toNat:Int)))) (.str (by rw[zm5,H]) (by rw[zm5,q2])) ?_;have R:=run_convert_bytes_arg (P:=P) w z e D he gC.b (gC.d+i) len cap (M.map λb=>(b.toNat:Int)) Ba (λgD hj=>by
        rw[Kg,h6 gD hj,q3];simp[Jw,H6 (J:gD<M.length),List.getD]) A hd
       simp only[Sem.run_bind,R,Result.andThen_ok,Sem.run_pure]
     ·exact trivial
    ·exact trivial
   ·exact trivial
  ·exact O0 P _
 ·rename_i s gA D hd;refine T3 λO gg gz w I a B j=>?_
  split
  ·rename_i l n;have T:=j;generalize hx:I x=K at j;cases j;refine Qo B T ?_;rw[hx];cases s<;>simp_all [convert,O2 D,O2 hd]
  ·exact trivial
 ·rename_i s e D hd;split
  ·rename_i he hz;refine T3 λO gg gz w I a B j=>?_
   split
   ·rename_i len n;split
    ·rename_i o H' L;generalize I x=K at j;cases j with
     | @str _ _ g Z Q =>
      subst Z Q;rw[unpack_pack]at L;have E:g.size≤grownCap w g.size 0 e:=grownCap_ge w g.size 0 e;have C:VRs gg ((g.data.toList.map (·.toNat)).map λ(b:Nat)=>AV.int .u8 (Int.ofNat b)) (g.data.toList.map λb=>Value.int .u8 (b.toNat:Int)):=by
       generalize g.data.toList=q
       induction q with
       |nil=>exact .nil
       |cons b q ih=>exact .cons (.int _ _) ih
      have F:(Lib.bytesCells w e g).size=grownCap w g.size 0 e:=by simp[Lib.bytesCells];omega
      have G:((g.data.toList.map (·.toNat)).map λ(b:Nat)=>AV.int .u8 (Int.ofNat b)).length=g.size:=N
      obtain⟨C',U,V,X⟩:=B.drew.newRow L e ((Lib.bytesCells w e g).size,(Lib.bytesCells w e g).size+1) (vs:=Lib.bytesCells w e g) (by rw[G,F];exact E)
       (by
        rw[G];have:(Lib.bytesCells w e g).toList.take g.size=g.data.toList.map λb=>Value.int .u8 (b.toNat:Int):=by
         simp only[Lib.bytesCells,Lu,J5];rw[Mi N,Im N]
        rw[this];exact C)
       (by intro a j;simp only[Mu]at j;obtain⟨b,_,rfl⟩:=j;rfl) (λi hi=>B0)
      refine⟨C',_,.slice (some ⟨w.heap.size,0,none⟩) g.size (grownCap w g.size 0 e),U,V,?_,.inl ?_⟩
      ·have:=VR.sl (i:=0) (len:=g.size) (esz:=1) (room:=none) (cap:=grownCap w g.size 0 e) X (by rw[G];dsimp only;omega) (by rw[F];dsimp only;omega) E (λr R=>by cases R) (λ_=>by rw[F];simp);simpa using this
      ·simp only[Sem.run_bind,Lib.run_convert_string_bytes w z A e g D hd he,Result.andThen_ok,Sem.run_pure,zoq]
    ·exact trivial
   ·exact trivial
  ·exact O0 P _
 ·exact O0 P _
def zo1(F:Program)(x:Operand)(i:Nat):Oi F (zj3 x i) (λz=>do pure (.value (←Instr.extract (z x) i))):=by
 unfold zj3;refine T3 λG I K w z a A g=>?_
 split
 ·generalize z x=H at g;cases g with
  | @tup _ B g =>
   refine zby A λr C=>?_
   obtain⟨v,D,E⟩:=g.get C;have j:B[i]?=some v:=F0
   exact⟨v,by simp[Instr.extract,j],E⟩
 ·exact trivial
def zqh(G:Program)(x:Operand)(I g:TypeId)(ok:Bool):Oi G (zew G x g ok) (λH=>do pure (.value (←Instr.typeAssert (H x) I g ok))):=by
 unfold zew;split
 ·exact O0 G _
 ·rename_i d j hu;split
  ·exact O0 G _
  ·rename_i P K;refine T3 λM O Q w H a E z=>?_
   obtain⟨zv,B,F⟩:=zqx (w:=w) K;have D:=zjw (C:=O) F;split
   ·generalize H x=L at z;cases z;cases ok with
    |false=>exact trivial
    |true =>
     refine Qo E (x:=.tuple #[zv,.bool false]) (.tup (.cons D (.cons (.bool _) .nil))) ?_;simp only[Instr.typeAssert,Sem.run_bind,O2 hu,Result.andThen_ok];cases d<;>first|(simp[B];done)|exact absurd hu (j _)
   ·rename_i t v;generalize H x=L at z;cases z with
    | @iface _ _ u z =>
     split
     ·rename_i he;have A:t=g:=Ie he;subst A;cases ok with
      |false =>
       refine Qo E (x:=u) z ?_;simp only[Instr.typeAssert,Sem.run_bind,O2 hu,Result.andThen_ok];cases d<;>first|(simp;done)|exact absurd hu (j _)
      |true =>
       refine Qo E (x:=.tuple #[u,.bool true]) (.tup (.cons z (.cons (.bool _) .nil))) ?_;simp only[Instr.typeAssert,Sem.run_bind,O2 hu,Result.andThen_ok];cases d<;>first|(simp;done)|exact absurd hu (j _)
     ·rename_i he;have A:¬t=g:=λe=>by rw[e,I8]at he;cases he
      cases ok with
      |false=>exact trivial
      |true =>
       refine Qo E (x:=.tuple #[zv,.bool false]) (.tup (.cons D (.cons (.bool _) .nil))) ?_;simp only[Instr.typeAssert,Sem.run_bind,O2 hu,Result.andThen_ok];cases d<;>first|(simp[B,A];done)|exact absurd hu (j _)
   ·exact trivial
 ·exact O0 G _
end
section
open Go.RowKit (Below)
def zfl{t:TypeId}{d:TypeDesc}(h:Wi C t=some d):C.underlying t=some d∧(d=.bool∨(∃k,d=.int k)∨d=.string):=by
 unfold Wi at h;split at h
 ·rename_i hu;cases h;exact⟨hu,.inl rfl⟩
 ·rename_i k hu;cases h;exact⟨hu,.inr (.inl ⟨k,rfl⟩)⟩
 ·rename_i hu;cases h;exact⟨hu,.inr (.inr rfl)⟩
 ·cases h
def z39{w:World}{t:TypeId}{d:TypeDesc}(h:Wi C t=some d)(e:Bool)(v:Value):(Instr.checkKey e 10000 t v).run C w=.ok () w:=by
 obtain⟨hu,hd⟩:=zfl h;show (Instr.checkKey e (9999+1) t v).run C w=_;unfold Instr.checkKey;simp only[Sem.run_bind,O2 hu,Result.andThen_ok];rcases hd with rfl|⟨k,rfl⟩|rfl<;>rfl
def z70{d:TypeDesc}{a b:AV}{r:Bool}(h:zo2 d a b=some r){u v:Value}(hu:VR M a u)(hv:VR M b v) :
  Instr.sameNow d u v=some r∧(r=true→Instr.sameBits 10000 v u=true):=by
 unfold zo2 at h;split at h
 ·split at h
  ·rename_i j;have:=z8o j;subst this;cases h;cases hu;cases hv;rename_i _ E x y _;refine⟨by simp[Instr.sameNow,z8w],λe=>?_⟩;rw[z8w]at e;have:x=y:=F4
   subst this;simp[Instr.sameBits]
  ·cases h
 ·cases h;cases hu with
  | @str _ _ s z A =>
   cases hv with
   | @str _ _ g B C =>
    subst z A B C;rw[←zgy,←beq_toListBytes];refine⟨by simp[Instr.sameNow],λe=>?_⟩;have:s=g:=by
     have D:s.data.toList=g.data.toList:=by rw[beq_toListBytes]at e;rw[←ByteArray.toList_eq,←ByteArray.toList_eq];simpa using e
     exact ByteArray.ext (Mh.1 D)
    subst this;simp only[Instr.sameBits];rw[beq_toListBytes];simp
 ·cases h;cases hu;cases hv;rename_i x y;refine⟨by simp[Instr.sameNow],λe=>?_⟩;have:x=y:=F4
  subst this;simp[Instr.sameBits]
 ·cases h
def zh8{C:CM}{d:TypeDesc}{k:AV}{u:Value}(hu:VR C k u):∀{A:List (AV×AV×Nat)} {g:List MapEntry} {r:Option AV} (i:Nat),zru d k A=some r→MR C A g →
  match r with
  |none=>Instr.findNow d u g i=some none
  |some a=>∃B v,Instr.findNow d u g i=some (some (B,v))∧VR C a v
 |[],[],r,i,h,.nil=>B5
 |(F,G,b)::l,e::_,r,i,h,.cons z hv H hm=>by
  unfold zru at h;split at h
  ·rename_i j;cases h;exact⟨i,e.val,by simp[Instr.findNow,(z70 j hu z).1],hv⟩
  ·rename_i j;have:=zh8 hu (i+1) h hm;cases r with
   |none=>simpa [Instr.findNow,(z70 j hu z).1] using this
   |some a =>
    obtain⟨B,v,D,E⟩:=this;exact⟨B,v,by simpa [Instr.findNow,(z70 j hu z).1] using D,E⟩
  ·cases h
def z41{w:World}{t:TypeId}{d:TypeDesc}(hu:C.underlying t=some d){k:Value}{g:List MapEntry}{r:Option (Nat×Value)}(h:Instr.findNow d k g 0=some r) :
  (Instr.findKey t k g).run C w=.ok r w:=by
 simp[Instr.findKey,O2 hu,h]
def zqs(R:Program)(t:TypeId)(x M:Operand)(ok:Bool):Oi R (zf1 R t x M ok) (λG=>do pure (.value (←Instr.lookup t (G x) (G M) ok))):=by
 unfold zf1;split
 ·rename_i gg X hu;split
  ·rename_i d gA hd hz;refine mq λw0 C gC w G a b O P Y=>?_
   split
   ·exact trivial
   ·rename_i es j;obtain⟨A,_⟩:=zfl hd;obtain⟨zv,H,T⟩:=zqx (w:=w) hz;have I:=zjw (C:=C) T;have K:∃g:Array MapEntry,MR C es g.toList∧((G x=.map none∧g=#[])∨∃b F,G x=.map (some b)∧w.heap[b]?=some (.map g F)):=by
     unfold W6 at j;split at j
     ·cases j;generalize G x=px at P;cases P;exact⟨#[],.nil,.inl ⟨rfl,rfl⟩⟩
     ·rename_i o;split at j
      ·rename_i gz F L;cases j;generalize G x=px at P;cases P with
       |map Z =>
        obtain⟨_,g,D,Q⟩:=O.obj o _ (O.fresh _ _ _ Z) L _ Z;exact⟨g,Q,.inr ⟨_,_,rfl,D⟩⟩
      ·cases j
     ·cases j
    obtain⟨g,hm,B⟩:=K;split
    ·rename_i v U;obtain⟨gD,u,D,Q⟩:=zh8 Y 0 U hm;have z:(Instr.lookup t (G x) (G M) ok).run R w=.ok (if ok then .tuple #[u,.bool true] else u) w:=by
      unfold Instr.lookup;rcases B with ⟨E,rfl⟩|⟨r,F,E,V⟩
      ·simp only[Sem.run_bind,O2 hu,Result.andThen_ok,E,z39 hd,z41 A D,Sem.run_pure]
      ·have L:(getObj r).run R w=.ok (.map g F) w:=by simp[getObj,Sem.run,V]
       simp only[Sem.run_bind,O2 hu,Result.andThen_ok,E,L,z39 hd,z41 A D,Sem.run_pure]
     refine Qo O (x:=if ok then .tuple #[u,.bool true] else u) ?_ Bg;cases ok with
     |true=>exact .tup (.cons Q (.cons (.bool _) .nil))
     |false=>exact Q
    ·rename_i U;have D:=zh8 Y 0 U hm;have z:(Instr.lookup t (G x) (G M) ok).run R w=.ok (if ok then .tuple #[zv,.bool false] else zv) w:=by
      unfold Instr.lookup;rcases B with ⟨E,rfl⟩|⟨r,F,E,V⟩
      ·simp only[Sem.run_bind,O2 hu,Result.andThen_ok,E,z39 hd,z41 A D,Sem.run_pure,H]
      ·have L:(getObj r).run R w=.ok (.map g F) w:=by simp[getObj,Sem.run,V]
       simp only[Sem.run_bind,O2 hu,Result.andThen_ok,E,L,z39 hd,z41 A D,Sem.run_pure,H]
     refine Qo O (x:=if ok then .tuple #[zv,.bool false] else zv) ?_ Bg;cases ok with
     |true=>exact .tup (.cons I (.cons (.bool _) .nil))
     |false=>exact I
    ·exact trivial
  ·exact O0 R _
 ·exact O0 R _
def ze8(w:World){r k:Nat}(x:Obj)(h:k≠r):({ w with heap:=w.heap.setIfInBounds r x }:World).heap[k]?=w.heap[k]?:=by
 show (w.heap.setIfInBounds r x)[k]?=_;rw[Array.getElem?_setIfInBounds_ne J]
def putObj_heap_same(w:World){r:Nat}(x:Obj)(h:r<w.heap.size):({ w with heap:=w.heap.setIfInBounds r x }:World).heap[r]?=some x:=by
 show (w.heap.setIfInBounds r x)[r]?=_;simp[h]
def Rel.putObj{gD:CM}{H:Heap}{w:World}(h:Rel vZ gD H w){o v:Nat}{L:Loc}(hL:gD o v=some L)(hB:vZ.heap.size≤L.b)(ob:AObj)(x:Obj)
  (gz:Qr vZ.heap.size gD { w with heap:=w.heap.setIfInBounds L.b x } o ob) (gg:∀c len C ro,ob≠.cells c len C ro):Rel vZ gD (H.put o ob) { w with heap:=w.heap.setIfInBounds L.b x }:=by
 refine h.put (h.fresh _ _ _ hL) ob (h.low.trans ⟨rfl,rfl,rfl,N,λk hk=>ze8 w x J⟩) N ?_ gz (λc len C ro e=>absurd e (gg c len C ro));intro o' v' L' gA gC;refine ze8 w x (λe=>gA ?_);exact (h.excl _ _ _ _ _ _ hL gC e.symm hB).symm
def MR.length{C:CM}:∀{es:List (AV×AV×Nat)} {gg:List MapEntry},MR C es gg→es.length=gg.length
 |_,_,.nil=>rfl
 |_,_,.cons _ _ _ h=>by simp[MR.length h]
def zbw{F:CM}{d:TypeDesc}{k v:AV}{u x:Value}(hu:VR F k u)(B:VR F v x){G:Nat}:∀{H j:List (AV×AV×Nat)} {g:List MapEntry} {n:Bool} (i:Nat),zci d k v G H=some (j,n)→MR F H g →
  match n with
  |true=>Instr.findNow d u g i=some none∧MR F j (g++[{ key:=u,val:=x,born:=G }])
  |false=>∃C e y,Instr.findNow d u g i=some (some (C+i,y))∧g[C]?=some e∧Instr.sameBits 10000 e.key u=true∧MR F j (g.modify C λe=>{ e with key:=u,val:=x })
 |[],j,[],n,i,h,.nil=>by
  cases h;exact⟨rfl,.cons hu B rfl .nil⟩
 |(R,T,b)::l,j,e::r,n,i,h,.cons z hv D hm=>by
  unfold zci at h;split at h
  ·rename_i E;cases h;obtain⟨A,I⟩:=z70 E hu z;exact⟨0,e,e.val,by simp[Instr.findNow,A],rfl,I rfl,by simpa using MR.cons (e:={ e with key:=u,val:=x }) hu B D hm⟩
  ·rename_i E;obtain⟨A,_⟩:=z70 E hu z;split at h
   ·rename_i U V K;cases h;have:=zbw hu B (i+1) K hm;cases n with
    |true=>exact⟨by simpa [Instr.findNow,A] using this.1,.cons z hv D this.2⟩
    |false =>
     obtain⟨C,L,y,M,O,P,Q⟩:=this;refine⟨C+1,L,y,?_,by simpa using O,P,by simpa using MR.cons z hv D Q⟩;rw[show C+1+i=C+(i+1) from J];simpa [Instr.findNow,A] using M
   ·cases h
  ·cases h
def zcm(O:Program)(t:TypeId)(m k x:Operand):Oi O (z6a O t m k x) (λD=>do Instr.mapUpdate t (D m) (D k) (D x);pure .skip):=by
 unfold z6a;split
 ·rename_i gz X hu;split
  ·rename_i d hd;obtain⟨E,_⟩:=zfl hd;intro w0 gg gD w gE D F P;dsimp only;split
   ·rename_i o ka va hm hk hx;have G:=P _ _ hm;have H:=P _ _ hk;have I:=P _ _ hx;split
    ·rename_i es L hg;generalize gA:D m=pm at G;cases G with
     |map B =>
      rename_i Y;obtain⟨M,j,Z,q2⟩:=F.obj o _ (F.fresh _ _ _ B) hg _ B;have K:=F.lt _ _ _ B;have z:(getObj Y.b).run O w=.ok (.map j L) w:=by simp[getObj,Sem.run,Z]
      have A:∀y,(setObj Y.b y).run O w=.ok () { w with heap:=w.heap.setIfInBounds Y.b y }:=by intro y;simp[setObj,Sem.run,Z]
      split
      ·rename_i Q R;obtain⟨T,U⟩:=zbw H I 0 R q2;refine⟨gg,{ w with heap:=w.heap.setIfInBounds Y.b (.map (j.push { key:=D k,val:=D x,born:=L }) (L+1)) },undef,CM.le_refl gg,F.putObj B M _ _ ?_ (λ_ _ _ _ e=>Ar),.tup .nil,.inr ⟨?_,rfl⟩⟩
       ·intro L' g;rw[B]at g;cases g;exact⟨M,_,putObj_heap_same w _ K,by rw[Array.toList_push];exact U⟩
       ·simp only[Instr.mapUpdate,Sem.run_bind,O2 hu,Result.andThen_ok,z,z39 hd,z41 E T,A,Sem.run_pure]
      ·rename_i Q R;obtain⟨gC,e,y,T,U,p3,p4⟩:=zbw H I 0 R q2;have V:j[gC]?=some e:=Fy
       refine⟨gg,{ w with heap:=w.heap.setIfInBounds Y.b (.map (j.modify gC λe=>{ e with key:=D k,val:=D x }) L) },undef,CM.le_refl gg,F.putObj B M _ _ ?_ (λ_ _ _ _ e=>Ar),.tup .nil,.inr ⟨?_,rfl⟩⟩
       ·intro L' g;rw[B]at g;cases g;exact⟨M,_,putObj_heap_same w _ K,by rw[Array.toList_modify];exact p4⟩
       ·have C:(Instr.keyThatStays e.key (D k)).run O w=.ok (D k) w:=by simp[Instr.keyThatStays,p3]
        simp only[Instr.mapUpdate,Sem.run_bind,O2 hu,Result.andThen_ok,z,z39 hd,z41 E T,Kl,V,J7,Jz,C,A,Sem.run_pure]
      ·exact trivial
    ·exact trivial
   ·exact trivial
  ·exact O0 O _
 ·exact O0 O _
def zvd(A:Program)(t:TypeId)(x:Operand):Oi A (rangeF A t x) (λB=>do pure (.value (←Instr.range t (B x)))):=by
 unfold rangeF;split
 ·rename_i hu;refine T3 λG H I w B a g j=>?_
  split
  ·rename_i len n;generalize B x=K at j;cases j with
   | @str _ _ s C D =>
    obtain⟨E,F⟩:=g.push (.iter len n 0) (.stringIter s 0) 0 0 (λL z=>by
     rw[CM.ext_same]at z;cases z;exact⟨g.low.size,rfl,s,vi _ _,C,D⟩)
    refine⟨_,_,.pointer (some ⟨w.heap.size,0,none⟩),F,E,by simpa using VR.ptr (i:=0) (CM.ext_same H I.next 0 ⟨w.heap.size,0,0,0⟩),.inl ?_⟩;simp only[Instr.range,Sem.run_bind,O2 hu,Sem.run_pure,Result.andThen_ok,run_newObj];rfl
  ·exact trivial
 ·exact O0 A _
def zyk(gg:Program)(x:Operand)(j:Bool)(ty:TypeId):Oi gg (Xh x j) (λρ=>do pure (.value (←Instr.next (ρ x) j ty))):=by
 unfold Xh;split
 ·rename_i hs;subst hs;refine T3 λw0 gz gA w ρ a C U=>?_
  split
  ·rename_i o;split
   ·rename_i len n g hg;generalize ρ x=px at U;cases U with
    | @ptr _ _ _ M D =>
     obtain⟨V,E,s,X,Y,Z⟩:=C.obj o _ (C.fresh _ _ _ D) hg _ D;have O:=C.lt _ _ _ D;have A:(getObj M.b).run gg w=.ok (.stringIter s g) w:=by simp[getObj,Sem.run,X]
     have F:∀y,(setObj M.b y).run gg w=.ok () { w with heap:=w.heap.setIfInBounds M.b y }:=by intro y;simp[setObj,Sem.run,X]
     have B:(⟨M.b,M.d+0,none⟩:Addr)=⟨M.b,0,none⟩:=by rw[E]
     rw[B];split
     ·rename_i G;have H:g<len:=by rw[Tb]at G;simpa using G
      have z:g<s.size:=Fx
      split
      ·rename_i P;have Q:s.data.toList[g]?=some s[g]:=by
        rw[H6 (by rw[Y];exact H)];rfl
       have I:=zjz Q;rw[Z]at I;have R:Nat.mod (Nat.div n (Nat.pow 256 g)) 256=s[g].toNat:=I;rw[R]at P ⊢;have T:s[g].toNat<128:=by rw[Tb]at P;simpa using P
       have K:=decode_ascii s g z T;refine⟨gz,{ w with heap:=w.heap.setIfInBounds M.b (.stringIter s (g+1)) },.tuple #[.bool true,goInt g,.int .i32 (s[g].toNat:Int)],CM.le_refl gz,
        C.putObj D V _ _ ?_ (λ_ _ _ _ e=>Ar),.tup (.cons (.bool _) (.cons (.int _ _) (.cons (.int _ _) .nil))),.inl ?_⟩
       ·intro L' L;rw[D]at L;cases L;exact⟨V,E,s,putObj_heap_same w _ O,Y,Z⟩
       ·simp only[Instr.next,Sem.run_bind,A,Result.andThen_ok,H7 z,K,F,Sem.run_pure]
      ·exact trivial
     ·rename_i G;have H:¬g<len:=by rw[Tb]at G;simpa using G
      have z:¬g<s.size:=Fx
      refine Qo C (x:=.tuple #[.bool false]) (.tup (.cons (.bool _) .nil)) ?_;simp only[Instr.next,Sem.run_bind,A,Result.andThen_ok,Hx z,Sem.run_pure]
   ·exact trivial
  ·exact trivial
 ·exact O0 gg _
end
section
open Go.RowKit (Below)
def Rel.bump{C:CM}{H:Heap}{w w':World}(h:Rel vZ C H w){o len:Nat}{c:Tr AV}(ho:o<H.next)(gF:∃v L,C o v=some L)(hg:H.get o=some (.cells c len j false))(L':Loc)(c':Tr AV)(gA:Nat)
  (gD:Below vZ.heap.size vZ w') (gG:w.heap.size≤w'.heap.size) (gH:L'.b<w'.heap.size) (hex:∀o' v L,C o' v=some L→L.b=L'.b→o'=o)
  (gI:∀o' v L,o'≠o→C o' v=some L→w'.heap[L.b]?=w.heap[L.b]?) (gK:Qr vZ.heap.size (C.ext o (j+1) L') w' o (.cells c' gA (j+1) false)) :
  Rel vZ (C.ext o (j+1) L') (H.put o (.cells c' gA (j+1) false)) w'∧C.le (C.ext o (j+1) L'):=by
 have gC:C o (j+1)=none:=by
  cases e:C o (j+1) with
  |none=>rfl
  |some L=>have:=h.top _ _ _ _ _ ho hg _ _ e;omega
 have hle:C.le (C.ext o (j+1) L'):=CM.le_ext _ gC (.inl gF);refine⟨⟨by show max C.nx (o+1)=H.next;rw[h.nx];exact Nat.max_eq_left ho,gD,?_,?_,?_,?_,?_⟩,hle⟩
 ·intro o' v L hL;by_cases e:o'=o∧v=j+1
  ·rw[e.1];exact ho
  ·rw[CM.ext_ne _ _ e]at hL;exact h.fresh _ _ _ hL
 ·intro o' v L hL;by_cases e:o'=o∧v=j+1
  ·obtain⟨rfl,rfl⟩:=e;rw[CM.ext_same]at hL;cases hL;exact gH
  ·rw[CM.ext_ne _ _ e]at hL;exact I0 (h.lt _ _ _ hL) gG
 ·intro o1 v1 L1 o2 v2 L2 h1 h2 hb hB;by_cases e1:o1=o∧v1=j+1<;>by_cases e2:o2=o∧v2=j+1
  ·rw[e1.1,e2.1]
  ·obtain⟨rfl,rfl⟩:=e1;rw[CM.ext_same]at h1;cases h1;rw[CM.ext_ne _ _ e2]at h2;exact (hex _ _ _ h2 hb.symm).symm
  ·obtain⟨rfl,rfl⟩:=e2;rw[CM.ext_same]at h2;cases h2;rw[CM.ext_ne _ _ e1]at h1;exact hex _ _ _ h1 hb
  ·rw[CM.ext_ne _ _ e1]at h1;rw[CM.ext_ne _ _ e2]at h2;exact h.excl _ _ _ _ _ _ h1 h2 hb hB
 ·intro o' ob gz gg;by_cases e:o'=o
  ·subst e;rw[Heap.get_put_same]at gg;cases gg;exact gK
  ·have gE:o'<H.next:=gz;rw[Heap.get_put_ne H _ e]at gg;exact (h.obj _ _ gz gg).frame hle (λv L hL=>by rwa [CM.ext_ne _ _ (λq=>e q.1)]at hL) (λv L hL=>gI _ _ _ e hL)
 ·intro o' c1 gL gM gO gz gg v L hL;by_cases e:o'=o
  ·subst e;rw[Heap.get_put_same]at gg;cases gg;by_cases e2:v=j+1
   ·omega
   ·rw[CM.ext_ne _ _ J]at hL;have:=h.top _ _ _ _ _ ho hg _ _ hL;omega
  ·have gE:o'<H.next:=gz;rw[Heap.get_put_ne H _ e]at gg;rw[CM.ext_ne _ _ (λq=>e q.1)]at hL;exact h.top _ _ _ _ _ gz gg _ _ hL
structure AppX (P:Program) (w:World) (elem:TypeId) (size:Nat) (xt:TypeId) (x:Value) (n:Nat) (news:Array Value):Prop where
 und:∃d,P.underlying xt=some d∧((d=.string∨∃e,d=.slice e)∧(Builtin.lenOf x).run P w=.ok n w∧(∀w',w'.heap=w.heap→(Builtin.firstCells size n x).run P w'=.ok news w')
  ∨ (∃k,d=.int k)∧x=.int .i64 (Int.ofNat n)∧n≤1048576∧0<size∧∃zv,(∀w',(zeroValue elem).run P w'=.ok zv w')∧(∃i,P.info? elem=some i∧i.bytes≤65536)∧news=Builtin.zeroCells zv.cells n∧zv.cells.size=size)
def zg3(g:Array Value):Builtin.zeroCells g 0=#[]:=by simp[Builtin.zeroCells]
def z2q{w w':World}{st elem ty:TypeId}{n len cap:Nat}{base:Option Addr}{x:Value}(hu:C.underlying st=some (.slice elem))(H:Px C elem=some g)
  (K:AppX C w elem g v8 x n vM) (A:len+n≤cap)
  (j:match base with
   |none=>w'=w
   |some a=>(storeCells (a.add (len*g)) vM.toList).run C w=.ok () w') :
  (Builtin.append_ #[st,v8] ty #[.slice base len cap,x]).run C w=.ok (.slice base (len+n) cap) w':=by
 obtain⟨d,hd,z⟩:=K.und;unfold Builtin.append_;rcases z with ⟨D,B,L⟩|⟨⟨k,rfl⟩,rfl,M,I,zv,O,⟨i,hi,E⟩,rfl,P⟩
 ·rcases D with rfl|⟨e,rfl⟩
  all_goals
   simp only[Jy,Is,Io,Sem.run_bind,O2 hu,O2 hd,Tg H,Result.andThen_ok,Sem.run_pure,Ks,Lp,B,Sem.run_ite,H7 A,Bool.not_false,Jo,L w rfl];cases base with
   |none=>subst j;rfl
   |some a=>simp only[Sem.run_bind,j,Result.andThen_ok,Sem.run_pure]
 ·have Q:IntKind.i64.wrap (Int.ofNat n)=Int.ofNat n:=Au
  have R:¬(Int.ofNat n<0):=N
  have T:¬(Int.ofNat n*(i.bytes:Int)>2^48):=by
   have:(Int.ofNat n*(i.bytes:Int))=((n*i.bytes:Nat):Int):=N
   rw[this];have:n*i.bytes≤1048576*65536:=Jn M E;omega
  simp only[Jy,Is,Io,Sem.run_bind,O2 hu,O2 hd,Tg H,Result.andThen_ok,Sem.run_pure,Jo,asInt,asIntOf,Q,Sem.run_ite,Hx R,xj hi,Hx T,Bool.not_true,Ks,Lp];have U:(Int.ofNat n).toNat=n:=rfl;rw[U,H7 A];by_cases F:n*g=0
  ·have G:n=0:=by
    rcases Nat.mul_eq_zero.1 F with h|h
    ·exact h
    ·omega
   subst G;rw[zg3]at j;rw[H7 F];simp only[Result.andThen_ok];cases base with
   |none=>subst j;rfl
   |some a=>simp only[Sem.run_bind,j,Result.andThen_ok,Sem.run_pure]
  ·rw[Hx F];simp only[O,Result.andThen_ok];cases base with
   |none=>subst j;rfl
   |some a=>simp only[Sem.run_bind,j,Result.andThen_ok,Sem.run_pure]
def z7e{w:World}{st elem ty:TypeId}{i:TypeInfo}{n len cap:Nat}{base:Option Addr}{x zv:Value}{olds:Array Value}(hu:C.underlying st=some (.slice elem))(hi:C.info? elem=some i)
  (U:AppX C w elem i.size v8 x n vM) (K:cap<len+n) (G:i.bytes≤65536) (E:len+n≤2000000000) (L:∀w',(zeroValue elem).run C w'=.ok zv w')
  (z:(Builtin.firstCells i.size len (.slice base len cap)).run C w.drew=.ok olds w.drew) :
  (Builtin.append_ #[st,v8] ty #[.slice base len cap,x]).run C w =
   .ok (.slice (some ⟨w.heap.size,0,none⟩) (len+n) (grownCap w (len+n) cap elem)) (w.drew.alloc (.cells (olds++vM++Builtin.zeroCells zv.cells (grownCap w (len+n) cap elem-(len+n))) elem)):=by
 have R:Px C elem=some i.size:=Gl
 obtain⟨d,hd,F⟩:=U.und;have A:¬(len+n≤cap):=J
 have B:¬(Builtin.nextslicecap (len+n) cap*i.bytes>2^48):=by
  have h1:(len+n)*i.bytes≤2000000000*65536:=Jn E G;have:=growslice_fits (bytes:=i.bytes) K J;omega
 have D:¬(((len+n:Nat):Int)>IntKind.i64.max):=by
  simp only[IntKind.max,IntKind.signed,IntKind.bits,Jo];omega
 have g:(Question.appendCap (len+n) cap elem).forced=false:=rfl;unfold Builtin.append_;rcases F with ⟨M,H,V⟩|⟨⟨k,rfl⟩,rfl,X,T,O,I,⟨gg,hj,_⟩,rfl,Y⟩
 ·have j:(Builtin.firstCells i.size len (.slice base len cap)).run C { w with drawn:=w.drawn+1 }=.ok olds { w with drawn:=w.drawn+1 }:=z;rcases M with rfl|⟨e,rfl⟩
  all_goals
   simp only[Jy,Is,Io,Sem.run_bind,O2 hu,O2 hd,Tg R,Result.andThen_ok,Sem.run_pure,Ks,Lp,H,Sem.run_ite,Hx A,xj hi,D,false_and,Hx B,run_choose,g,run_askRoom];simp only[j,Result.andThen_ok,Bool.not_false,Jo,V { w with drawn:=w.drawn+1 } rfl,L,newRow,Sem.run_bind,run_newObj,Sem.run_pure];rfl
 ·obtain rfl:O=zv:=by have a:=I w;rw[L w]at a;cases a;rfl
  have Z:IntKind.i64.wrap (Int.ofNat n)=Int.ofNat n:=Au
  have e2:¬(Int.ofNat n<0):=N
  have e3:¬(Int.ofNat n*(i.bytes:Int)>2^48):=by
   have:(Int.ofNat n*(i.bytes:Int))=((n*i.bytes:Nat):Int):=N
   rw[this];have:n*i.bytes≤1048576*65536:=Jn X G;omega
  simp only[Jy,Is,Io,Sem.run_bind,O2 hu,O2 hd,Tg R,Result.andThen_ok,Sem.run_pure,Jo,asInt,asIntOf,Z,Sem.run_ite,Hx e2,xj hi,Hx e3,Bool.not_true,Ks,Lp];have e4:(Int.ofNat n).toNat=n:=rfl;rw[e4,Hx A];simp only[D,false_and,Lp,Result.andThen_ok,Hx B,run_choose,g,Ks,run_askRoom];have j:(Builtin.firstCells i.size len (.slice base len cap)).run C { w with drawn:=w.drawn+1 }=.ok olds { w with drawn:=w.drawn+1 }:=z;simp only[j,Result.andThen_ok];by_cases P:n*i.size=0
  ·have Q:n=0:=by
    rcases Nat.mul_eq_zero.1 P with h|h
    ·exact h
    ·omega
   subst Q;rw[H7 P];simp only[Sem.run_pure,Result.andThen_ok,zg3,L,newRow,Sem.run_bind,run_newObj];rfl
  ·rw[Hx P];simp only[Sem.run_bind,I,Sem.run_pure,Result.andThen_ok,newRow,run_newObj];rfl
def zh3{P:Program}{t:TypeId}{l:List AV}(h:Th P t=some l):∃v i,(∀w',(zeroValue t).run P w'=.ok v w')∧Vk v.cells.toList=some l∧P.info? t=some i∧l.length=i.size:=by
 unfold Th at h;cases hi:P.info? t with
 |none=>simp[hi]at h
 |some i =>
  simp only[hi]at h;cases g:i.zero with
  |none=>simp[g]at h
  |some v =>
   simp only[g]at h;cases j:Vk v.cells.toList with
   |none=>simp[j]at h
   |some r =>
    simp only[j]at h;split at h
    ·cases h;rename_i z;exact⟨v,i,λw'=>E7,j,rfl,z⟩
    ·cases h
def zbc{l r:List Value}{n:Nat}(h:l.length=n):(l++r).take n=l:=by rw[←h];simp
def Zl{O:Program}{C:CM}{w:World}(E:Rel K C G w){elem:TypeId}{i:TypeInfo}{n:Nat}{l:List AV}{cs:Array Value}{cap:Nat}(g:n≤cap)
  (P:l.length=n*i.size) (F:cs.size=cap*i.size) (hv:VRs C l (cs.toList.take l.length)) (H:∀a∈l,a.one=true) {D:Sem Next}
  (j:D.run O w=.ok (.value (.slice (some ⟨w.heap.size,0,none⟩) n cap)) (w.drew.alloc (.cells cs elem))):R0 O K C w D (mv G n i.size l):=by
 unfold mv;cases I:newObj G l with
 |none=>exact trivial
 |some r =>
  obtain⟨o,Q⟩:=r;have hm:n*i.size≤cap*i.size:=Ii _ g;obtain⟨L,z,A,B⟩:=E.drew.newRow I elem (0,0) (vs:=cs) J hv H N;refine⟨L,_,_,z,A,?_,.inl j⟩;have:=VR.sl (i:=0) (len:=n) (esz:=i.size) (room:=none) (cap:=cap) B Ay Ay g (λr M=>by cases M) (λ_=>Ay);simpa using this
def zsh{P:Program}{C:CM}{w:World}(H:Rel K C G w){st elem ty:TypeId}{i:TypeInfo}(hu:P.underlying st=some (.slice elem))(hi:P.info? elem=some i)(gU:0<i.size)
  (gG:i.bytes≤65536) (hz:Th P elem=some X) {s:AV} {x:Value} (hs:VR C s vG) {n:Nat} {j:List AV} {news:Array Value} (Z:AppX P w elem i.size v8 x n news) (hn:n≤1048576)
  (D:VRs C j news.toList) (I:∀a∈j,a.one=true) (gA:j.length=n*i.size) :
  R0 P K C w (do pure (.value (←Builtin.append_ #[st,v8] ty #[vG,x]))) (X1 G i.size s n j):=by
 have Q:Px P elem=some i.size:=Gl
 obtain⟨zv,gT,gH,jG,gV,jZ⟩:=zh3 hz;rw[hi]at gV;cases gV;have gI:zv.cells.size=i.size:=by
  have:=(jw (C:=C) jG).1.length;simp at this;omega
 have M:news.size=n*i.size:=by have:=D.length;simp at this;omega
 unfold X1;split
 ·rename_i h0;have gY:n=0:=Ie h0;subst gY;have gZ:news=#[]:=Kt J;subst gZ;split
  ·cases hs;have z:=z2q (ty:=ty) (base:=none) (len:=0) (cap:=0) (w':=w) hu Q Z J rfl;exact Qo H .nilSl Bg
  ·cases hs with
   | @emp a cap =>
    have z:=z2q (ty:=ty) (base:=some a) (len:=0) (cap:=cap) (w':=w) hu Q Z J rfl;exact Qo H (x:=.slice (some a) 0 cap) .emp Bg
  ·rename_i o v k len g9 gC;have jH:=hs;cases hs with
   | @sl _ _ _ _ _ _ L cap O q1 q2 q3 =>
    have z:=z2q (ty:=ty) (base:=some ⟨L.b,L.d+k,none⟩) (len:=len) (cap:=cap) (w':=w) hu Q Z J rfl;exact Qo H jH (by simp only[Sem.run_bind,z,Result.andThen_ok,Sem.run_pure];rfl)
  ·exact trivial
 ·rename_i h0;have gY:n≠0:=λe=>by rw[e]at h0;cases h0
  split
  ·cases hs;have T:=grownCap_ge w (0+n) 0 elem;refine Zl H (elem:=elem) (cap:=grownCap w (0+n) 0 elem) (cs:=#[]++news++Builtin.zeroCells zv.cells (grownCap w (0+n) 0 elem-(0+n))) J gA ?_ ?_ I ?_
   ·rw[Ky,Ky,size_zeroCells,gI,M];have:=z8m i.size (show 0+n≤grownCap w (0+n) 0 elem from T);simp at this ⊢;omega
   ·rw[Lu,Lu,zbc Ab];simpa using D
   ·have:=z7e (ty:=ty) (base:=none) (len:=0) (cap:=0) (olds:=#[]) hu hi Z J gG J gH (by simp[Builtin.firstCells]);simp only[Sem.run_bind,this,Result.andThen_ok,Sem.run_pure,Iy]
  ·rename_i o v k len g9 gC;split
   ·exact trivial
   ·rename_i he;rw[Hy]at he;have gD:len≤Q1:=Ih he.2;have jI:g9=i.size:=Ie he.1;subst jI;cases hs with
    | @sl _ _ _ _ _ _ L cap O q1 q2 q3 q4 q5 =>
     have U:(⟨L.b,L.d+k,none⟩:Addr).add (len*i.size)=⟨L.b,L.d+(k+len*i.size),none⟩:=zt _ _ _ _;have jg:(len+n)*i.size=len*i.size+n*i.size:=Iu _ _ _;have gE:∀F,Rs G o v k (len*i.size)=some F→∃A:Array Value,(Builtin.firstCells i.size len (.slice (some ⟨L.b,L.d+k,none⟩) len cap)).run P w.drew=.ok A w.drew∧VRs C F A.toList∧(∀a∈F,a.one=true)∧F.length=len*i.size:=by
      intro F z;obtain⟨vs,p1,V,p3,p4,_,_⟩:=H.drew.read P z O;exact⟨vs.toArray,by simpa [Builtin.firstCells] using p1,by simpa using V,p3,p4⟩
     split
     ·rename_i r;obtain⟨jz,gK⟩:=q4 r rfl;subst jz;split
      ·rename_i R;have E:len+n≤cap:=Ih R;split
       ·rename_i H' hw;have gL:Xe G o v (k+len*i.size) j=some H':=hw;obtain⟨Y,p1,V⟩:=H.write P gL O D I;have jK:(len+n)*i.size≤cap*i.size:=Ii _ E;refine⟨C,Y,.slice (some ⟨L.b,L.d+k,none⟩) (len+n) cap,CM.le_refl C,V,.sl O (J:k+(len+n)*i.size≤L.n) q2 E (λr z=>by cases z;exact⟨rfl,gK⟩) (λe=>Ar),.inl ?_⟩;simp only[Sem.run_bind,z2q (w':=Y) (base:=some ⟨L.b,L.d+k,none⟩) hu Q Z E (by dsimp only;rw[U];exact p1),Result.andThen_ok,Sem.run_pure]
       ·exact trivial
      ·rename_i R;have jL:cap<len+n:=by
        rcases Ku cap (len+n) with h|h
        ·exact h
        ·rw[show Nat.ble (Nat.add len n) cap=true from Ib h]at R;cases R
       split
       ·rename_i F z;obtain⟨A,p1,V,p3,p4⟩:=gE F z;have gg:A.size=len*i.size:=by have:=V.length;simp at this;omega
        have T:=grownCap_ge w (len+n) cap elem;refine Zl H (elem:=elem) (cap:=grownCap w (len+n) cap elem) (cs:=A++news++Builtin.zeroCells zv.cells (grownCap w (len+n) cap elem-(len+n))) T ?_ ?_ ?_ ?_ ?_
        ·rw[H9,p4,gA];exact jg.symm
        ·rw[Ky,Ky,size_zeroCells,gI,M,gg];have:=z8m i.size T;omega
        ·rw[Lu,Lu,zbc Ab];exact V.append D
        ·intro a ha;rcases Ir.1 ha with h|h
         ·exact p3 a h
         ·exact I a h
        ·have:=z7e (ty:=ty) (base:=some ⟨L.b,L.d+k,none⟩) hu hi Z jL gG (by unfold Q1 at gD;omega) gH p1;simp only[Sem.run_bind,this,Result.andThen_ok,Sem.run_pure]
       ·exact trivial
     ·have gM:=q5 rfl;split
      ·rename_i c g jM T;split
       ·exact trivial
       ·rename_i hv;have jO:v=jM:=Ie hv;subst jO;have ho:=H.fresh _ _ _ O;have jP:=H.obj o _ ho T;obtain⟨p1,V,p3,vs,e,lo,jA,p4,p5,p6,p7⟩:=jP L O;split
        ·rename_i R;have E:k+(len+n)*i.size≤g:=Ih R;have gF:len+n≤cap:=by
          have:(len+n)*i.size≤cap*i.size:=J
          exact Mv this gU
         split
         ·rename_i H' hw;have gL:Xe G o v (k+len*i.size) j=some H':=hw;obtain⟨Y,r1,r2⟩:=H.write P gL O D I;refine⟨C,Y,.slice (some ⟨L.b,L.d+k,none⟩) (len+n) cap,CM.le_refl C,r2,.sl O (J:k+(len+n)*i.size≤L.n) q2 gF (λr z=>by cases z) (λ_=>gM),.inl ?_⟩;simp only[Sem.run_bind,z2q (w':=Y) (base:=some ⟨L.b,L.d+k,none⟩) hu Q Z gF (by dsimp only;rw[U];exact r1),Result.andThen_ok,Sem.run_pure]
         ·exact trivial
        ·rename_i jX;split
         ·exact trivial
         ·rename_i hk;have jQ:k=0:=Ie hk;subst jQ;split
          ·exact trivial
          ·rename_i jB;have gO:len*i.size=g:=Ie jB;by_cases hc:len+n≤cap
           ·
            have jK:(len+n)*i.size≤cap*i.size:=Ii _ hc;obtain⟨Y,jR,r1,r2,r3,r4,r5,r6,r7,r8,r9⟩:=z9c P ⟨L.b,L.d+(0+len*i.size),none⟩ news.toList 0 w vs e lo jA rfl p4 (D.one I) Ab
             (λgT hj gz=>by simp at hj gz;exact p6 gT J J)
            obtain⟨gQ,E⟩:=H.bump ho ⟨_,_,O⟩ T ⟨L.b,L.d,g+j.length,L.sz⟩ (Sa j g c) (g+j.length) (w':=Y)
             (H.low.trans ⟨r6,r7,r8,J,λgT hj=>r4 gT (by dsimp only;have:=V rfl;omega)⟩) J (show L.b<Y.heap.size by rw[r5];exact H.lt _ _ _ O)
             (λo' v' L' B hb=>(H.excl _ _ _ _ _ _ O B hb.symm (V rfl)).symm)
             (λo' v' L' jT B=>r4 _ (λe'=>jT (H.excl _ _ _ _ _ _ O B e'.symm (V rfl)).symm))
             (by
              intro L' B;rw[CM.ext_same]at B;cases B;refine⟨rfl,λ_=>V rfl,Ay,jR,e,lo,jA,r2,Ay,p6,?_⟩;refine mr.mono (CM.le_ext _ ?_ (.inl ⟨_,_,O⟩)) (p7.lay D I (Ia _) (Ia _) (.inr rfl) (λgT=>?_))
              ·cases e':C o (v+1) with
               |none=>rfl
               |some jU=>have:=H.top _ _ _ _ _ ho T _ _ e';omega
              ·rw[r9 gT];have:L.d+(0+len*i.size)+0=L.d+g:=J
               simp only[this])
            refine⟨_,Y,.slice (some ⟨L.b,L.d+0,none⟩) (len+n) cap,E,gQ,?_,.inl ?_⟩
            ·exact VR.sl (L:=⟨L.b,L.d,g+j.length,L.sz⟩) (i:=0) (len:=len+n) (esz:=i.size) (room:=none) (cap:=cap) (CM.ext_same C o (v+1) ⟨L.b,L.d,g+j.length,L.sz⟩)
              Ay Ay hc (λr z=>by cases z) (λ_=>Ay)
            ·simp only[Sem.run_bind,z2q (w':=Y) (base:=some ⟨L.b,L.d+0,none⟩) hu Q Z hc (by dsimp only;rw[U];exact r1),Result.andThen_ok,Sem.run_pure]
           ·
            have z:∃F,Rs G o v 0 (len*i.size)=some F:=by
             unfold Rs;rw[T];have hb:Nat.ble (Nat.add 0 (len*i.size)) g=true:=Ib (by show 0+len*i.size≤g;omega);simp only[I8,hb];have:∀m a,a+m≤g→∃l,Tl c a m=some l:=by
              intro m
              induction m with
              |zero=>intro a _;exact⟨[],rfl⟩
              |succ m ih =>
               intro a ha;obtain⟨x1,y1,_⟩:=p7 a J;obtain⟨l1,y2⟩:=ih (a+1) J;exact⟨x1::l1,by simp only[Tl,y1,y2]⟩
             exact this _ 0 J
            obtain⟨F,z⟩:=z;obtain⟨A,s1,s2,s3,s4⟩:=gE F z;have gg:A.size=len*i.size:=by have:=s2.length;simp at this;omega
            have jC:=grownCap_ge w (len+n) cap elem;have jD:=z7e (ty:=ty) (base:=some ⟨L.b,L.d+0,none⟩) hu hi Z J gG (by unfold Q1 at gD;omega) gH s1;have j5:=z8m i.size jC;have jE:(A++news++Builtin.zeroCells zv.cells (grownCap w (len+n) cap elem-(len+n))).size=grownCap w (len+n) cap elem*i.size:=by
             rw[Ky,Ky,size_zeroCells,gI,M,gg];omega
            obtain⟨gQ,E⟩:=H.bump ho ⟨_,_,O⟩ T ⟨w.heap.size,0,g+j.length,grownCap w (len+n) cap elem*i.size⟩ (Sa j g c) (g+j.length)
             (w':=w.drew.alloc (.cells (A++news++Builtin.zeroCells zv.cells (grownCap w (len+n) cap elem-(len+n))) elem))
             (H.low.drew.alloc H.low.size _) (by rw[World.size_alloc,World.size_drew];omega) (by rw[World.size_alloc,World.size_drew];dsimp only;omega)
             (λo' v' L' B hb=>by have:=H.lt _ _ _ B;dsimp only at hb;omega)
             (λo' v' L' _ B=>z7s w.drew _ (H.lt _ _ _ B))
             (by
              intro L' B;rw[CM.ext_same]at B;cases B;refine⟨rfl,λ_=>H.low.size,Ay,_,elem,0,0,vi w.drew _,by rw[jE];exact Ia _,λ_ _ _=>J,?_⟩;have gR:C o (v+1)=none:=by
               cases e':C o (v+1) with
               |none=>rfl
               |some jU=>have:=H.top _ _ _ _ _ ho T _ _ e';omega
              refine mr.mono (CM.le_ext _ gR (.inl ⟨_,_,O⟩)) ?_;obtain⟨g1,g2⟩:=xl (show Tl c 0 (len*i.size)=some F by
               unfold Rs at z;rw[T]at z;dsimp only at z;split at z
               ·split at z
                ·exact z
                ·cases z
               ·cases z)
              intro gT hj;rw[get_ofList j g c gT,Iy];by_cases gz:g≤gT∧gT<g+j.length
              ·rw[H7 gz];obtain⟨a,x1,y1,y2,y3⟩:=D.get' (i:=gT-g) J;refine⟨a,y1,I a (Iq y1),x1,?_,y3⟩;rw[K9 (by rw[Ky];omega),Array.getElem?_append_right J,gg,gO];simpa using y2
              ·rw[Hx gz];have jV:gT<len*i.size:=J
               have:=g2 gT jV;rw[Iy]at this;obtain⟨a,x1,y1,y2,y3⟩:=s2.get' (i:=gT) J;rw[y1]at this;refine⟨a,this,s3 a (Iq y1),x1,?_,y3⟩;rw[K9 (by rw[Ky];omega),K9 J];simpa using y2)
            refine⟨_,_,.slice (some ⟨w.heap.size,0,none⟩) (len+n) (grownCap w (len+n) cap elem),E,gQ,?_,.inl ?_⟩
            ·have:=VR.sl (i:=0) (len:=len+n) (esz:=i.size) (room:=none) (cap:=grownCap w (len+n) cap elem) (CM.ext_same C o (v+1) ⟨w.heap.size,0,g+j.length,grownCap w (len+n) cap elem*i.size⟩)
              Ay Ay jC (λr z=>by cases z) (λ_=>Ay)
             simpa using this
            ·simp only[Sem.run_bind,jD,Result.andThen_ok,Sem.run_pure]
      ·exact trivial
  ·exact trivial
end
section
open Go.RowKit (Below)
def zqc{w:World}(h:K.heap=w.heap)(a:Addr):K.cell? a=w.cell? a:=by simp[World.cell?,h]
def znj{P:Program}{C:CM}{w:World}(R:Rel K C G w){b:AV}{x:Value}(D:VR C b x){n:Nat}{l:List AV}(h:vx G g b=some (n,l)) :
  ∃A:List Value,VRs C l A∧(∀a∈l,a.one=true)∧l.length=n*g∧(Builtin.lenOf x).run P w=.ok n w ∧
   ∀m,m≤n→∀z,z.heap=w.heap→(Builtin.firstCells g m x).run P z=.ok (A.take (m*g)).toArray z:=by
 unfold vx at h;split at h
 ·cases h;cases D;exact⟨[],.nil,N,N,rfl,λm hm z _=>by simp[Builtin.firstCells]⟩
 ·cases h;cases D with
  | @emp a cap =>
   refine⟨[],.nil,N,N,rfl,λm hm z _=>?_⟩;have:m=0:=J
   subst this;simp only[Builtin.firstCells,K2];rw[zav P z a 0 [] rfl (λQ I=>J)];rfl
 ·rename_i o v i len j L;split at h
  ·rename_i he;have F:j=g:=Ie he;subst F;split at h
   ·rename_i l' T;cases h;cases D with
    | @sl _ _ _ _ _ _ gg cap U =>
     obtain⟨A,_,E,V,M,_,X⟩:=R.read P T U;refine⟨A,E,V,M,rfl,λm hm z hw=>?_⟩;have Y:m*j≤n*j:=Ii _ hm;have Z:A.length=n*j:=by have e1:=E.length;have e2:l.length=n*j:=M;omega
     simp only[Builtin.firstCells];refine zav P z _ _ _ Ab (λQ I=>?_);rw[zt,zqc hw,X Q (show Q<Nat.mul n j by show Q<n*j;omega),Ju I]
   ·cases h
  ·cases h
 ·rename_i len n';split at h
  ·rename_i H;cases h;have B:g=1:=Ie H;subst B;cases D with
   | @str _ _ s h1 E =>
    subst h1 E;rw[unpack_pack];refine⟨s.data.toList.map λb=>Value.int .u8 (b.toNat:Int),?_,?_,N,rfl,λm hm z _=>?_⟩
    ·generalize s.data.toList=q
     induction q with
     |nil=>exact .nil
     |cons b q ih=>exact .cons (.int _ _) ih
    ·intro a O;simp only[Mu]at O;obtain⟨b,_,rfl⟩:=O;rfl
    ·simp only[Builtin.firstCells,Sem.run_pure]
     congr 1
     apply Mh.1;rw[J5,Lib.extract_data];simp
  ·cases h
 ·cases h
def Oi.congr{P:Program}{f:OpF}{nx C:(Operand→Value)→Sem Next}(h:∀ρ,nx ρ=C ρ)(s:Oi P f nx):Oi P f C:=λw0 gg H w E ρ hR hρ=>by rw[←h ρ];exact s w0 gg H w E ρ hR hρ
def fe{a:Array vQ}{x y:vQ}(h:a.toList=[x,y]):a=#[x,y]:=Mh.1 h
def er{a:Array vQ}{x:vQ}(h:a.toList=[x]):a=#[x]:=Mh.1 h
def zs4(P:Program)(ts:Array TypeId)(D:Array Operand)(Q:TypeId):Oi P (zm0 P ts D) (λG=>do pure (.value (←Builtin.append_ ts Q (D.map G)))):=by
 unfold zm0;split
 ·rename_i st R s x T E;have U:=fe T;have F:=fe E;subst U F;refine Oi.congr (nx:=λG=>do pure (.value (←Builtin.append_ #[st,R] Q #[G s,G x]))) (λG=>N) ?_;have H:∀g,P.underlying st=some (.slice g)→∀d,P.underlying R=some d→(d=.string∨∃e,d=.slice e)→Oi P (zcp P g s x) (λG=>do pure (.value (←Builtin.append_ #[st,R] Q #[G s,G x]))):=by
   intro g hu d hd V;unfold zcp;split
   ·rename_i i gE hi L;split
    ·rename_i X;obtain⟨j,z⟩:=X;refine mq λw0 C gF w G a b M Y O=>?_
     split
     ·rename_i n l ht;split
      ·rename_i Z;have A:n≤1048576:=Ih Z;obtain⟨vs,h1,h2,h3,h4,h5⟩:=znj (P:=P) M O ht;have gD:vs.length=n*i.size:=by have:=h1.length;omega
       refine zsh M hu hi j z L Y (news:=vs.toArray) ⟨d,hd,.inl ⟨V,h4,λw' hw=>?_⟩⟩ A (by simpa using h1) h2 h3;rw[h5 n (Ia _) w' hw,Im J]
      ·exact trivial
     ·exact trivial
    ·exact O0 P _
   ·exact O0 P _
  split
  ·rename_i g k hu I;unfold zo5;split
   ·rename_i i gE hi L;split
    ·rename_i X;obtain⟨j,z⟩:=X;refine mq λw0 C gF w G a b M Y O=>?_
     split
     ·rename_i n;split
      ·rename_i Z;have A:n≤1048576:=Ih Z;obtain⟨zv,gG,gg,gz,K,gA⟩:=zh3 L;rw[hi]at K;cases K;obtain⟨k1,k2⟩:=jw (C:=C) gz;have gC:zv.cells.size=i.size:=by have:=k1.length;simp at this;omega
       have B:VRs C (Uj gE n) (Builtin.zeroCells zv.cells n).toList:=by
        unfold Builtin.zeroCells;rw[zdk];exact z4w k1 n
       generalize G x=px at O;cases O;exact zsh M hu hi j z L Y (news:=Builtin.zeroCells zv.cells n) ⟨_,I,.inr ⟨⟨_,rfl⟩,rfl,A,j,zv,gg,⟨i,hi,z⟩,rfl,gC⟩⟩ A B (z4x k2 n) (by rw[z6o,gA])
      ·exact trivial
     ·exact trivial
    ·exact O0 P _
   ·exact O0 P _
  ·rename_i g e hu I;exact H g hu _ I (.inr ⟨e,rfl⟩)
  ·rename_i g hu I;exact H g hu _ I (.inl rfl)
  ·exact O0 P _
 ·exact O0 P _
def zxz(P:Program)(R:Array TypeId)(g:Array Operand)(T:TypeId):Oi P (zz4 P R g) (λE=>do pure (.value (←Builtin.copy_ R T (g.map E)))):=by
 unfold zz4;split
 ·rename_i st xt s x G A;have H:=fe G;have B:=fe A;subst H B;refine Oi.congr (nx:=λE=>do pure (.value (←Builtin.copy_ #[st,xt] T #[E s,E x]))) (λE=>N) ?_;split
  ·rename_i U hu;split
   ·exact O0 P _
   ·rename_i j I;split
    ·rename_i V;refine mq λw0 gA gD w E a b F z hb=>?_
     split
     ·rename_i n l ht;obtain⟨X,Y,h2,h3,K,L⟩:=znj (P:=P) F hb ht;have gz:X.length=n*j:=by have:=Y.length;omega
      split
      ·generalize E s=Z at z;cases z;refine Qo F (x:=.int .i64 0) (.int _ _) ?_;have C:=L 0 (K5 _) w rfl;have M:Nat.min n 0=0:=Nat.min_zero n;unfold Builtin.copy_;simp only[Jy,Is,Io,Sem.run_bind,O2 hu,Result.andThen_ok,K,Tg I,M,C,Sem.run_pure];rfl
      ·generalize E s=Z at z;cases z with
       | @emp ad cap =>
        refine Qo F (x:=.int .i64 0) (.int _ _) ?_;have C:=L 0 (K5 _) w rfl;have M:Nat.min n 0=0:=Nat.min_zero n;unfold Builtin.copy_;simp only[Jy,Is,Io,Sem.run_bind,O2 hu,Result.andThen_ok,K,Tg I,M,C,Sem.run_pure];simp[storeCells,goInt]
      ·rename_i o v i len D gg;split
       ·rename_i he;have O:D=j:=Ie he;subst O;split
        ·rename_i H' hw;generalize E s=Z at z;cases z with
         | @sl _ _ _ _ _ _ gC cap hL q1 q2 q3 =>
          have hm:Qy n len=Nat.min n len:=zka n len;have C:=L (Nat.min n len) (Nat.min_le_left _ _) w rfl;obtain⟨w',r1,r2⟩:=F.write P hw hL (Y.take _) (λa z=>h2 a (Mj z));rw[hm]at r1 ⊢;refine⟨gA,w',.int .i64 (Int.ofNat (Nat.min n len)),CM.le_refl gA,r2,.int _ _,.inl ?_⟩;unfold Builtin.copy_;have Q:(storeCells ⟨gC.b,gC.d+i,none⟩ (X.take (Nat.min n len*D))).run P w=.ok () w':=r1;simp only[Jy,Is,Io,Sem.run_bind,O2 hu,Result.andThen_ok,K,Tg I,C,Sem.run_pure,Q];rfl
        ·exact trivial
       ·exact trivial
      ·exact trivial
     ·exact trivial
    ·exact O0 P _
  ·exact O0 P _
 ·exact O0 P _
def zuj(D:Program)(T:Array TypeId)(g:Array Operand)(U:TypeId):Oi D (zt2 D T g) (λE=>do pure (.value (←Builtin.clear_ T U (g.map E)))):=by
 unfold zt2;split
 ·rename_i st x F j;have G:=er F;have z:=er j;subst G z;refine Oi.congr (nx:=λE=>do pure (.value (←Builtin.clear_ #[st] U #[E x]))) (λE=>N) ?_;split
  ·rename_i V hu;split
   ·rename_i B gE hs hz;split
    ·rename_i X;refine T3 λw0 Y gF w E a H A=>?_
     split
     ·generalize E x=Z at A;cases A;refine Qo H (x:=.tuple #[]) (.tup .nil) ?_;simp[Builtin.clear_,O2 hu]
     ·generalize E x=Z at A;cases A with
      | @emp ad cap =>
       refine Qo H (x:=.tuple #[]) (.tup .nil) ?_;simp[Builtin.clear_,O2 hu]
     ·rename_i o v i len I gg;split
      ·rename_i he;have K:I=B:=Ie he;subst K;split
       ·rename_i H' hw;generalize E x=Z at A;cases A with
        | @sl _ _ _ _ _ _ gD cap hL q1 q2 q3 =>
         obtain⟨zv,gG,L,M,gA,gC⟩:=zh3 hz;obtain⟨k1,k2⟩:=jw (C:=Y) M;obtain⟨O,P,r2⟩:=H.write D hw hL (z4w k1 len) (z4x k2 len);by_cases Q:len=0
         ·subst Q;have:O=w:=by
           have:(storeCells ⟨gD.b,gD.d+i,none⟩ (Un zv.cells.toList 0)).run D w=.ok () w:=rfl;rw[this]at P;cases P;rfl
          subst this;exact⟨Y,O,.tuple #[],CM.le_refl Y,r2,.tup .nil,.inl (by simp[Builtin.clear_,O2 hu])⟩
         ·refine⟨Y,O,.tuple #[],CM.le_refl Y,r2,.tup .nil,.inl ?_⟩;unfold Builtin.clear_;have R:(Builtin.zeroCells zv.cells len).toList=Un zv.cells.toList len:=by unfold Builtin.zeroCells;exact zdk _ _
          obtain⟨gz,rfl⟩:∃k,len=k+1:=⟨len-1,J⟩;simp only[Jy,Is,Sem.run_bind,O2 hu,Result.andThen_ok,L,Sem.run_pure,R,P]
       ·exact trivial
      ·exact trivial
     ·exact trivial
    ·exact O0 D _
   ·exact O0 D _
  ·exact O0 D _
 ·exact O0 D _
def gy(I:Program)(t K:TypeId)(x:Operand):Oi I (Wg I t x) (λz=>do pure (.value (←Builtin.len_ #[t] K #[z x]))):=by
 unfold Wg;split
 ·rename_i hu;refine T3 λE L M w z a j g=>?_
  split
  ·generalize z x=A at g;cases g with
   | @str _ _ s O P =>
    subst O P;exact Qo j (x:=.int .i64 (Int.ofNat s.size)) (.int _ _) Bi
  ·exact trivial
 ·rename_i e hu;refine T3 λE L M w z a j g=>?_
  split
  ·rename_i o v i len Q F;generalize z x=A at g;cases g with
   |sl=>exact Qo j (x:=.int .i64 (Int.ofNat len)) (.int _ _) Bi
  ·generalize z x=A at g;cases g;exact Qo j (x:=.int .i64 0) (.int _ _) Bi
  ·generalize z x=A at g;cases g;exact Qo j (x:=.int .i64 0) (.int _ _) Bi
  ·exact trivial
 ·rename_i k e hu;refine T3 λE L M w z a j g=>?_
  split
  ·generalize z x=A at g;cases g;exact Qo j (x:=.int .i64 0) (.int _ _) Bi
  ·rename_i o;split
   ·rename_i G R T;generalize z x=A at g;cases g with
    | @map _ X H =>
     obtain⟨_,B,U,V⟩:=j.obj o _ (j.fresh _ _ _ H) T _ H;have C:G.length=B.size:=by have:=V.length;simpa using this
     have D:(getObj X.b).run I w=.ok (.map B R) w:=by simp[getObj,Sem.run,U]
     exact Qo j (x:=.int .i64 (Int.ofNat G.length)) (.int _ _) (by simp[Builtin.len_,O2 hu,D,goInt,C])
   ·exact trivial
  ·exact trivial
 ·rename_i n e hu;refine T3 λE L M w z a j g=>?_
  exact Qo j (x:=.int .i64 (Int.ofNat n)) (.int _ _) Bi
 ·exact O0 I _
def ij(A:Program)(t B:TypeId)(x:Operand):Oi A (Zf A t x) (λz=>do pure (.value (←Builtin.cap_ #[t] B #[z x]))):=by
 unfold Zf;split
 ·rename_i e hu;refine T3 λF G H w z a j g=>?_
  split
  ·generalize z x=C at g;cases g;exact Qo j (x:=.int .i64 0) (.int _ _) (by simp[Builtin.cap_,O2 hu,goInt])
  ·rename_i r;generalize z x=C at g;cases g with
   |sl _ _ _ _ D =>
    obtain⟨E,_⟩:=D r rfl;subst E;exact Qo j (.int .i64 _) (by simp[Builtin.cap_,O2 hu,goInt])
  ·exact trivial
 ·exact O0 A _
def jx{P:Program}{w:World}{a b r:AV}(h:Zg R a b=some r){u v:Value}(hu:VR M a u)(hv:VR M b v) :
  ∃z,(if R then Builtin.max2 u v else Builtin.min2 u v).run P w=.ok z w∧VR M r z:=by
 unfold Zg at h;split at h
 ·rename_i k x A y;split at h
  ·rename_i j;have:=z8o j;subst this;cases hu;cases hv;split at h
   ·split at h
    ·rename_i g;rw[z7t]at g;cases h;refine⟨.int k y,?_,.int _ _⟩;have:y>x:=Be
     simp[Builtin.max2,this]
    ·rename_i g;rw[z7t]at g;cases h;refine⟨.int k x,?_,.int _ _⟩;have:¬y>x:=Be
     simp[Builtin.max2,this]
   ·split at h
    ·rename_i g;rw[z7t]at g;cases h;refine⟨.int k y,?_,.int _ _⟩;have:y<x:=Be
     simp[Builtin.min2,this]
    ·rename_i g;rw[z7t]at g;cases h;refine⟨.int k x,?_,.int _ _⟩;have:¬y<x:=Be
     simp[Builtin.min2,this]
  ·cases h
 ·cases h
def zho{P:Program}{w:World}{B:CM}{g:Bool}:∀{l:List AV} {a r:AV},l9 g a l=some r→∀{u:Value} {j:List Value},VR B a u→VRs B l j →
  ∃A,(j.foldlM (if g then Builtin.max2 else Builtin.min2) u).run P w=.ok A w∧VR B r A
 |[],a,r,h,u,[],hu,.nil=>by cases h;exact⟨u,N,hu⟩
 |b::l,a,r,h,u,v::j,hu,.cons e C=>by
  unfold l9 at h;split at h
  ·rename_i c D;obtain⟨A,E,F⟩:=jx (P:=P) (w:=w) D hu e;obtain⟨G,H,I⟩:=zho (P:=P) (w:=w) h F C;refine⟨G,?_,I⟩;have z:((if g then Builtin.max2 else Builtin.min2) u v).run P w=.ok A w:=by cases g<;>simpa using E
   simp only[List.foldlM_cons,Sem.run_bind,z,Result.andThen_ok,H]
  ·cases h
def zs1(P:Program)(A:Bool)(g:Array Operand)(C:Array TypeId)(D:TypeId) :
  Oi P (Vh A g.toList) (λB=>do pure (.value (←if A then Builtin.max_ C D (g.map B) else Builtin.min_ C D (g.map B)))):=by
 intro M T U w O B E F;unfold Vh;dsimp only;cases G:(opds g.toList).run O with
 |none=>exact trivial
 |some H =>
  cases H with
  |nil=>exact trivial
  |cons a l =>
   cases a with
   |int k n =>
    refine zby E λr I=>?_
    have hv:=z83 F G;have j:(g.map B).toList=g.toList.map B:=J5 ..;generalize Q:g.toList.map B=V at hv j;cases hv with
    |cons e K =>
     obtain⟨R,z,L⟩:=zho (P:=P) (w:=w) I e K;refine⟨R,?_,L⟩;cases A
     ·simp only[Ks,Lp,Builtin.min_,j]at z ⊢;simp only[Sem.run_bind,z,Result.andThen_ok,Sem.run_pure]
     ·simp only[Jo,Builtin.max_,j]at z ⊢;simp only[Sem.run_bind,z,Result.andThen_ok,Sem.run_pure]
   |_=>exact trivial
def zhd{G:CM}{d:TypeDesc}{k:AV}{u:Value}(hu:VR G k u):∀{E j:List (AV×AV×Nat)} {g:List MapEntry} (i:Nat),zl7 d k E=some j→MR G E g →
  (Instr.findNow d u g i=some none∧MR G j g)∨(∃B y,Instr.findNow d u g i=some (some (B+i,y))∧B<g.length∧MR G j (g.eraseIdx B))
 |[],j,[],i,h,.nil=>by cases h;exact .inl ⟨rfl,.nil⟩
 |(K,L,b)::l,j,e::r,i,h,.cons z hv F hm=>by
  unfold zl7 at h;split at h
  ·rename_i A;cases h;exact .inr ⟨0,e.val,by simp[Instr.findNow,(z70 A hu z).1],N,Ff⟩
  ·rename_i A;split at h
   ·rename_i M H;cases h;rcases zhd hu (i+1) H hm with ⟨C,D⟩|⟨B,y,C,D,I⟩
    ·exact .inl ⟨by simpa [Instr.findNow,(z70 A hu z).1] using C,.cons z hv F D⟩
    ·refine .inr ⟨B+1,y,?_,F0,.cons z hv F I⟩;rw[show B+1+i=B+(i+1) from J];simpa [Instr.findNow,(z70 A hu z).1] using C
   ·cases h
  ·cases h
def zqm(K:Program)(T:Array TypeId)(z:Array Operand)(U:TypeId):Oi K (zlx K T z) (λL=>do pure (.value (←Builtin.delete_ T U (z.map L)))):=by
 unfold zlx;split
 ·rename_i st xt s x M C;have O:=fe M;have D:=fe C;subst O D;refine Oi.congr (nx:=λL=>do pure (.value (←Builtin.delete_ #[st,xt] U #[L s,L x]))) (λL=>N) ?_;split
  ·rename_i gz e hu;split
   ·rename_i d hd;obtain⟨F,_⟩:=zfl hd;refine mq λw0 Z gC w L a b G V hb=>?_
    split
    ·rename_i o;split
     ·rename_i es P hg;split
      ·rename_i gA hs;generalize L s=ps at V;cases V with
       | @map _ X E =>
        obtain⟨I,g,Y,q2⟩:=G.obj o _ (G.fresh _ _ _ E) hg _ E;have H:=G.lt _ _ _ E;have A:(getObj X.b).run K w=.ok (.map g P) w:=by simp[getObj,Sem.run,Y]
        have B:∀y,(setObj X.b y).run K w=.ok () { w with heap:=w.heap.setIfInBounds X.b y }:=by intro y;simp[setObj,Sem.run,Y]
        rcases zhd hb 0 hs q2 with ⟨Q,R⟩|⟨gg,y,Q,R,p3⟩
        ·refine⟨Z,{ w with heap:=w.heap.setIfInBounds X.b (.map g P) },.tuple #[],CM.le_refl Z,G.putObj E I _ _ ?_ (λ_ _ _ _ e=>Ar),.tup .nil,.inl ?_⟩
         ·intro L' j;rw[E]at j;cases j;exact⟨I,_,putObj_heap_same w _ H,R⟩
         ·unfold Builtin.delete_;simp only[Jy,Is,Io,Sem.run_bind,O2 hu,Result.andThen_ok,A,z39 hd,z41 F Q,B,Sem.run_pure]
        ·refine⟨Z,{ w with heap:=w.heap.setIfInBounds X.b (.map (g.eraseIdxIfInBounds gg) P) },.tuple #[],CM.le_refl Z,G.putObj E I _ _ ?_ (λ_ _ _ _ e=>Ar),.tup .nil,.inl ?_⟩
         ·intro L' j;rw[E]at j;cases j;refine⟨I,_,putObj_heap_same w _ H,?_⟩;have hj:gg<g.size:=by simpa using R
          have:(g.eraseIdxIfInBounds gg).toList=g.toList.eraseIdx gg:=by
           simp[Array.eraseIdxIfInBounds,hj]
          rw[this];exact p3
         ·unfold Builtin.delete_;simp only[Jy,Is,Io,Sem.run_bind,O2 hu,Result.andThen_ok,A,z39 hd,z41 F Q,Kl,B,Sem.run_pure]
      ·exact trivial
     ·exact trivial
    ·exact trivial
   ·exact O0 K _
  ·exact O0 K _
 ·exact O0 K _
end
section
open Go.RowKit (Below)
def zcl{w:World}{f:Nat}(h:zb C f=true)(args:Array Value):(callFunc f args).run C w=.ok (.enter f args) w:=by
 unfold zb at h;cases g:C.funcs[f]? with
 |none=>rw[g]at h;cases h
 |some fn =>
  rw[g]at h;simp only[Hy,bne_iff_ne,ne_eq]at h;obtain⟨A,z⟩:=h;have j:fn.body≠none:=by intro e;rw[e]at z;cases z
  simp[callFunc,g,A,j]
def ik{w:World}{gv:Value}(E:VR M I gv){vs:Array Value}(hv:VRs M X vs.toList){F:Sem Next}
  (g:∀fn first cap,gv=.func fn first cap→F.run C w=(invoke (.fn fn cap) (first++vs)).run C w):R0 C K M w F (wm C I X):=by
 unfold wm;split
 ·rename_i f first cap
  split
  ·rename_i H;cases E with
   | @fn _ L _ _ j z A B G =>
    cases A with
    |same =>
     refine⟨j.toList++vs.toList++z.toList,(B.append hv).append G,.inl ⟨f,rfl,?_⟩⟩;rw[g _ _ _ rfl];have:(j++vs++z)=(j.toList++vs.toList++z.toList).toArray:=N
     rw[←this];exact zcl H _
  ·exact trivial
 ·rename_i l cap;cases E with
  | @fn _ L _ _ j z A B G =>
   cases A with
   |same _ h=>exact absurd rfl (h l)
   | @yield _ P O =>
    have D:j=#[]:=by
     have:=B.length;exact Kt (by simpa using this.symm)
    subst D;refine⟨vs.toList,hv,.inr ⟨l,P,rfl,O,?_⟩⟩;rw[g _ _ _ rfl];simp[invoke]
 ·exact trivial
theorem zz3 {fn : Func} (g : fn.name = "maps.clone") (j : fn.origin = "") : Extern.findNext fn = none ∧ Extern.find fn = some Extern.MapsClone.clone := by
 have z : Extern.allNextRows.lookup "maps.clone" = none := Aa
 have A : Extern.allNextRows.lookup "" = none := Aa
 have B : Extern.allGenericRows.lookup "maps.clone" = none := Aa
 have C : Extern.allTypedRows.lookup "maps.clone" = none := Aa
 have D : Extern.allRows.lookup "maps.clone" = some Extern.MapsClone.clone := Aa
 refine⟨?_,?_⟩
 ·unfold Extern.findNext;dsimp only;rw[g,j,z,A];rfl
 ·unfold Extern.find;dsimp only;rw[g,B,C,D];rfl
def ir{P:Program}{w:World}{r:Nat}{z:Array MapEntry}(t:TypeId)(A:w.heap[r]?=some (.map z g)) :
  (Extern.MapsClone.clone #[.iface t (.map (some r))]).run P w=.ok (.iface t (.map (some w.heap.size))) (w.alloc (.map z g)):=by
 have e:Extern.MapsClone.clone #[.iface t (.map (some r))]=(getObj r >>= λo=>match o with
   |.map j g=>(_root_.Go.newObj (.map j g) >>= λn=>pure (.iface t (.map (some n))))
   | _ => stuck "maps.clone: a map expected") := rfl
 rw[e];simp[MapKept.run_getObj_map A,Result.andThen,go_sem]
def sp{P:Program}{w:World}(g:Rel K M G w){f:Nat}(j:zgt P f=true){vs:Array Value}(hv:VRs M X vs.toList) :
  R0 P K M w (callFunc f vs) (zwb G X):=by
 unfold zgt at j;split at j
 ·rename_i fn D;simp only[Hy,Ls]at j;obtain⟨⟨H,O⟩,Q⟩:=j;obtain⟨R,T⟩:=zz3 H O;have z:=run_callFunc_extern (P:=P) D (by rw[H];decide) Q R T vs w;unfold zwb;split
  ·rename_i t o;split
   ·rename_i U I V
    ·generalize E:vs.toList=l at hv;cases hv with
     |cons F Y =>
      cases Y;cases F with
      |iface F =>
       cases F with
       | @map _ gg L =>
        have A:vs=#[.iface t (.map (some gg.b))]:=Mh.1 E;obtain⟨q1,B,Z,q3⟩:=g.obj _ _ (g.fresh _ _ _ L) V gg L;obtain⟨p1,p2⟩:=g.push (.map U I) (.map B I) 0 0 (λL' C=>by
         rw[CM.ext_same]at C;cases C;exact⟨g.low.size,B,vi _ _,q3.mono (CM.le_ext _ (g.next_none 0) (.inr (Lh g.nx)))⟩)
        refine⟨_,_,.iface t (.map (some w.heap.size)),p2,p1,.iface (.map (CM.ext_same _ _ _ _)),.inl ?_⟩;rw[z,A,ir t Z];rfl
   ·exact trivial
  ·exact trivial
 ·cases j
def zsy{w:World}{t:TypeId}{g:String}{f:Nat}(h:zjn C t g=some f)(v:Value):(method (C.types.size+Made.depth) t v g).run C w=.ok (f,v) w:=by
 unfold zjn at h;have hd:C.types.size+Made.depth=(C.types.size+99)+1:=rfl;rw[hd];cases hi:C.info? t with
 |none=>rw[hi]at h;cases h
 |some i =>
  rw[hi]at h;dsimp only at h;cases hm:i.methods.find? (·.name==g) with
  |none=>rw[hm]at h;cases h
  |some m =>
   rw[hm]at h;dsimp only at h;split at h
   ·rename_i B;have j:m.path=#[]:=Array.isEmpty_iff.1 B;unfold method;simp only[Sem.run_bind,xj hi,Result.andThen_ok,hm,j,follow,Sem.run_pure];split at h
    ·rename_i D e z hu;cases h;simp only[z,Sem.run_bind,receiverAt,O2 hu,Result.andThen_ok,Place.get,Sem.run_pure]
    ·cases h
    ·rename_i D d A z hu;cases h;simp only[z,Sem.run_bind,receiverAt,O2 hu,Result.andThen_ok];cases d<;>first|rfl|exact absurd hu (A _)
    ·cases h
   ·cases h
def zxt(z:Program)(c:Call)(o:Oper)(ho:o.op=.call c):Oi z (oh z c) (λj=>execOp j o):=by
 have F:∀j,execOp j o=(do let d ←resolve j c o.type;invoke d.target d.args):=λj=>Ai
 refine Oi.congr (λj=>(F j).symm) ?_;unfold oh;split
 ·rename_i b hb;have G:∀j,(do let d ←resolve j c o.type;invoke d.target d.args:Sem Next)=builtin b c.argTypes o.type (c.args.map fun | .const _=>true|_=>false) (c.args.map j):=by
   intro j;simp only[resolve,hb];rfl
  refine Oi.congr (λj=>(G j).symm) ?_;split
  ·split
   ·rename_i t x H I;have K:=er H;have L:=er I;exact Oi.congr (λj=>by rw[K,L];simp[builtin]) (gy z t o.type x)
   ·exact O0 z _
  ·split
   ·rename_i t x H I;have K:=er H;have L:=er I;exact Oi.congr (λj=>by rw[K,L];simp[builtin]) (ij z t o.type x)
   ·exact O0 z _
  ·exact Oi.congr (λj=>C8) (zs1 z true c.args c.argTypes o.type)
  ·exact Oi.congr (λj=>C8) (zs1 z false c.args c.argTypes o.type)
  ·exact Oi.congr (λj=>C8) (zs4 z c.argTypes c.args o.type)
  ·exact Oi.congr (λj=>C8) (zxz z c.argTypes c.args o.type)
  ·exact Oi.congr (λj=>C8) (zuj z c.argTypes c.args o.type)
  ·exact Oi.congr (λj=>C8) (zqm z c.argTypes c.args o.type)
  ·exact O0 z _
 ·rename_i f Y;intro Z gA gC w gD j hR A;dsimp only;split
  ·rename_i gE hg;split
   ·rename_i l E;have B:R0 z Z gA w (do let d ←resolve j c o.type;invoke d.target d.args) (wm z gE l):=by
     refine ik (A _ _ hg) (vs:=c.args.map j) (by rw[J5];exact z83 A E) (λfn first cap hv=>?_);simp only[resolve,Y,hv,Deferred.ofValue,Sem.run_bind,Sem.run_pure,Result.andThen_ok]
    unfold zje;split
    ·rename_i f';split
     ·rename_i M;have O:=sp hR M (vs:=c.args.map j) (by rw[J5];exact z83 A E);have hv:=A _ _ hg;generalize P:j f=gv at hv;cases hv with
      | @fn _ g' _ _ l' r' Q R T =>
       cases Q with
       |same =>
        have U:l'=#[]:=Kt (by simpa using R.length.symm);have V:r'=#[]:=Kt (by simpa using T.length.symm);subst U V;have C:(do let d ←resolve j c o.type;invoke d.target d.args:Sem Next).run z w=(callFunc f' (c.args.map j)).run z w:=by
         simp only[resolve,Y,P,Deferred.ofValue,Sem.run_bind,Sem.run_pure,Result.andThen_ok,invoke];simp
        unfold R0 at O ⊢;split at O
        ·exact trivial
        ·obtain⟨C',w',x,a1,a2,a3,a4⟩:=O;exact⟨C',w',x,a1,a2,a3,by rw[C];exact a4⟩
        ·rename_i t gg g;unfold zwb at g;split at g
         ·split at g<;>cases g
         ·cases g
     ·exact B
    ·exact B
   ·exact trivial
  ·exact trivial
 ·rename_i r gz hr;intro Z gA gC w gD j hR A;dsimp only;split
  ·rename_i t v hv;split
   ·rename_i f hm;split
    ·rename_i l E;split
     ·rename_i hc;have D:=A _ _ hv;generalize X:j r=pv at D;cases D with
      | @iface _ _ u hu =>
       refine⟨u::c.args.toList.map j,.cons hu (z83 A E),.inl ⟨f,rfl,?_⟩⟩;have U:(#[Value.iface t u]++c.args.map j)[0]?=some (Value.iface t u):=by rw[K9 N];rfl
       have V:(#[Value.iface t u]++c.args.map j).extract 1 (#[Value.iface t u]++c.args.map j).size=c.args.map j:=N
       have e3:(#[u]++c.args.map j)=(u::c.args.toList.map j).toArray:=N
       simp only[resolve,hr,X,Sem.run_bind,Sem.run_pure,Result.andThen_ok,invoke,U,V,callMethod,run_program,zsy hm u,e3];exact zcl hc _
     ·exact trivial
    ·exact trivial
   ·exact trivial
  ·exact trivial
def te(P:Program)(o:Oper):Oi P (Ow P o.op) (λg=>execOp g o):=by
 generalize ho:o.op=op;cases op with
 |move x=>exact Oi.congr (λg=>Ai) (znv P x)
 |assign x=>exact Oi.congr (λg=>Ai) (znv P x)
 |pick c a b=>exact Oi.congr (λg=>Ai) (zy2 P c a b)
 |alloc t=>exact Oi.congr (λg=>by simp only[execOp,ho]) (zv0 P t)
 |box t x=>exact Oi.congr (λg=>Ai) (il P t x)
 |build t j=>exact Oi.congr (λg=>Ai) (zug P t j)
 |buildSlice t n j=>exact Oi.congr (λg=>Ai) (zij P t n j)
 |load t a=>exact Oi.congr (λg=>Ai) (zy4 P t a)
 |store t a x=>exact Oi.congr (λg=>Ai) (ztz P t a x)
 |nilCheck x=>exact zms P x o ho
 |binOp op t x y z=>exact ic P op t z x y o ho
 |unOp op t x=>exact tu P op t x o ho
 |convert s d x=>exact Oi.congr (λg=>Ai) (zyb P s d x)
 |makeInterface t x=>exact Oi.congr (λg=>Ai) (zo6 P t x)
 |makeFunc f a b =>
  cases f with
  |yield l=>exact O0 P _
  |_=>exact Oi.congr (λg=>Ai) (zrx P _ a b (λl e=>Ar))
 |makeMap t r=>exact Oi.congr (λg=>Ai) (zva P t r)
 |makeSlice t l c=>exact Oi.congr (λg=>Ai) (zor P t l c)
 |slice t x a b c=>exact Oi.congr (λg=>Ai) (zui P t x a b c)
 |fieldAddr t x f=>exact Oi.congr (λg=>Ai) (zlq P t x f)
 |field t x f=>exact Oi.congr (λg=>Ai) (zu9 P t x f)
 |indexAddr t x i=>exact Oi.congr (λg=>Ai) (zl0 P t x i)
 |index t x i=>exact Oi.congr (λg=>Ai) (zux P t x i)
 |lookup t x i ok=>exact Oi.congr (λg=>Ai) (zqs P t x i ok)
 |mapUpdate t m k x=>exact Oi.congr (λg=>Ai) (zcm P t m k x)
 |insert t m k x=>exact Oi.congr (λg=>Ai) (zcm P t m k x)
 |range t x=>exact Oi.congr (λg=>Ai) (zvd P t x)
 |next A s=>exact Oi.congr (λg=>Ai) (zyk P A s o.type)
 |typeAssert x t a ok=>exact Oi.congr (λg=>Ai) (zqh P x t a ok)
 |extract t i=>exact Oi.congr (λg=>Ai) (zo1 P t i)
 |call c=>exact zxt P c o ho
 |_=>exact O0 P _
end
section
open Go.RowKit (Below)
def zqo(P:Program)(A:World)(F:CM)(w:World)(t:Tgt)(B:List Value)(v:AV)(C:Heap):Prop :=
 match t with
 |.fn f=>∀cs,∃g w' j z,F.le g∧Rel A g C w'∧VR g v j∧Steps P (lone (Frame.enter P f B.toArray .normal) cs w) (lone z cs w')∧z.fn=f∧z.leaving P w' (.returned j)
 |.yield l=>∀E,F l 0=some E→∀c cs,∃g w' j f D a b,F.le g∧Rel A g C w'∧VR g v j∧(Instr.yield E.b B.toArray).run P w=.ok (.round E.b f D a b) w ∧
   Steps P (lone (Frame.round E.b f D a b .normal) (c::cs) w) (lone (c.finish j) cs w')
def xe(P:Program)(c:Ry):Prop :=
 ∀j B C w t g z v A,Rel j B C w→VRs B g z→c t g C=.ok v A→zqo P j B w t z v A
noncomputable def Pp(d:Option Tmp)(a:AV)(E:Tr AV):Tr AV:=match d with
 |none=>E
 |some d=>Pg a (Nz d) E
def zcd{n:Nat}{d:Option Tmp}{p:PutF}(h:Rp n d=some p):(∀a E,p.run a E=Pp d a E)∧∀t,d=some t→t<n:=by
 unfold Rp at h;split at h
 ·cases h;exact⟨λ_ _=>rfl,λt e=>Ar⟩
 ·split at h
  ·rename_i hd;cases h;exact⟨λ_ _=>rfl,λt e=>by cases e;exact hd⟩
  ·cases h
def ER.put{n:Nat}{gz:CM}{E:Tr AV}{a:Act}(h:ER n gz E a.tmps){d:Option Tmp}(hd:∀t,d=some t→t<n){C:AV}{x:Value}(hv:VR gz C x):ER n gz (Pp d C E) (a.put d x).tmps:=by
 obtain⟨h1,h2,h3⟩:=h;cases d with
 |none=>exact⟨h1,h2,h3⟩
 |some d =>
  have gg:(d:Nat)<n:=hd d rfl;refine⟨by show (a.tmps.setIfInBounds d x).size=n;simpa using h1,h2,λt ht=>?_⟩;show OVR gz (Nc (Nz t) (Pg C (Nz d) E)) ((a.tmps.setIfInBounds d x).getD t undef);rw[zla];by_cases e:t=d
  ·subst e;rw[H7 rfl];have:(a.tmps.setIfInBounds t x).getD t undef=x:=by
    rw[I9,Array.getElem?_setIfInBounds_self_of_lt (show t<a.tmps.size by rw[h1];exact gg)];rfl
   rw[this];exact hv
  ·rw[Hx e];have:(a.tmps.setIfInBounds d x).getD t undef=a.tmps.getD t undef:=by
    rw[I9,Array.getElem?_setIfInBounds_ne (λq=>e q.symm),←I9]
   rw[this];exact h3 t ht
def zlv{n:Nat}{E:Tr AV}(h:ER n M E vM)(ops:Array Oper)(o:Oper):(Tf ops o).run E=Region.wanted o (yielded ops vM):=by
 obtain⟨H,I,K⟩:=h;unfold Tf Region.wanted;cases O:o.guard with
 |none=>rfl
 |some L =>
  obtain⟨Q,A⟩:=L;dsimp only;unfold yielded;cases hd:(ops[Q]?).bind (·.dst) with
  |none=>rfl
  |some d =>
   dsimp only[Option.bind];split
   ·rename_i j;dsimp only;have g:=K d j;by_cases B:d<vM.size
    ·have z:vM[d]?=some vM[d]:=J2 B;have D:vM.getD d undef=vM[d]:=by rw[I9,z];rfl
     rw[D]at g;rw[z];generalize vM[d]=v at g;cases C:Nc (Nz d) E with
     |none =>
      rw[C]at g;have:v=undef:=g;subst this;rfl
     |some F =>
      rw[C]at g;have G:VR M F v:=g;cases G with
      |bool b=>cases b<;>cases A<;>rfl
      |_=>rfl
    ·have z:vM[d]?=none:=Mc (Nat.le_of_not_lt B);have D:vM.getD d undef=undef:=by rw[I9,z];rfl
     rw[D]at g;rw[z];cases C:Nc (Nz d) E with
     |none=>rfl
     |some F =>
      rw[C]at g;have G:VR M F undef:=g;cases G;rfl
   ·rename_i j;have z:vM[d]?=none:=Mc (by rw[H];exact Ja I (Mt (Nat.lt_of_not_le j)));rw[z];rfl
section steps
variable {P : Program} {b : Frame} {a : Act} {k : List Item} {cs : List Frame} {w w' : World} {ops : Array Oper}
def zx1{i:Nat}{rest:List Nat}{o:Oper}(ho:ops[i]?=some o)(v:Value):(b.atR a (.inRegion ops (i::rest)::k)).finish v=b.atR (a.put o.dst v) (.inRegion ops rest::k):=by
 rw[Frame.finish_atR,ho];rfl
def zwl{i:Nat}{rest:List Nat}{o:Oper}{x:Value}(ho:ops[i]?=some o)(hw:Region.wanted o (yielded ops a.tmps)=true)(hd:∀c,o.op≠.defer c)
  (g:(execOp a.eval o).run P w=.ok (.value x) w') :
  step P (lone (b.atR a (.inRegion ops (i::rest)::k)) cs w)=.next (lone (b.atR (a.put o.dst x) (.inRegion ops rest::k)) cs w'):=by
 refine step_lone_go ?_;rw[stepGR_op (b:=b) (k:=k) (cs:=cs) ho hw,Oper.semAt_eq _ _ _ hd,←zx1 ho];simp[stepG.apply,Sem.runT_eq,g]
def vk{i:Nat}{rest:List Nat}{o:Oper}(ho:ops[i]?=some o)(hw:Region.wanted o (yielded ops a.tmps)=true)(hd:∀c,o.op≠.defer c)
  (g:(execOp a.eval o).run P w=.ok .skip w') :
  step P (lone (b.atR a (.inRegion ops (i::rest)::k)) cs w)=.next (lone (b.atR (a.put o.dst undef) (.inRegion ops rest::k)) cs w'):=by
 refine step_lone_go ?_;rw[stepGR_op (b:=b) (k:=k) (cs:=cs) ho hw,Oper.semAt_eq _ _ _ hd,←zx1 ho];simp[stepG.apply,Sem.runT_eq,g]
def zyx{i:Nat}{rest:List Nat}{o:Oper}{f:Nat}(ho:ops[i]?=some o)(hw:Region.wanted o (yielded ops a.tmps)=true)(hd:∀c,o.op≠.defer c)
  (g:(execOp a.eval o).run P w=.ok (.enter f vM) w') :
  step P (lone (b.atR a (.inRegion ops (i::rest)::k)) cs w)=.next (lone (Frame.enter P f vM .normal) (b.atR a (.inRegion ops (i::rest)::k)::cs) w'):=by
 refine step_lone_go ?_;rw[stepGR_op (b:=b) (k:=k) (cs:=cs) ho hw,Oper.semAt_eq _ _ _ hd];simp[stepG.apply,Sem.runT_eq,g,Frame.atR]
def oz{i:Nat}{rest:List Nat}{o:Oper}{l f:Nat}{x y:Code}(ho:ops[i]?=some o)(hw:Region.wanted o (yielded ops a.tmps)=true)(hd:∀c,o.op≠.defer c)
  (g:(execOp a.eval o).run P w=.ok (.round l f vM x y) w') :
  step P (lone (b.atR a (.inRegion ops (i::rest)::k)) cs w)=.next (lone (Frame.round l f vM x y .normal) (b.atR a (.inRegion ops (i::rest)::k)::cs) w'):=by
 refine step_lone_go ?_;rw[stepGR_op (b:=b) (k:=k) (cs:=cs) ho hw,Oper.semAt_eq _ _ _ hd];simp[stepG.apply,Sem.runT_eq,g]
end steps
def zj8{P:Program}{o:Oper}{E:Tr AV}{H:Heap}(h:(Ow P o.op).run E H≠.no):∀c,o.op≠.defer c:=by
 intro c e;rw[e]at h;exact h rfl
def zlt{P:Program}{c:Ry}(hc:xe P c){n:Nat}{ops:Array Oper}{i:Nat}{o:Oper}(ho:ops[i]?=some o){H:Heap}{w:World}{E:Tr AV}{a:Act}
  (Z:Rel K M H w) (hE:ER n M E a.tmps) (h:(Rt P n ops o).run c E H=.ok T G) (b:Frame) (rest:List Nat) (k:List Item) (cs:List Frame) :
  ∃C w' x av,M.le C∧Rel K C G w'∧VR C av x∧T=Pp o.dst av E∧(∀t,o.dst=some t→t<n) ∧
   Steps P (lone (b.atR a (.inRegion ops (i::rest)::k)) cs w) (lone (b.atR (a.put o.dst x) (.inRegion ops rest::k)) cs w'):=by
 unfold Rt at h;cases hp:Rp n o.dst with
 |none=>rw[hp]at h;cases h
 |some p =>
  rw[hp]at h;dsimp only at h;obtain⟨g,z⟩:=zcd hp;have X:=zlv hE ops o;cases R:(Tf ops o).run E with
  |false =>
   rw[R]at h X;cases h;refine⟨M,w,undef,Sq,CM.le_refl M,Z,.tup .nil,g _ _,z,.one ?_⟩;have:=stepR_op_skip (P:=P) (b:=b) (a:=a) (k:=k) (cs:=cs) (w:=w) (ops:=ops) (i:=i) (rest:=rest) (by rw[ho];simpa using X.symm);rw[this,ho];rfl
  |true =>
   rw[R]at h X;dsimp only at h;have hw:Region.wanted o (yielded ops a.tmps)=true:=X.symm;have Y:=te P o K M H w E a.eval Z (zaj hE);cases U:(Ow P o.op).run E H with
   |no=>rw[U]at h;cases h
   |val v H2 =>
    rw[U]at h Y;cases h;have A:=zj8 (P:=P) (o:=o) (E:=E) (H:=H) (by rw[U];intro e;cases e);obtain⟨C,w',x,L,O,Q,D⟩:=Y;rcases D with D|⟨D,rfl⟩
    ·exact⟨C,w',x,v,L,O,Q,g _ _,z,.one (zwl ho hw A D)⟩
    ·exact⟨C,w',undef,v,L,O,Q,g _ _,z,.one (vk ho hw A D)⟩
   |call t V =>
    rw[U]at h Y;dsimp only at h;have A:=zj8 (P:=P) (o:=o) (E:=E) (H:=H) (by rw[U];intro e;cases e);cases F:c t V H with
    |no=>rw[F]at h;cases h
    |ok v H2 =>
     rw[F]at h;cases h;obtain⟨vs,hv,I⟩:=Y;have B:=hc _ _ _ _ _ _ _ _ _ Z hv F;rcases I with ⟨f,rfl,j⟩|⟨l,gg,rfl,hL,j⟩
     ·obtain⟨C,w',v',fr,L,O,Q,D,h5,h6⟩:=B (b.atR a (.inRegion ops (i::rest)::k)::cs);refine⟨C,w',v',v,L,O,Q,g _ _,z,.head (zyx ho hw A j) (Steps.trans D (.one ?_))⟩;rw[step_leave_returned h6,zx1 ho]
     ·obtain⟨C,w',v',f,tm,x,y,L,O,Q,D,h5⟩:=B gg hL (b.atR a (.inRegion ops (i::rest)::k)) cs;rw[D]at j;refine⟨C,w',v',v,L,O,Q,g _ _,z,.head (oz ho hw A j) ?_⟩;rw[←zx1 ho];exact h5
def zqp{P:Program}{c:Ry}(K:xe P c){n:Nat}{ops:Array Oper}(b:Frame)(k:List Item)(cs:List Frame):∀(l:List Oper) (i:Nat),ops.toList.drop i=l →
  ∀{j:World} {C:CM} {L z:Heap} {w:World} {M A:Tr AV} {a:Act},Rel j C L w→ER n C M a.tmps→(wu P n ops l).run c M L=.ok A z →
  ∃D w' E,C.le D∧Rel j D z w'∧ER n D A E.tmps∧E.defers=a.defers ∧
   Steps P (lone (b.atR a (.inRegion ops (List.range' i l.length)::k)) cs w) (lone (b.atR E (.inRegion ops []::k)) cs w')
 |[],i,g,j,C,L,z,w,M,A,a,F,B,h=>by
  cases h;exact⟨C,w,a,CM.le_refl C,F,B,rfl,.refl _ _⟩
 |o::l,i,g,j,C,L,z,w,M,A,a,F,B,h=>by
  have hi:i<ops.toList.length:=by
   rcases Ku i ops.toList.length with G|G
   ·exact G
   ·rw[List.drop_eq_nil_of_le G]at g;cases g
  rw[Jr hi]at g;injection g with ho g
  have H:ops[i]?=some o:=by rw[←ho];simp at hi ⊢
  unfold wu at h;dsimp only at h;cases I:(Rt P n ops o).run c M L with
  |no=>rw[I]at h;cases h
  |ok E1 H1 =>
   rw[I]at h;dsimp only at h;obtain⟨C1,w1,x,av,O,Q,R,T,U,V⟩:=zlt K H F B I b (List.range' (i+1) l.length) k cs;subst T;obtain⟨X,Y,Z,r1,r2,r3,r4,r5⟩:=zqp K b k cs l (i+1) g (a:=a.put o.dst x) Q ((B.mono O).put U R) h;refine⟨X,Y,Z,CM.le_trans O r1,r2,r3,?_,?_⟩
   ·rw[r4];cases o.dst<;>rfl
   ·rw[show (o::l).length=l.length+1 from rfl,List.range'_succ];exact Steps.trans V r5
end
section
def Sz(g:List Nat)(E' E:Tr AV):Prop:=∀t∈g,t≤Q1→Nc (Nz t) E'=Nc (Nz t) E
def pg{x:Operand}{E E':Tr AV}(h:Sz (zhx [x]) E' E):(N6 x).run E'=(N6 x).run E:=by
 cases x with
 |tmp t =>
  unfold N6;dsimp only;split
  ·rename_i g;dsimp only;rw[h t (by simp[zhx]) (Ih g)]
  ·rfl
 |const v=>unfold N6;dsimp only;split<;>rfl
 |func f=>rfl
 |global j=>rfl
def Sz.opds:∀{l:List Operand} {E E':Tr AV},Sz (zhx l) E' E→∀x∈l,(N6 x).run E'=(N6 x).run E
 |[],_,_,_,x,hx=>by cases hx
 |y::l,E,E',h,x,hx=>by
  rcases If.1 hx with rfl|hx
  ·refine pg (λt ht=>h t ?_);cases x<;>simp_all [zhx]
  ·refine Sz.opds (l:=l) (λt ht=>h t ?_) x hx;cases y<;>simp_all [zhx]
section cong
variable {E E' : Tr AV} {H : Heap}
def opds_cong:∀{l:List Operand},(∀x∈l,(N6 x).run E'=(N6 x).run E)→(opds l).run E'=(opds l).run E
 |[],_=>rfl
 |x::l,h=>by
  simp only[opds];rw[h x N,opds_cong (λy g=>h y Av)]
def Vg{x:Operand}{f:Heap→AV→OR}(h:(N6 x).run E'=(N6 x).run E):(Qw x f).run E' H=(Qw x f).run E H:=by
 simp only[Qw];rw[h]
def iz{x y:Operand}{f:Heap→AV→AV→OR}(h:(N6 x).run E'=(N6 x).run E)(k:(N6 y).run E'=(N6 y).run E):(Ui x y f).run E' H=(Ui x y f).run E H:=by
 simp only[Ui];rw[h,k]
def zlm{x:Option Operand}(h:∀y,x=some y→(N6 y).run E'=(N6 y).run E):(Qx x).run E'=(Qx x).run E:=by
 cases x with
 |none=>rfl
 |some y=>simp only[Qx];rw[h y rfl]
def fillA_cong:∀{g:List Part} {j:List AV},(∀p∈g,p.v.run E'=p.v.run E)→vh j g E'=vh j g E
 |[],_,_=>rfl
 |p::g,j,h=>by
  simp only[vh];rw[h p N];split
  ·rfl
  ·split
   ·rfl
   ·split
    ·split
     ·exact fillA_cong (λq z=>h q Ae)
     ·rfl
    ·rfl
def z92{g:Nat→Option (Nat×Nat)}:∀{l:List (Nat×Operand)} {z:List Part},wy g l=some z→(∀x∈l.map (·.2),(N6 x).run E'=(N6 x).run E)→∀p∈z,p.v.run E'=p.v.run E
 |[],z,h,_,p,j=>by cases h;cases j
 |(i,x)::l,z,h,A,p,j=>by
  simp only[wy]at h;split at h
  ·cases h
  ·split at h
   ·cases h
   ·rename_i r C;cases h;rcases If.1 j with rfl|j
    ·exact A x N
    ·exact z92 C (λy B=>A y (by simp at B ⊢;exact .inr B)) p j
end cong
def zy3{c:Call}{E E':Tr AV}{H:Heap}(h:∀x∈c.operands.toList,(N6 x).run E'=(N6 x).run E):(oh C c).run E' H=(oh C c).run E H:=by
 have g:∀x∈c.args.toList,(N6 x).run E'=(N6 x).run E:=λx z=>h x (by simp[Call.operands]at z ⊢;exact .inr z)
 unfold oh;split
 ·split
  ·split
   ·rename_i q;rw[q]at g;unfold Wg;split<;>first|rfl|exact Vg (g _ N)
   ·rfl
  ·split
   ·rename_i q;rw[q]at g;unfold Zf;split<;>first|rfl|exact Vg (g _ N)
   ·rfl
  ·simp only[Vh];rw[opds_cong g]
  ·simp only[Vh];rw[opds_cong g]
  ·unfold zm0;split
   ·rename_i q;rw[q]at g;split
    ·unfold zo5;split
     ·split
      ·exact iz (g _ N) (g _ N)
      ·rfl
     ·rfl
    ·unfold zcp;split
     ·split
      ·exact iz (g _ N) (g _ N)
      ·rfl
     ·rfl
    ·unfold zcp;split
     ·split
      ·exact iz (g _ N) (g _ N)
      ·rfl
     ·rfl
    ·rfl
   ·rfl
  ·unfold zz4;split
   ·rename_i q;rw[q]at g;split
    ·split
     ·rfl
     ·split
      ·exact iz (g _ N) (g _ N)
      ·rfl
    ·rfl
   ·rfl
  ·unfold zt2;split
   ·rename_i q;rw[q]at g;split
    ·split
     ·split
      ·exact Vg (g _ N)
      ·rfl
     ·rfl
    ·rfl
   ·rfl
  ·unfold zlx;split
   ·rename_i q;rw[q]at g;split
    ·split
     ·exact iz (g _ N) (g _ N)
     ·rfl
    ·rfl
   ·rfl
  ·rfl
 ·rename_i f q;have j:(N6 f).run E'=(N6 f).run E:=h f (by simp[Call.operands,q]);dsimp only;rw[j,opds_cong g]
 ·rename_i r A q;have j:(N6 r).run E'=(N6 r).run E:=h r (by simp[Call.operands,q]);dsimp only;rw[j,opds_cong g]
def zjk{o:Op}{E E':Tr AV}{H:Heap}(h:∀x∈o.operands.toList,(N6 x).run E'=(N6 x).run E):(Ow C o).run E' H=(Ow C o).run E H:=by
 unfold Ow;split
 ·exact Vg (h _ Ad)
 ·exact Vg (h _ Ad)
 ·rename_i c a b;dsimp only;rw[h c Ad,h a Ad,h b Ad]
 ·split<;>rfl
 ·exact Vg (h _ Ad)
 ·rename_i t g;have z:∀x∈g.toList.map (·.2),(N6 x).run E'=(N6 x).run E:=λx j=>h x D3
  unfold zln;split
  ·rfl
  ·split
   ·split
    ·rfl
    ·split
     ·rfl
     ·rename_i q;dsimp only;rw[fillA_cong (z92 q z)]
   ·split
    ·rfl
    ·split
     ·rfl
     ·rename_i q;dsimp only;rw[fillA_cong (z92 q z)]
   ·rfl
 ·rename_i t len g;have z:∀x∈g.toList.map (·.2),(N6 x).run E'=(N6 x).run E:=λx j=>h x D3
  unfold z3x;split
  ·split
   ·rfl
   ·split
    ·rfl
    ·split
     ·split
      ·rfl
      ·rename_i q;dsimp only;rw[fillA_cong (z92 q z)]
     ·rfl
  ·rfl
 ·unfold zto;split<;>first|rfl|exact Vg (h _ Ad)
 ·unfold zqy;split<;>first|rfl|exact iz (h _ Ad) (h _ Ad)
 ·exact Vg (h _ Ad)
 ·exact iz (h _ Ad) (h _ Ad)
 ·exact Vg (h _ Ad)
 ·unfold W2;split
  ·exact Vg (h _ Ad)
  ·split<;>first|rfl|exact Vg (h _ Ad)
  ·exact Vg (h _ Ad)
  ·split<;>first|rfl|exact Vg (h _ Ad)
  ·rfl
 ·unfold zam;split<;>first|rfl|exact Vg (h _ Ad)
 ·rename_i f first cap
  split
  ·rfl
  ·simp only[zek];rw[opds_cong (l:=first.toList) (λx j=>h x (by simp[Op.operands]at j ⊢;exact .inl j)),opds_cong (l:=cap.toList) (λx j=>h x (by simp[Op.operands]at j ⊢;exact .inr j))]
 ·unfold zhu;split
  ·rfl
  ·split<;>first|rfl|exact Vg (h _ Ad)
 ·unfold z8z;split
  ·split
   ·rfl
   ·split
    ·rfl
    ·split
     ·exact iz (h _ Ad) (h _ Ad)
     ·rfl
  ·rfl
 ·rename_i t x F hi G;have A:=h x Ad;have B:(Qx F).run E'=(Qx F).run E:=zlm (λy e=>h y F2);have D:(Qx hi).run E'=(Qx hi).run E:=zlm (λy e=>h y F2);have I:(Qx G).run E'=(Qx G).run E:=zlm (λy e=>h y F2);unfold zgd;split
  ·split
   ·rfl
   ·dsimp only;rw[A,B,D]
  ·split
   ·rfl
   ·split
    ·rfl
    ·dsimp only;rw[A,B,D,I]
  ·split
   ·rfl
   ·split
    ·rfl
    ·dsimp only;rw[A,B,D,I]
  ·rfl
 ·unfold z61;split
  ·split
   ·rfl
   ·split<;>first|rfl|exact Vg (h _ Ad)
  ·rfl
 ·unfold zlk;split
  ·split
   ·rfl
   ·split<;>first|rfl|exact Vg (h _ Ad)
  ·rfl
 ·unfold z5y;split
  ·split
   ·rfl
   ·exact iz (h _ Ad) (h _ Ad)
  ·split
   ·rfl
   ·exact iz (h _ Ad) (h _ Ad)
  ·rfl
 ·unfold zju;split
  ·exact iz (h _ Ad) (h _ Ad)
  ·split
   ·exact iz (h _ Ad) (h _ Ad)
   ·rfl
  ·rfl
 ·unfold zf1;split
  ·split
   ·exact iz (h _ Ad) (h _ Ad)
   ·rfl
  ·rfl
 ·rename_i t m k x;unfold z6a;split
  ·split
   ·dsimp only;rw[h m Ad,h k Ad,h x Ad]
   ·rfl
  ·rfl
 ·rename_i t m k x;unfold z6a;split
  ·split
   ·dsimp only;rw[h m Ad,h k Ad,h x Ad]
   ·rfl
  ·rfl
 ·unfold rangeF;split<;>first|rfl|exact Vg (h _ Ad)
 ·unfold Xh;split<;>first|rfl|exact Vg (h _ Ad)
 ·unfold zew;split
  ·rfl
  ·split
   ·rfl
   ·exact Vg (h _ Ad)
  ·rfl
 ·exact Vg (h _ Ad)
 ·exact zy3 (λx j=>h x D3)
 ·rfl
def z3w{ops:Array Oper}{o:Oper}{E E':Tr AV}(h:Sz (Vq ops o) E' E):(Tf ops o).run E'=(Tf ops o).run E:=by
 unfold Tf;split
 ·rfl
 ·rename_i A j z;split
  ·rfl
  ·rename_i d hd;split
   ·rename_i g;dsimp only;rw[h d (by simp[Vq,z,hd]) g]
   ·rfl
end
inductive QR (H H2:Heap):OR→OR→Prop where
 |no:QR H H2 .no .no
 |val (v:AV):QR H H2 (.val v H) (.val v H2)
def Uc(j:OpF):Prop:=∀z A g,QR A g (j.run z A) (j.run z g)
inductive RR (H:Heap):OR→Prop where
 |no:RR H .no
 |val (v:AV):RR H (.val v H)
def cz(j:OpF):Prop:=∀z g,RR g (j.run z g)
def Uc.reads{F:OpF}(h:Uc F):cz F:=λE H=>by
 have:=h E H H;generalize F.run E H=r at this;cases this with
 |no=>exact .no
 |val v=>exact .val v
def quiet_stuck:Uc Om:=λ_ _ _=>.no
def reads_stuck:cz Om:=λ_ _=>.no
def QR.ret1{H H2:Heap}(o:Option AV):QR H H2 (ret1 H o) (Sv.ret1 H2 o):=by cases o<;>constructor
def RR.ret1{H:Heap}(o:Option AV):RR H (Sv.ret1 H o):=by cases o<;>constructor
def Yw{x:Operand}{f:Heap→AV→OR}(h:∀a j g,QR j g (f j a) (f g a)):Uc (Qw x f):=λz j g=>by
 simp only[Qw];cases (N6 x).run z with
 |none=>exact .no
 |some a=>exact h a j g
def z6s{x y:Operand}{f:Heap→AV→AV→OR}(h:∀a b j g,QR j g (f j a b) (f g a b)):Uc (Ui x y f):=λz j g=>by
 simp only[Ui];cases (N6 x).run z with
 |none=>exact .no
 |some a =>
  cases (N6 y).run z with
  |none=>exact .no
  |some b=>exact h a b j g
def z64{x:Operand}{f:Heap→AV→OR}(h:∀a g,RR g (f g a)):cz (Qw x f):=λj g=>by
 simp only[Qw];cases (N6 x).run j with
 |none=>exact .no
 |some a=>exact h a g
def zsn{x y:Operand}{f:Heap→AV→AV→OR}(h:∀a b g,RR g (f g a b)):cz (Ui x y f):=λj g=>by
 simp only[Ui];cases (N6 x).run j with
 |none=>exact .no
 |some a =>
  cases (N6 y).run j with
  |none=>exact .no
  |some b=>exact h a b g
def ztt(z:Program)(t:TypeId)(g:Array (Nat×Operand)):Uc (zln z t g):=by
 unfold zln;split
 ·exact quiet_stuck
 ·split
  ·split
   ·exact quiet_stuck
   ·split
    ·exact quiet_stuck
    ·intro A B j;dsimp only;split
     ·exact .val _
     ·exact .no
  ·split
   ·exact quiet_stuck
   ·split
    ·exact quiet_stuck
    ·intro A B j;dsimp only;split
     ·exact .val _
     ·exact .no
  ·exact quiet_stuck
def zmr(j g:Heap)(a:AV):QR j g (z85 j a) (z85 g a):=by
 unfold z85;split<;>constructor
def zp4(g:Program)(t:TypeId)(x:Operand):Uc (zam g t x):=by
 unfold zam;split
 ·exact quiet_stuck
 ·exact Yw λa z j=>.val _
 ·exact quiet_stuck
def zsi(f:Fn)(x y:Array Operand):Uc (zek f x y):=λj z g=>by
 simp only[zek];split
 ·split<;>constructor
 ·exact .no
def zkk(g:Program)(s:TypeId)(x:Operand)(f:Nat):Uc (z61 g s x f):=by
 unfold z61;split
 ·split
  ·exact quiet_stuck
  ·split
   ·exact quiet_stuck
   ·exact quiet_stuck
   ·exact Yw λa z j=>Bm
 ·exact quiet_stuck
def ztr(g:Program)(s:TypeId)(x:Operand)(f:Nat):Uc (zlk g s x f):=by
 unfold zlk;split
 ·split
  ·exact quiet_stuck
  ·split
   ·exact Yw λa z j=>by
     split
     ·exact .ret1 _
     ·exact .no
   ·exact quiet_stuck
 ·exact quiet_stuck
def zjl(A:Program)(t:TypeId)(x g:Operand):Uc (z5y A t x g):=by
 unfold z5y;split
 ·split
  ·exact quiet_stuck
  ·refine z6s λa b B j=>?_
   split
   ·rename_i len z _ _ n;cases Nat.blt n len
    ·exact .no
    ·dsimp only;split<;>constructor
   ·exact .no
 ·split
  ·exact quiet_stuck
  ·refine z6s λa b B j=>?_
   split
   ·split<;>constructor
   ·exact .no
 ·exact quiet_stuck
def zu2(z:Program)(t:TypeId)(x g:Operand):Uc (zju z t x g):=by
 unfold zju;split
 ·refine z6s λa b A j=>?_
  split
  ·split<;>constructor
  ·exact .no
 ·split
  ·refine z6s λa b A j=>?_
   split
   ·split
    ·exact .ret1 _
    ·exact .no
   ·exact .no
  ·exact quiet_stuck
 ·exact quiet_stuck
def zq0(g:Program)(x:Operand)(t:TypeId)(ok:Bool):Uc (zew g x t ok):=by
 unfold zew;split
 ·exact quiet_stuck
 ·split
  ·exact quiet_stuck
  ·refine Yw λa z j=>?_
   split
   ·cases ok<;>constructor
   ·split
    ·constructor
    ·cases ok<;>constructor
   ·exact .no
 ·exact quiet_stuck
def zp8(x:Operand)(i:Nat):Uc (zj3 x i):=Yw λa j g=>by
 split
 ·exact .ret1 _
 ·exact .no
def zjy{t:TypeId}{x:Operand}{g hi j:Option Operand}(h:zr3 C t=false):Uc (zgd C t x g hi j):=by
 unfold zgd;split
 ·split
  ·exact quiet_stuck
  ·intro A B z;dsimp only;split
   ·split
    ·split<;>constructor
    ·exact .no
   ·exact .no
 ·split
  ·exact quiet_stuck
  ·split
   ·exact quiet_stuck
   ·intro A B z;dsimp only;split
    ·exact .ret1 _
    ·split<;>constructor
    ·split<;>constructor
    ·exact .no
 ·rename_i q;simp[zr3,q]at h
 ·exact quiet_stuck
def ztv(A:Program)(t:TypeId)(x:Operand)(j hi z:Option Operand):cz (zgd A t x j hi z):=by
 cases g:zr3 A t
 ·exact (zjy g).reads
 ·unfold zr3 at g;unfold zgd;split at g
  ·rename_i q;rw[q];dsimp only;split
   ·exact reads_stuck
   ·split
    ·exact reads_stuck
    ·intro B C;dsimp only;split
     ·split
      ·split
       ·split
        ·exact .ret1 _
        ·exact .no
       ·exact .no
      ·exact .no
     ·exact .no
  ·cases g
def zym{s d:TypeId}{x:Operand}(hd:zqi C d=false)(g:zqi C s=false):Uc (W2 C s d x):=by
 unfold W2;split
 ·exact Yw λa z j=>Bm
 ·rename_i q _;simp[zqi,q]at g
 ·exact Yw λa z j=>Bm
 ·rename_i q;simp[zqi,q]at hd
 ·exact quiet_stuck
def zy6{s d:TypeId}{x:Operand}(hd:zqi C d=false):cz (W2 C s d x):=by
 unfold W2;split
 ·exact z64 λa g=>Bm
 ·split
  ·refine z64 λa g=>?_
   split
   ·exact .val _
   ·split
    ·split<;>constructor
    ·exact .no
   ·exact .no
  ·exact reads_stuck
 ·exact z64 λa g=>Bm
 ·rename_i q;simp[zqi,q]at hd
 ·exact reads_stuck
def zz2(g:Program)(t:TypeId)(x:Operand):cz (zto g t x):=by
 unfold zto;split
 ·exact z64 λa j=>by
   split
   ·split<;>constructor
   ·exact .no
 ·exact z64 λa j=>by
   split
   ·split<;>constructor
   ·exact .no
 ·exact reads_stuck
def zrf(j:Program)(t:TypeId)(x g:Operand)(ok:Bool):cz (zf1 j t x g ok):=by
 unfold zf1;split
 ·split
  ·refine zsn λa b z=>?_
   split
   ·exact .no
   ·split<;>constructor
  ·exact reads_stuck
 ·exact reads_stuck
def zrz{t:TypeId}{x:Operand}(h:zst C t=false):Uc (Wg C t x):=by
 unfold Wg;split
 ·exact Yw λa j g=>Bm
 ·exact Yw λa j g=>Bm
 ·rename_i q;simp[zst,q]at h
 ·exact Yw λa j g=>.val _
 ·exact quiet_stuck
def jc(j:Program)(t:TypeId)(x:Operand):cz (Wg j t x):=by
 cases g:zst j t
 ·exact (zrz g).reads
 ·unfold zst at g;unfold Wg;split at g
  ·rename_i q;rw[q];refine z64 λa z=>?_
   split
   ·exact .val _
   ·split<;>constructor
   ·exact .no
  ·cases g
def iw(g:Program)(t:TypeId)(x:Operand):Uc (Zf g t x):=by
 unfold Zf;split
 ·exact Yw λa z j=>Bm
 ·exact quiet_stuck
def zs9(g:Bool)(l:List Operand):Uc (Vh g l):=λz A j=>by
 simp only[Vh];split
 ·exact .ret1 _
 ·exact .no
def zr7{c:Call}:(zh4 C c=.quiet→Uc (oh C c))∧(zh4 C c=.rd→cz (oh C c)):=by
 unfold zh4 oh;split
 ·rename_i q;rw[q];dsimp only;split
  ·rename_i t g;rw[g];split
   ·rename_i hm;exact⟨λh=>An,λ_=>by
     split
     ·exact jc _ _ _
     ·exact reads_stuck⟩
   ·rename_i hm;refine⟨λ_=>?_,λh=>An⟩;split
    ·rename_i e _ ;cases e;exact zrz Ff
    ·exact quiet_stuck
  ·exact⟨λh=>An,λh=>An⟩
 ·rename_i q;rw[q];refine⟨λ_=>?_,λh=>An⟩;dsimp only;split
  ·exact iw _ _ _
  ·exact quiet_stuck
 ·rename_i q;rw[q];exact⟨λ_=>zs9 _ _,λh=>An⟩
 ·rename_i q;rw[q];exact⟨λ_=>zs9 _ _,λh=>An⟩
 ·exact⟨λh=>An,λh=>An⟩
def zd7{P:Program}{o:Op}:(cls P o=.quiet→Uc (Ow P o))∧(cls P o=.rd→cz (Ow P o)):=by
 unfold cls;split
 ·exact⟨λ_=>Yw λa j g=>.val _,λh=>An⟩
 ·exact⟨λ_=>Yw λa j g=>.val _,λh=>An⟩
 ·refine⟨λ_ A j g=>?_,λh=>An⟩;simp only[Ow];split
  ·exact .ret1 _
  ·exact .ret1 _
  ·exact .no
 ·exact⟨λ_=>ztt _ _ _,λh=>An⟩
 ·exact⟨λ_=>Yw λa j g=>zmr _ _ _,λh=>An⟩
 ·exact⟨λ_=>z6s λa b j g=>.ret1 _,λh=>An⟩
 ·exact⟨λ_=>Yw λa j g=>.ret1 _,λh=>An⟩
 ·exact⟨λ_=>zp4 _ _ _,λh=>An⟩
 ·rename_i f x y;refine⟨λ_=>?_,λh=>An⟩;simp only[Ow];split
  ·exact quiet_stuck
  ·exact zsi _ _ _
 ·exact⟨λ_=>zkk _ _ _ _,λh=>An⟩
 ·exact⟨λ_=>ztr _ _ _ _,λh=>An⟩
 ·exact⟨λ_=>zjl _ _ _ _,λh=>An⟩
 ·exact⟨λ_=>zu2 _ _ _ _,λh=>An⟩
 ·exact⟨λ_=>zq0 _ _ _ _,λh=>An⟩
 ·exact⟨λ_=>zp8 _ _,λh=>An⟩
 ·split
  ·exact⟨λh=>An,λ_=>ztv _ _ _ _ _ _⟩
  ·rename_i h;exact⟨λ_=>zjy Ax,λh=>An⟩
 ·split
  ·exact⟨λh=>An,λh=>An⟩
  ·rename_i hd;split
   ·exact⟨λh=>An,λ_=>zy6 (by simpa using hd)⟩
   ·rename_i z;exact⟨λ_=>zym (by simpa using hd) Ct,λh=>An⟩
 ·exact⟨λh=>An,λ_=>zz2 _ _ _⟩
 ·exact⟨λh=>An,λ_=>zrf _ _ _ _ _⟩
 ·exact zr7
 all_goals exact⟨λh=>An,λh=>An⟩
def z6e{P:Program}{n:Nat}{ops:Array Oper}{o:Oper}{k:Ry}(h:(Rt P n ops o).run k T G=.ok vC vT) :
  ∃v,vC=Pp o.dst v T∧(∀d,o.dst=some d→d<n)∧∀j,Sz (Vq ops o) j T→(Rt P n ops o).run k j G=.ok (Pp o.dst v j) vT:=by
 unfold Rt at h ⊢;cases F:Rp n o.dst with
 |none=>rw[F]at h;cases h
 |some p =>
  rw[F]at h;dsimp only at h ⊢;obtain⟨g,A⟩:=zcd F;have B:∀j,Sz (Vq ops o) j T→(Ow P o.op).run j G=(Ow P o.op).run T G:=λj z =>
   zjk (Sz.opds (λt I=>z t (by simp[Vq,I])))
  cases C:(Tf ops o).run T with
  |false =>
   rw[C]at h;cases h;refine⟨Sq,g _ _,A,λj z=>?_⟩;rw[z3w z,C];dsimp only;rw[g]
  |true =>
   rw[C]at h;dsimp only at h;cases D:(Ow P o.op).run T G with
   |no=>rw[D]at h;cases h
   |val v K =>
    rw[D]at h;cases h;refine⟨v,g _ _,A,λj z=>?_⟩;rw[z3w z,C,B j z,D];dsimp only;rw[g]
   |call t E =>
    rw[D]at h;dsimp only at h;cases H:k t E G with
    |no=>rw[H]at h;cases h
    |ok v K =>
     rw[H]at h;cases h;refine⟨v,g _ _,A,λj z=>?_⟩;rw[z3w z,C,B j z,D];dsimp only;rw[H];dsimp only;rw[g]
def z6g{P:Program}{n:Nat}{ops:Array Oper}{o:Oper}{k:Ry}(A:cz (Ow P o.op))(h:(Rt P n ops o).run k T G=.ok vC vT):vT=G:=by
 unfold Rt at h;cases g:Rp n o.dst with
 |none=>rw[g]at h;cases h
 |some p =>
  rw[g]at h;dsimp only at h;cases j:(Tf ops o).run T with
  |false=>rw[j]at h;cases h;rfl
  |true =>
   rw[j]at h;dsimp only at h;have z:=A T G;generalize (Ow P o.op).run T G=r at h z;cases z with
   |no=>cases h
   |val v=>cases h;rfl
def zmm{P:Program}{n:Nat}{ops:Array Oper}{o:Oper}{k:Ry}(B:Uc (Ow P o.op))(h:(Rt P n ops o).run k T G=.ok vC vT)(g:Heap) :
  (Rt P n ops o).run k T g=.ok vC g:=by
 unfold Rt at h ⊢;cases z:Rp n o.dst with
 |none=>rw[z]at h;cases h
 |some p =>
  rw[z]at h;dsimp only at h ⊢;cases A:(Tf ops o).run T with
  |false=>rw[A]at h;cases h;rfl
  |true =>
   rw[A]at h;dsimp only at h ⊢;have j:=B T G g;generalize (Ow P o.op).run T G=r at h j;generalize (Ow P o.op).run T g=C at j ⊢;cases j with
   |no=>cases h
   |val v=>cases h;rfl
end Go.Sv
