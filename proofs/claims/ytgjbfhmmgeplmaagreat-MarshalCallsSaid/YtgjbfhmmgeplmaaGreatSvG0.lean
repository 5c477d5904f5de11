/- Texts of the evaluator, of the logic over it, of plain arithmetic. -/
import Derived.AtR
import Derived.Laws.Sem
import Derived.Laws.World
import Derived.KernelRfl
import Derived.Below
import Derived.Laws.Strings
import Derived.Laws.StructEq
import Derived.Lib.Strings
import Derived.Lib.ConvBytes
import Derived.Laws.BytesArg
import Derived.Laws.RangeString
import Derived.MapKept
import Derived.Laws.Append
import Derived.Laws.AppendOwn
import Derived.Laws.Externs
import Derived.RangeFuncIn
import Derived.RangeFuncRecord
set_option linter.unusedSimpArgs false
set_option linter.defProp false
namespace Go.Sv
variable{g j v7:Nat}{z:Program}{E R:World}{O:Bool}{S:TypeId}{Y:Option Nat}{v8:Type}{v6:Array Value}{vZ:Value}
noncomputable section
abbrev H7:=@List.getElem?_eq_some_iff
abbrev H8:=@List.getElem?_set_ne
abbrev H9:=@Bool.and_eq_true
abbrev Ia:=@List.getElem?_set_self
abbrev Ib:=@List.getElem?_eq_getElem
abbrev Ic:=@List.getElem?_append_left
abbrev Ie:=@List.getD_eq_getElem?_getD
abbrev If:=@Nat.le_refl
abbrev Ig:=@Nat.eq_of_beq_eq_true
abbrev Ih:=@Nat.ble_eq_true_of_le
abbrev Ii:=@if_neg
abbrev Ij:=@if_pos
abbrev Ik:=@List.mem_cons
abbrev Il:=@decide_eq_true_eq
abbrev Im:=@List.length_append
abbrev In:=@Nat.le_of_ble_eq_true
abbrev Io:=@List.take_of_length_le
abbrev Ip:=@Nat.mul_le_mul_right
abbrev Iq:=@List.getElem?_append_right
abbrev Ir:=@Int.eq_ofNat_of_zero_le
abbrev Is:=@List.eq_nil_of_length_eq_zero
abbrev It:=@List.getElem?_cons_zero
abbrev Iu:=@List.length_take
abbrev Iv:=@List.getElem?_cons_succ
abbrev Iw:=@Int.ofNat_eq_natCast
abbrev Ix:=@Nat.lt_of_lt_of_le
abbrev Iy:=@List.length_cons
abbrev Iz:=@List.drop_eq_getElem_cons
abbrev I0:=@List.append_assoc
abbrev I1:=@Nat.le_trans
abbrev I2:=@List.mem_append
abbrev I3:=@Nat.beq_refl
abbrev I4:=@List.getElem?_take_of_lt
abbrev I5:=@Nat.add_mul
abbrev I6:=@Int.toNat_natCast
abbrev I7:=@List.all_eq_true
abbrev I8:=@List.mem_iff_getElem?
abbrev I9:=@Nat.lt_succ_self
abbrev Ja:=@List.getElem?_concat_length
abbrev Jb:=@Array.getD_eq_getD_getElem?
abbrev Jc:=@Nat.zero_add
abbrev Jd:=@List.mem_of_getElem?
abbrev Je:=@Nat.add_assoc
abbrev Jf:=@List.append_nil
abbrev Jg:=@List.mem_cons_of_mem
abbrev Jh:=@Array.getElem?_eq_getElem
abbrev Ji:=@List.mem_range
abbrev Jj:=@UInt64.toNat_inj
abbrev Jk:=@List.length_drop
abbrev Jl:=@List.cons_append
abbrev Jm:=@List.getElem?_toArray
abbrev Jn:=@Bool.eq_iff_iff
abbrev Jo:=@List.drop_of_length_le
abbrev Jp:=@Array.size_append
abbrev Jq:=@Int.natCast_nonneg
abbrev Jr:=@List.take_append_drop
abbrev Js:=@UInt64.toNat_ofNat'
abbrev Jt:=@Nat.min_eq_left
abbrev Ju:=@List.map_append
abbrev Jv:=@List.drop_zero
abbrev Jw:=@Option.map_some
abbrev Jx:=@Array.getElem?_append_left
abbrev Jy:=@List.pairwise_cons
abbrev Jz:=@List.length_set
abbrev J0:=@List.length_map
abbrev J1:=@List.set_eq_take_append_cons_drop
abbrev J2:=@Array.toList_map
abbrev J3:=@List.take_succ_eq_append_getElem
abbrev J4:=@decide_eq_true
abbrev J5:=@List.mem_of_mem_drop
abbrev J6:=@List.drop_drop
abbrev J7:=@Nat.le_max_left
abbrev J8:=@Nat.mod_eq_of_lt
abbrev J9:=@List.perm_middle
abbrev Ka:=@List.not_mem_nil
abbrev Kb:=@List.replicate_succ
abbrev Kc:=@List.flatMap_cons
abbrev Kd:=@Int.emod_eq_of_lt
abbrev Ke:=@List.mem_append_right
abbrev Kf:=@List.getElem?_eq_none
abbrev Kg:=@Bool.true_and
abbrev Kh:=@List.mem_map
abbrev Ki:=@List.mem_filter
abbrev Kj:=@List.mem_cons_self
abbrev Kk:=@Option.getD_some
abbrev Kl:=@List.mem_append_left
abbrev Km:=@List.getElem_mem
abbrev Kn:=@List.map_cons
abbrev Kq:=@List.all_cons
abbrev Kr:=@UInt64.lt_iff_toNat_lt
abbrev Ks:=@List.getElem?_map
abbrev Kt:=@List.replicate_append_replicate
abbrev Ku:=@Nat.le_max_right
abbrev Kw:=@List.mem_singleton
abbrev Kx:=@Bool.false_eq_true
abbrev Ky:=@Array.eq_empty_of_size_eq_zero
abbrev Kz:=@Nat.zero_mul
abbrev K0:=@Nat.mul_one
abbrev K3:=@Nat.mul_le_mul
abbrev K4:=@Nat.le_succ
abbrev K5:=@List.mem_iff_getElem
abbrev K6:=@Int.le_refl
abbrev K7:=@if_true
abbrev K8:=@List.all_eq_false
abbrev K9:=@List.nil_append
abbrev La:=@Bool.or_eq_true
abbrev Le:=@Nat.lt_or_ge
abbrev Lf:=@List.getElem?_drop
abbrev Lh:=@List.length_filter_le
abbrev Li:=@List.take_left'
abbrev Lj:=@of_decide_eq_true
abbrev Lk:=@Nat.zero_le
abbrev Ll:=@Nat.pow_le_pow_right
abbrev Lm:=@List.mem_of_mem_take
abbrev Ln:=@List.drop_succ_cons
abbrev Lp:=@decide_eq_decide
abbrev Lq:=@Nat.add_sub_cancel_left
abbrev Lr:=@List.take_take
abbrev Ls:=@List.take_length
abbrev Lt:=@List.take_append_of_le_length
abbrev Lu:=@Nat.le_of_eq
abbrev Lv:=@Nat.add_zero
abbrev Lw:=@List.map_set
abbrev Ly:=@BitVec.toNat_ofNat
abbrev Lz:=@Array.getElem?_eq_none
abbrev L0:=@List.map_take
abbrev L3:=@List.set_append_right
abbrev L4:=@List.getElem?_set
abbrev L5:=@Bool.not_eq_true'
abbrev L6:=@Nat.one_mul
abbrev L7:=@Array.getElem?_eq_some_iff
abbrev L8:=@UInt64.toNat_mul
abbrev L9:=@Nat.mul_comm
abbrev Ma:=@UInt64.toNat_ofNat_of_lt'
abbrev Mb:=@Array.toList_append
abbrev Mc:=@Array.size_setIfInBounds
abbrev Md:=@decide_eq_false
abbrev Me:=@decide_eq_false_iff_not
abbrev Mf:=@or_false
abbrev Mg:=@List.take_add_one
abbrev Mh:=@List.ext_getElem?
abbrev Mi:=@Int.le_trans
abbrev Mj:=@Bool.not_false
abbrev Ml:=@beq_iff_eq
abbrev Mm:=@List.any_eq_true
abbrev Mn:=@Array.toList_inj
abbrev Mo:=@List.pairwise_append
abbrev Mp:=@Nat.not_lt_zero
abbrev Mq:=@List.range_succ
abbrev Mr:=@Array.getElem?_setIfInBounds
abbrev Mt:=@List.take_set_of_le
abbrev Mu:=@List.length_reverse
abbrev Mv:=@Nat.le_of_lt
abbrev Mw:=@List.map_nil
abbrev My:=@Array.getElem?_append_right
abbrev Mz:=@if_false
abbrev M0:=@Nat.le_of_mul_le_mul_right
abbrev M1:=@List.take_zero
abbrev M2:=@List.any_eq_false
def J{p:Prop}(h:p:=by omega):p:=h
def N{p:Prop}(h:p:=by simp):p:=h
def Aa{p:Prop}(h:p:=by kernel_rfl):p:=h
def Ab{p:Prop}(h:p:=by simp;omega):p:=h
def Ac{p:Prop}(h:p:=by simp[Op.operands]):p:=h
def Ad{p:Prop}(h:p:=by decide):p:=h
def Ae{p:Prop}(h:p:=by simp[C]):p:=h
def Af{p:Prop}(h:p:=by simp[A]):p:=h
def Ah{p:Prop}(h:p:=by have:=A.1 x g;omega):p:=h
def Ai{p:Prop}(h:p:=by simp[M3,dats,LV.dat,Ph,R7]):p:=h
def Ak{p:Prop}(h:p:=by simp[dats,LV.dat,Qj,LN,Pf]):p:=h
def Al{p:Prop}(h:p:=by simp[execOp,g]):p:=h
def Am{p:Prop}(h:p:=by cases h):p:=h
def An{p:Prop}(h:p:=by dsimp only;omega):p:=h
def Ao{p:Prop}(h:p:=by simp[dats,LV.dat]):p:=h
def Aq{p:Prop}(h:p:=by cases e):p:=h
def Ar{p:Prop}(h:p:=by simp[dats,LV.dat,M,Qj,LN,Pf]):p:=h
def As{p:Prop}(h:p:=by simp[z]):p:=h
def At{p:Prop}(h:p:=by simp only[IntKind.wrap,IntKind.bits,IntKind.signed];simp;omega):p:=h
def Au{p:Prop}(h:p:=by simp[j]):p:=h
def Av{p:Prop}(h:p:=by simp[M]):p:=h
def Aw{p:Prop}(h:p:=by simp[E]):p:=h
def Ax{p:Prop}(h:p:=by simp[B]):p:=h
def Ay{p:Prop}(h:p:=by simp[g]):p:=h
def Ba{p:Prop}(h:p:=by simp[H]):p:=h
def Bb{p:Prop}(h:p:=by simpa using h):p:=h
def Bc{p:Prop}(h:p:=by simp[D]):p:=h
def Bd{p:Prop}(h:p:=by rw[IntKind.wrap_i64];omega):p:=h
def Be{p:Prop}(h:p:=by unfold Ng at hc;simp only[H9]at hc;exact hc.1):p:=h
def Bh{p:Prop}(h:p:=by simpa using A):p:=h
def Bi{p:Prop}(h:p:=by simp only[Sem.run_bind,z,Result.andThen_ok,Sem.run_pure]):p:=h
def Bk{p:Prop}(h:p:=by simp[P]):p:=h
def Bl{p:Prop}(h:p:=by have:=(H7.1 R).1;omega):p:=h
def Bm{p:Prop}(h:p:=by have:=(H7.1 Q).1;omega):p:=h
def Bn{p:Prop}(h:p:=by simp[Builtin.len_,Oa hu,goInt]):p:=h
def Bo{p:Prop}(h:p:=by simp[Y]):p:=h
def Bq{p:Prop}(h:p:=by simp[Q]):p:=h
def Br{p:Prop}(h:p:=by simp[L]):p:=h
def Bs{p:Prop}(h:p:=by simp[K]):p:=h
def Bt{p:Prop}(h:p:=by split<;>constructor):p:=h
def Bu{p:Prop}(h:p:=by simp[h6]):p:=h
def Bv{p:Prop}(h:p:=by simp[dats,LV.dat,Ph]):p:=h
def Bx{p:Prop}(h:p:=by have:=gj x g;omega):p:=h
def By{p:Prop}(h:p:=by simp[h5]):p:=h
def B0{p:Prop}(h:p:=by simpa using j):p:=h
def B1{p:Prop}(h:p:=by simp at h):p:=h
def B2{p:Prop}(h:p:=by have:o<H.next+1:=ho;omega):p:=h
def B3{p:Prop}(h:p:=by simpa using g):p:=h
def B4{p:Prop}(h:p:=by simp[dats,LV.dat,LN,Pf]):p:=h
def B5{p:Prop}(h:p:=by simp only[Iy];omega):p:=h
def B6{p:Prop}(h:p:=by simp[Act.eval,Act.put]):p:=h
def B7{p:Prop}(h:p:=by simp at e):p:=h
def B8{p:Prop}(h:p:=by simp[G]):p:=h
def B9{p:Prop}(h:p:=by dsimp;omega):p:=h
def Ca{p:Prop}(h:p:=by simp[LV.dat,Pf]):p:=h
def Cb{p:Prop}(h:p:=by rw[j,C]):p:=h
def Cc{p:Prop}(h:p:=by rw[Iu];omega):p:=h
def Cd{p:Prop}(h:p:=by simp[O]):p:=h
def Ce{p:Prop}(h:p:=by cases h;rfl):p:=h
def Cg{p:Prop}(h:p:=by rw[M6 M];exact K):p:=h
def Ch{p:Prop}(h:p:=by simp[V]):p:=h
def Ci{p:Prop}(h:p:=by simp[F]):p:=h
def Cj{p:Prop}(h:p:=by have:=gF.2 x g;omega):p:=h
def Ck{p:Prop}(h:p:=by simp[U]):p:=h
def Cl{p:Prop}(h:p:=by simp only[Iw];omega):p:=h
def Cm{p:Prop}(h:p:=by simp[LV.dat,dats]):p:=h
def Cn{p:Prop}(h:p:=by rw[←r6.length];exact r1):p:=h
def Co{p:Prop}(h:p:=by rw[e]):p:=h
def Cp{p:Prop}(h:p:=by simpa using z):p:=h
def Cq{p:Prop}(h:p:=by simpa using E):p:=h
def Cr{p:Prop}(h:p:=by simp only[Ny];unfold Nc;rw[z]):p:=h
def Cs{p:Prop}(h:p:=by rw[M6 C];exact z):p:=h
def Ct{p:Prop}(h:p:=by simp[Z]):p:=h
def Cu{p:Prop}(h:p:=by rw[C,Q];exact F):p:=h
def Cv{p:Prop}(h:p:=by simpa using H):p:=h
def Cw{p:Prop}(h:p:=by simpa using r1):p:=h
def Cy{p:Prop}(h:p:=by simp[h2]):p:=h
def Cz{p:Prop}(h:p:=by simp[M3]):p:=h
def C3{p:Prop}(h:p:=by cases op<;>rfl):p:=h
def C4{p:Prop}(h:p:=by simpa using hi):p:=h
def C5{p:Prop}(h:p:=by rw[q];rfl):p:=h
def C6{p:Prop}(h:p:=by rw[Q];exact T):p:=h
def C7{p:Prop}(h:p:=by simp[Rp];omega):p:=h
def C8{p:Prop}(h:p:=by rw[M6 C];exact P):p:=h
def C9{p:Prop}(h:p:=by have:=(H7.1 V).1;omega):p:=h
def Da{p:Prop}(h:p:=by simp[T]):p:=h
def Db{p:Prop}(h:p:=by simp[I]):p:=h
def Dc{p:Prop}(h:p:=by simp[builtin]):p:=h
def Dd{p:Prop}(h:p:=by rw[Im,h2,hx,I5];omega):p:=h
def De{p:Prop}(h:p:=by simpa [binOp] using j):p:=h
def Df{p:Prop}(h:p:=by rw[hg o rfl];exact r2):p:=h
def Dg{p:Prop}(h:p:=by rw[Xj];exact .int k _):p:=h
def Dh{p:Prop}(h:p:=by simp[X]):p:=h
def Di{p:Prop}(h:p:=by show Int.ofNat (a.toNat ||| b.toNat)<_;simp only[Iw];omega):p:=h
def Dk{p:Prop}(h:p:=by show Int.ofNat (a.toNat &&& b.toNat)<_;simp only[Iw];omega):p:=h
def Dl{p:Prop}(h:p:=by cases q):p:=h
def Dm{p:Prop}(h:p:=by rw[j,C,E]):p:=h
def Do{p:Prop}(h:p:=by rw[gB];simp):p:=h
def Dp{p:Prop}(h:p:=by rw[Im,Iu,T];show min (len*j) l.length+n*j=(len+n)*j;omega):p:=h
def Dq{p:Prop}(h:p:=by have:=List.findIdx_le_length (p:=p) (xs:=l);omega):p:=h
def Dr{p:Prop}(h:p:=by simpa using K):p:=h
def Ds{p:Prop}(h:p:=by simpa [Op.operands] using j):p:=h
def Dt{p:Prop}(h:p:=by simpa using L):p:=h
def Du{p:Prop}(h:p:=by have:=gL x g;omega):p:=h
def Dv{p:Prop}(h:p:=by simp[binOp,Op.intArith];rfl):p:=h
def Dw{p:Prop}(h:p:=by simp[execOp,A,z]):p:=h
def Dx{p:Prop}(h:p:=by simp only[It,Option.some.injEq]at h;subst h;exact⟨_,rfl,e⟩):p:=h
def Dy{p:Prop}(h:p:=by rw[M];simp):p:=h
def Dz{p:Prop}(h:p:=by rw[M6 z];exact I):p:=h
def D0{p:Prop}(h:p:=by intro jg m k st h;cases h):p:=h
def D4{p:Prop}(h:p:=by show (0:Int)≤1000000;decide):p:=h
def D6{p:Prop}(h:p:=by simp[dats,LV.dat,xn,ze6]):p:=h
def D8{p:Prop}(h:p:=by rw[←h3];exact gg):p:=h
def D9{p:Prop}(h:p:=by simp[hs.len]):p:=h
def Ea{p:Prop}(h:p:=by simp[binOp,Op.intCmp];rfl):p:=h
def Eb{p:Prop}(h:p:=by rw[Jz];exact hb):p:=h
def Ec{p:Prop}(h:p:=by rw[Ic (H7.1 e).1];exact e):p:=h
def Ed{p:Prop}(h:p:=by simpa [Oc,Pc.f] using c0):p:=h
def Eg{p:Prop}(h:p:=by simp[h]):p:=h
def Eh{p:Prop}(h:p:=by simp[dats,LV.dat,Ph,z]):p:=h
def Ei{p:Prop}(h:p:=by have:=congrArg List.length hd;simp at this;omega):p:=h
def Ej{p:Prop}(h:p:=by cases g):p:=h
def Ek{p:Prop}(h:p:=by simpa using gC):p:=h
def El{p:Prop}(h:p:=by simp[zeroValue,et hi,g]):p:=h
def Em{p:Prop}(h:p:=by rw[hvl];simp only[Nat.min_def];split<;>omega):p:=h
def En{p:Prop}(h:p:=by rw[hdl];simp only[Nat.min_def];split<;>omega):p:=h
def Ep{p:Prop}(h:p:=by rw[M6 H,jg P];exact R):p:=h
def Er{p:Prop}(h:p:=by simp[getObj,Sem.run,V]):p:=h
def Es{p:Prop}(h:p:=by rw[hg];decide):p:=h
def Et{p:Prop}(h:p:=by rw[I3,show Nat.ble len Nm=true from Ih C];rfl):p:=h
def Eu{p:Prop}(h:p:=by cases e;exact⟨If _,I9 _⟩):p:=h
def Ev{p:Prop}(h:p:=by simpa using R):p:=h
def Ew{p:Prop}(h:p:=by simp[Qu,hb,Rp];omega):p:=h
def Ey{p:Prop}(h:p:=by rw[I5];omega):p:=h
def Ez{p:Prop}(h:p:=by have:=ng (λv=>decide (v.mode=3)) vs i;omega):p:=h
def E4{p:Prop}(h:p:=by simpa using T):p:=h
def E5{p:Prop}(h:p:=by simp[binOp,Op.intCmp]):p:=h
def E6{p:Prop}(h:p:=by rw[hb _ _ C];exact h2):p:=h
def E7{p:Prop}(h:p:=by rw[gB];rfl):p:=h
def E8{p:Prop}(h:p:=by rw[S];simp):p:=h
def E9{p:Prop}(h:p:=by have:s.data.toList.length=s.size:=rfl;omega):p:=h
def Fa{p:Prop}(h:p:=by simp[dats,LV.dat,M]):p:=h
def Fb{p:Prop}(h:p:=by simp[dats,LV.dat,I]):p:=h
def Fe{p:Prop}(h:p:=by simp[Qu,T,Rp];omega):p:=h
def Ff{p:Prop}(h:p:=by simp[Op.operands,e]):p:=h
def Fg{p:Prop}(h:p:=by rw[o9];omega):p:=h
def Fh{p:Prop}(h:p:=by rw[j]):p:=h
def Fi{p:Prop}(h:p:=by rw[h]):p:=h
def Fj{p:Prop}(h:p:=by unfold Qv;split<;>(try split)<;>simp_all):p:=h
def Fk{p:Prop}(h:p:=by simp[gH]):p:=h
def Fl{p:Prop}(h:p:=by rw[M6 gg];exact hx):p:=h
def Fo{p:Prop}(h:p:=by simp[h7]):p:=h
def Fp{p:Prop}(h:p:=by simp[h3]):p:=h
def Fq{p:Prop}(h:p:=by simp only[I3,Ih he,Bool.and_self]):p:=h
def Ft{p:Prop}(h:p:=by rw[e,P]at j;cases j):p:=h
def Fu{p:Prop}(h:p:=by rw[e,P]at L;cases L):p:=h
def Fv{p:Prop}(h:p:=by simp[gD]):p:=h
def Fw{p:Prop}(h:p:=by simp[LV.dat]):p:=h
def Fx{p:Prop}(h:p:=by have:=u.toNat_lt;simp only[Iw];omega):p:=h
def Fy{p:Prop}(h:p:=by simp only[Iw];exact Int.ofNat_lt.2 F):p:=h
def F0{p:Prop}(h:p:=by show y+1≤2*9223372036854775808;omega):p:=h
def F1{p:Prop}(h:p:=by show x+1≤2*9223372036854775808;omega):p:=h
def F2{p:Prop}(h:p:=by rw[M6 R];exact H):p:=h
def F3{p:Prop}(h:p:=by simp[h4]):p:=h
def F4{p:Prop}(h:p:=by simp[h0]):p:=h
def F5{p:Prop}(h:p:=by simp[Qc,Tt,E,V,b3,b4,b5,gC,m1,hs]):p:=h
def F6{p:Prop}(h:p:=by simp[Oz,hi]):p:=h
def F7{p:Prop}(h:p:=by rw[Ux,Ij I]):p:=h
def F8{p:Prop}(h:p:=by simp[stepG,stepG.exec,Frame.atR]):p:=h
def F9{p:Prop}(h:p:=by simp[Qf,(zgd j ops l _ (i+1) 0).1]):p:=h
def Ga{p:Prop}(h:p:=by simp[LV.dat,qf]):p:=h
def Gb{p:Prop}(h:p:=by rw[P.1];exact g):p:=h
def Gc{p:Prop}(h:p:=by rw[Jk,hcl];omega):p:=h
def Ge{p:Prop}(h:p:=by have:=V2 Ko.f_len G (j:=0) J;simpa [Oi,Ko.f] using this):p:=h
def Gf{p:Prop}(h:p:=by rw[z P J (D P T),o2 P J];exact ho P T gD):p:=h
def Gg{p:Prop}(h:p:=by rw[hm j hj];exact congrArg some (Lp.2 J)):p:=h
def Gh{p:Prop}(h:p:=by rw[hx];exact List.mem_flatMap.2 ⟨_,N,Z⟩):p:=h
def Gi{p:Prop}(h:p:=by rw[z pl J (D pl Q),o2 pl I];exact F):p:=h
inductive Tr (α:Type) where
 |e
 |n (v:Option α) (l r:Tr α)
structure GetF (α:Type) where run:Tr α→Option α
structure SetF (α:Type) where run:α→Tr α→Tr α
def ui{g:Type}:List Bool→GetF g
 |[]=>⟨λt=>Tr.rec none (λv _ _ _ _=>v) t⟩
 |b::p=>match b with
  |true=>⟨λt=>Tr.rec none (λ_ l _ _ _=>(ui p).run l) t⟩
  |false=>⟨λt=>Tr.rec none (λ_ _ r _ _=>(ui p).run r) t⟩
def Za{g:Type}:List Bool→SetF g
 |[]=>⟨λa t=>Tr.rec (.n (some a) .e .e) (λ_ l r _ _=>.n (some a) l r) t⟩
 |b::p=>match b with
  |true=>⟨λa t=>Tr.rec (.n none ((Za p).run a .e) .e) (λv l r _ _=>.n v ((Za p).run a l) r) t⟩
  |false=>⟨λa t=>Tr.rec (.n none .e ((Za p).run a .e)) (λv l r _ _=>.n v l ((Za p).run a r)) t⟩
def M8(p:List Bool)(t:Tr v8):Option v8:=(ui p).run t
def Oo(a:v8)(p:List Bool)(t:Tr v8):Tr v8:=(Za p).run a t
def wc:Nat→Nat→List Bool
 |0,_=>[]
 |f+1,k=>match k with
  |0=>[]
  |k+1=>Nat.beq (Nat.mod k 2) 0::wc f (Nat.div k 2)
def Nh(k:Nat):List Bool:=wc (Nat.succ k) k
def Nm:Nat:=1000000000
def Pp{g:Type}:List g→Nat→Tr g→Tr g
 |[],_,t=>t
 |a::l,i,t=>Pp l (i+1) (Oo a (Nh i) t)
inductive AV where
 |bool (b:Bool)
 |int (k:IntKind) (n:Int)
 |str (len n:Nat)
 |nilPtr
 |ptr (o v i:Nat)
 |nilSl
 |sl (o v i len esz:Nat) (room:Option Nat)
 |emp
 |nilMap
 |map (o:Nat)
 |nilFn
 |fn (f:Fn) (first cap:List AV)
 |nilIf
 |iface (t:TypeId) (v:AV)
 |agg (cs:List AV)
 |tup (vs:List AV)
 deriving Inhabited
def AV.cells:AV→Option (List AV)
 |.agg cs=>some cs
 |.tup _=>none
 |v=>some [v]
def Oy:List UInt8→Nat
 |[]=>0
 |b::l=>b.toNat+256*Oy l
def ig:Value→Option AV
 |.bool b=>some (.bool b)
 |.int k n=>some (.int k n)
 |.string s=>some (.str s.data.toList.length (Oy s.data.toList))
 |.pointer none=>some .nilPtr
 |.slice none 0 0=>some .nilSl
 |.map none=>some .nilMap
 |.nilFunc=>some .nilFn
 |.nilIface=>some .nilIf
 |_=>none
def S9:List Value→Option (List AV)
 |[]=>some []
 |v::l=>match ig v with
  |none=>none
  |some a=>match S9 l with
   |none=>none
   |some r=>some (a::r)
def Vp:Value→Option AV
 |.agg g=>(S9 g.toList).map .agg
 |.tuple j=>if j.size=0 then some (.tup []) else none
 |v=>ig v
inductive AObj where
 |cells (c:Tr AV) (len ver:Nat) (ro:Bool)
 |map (es:List (AV×AV×Nat)) (clock:Nat)
 |iter (len n pos:Nat)
 |loop (st:LoopState) (pend:Option Code) (f nt:Nat) (env:Tr AV) (ps:Array Tmp) (assign body:Code) (defers:Nat)
 |defd (isOpen:Bool)
structure Heap where
 t:Tr AObj
 next:Nat
def Heap.get(H:Heap)(o:Nat):Option AObj:=M8 (Nh o) H.t
def Heap.put(H:Heap)(o:Nat)(x:AObj):Heap:=⟨Oo x (Nh o) H.t,H.next⟩
def Heap.push(H:Heap)(x:AObj):Heap:=⟨Oo x (Nh H.next) H.t,H.next+1⟩
def R8(c:Tr AV):Nat→Nat→Option (List AV)
 |_,0=>some []
 |i,n+1=>match M8 (Nh i) c with
  |none=>none
  |some a=>match R8 c (i+1) n with
   |none=>none
   |some l=>some (a::l)
def Pt(j:Heap)(o v i n:Nat):Option (List AV) :=
 match j.get o with
 |some (.cells c len g _)=>match Nat.beq v g with
  |true=>match Nat.ble (Nat.add i n) len with
   |true=>R8 c i n
   |false=>none
  |false=>none
 |_=>none
def Up(j:Heap)(o v i:Nat)(l:List AV):Option Heap :=
 match j.get o with
 |some (.cells c len g false)=>match Nat.beq v g with
  |true=>match Nat.ble (Nat.add i l.length) len with
   |true=>some (j.put o (.cells (Pp l i c) len g false))
   |false=>none
  |false=>none
 |_=>none
def newObj(g:Heap)(l:List AV):Option (Nat×Heap):=some (g.next,g.push (.cells (Pp l 0 .e) l.length 0 false))
inductive Tgt where
 |fn (f:Nat)
 |yield (l:Nat)
inductive OR where
 |no
 |val (v:AV) (H:Heap)
 |call (t:Tgt) (args:List AV)
structure OpdF where run:Tr AV→Option AV
structure OpF where run:Tr AV→Heap→OR
def Ri:AV:=.tup []
def Nk(x:Operand):OpdF :=
 match x with
 |.tmp t=>match Nat.ble t Nm with
  |true=>⟨λg=>Option.rec (some Ri) (λv=>some v) (M8 (Nh t) g)⟩
  |false=>⟨λ_=>none⟩
 |.const v=>match Vp v with
  |some a=>⟨λ_=>some a⟩
  |none=>⟨λ_=>none⟩
 |.func f=>⟨λ_=>some (.fn (.func f) [] [])⟩
 |.global _=>⟨λ_=>none⟩
structure OpdsF where run:Tr AV→Option (List AV)
def opds:List Operand→OpdsF
 |[]=>⟨λ_=>some []⟩
 |x::l=>⟨λg=>match (Nk x).run g with
  |none=>none
  |some a=>match (opds l).run g with
   |none=>none
   |some r=>some (a::r)⟩
def Nw:OpF:=⟨λ_ _=>.no⟩
def ret1(g:Heap)(o:Option AV):OR:=match o with
 |some v=>.val v g
 |none=>.no
def Pq(x:Operand)(f:Heap→AV→OR):OpF:=⟨λg j=>Option.rec .no (λa=>f j a) ((Nk x).run g)⟩
def Ss(x y:Operand)(f:Heap→AV→AV→OR):OpF:=⟨λg j=>Option.rec .no (λa=>Option.rec .no (λb=>f j a b) ((Nk y).run g)) ((Nk x).run g)⟩
def Oz(g:Program)(t:TypeId):Option Nat:=(g.info? t).map (·.size)
def Sc(g:Program)(t:TypeId):Option Bool:=match g.underlying t with
 |some (.struct _)|some (.array _ _)=>some true
 |some _=>some false
 |none=>none
def R5(g:Program)(t:TypeId):Option (List AV):=match g.info? t with
 |some i=>match i.zero with
  |some v=>match S9 v.cells.toList with
   |some l=>if l.length=i.size then some l else none
   |none=>none
  |none=>none
 |none=>none
def qh(g:Program)(t:TypeId):Option AV:=match g.info? t with
 |some i=>match i.zero with
  |some v=>Vp v
  |none=>none
 |none=>none
def Vm(j:Heap)(l:List AV):OR:=match newObj j l with
 |some (o,g)=>.val (.ptr o 0 0) g
 |none=>.no
def X7:IntKind→Nat
 |.i8=>0 |.i16=>1 |.i32=>2 |.i64=>3 |.u8=>4 |.u16=>5 |.u32=>6 |.u64=>7
def Wc(k g:IntKind):Bool:=Nat.beq (X7 k) (X7 g)
def ji(a b:Int):Bool:=match a,b with
 |.ofNat x,.ofNat y=>Nat.beq x y
 |.negSucc x,.negSucc y=>Nat.beq x y
 |_,_=>false
def mw(a b:Int):Bool:=match a,b with
 |.ofNat x,.ofNat y=>Nat.blt x y
 |.negSucc x,.negSucc y=>Nat.blt y x
 |.negSucc _,.ofNat _=>true
 |.ofNat _,.negSucc _=>false
def Vu:IntKind→Nat
 |.i8=>128 |.u8=>128 |.i16=>32768 |.u16=>32768 |.i32=>2147483648 |.u32=>2147483648
 |.i64=>9223372036854775808 |.u64=>9223372036854775808
def T8(k:IntKind)(n:Int):Int:=match n with
 |.ofNat m=>match Nat.blt m (Vu k) with
  |true=>.ofNat m
  |false=>k.wrap (.ofNat m)
 |.negSucc m=>k.wrap (.negSucc m)
def T6(k:IntKind):Nat:=Nat.mul 2 (Vu k)
def Xm(f:Nat→Nat→Nat)(k:IntKind)(a b:Int):Option AV:=match a,b with
 |.ofNat x,.ofNat y=>match Nat.blt x (T6 k) with
  |true=>match Nat.blt y (T6 k) with
   |true=>some (.int k (T8 k (.ofNat (f x y))))
   |false=>none
  |false=>none
 |_,_=>none
def X6(b:Int):Bool:=match b with
 |.ofNat n=>Nat.beq n 0
 |_=>false
def u7(op:BinOp)(k:IntKind)(a b:Int):Option AV :=
 match op with
 |.add=>some (.int k (T8 k (Int.add a b)))
 |.sub=>some (.int k (T8 k (Int.sub a b)))
 |.mul=>some (.int k (T8 k (Int.mul a b)))
 |.quo=>match X6 b with
  |true=>none
  |false=>some (.int k (T8 k (Int.tdiv a b)))
 |.rem=>match X6 b with
  |true=>none
  |false=>some (.int k (Int.tmod a b))
 |.and=>Xm Nat.land k a b
 |.or=>Xm Nat.lor k a b
 |.xor=>Xm Nat.xor k a b
 |.andNot=>Xm (λx y=>Nat.xor x (Nat.land x y)) k a b
 |.eql=>some (.bool (ji a b))
 |.neq=>some (.bool (!(ji a b)))
 |.lss=>some (.bool (mw a b))
 |.leq=>some (.bool (!(mw b a)))
 |.gtr=>some (.bool (mw b a))
 |.geq=>some (.bool (!(mw a b)))
 |_=>none
def Pr(a b:Nat):Nat:=match Nat.ble a b with
 |true=>a
 |false=>b
def zok(op:BinOp)(k:IntKind)(a:Int)(y:Int):Option AV :=
 match a,y with
 |.ofNat x,.ofNat y=>match op with
  |.shl=>some (.int k (T8 k (.ofNat (Nat.mul x (Nat.pow 2 (Pr y k.bits))))))
  |.shr=>some (.int k (.ofNat (Nat.div x (Nat.pow 2 (Pr y k.bits)))))
  |_=>none
 |_,_=>none
def Ur:Nat→Nat→List Nat
 |0,_=>[]
 |len+1,n=>Nat.mod n 256::Ur len (Nat.div n 256)
def er:List Nat→List Nat→Bool
 |_,[]=>false
 |[],_::_=>true
 |a::x,b::y=>Nat.blt a b || (Nat.beq a b&&er x y)
def yq(op:BinOp)(g a j b:Nat):Option AV :=
 match op with
 |.add=>match Nat.ble (Nat.add g j) Nm with
  |true=>some (.str (Nat.add g j) (Nat.add a (Nat.mul b (Nat.pow 256 g))))
  |false=>none
 |.eql=>some (.bool (Nat.beq g j&&Nat.beq a b))
 |.neq=>some (.bool (!(Nat.beq g j&&Nat.beq a b)))
 |.lss=>some (.bool (er (Ur g a) (Ur j b)))
 |.gtr=>some (.bool (!(er (Ur g a) (Ur j b) || (Nat.beq g j&&Nat.beq a b))))
 |.leq=>some (.bool (er (Ur g a) (Ur j b) || (Nat.beq g j&&Nat.beq a b)))
 |.geq=>some (.bool (!(er (Ur g a) (Ur j b))))
 |_=>none
def Wv(l:List AV)(g n:Nat):Option (List AV):=match Nat.ble (Nat.add g n) l.length with
 |true=>some ((l.drop g).take n)
 |false=>none
def X3(z:Bool)(g:Nat)(l:List AV)(j:Nat):Option AV :=
 match z with
 |true=>match Wv l j g with
  |some r=>some (.agg r)
  |none=>none
 |false=>l[j]?
def w8(j:Program)(t:TypeId)(l:List AV)(g:Nat):Option AV :=
 match Sc j t,Oz j t with
 |some z,some n=>X3 z n l g
 |_,_=>none
def Yo(z:Program)(f:TypeId→AV→AV→Option Bool)(g j:List AV):List Field→Option Bool
 |[]=>some true
 | fd :: l => match fd.name != "_" with
  |true=>match w8 z fd.type g fd.offset,w8 z fd.type j fd.offset with
   |some a,some b=>match f fd.type a b with
    |some true=>Yo z f g j l
    |some false=>some false
    |none=>none
   |_,_=>none
  |false=>Yo z f g j l
def iw(z:Program)(f:TypeId→AV→AV→Option Bool)(t:TypeId)(n:Nat)(g j:List AV):List Nat→Option Bool
 |[]=>some true
 |i::l=>match w8 z t g (Nat.mul i n),w8 z t j (Nat.mul i n) with
  |some a,some b=>match f t a b with
   |some true=>iw z f t n g j l
   |some false=>some false
   |none=>none
  |_,_=>none
def Zm(z:Program)(f:TypeId→AV→AV→Option Bool)(t:TypeId)(a b:AV):Option Bool:=match z.underlying t,a,b with
  |some .bool,.bool x,.bool y=>some (x==y)
  |some (.int _),.int k x,.int A y=>match Wc k A with
   |true=>some (ji x y)
   |false=>none
  |some .string,.str B x,.str C y=>some (Nat.beq B C&&Nat.beq x y)
  |some (.pointer _),.nilPtr,.nilPtr=>some true
  |some (.pointer _),.nilPtr,.ptr _ _ _=>some false
  |some (.pointer _),.ptr _ _ _,.nilPtr=>some false
  |some (.interface _),.nilIf,.nilIf=>some true
  |some (.interface _),.nilIf,.iface _ _=>some false
  |some (.interface _),.iface _ _,.nilIf=>some false
  |some (.slice _),.nilSl,.nilSl=>some true
  |some (.slice _),.nilSl,.sl _ _ _ _ _ _=>some false
  |some (.slice _),.sl _ _ _ _ _ _,.nilSl=>some false
  |some (.slice _),.nilSl,.emp=>some false
  |some (.slice _),.emp,.nilSl=>some false
  |some (.map _ _),.nilMap,.nilMap=>some true
  |some (.map _ _),.nilMap,.map _=>some false
  |some (.map _ _),.map _,.nilMap=>some false
  |some (.func _ _ _),.nilFn,.nilFn=>some true
  |some (.func _ _ _),.nilFn,.fn _ _ _=>some false
  |some (.func _ _ _),.fn _ _ _,.nilFn=>some false
  |some (.struct D),.agg g,.agg j=>match z.stoodInHeld t with
   |true=>none
   |false=>Yo z f g j D.toList
  |some (.array n e),.agg g,.agg j=>match Oz z e with
   |some s=>iw z f e s g j (List.range n)
   |none=>none
  |_,_,_=>none
def eqT(g:Program):Nat→TypeId→AV→AV→Option Bool
 |0=>λ_ _ _=>none
 |d+1=>Zm g (eqT g d)
def wn(g:Program)(j:Bool)(t:TypeId)(a b:AV):Bool:=match a,b with
 |.nilIf,.nilIf=>j
 |.agg _,.agg _=>!(g.eqGuardType g.depth t)
 |_,_=>true
def Q9(g:Program)(j:Bool)(t:TypeId)(a b:AV):Option Bool:=match wn g j t a b with
 |true=>eqT g 20 t a b
 |false=>none
def tn:Option Bool→Option AV
 |some b=>some (.bool (!b))
 |none=>none
def qj:Option Bool→Option AV
 |some b=>some (.bool b)
 |none=>none
def Vd:Operand→Bool
 |.const _=>true
 |_=>false
def Pd(A:Program)(op:BinOp)(B:Bool)(t:TypeId)(a b:AV):Option AV :=
 match a,b with
 |.int k x,.int g y=>match op with
  |.shl=>zok .shl k x y
  |.shr=>zok .shr k x y
  |op=>match Wc k g with
   |true=>u7 op k x y
   |false=>none
 |.str j x,.str z y=>yq op j x z y
 |a,b=>match op with
  |.eql=>qj (Q9 A B t a b)
  |.neq=>tn (Q9 A B t a b)
  |_=>none
def unA(op:UnOp)(a:AV):Option AV :=
 match op,a with
 |.neg,.int k n=>some (.int k (T8 k (Int.sub 0 n)))
 |.xor,.int k n=>some (.int k (k.wrap (BitVec.ofInt k.bits (if k.signed then -1 else k.max) ^^^ BitVec.ofInt k.bits n).toNat))
 |.not,.bool b=>some (.bool (!b))
 |_,_=>none
def To:List AV→Nat→List AV→List AV
 |g,_,[]=>g
 |g,i,a::l=>To (g.set i a) (i+1) l
structure Part where
 off:Nat
 size:Nat
 v:OpdF
def Yz(cs:List AV):List Part→Tr AV→Option (List AV)
 |[],_=>some cs
 |p::g,j=>match p.v.run j with
  |none=>none
  |some a=>match a.cells with
   |none=>none
   |some l=>match Nat.beq l.length p.size with
    |true=>match Nat.ble (Nat.add p.off p.size) cs.length with
     |true=>Yz (To cs p.off l) g j
     |false=>none
    |false=>none
def ee(g:Nat→Option (Nat×Nat)):List (Nat×Operand)→Option (List Part)
 |[]=>some []
 |(i,x)::l=>match g i with
  |none=>none
  |some (o,s)=>match ee g l with
   |none=>none
   |some r=>some (⟨o,s,Nk x⟩::r)
def xi(g:Program):List Field→Option (List (Nat×Nat))
 |[]=>some []
 |f::l=>match Oz g f.type with
  |none=>none
  |some s=>match xi g l with
   |none=>none
   |some r=>some ((f.offset,s)::r)
def tx(D:Program)(t:TypeId)(g:Array (Nat×Operand)):OpF :=
 match R5 D t with
 |none=>Nw
 |some C=>match D.underlying t with
  |some (.struct j)=>match xi D j.toList with
   |none=>Nw
   |some pl=>match ee (pl[·]?) g.toList with
    |none=>Nw
    |some B=>⟨λE F=>match Yz C B E with
     |some l=>.val (.agg l) F
     |none=>.no⟩
  |some (.array _ A)=>match Oz D A with
   |none=>Nw
   |some z=>match ee (λi=>some (i*z,z)) g.toList with
    |none=>Nw
    |some B=>⟨λE F=>match Yz C B E with
     |some l=>.val (.agg l) F
     |none=>.no⟩
  |_=>Nw
def Sw(l:List AV):Nat→List AV
 |0=>[]
 |n+1=>l++Sw l n
def py(A:Program)(t:TypeId)(len:Nat)(z:Array (Nat×Operand)):OpF :=
 match A.underlying t with
 |some (.slice j)=>match Oz A j with
  |none=>Nw
  |some g=>match R5 A j with
   |none=>Nw
   |some D=>if len*g≤2^20∧0<g then
     match ee (λi=>some (i*g,g)) z.toList with
     |none=>Nw
     |some B=>⟨λE F=>match Yz (Sw D len) B E with
      |some l=>match newObj F l with
       |some (o,C)=>.val (.sl o 0 0 len g (some len)) C
       |none=>.no
      |none=>.no⟩
    else Nw
 |_=>Nw
def sk(j:Program)(t:TypeId)(x:Operand):OpF :=
 match Sc j t,Oz j t with
 |some true,some n=>Pq x λg a=>match a with
  |.ptr o v i=>match Pt g o v i n with
   |some l=>.val (.agg l) g
   |none=>.no
  |_=>.no
 |some false,some _=>Pq x λg a=>match a with
  |.ptr o v i=>match Pt g o v i 1 with
   |some [c]=>.val c g
   |_=>.no
  |_=>.no
 |_,_=>Nw
def znm(j:Program)(t:TypeId)(x y:Operand):OpF :=
 match Oz j t with
 |some n=>Ss x y λz a b=>match a with
  |.ptr o v i=>match b.cells with
   |some l=>match Nat.beq l.length n with
    |true=>match Up z o v i l with
     |some g=>.val Ri g
     |none=>.no
    |false=>.no
   |none=>.no
  |_=>.no
 |none=>Nw
def sy(g:Heap)(a:AV):OR:=match a with
 |.ptr o v i=>.val (.ptr o v i) g
 |.iface t v=>.val (.iface t v) g
 |.fn (.func f) l c=>.val (.fn (.func f) l c) g
 |.map o=>.val (.map o) g
 |_=>.no
def U1(P:Program)(src dst:TypeId)(x:Operand):OpF :=
 match P.underlying src,P.underlying dst with
 |some _,some (.int k)=>Pq x λH a=>match a with
  |.int _ n=>.val (.int k (T8 k n)) H
  |_=>.no
 |some (.slice e),some .string=>match P.underlying e with
  |some (.int .u8)=>Pq x λH a=>match a with
   |.nilSl=>.val (.str 0 0) H
   |.sl o v i len 1 _=>match Pt H o v i len with
    |some l=>match bytesA l with
     |some n=>.val (.str len n) H
     |none=>.no
    |none=>.no
   |_=>.no
  |_=>Nw
 |some _,some .string=>Pq x λH a=>match a with
  |.str l n=>.val (.str l n) H
  |_=>.no
 |some _,some (.slice e)=>match P.underlying e,Oz P e with
  |some (.int .u8),some 1=>Pq x λH a=>match a with
   |.str len n=>match newObj H ((Ur len n).map λ(b:Nat)=>AV.int .u8 (Int.ofNat b)) with
    |some (o,H')=>.val (.sl o 0 0 len 1 none) H'
    |none=>.no
   |_=>.no
  |_,_=>Nw
 |_,_=>Nw
where
 bytesA:List AV→Option Nat
  |[]=>some 0
  |.int .u8 (.ofNat b)::l=>if Nat.blt b 256 then match bytesA l with
   |some n=>some (b+256*n)
   |none=>none
   else none
  |_=>none
def ua(g:Program)(t:TypeId)(x:Operand):OpF :=
 match g.underlying t with
 |some (.interface _)=>Nw
 |some _=>Pq x λj a=>.val (.iface t a) j
 |none=>Nw
def qd(f:Fn)(first cap:Array Operand):OpF :=
 ⟨λg j=>match (opds first.toList).run g with
  |some l=>match (opds cap.toList).run g with
   |some r=>.val (.fn f l r) j
   |none=>.no
  |none=>.no⟩
def W0(g:Heap):OR:=.val (.map g.next) (g.push (.map [] 0))
def n5(j:Program)(t:TypeId)(r:Option Operand):OpF :=
 match r with
 |none=>⟨λ_ g=>W0 g⟩
 |some x=>match j.underlying t with
  |some (.map _ _)=>Pq x λg a=>match a with
   |.int _ _=>W0 g
   |_=>.no
  |_=>Nw
def l9(j:Program)(t:TypeId)(l c:Operand):OpF :=
 match j.underlying t with
 |some (.slice g)=>match j.info? g with
  |none=>Nw
  |some i=>match R5 j g with
   |none=>Nw
   |some A=>if 0<i.size∧i.bytes≤2^16 then Ss l c λB a b=>match a,b with
    |.int .i64 (.ofNat l),.int .i64 (.ofNat c)=>match Nat.ble l c with
     |true=>match Nat.ble c 1048576 with
      |true=>match newObj B (Sw A c) with
       |some (o,z)=>.val (.sl o 0 0 l i.size (some c)) z
       |none=>.no
      |false=>.no
     |false=>.no
    |_,_=>.no
    else Nw
 |_=>Nw
structure OptF where run:Tr AV→Option (Option Nat)
def Pu:Option Operand→OptF
 |none=>⟨λ_=>some none⟩
 |some x=>⟨λg=>match (Nk x).run g with
  |some (.int _ (.ofNat n))=>some (some n)
  |_=>none⟩
def Y1(l h m o v i g:Nat):AV :=
 match Nat.beq l m with
 |true=>match Nat.beq l 0 with
  |true=>.sl o v i 0 g (some 0)
  |false=>.emp
 |false=>.sl o v (Nat.add i (Nat.mul l g)) (Nat.sub h l) g (some (Nat.sub m l))
def m6(l h j:Nat)(A:Option Nat)(o v i g:Nat)(z:Option Nat):Option AV :=
 match Nat.ble l h with
 |false=>none
 |true=>match Nat.ble h j with
  |false=>none
  |true=>match A with
   |some m=>match Nat.ble h m with
    |false=>none
    |true=>match Nat.ble m j with
     |false=>none
     |true=>some (Y1 l h m o v i g)
   |none=>match z with
    |some r=>some (Y1 l h r o v i g)
    |none=>match Nat.beq l 0 with
     |true=>some (.sl o v i h g none)
     |false=>match Nat.beq l h with
      |true=>some .emp
      |false=>some (.sl o v (Nat.add i (Nat.mul l g)) (Nat.sub h l) g none)
def Uf(g:Nat)(z hi mx:Option Nat)(o v i len j:Nat)(room:Option Nat):Option AV :=
 match Nat.beq j g with
 |false=>none
 |true=>m6 (z.getD 0) (hi.getD len) (room.getD len) mx o v i j room
def kf(P:Program)(t:TypeId)(x:Operand)(j hi mx:Option Operand):OpF :=
 match P.underlying t with
 |some .string=>match mx with
  |some _=>Nw
  |none=>⟨λA D=>match (Nk x).run A,(Pu j).run A,(Pu hi).run A with
   |some (.str len n),some j,some hi =>
    let l:=j.getD 0;let h:=hi.getD len
    match Nat.ble l h with
    |true=>match Nat.ble h len with
     |true=>.val (.str (Nat.sub h l) (Nat.mod (Nat.div n (Nat.pow 256 l)) (Nat.pow 256 (Nat.sub h l)))) D
     |false=>.no
    |false=>.no
   |_,_,_=>.no⟩
 |some (.slice z)=>if mx.isSome&&hi.isNone then Nw else match Oz P z with
  |none=>Nw
  |some g=>⟨λA D=>match (Nk x).run A,(Pu j).run A,(Pu hi).run A,(Pu mx).run A with
   |some (.sl o v i len E B),some j,some hi,some mx=>ret1 D (Uf g j hi mx o v i len E B)
   |some .nilSl,some j,some hi,some none=>match Nat.beq (Nat.add (j.getD 0) (hi.getD 0)) 0 with
    |true=>.val .nilSl D
    |false=>.no
   |some .emp,some j,some hi,some none=>match Nat.beq (Nat.add (j.getD 0) (hi.getD 0)) 0 with
    |true=>.val .emp D
    |false=>.no
   |_,_,_,_=>.no⟩
 |some (.array n z)=>if mx.isSome&&hi.isNone then Nw else match Oz P z with
  |none=>Nw
  |some g=>⟨λA D=>match (Nk x).run A,(Pu j).run A,(Pu hi).run A,(Pu mx).run A with
   |some (.ptr o v i),some j,some hi,some mx=>match D.get o with
    |some (.cells _ C F false)=>match Nat.beq v F with
     |true=>match Nat.ble (Nat.add i (Nat.mul n g)) C with
      |true=>ret1 D (Uf g j hi mx o v i n g (some n))
      |false=>.no
     |false=>.no
    |_=>.no
   |_,_,_,_=>.no⟩
 |_=>Nw
def ug(z:Program)(s:TypeId)(x:Operand)(f:Nat):OpF :=
 match z.underlying s with
 |some (.struct g)=>match g[f]? with
  |none=>Nw
  |some fd=>match Oz z fd.type with
   |none=>Nw
   |some 0=>Nw
   |some _=>let j:=fd.offset;Pq x λA a=>match a with
    |.ptr o v i=>.val (.ptr o v (Nat.add i j)) A
    |_=>.no
 |_=>Nw
def td(z:Program)(t:TypeId)(x:Operand)(f:Nat):OpF :=
 match z.underlying t with
 |some (.struct g)=>match g[f]? with
  |none=>Nw
  |some fd=>match Sc z fd.type,Oz z fd.type with
   |some A,some n=>let j:=fd.offset;Pq x λB a=>match a with
    |.agg l=>ret1 B (X3 A n l j)
    |_=>.no
   |_,_=>Nw
 |_=>Nw
def rq(B:Program)(t:TypeId)(x A:Operand):OpF :=
 match B.underlying t with
 |some (.slice g)=>match Oz B g with
  |none=>Nw
  |some j=>Ss x A λC a b=>match a,b with
   |.sl o v i len z _,.int _ (.ofNat n)=>match Nat.blt n len with
    |true=>match Nat.beq z j with
     |true=>.val (.ptr o v (Nat.add i (Nat.mul n z))) C
     |false=>.no
    |false=>.no
   |_,_=>.no
 |some (.array len g)=>match Oz B g with
  |none=>Nw
  |some j=>Ss x A λC a b=>match a,b with
   |.ptr o v i,.int _ (.ofNat n)=>match Nat.blt n len with
    |true=>.val (.ptr o v (Nat.add i (Nat.mul n j))) C
    |false=>.no
   |_,_=>.no
 |_=>Nw
def t8(A:Program)(t:TypeId)(x z:Operand):OpF :=
 match A.underlying t with
 |some .string=>Ss x z λB a b=>match a,b with
  |.str len n,.int _ (.ofNat i)=>match Nat.blt i len with
   |true=>.val (.int .u8 (Int.ofNat (Nat.mod (Nat.div n (Nat.pow 256 i)) 256))) B
   |false=>.no
  |_,_=>.no
 |some (.array len g)=>match Sc A g,Oz A g with
  |some C,some j=>Ss x z λB a b=>match a,b with
   |.agg l,.int _ (.ofNat n)=>match Nat.blt n len with
    |true=>ret1 B (X3 C j l (Nat.mul n j))
    |false=>.no
   |_,_=>.no
  |_,_=>Nw
 |_=>Nw
def i7(d:TypeDesc)(a b:AV):Option Bool:=match d,a,b with
 |.int _,.int k a,.int g b=>match Wc k g with
  |true=>some (ji a b)
  |false=>none
 |.string,.str j a,.str z b=>some (Nat.beq j z&&Nat.beq a b)
 |.bool,.bool a,.bool b=>some (a==b)
 |_,_,_=>none
def Ub(g:Program)(t:TypeId):Option TypeDesc:=match g.underlying t with
 |some .bool=>some .bool
 |some (.int k)=>some (.int k)
 |some .string=>some .string
 |_=>none
def mj(d:TypeDesc)(k:AV):List (AV×AV×Nat)→Option (Option AV)
 |[]=>some none
 |(g,v,_)::l=>match i7 d k g with
  |some true=>some (some v)
  |some false=>mj d k l
  |none=>none
def pn(d:TypeDesc)(k v:AV)(g:Nat):List (AV×AV×Nat)→Option (List (AV×AV×Nat)×Bool)
 |[]=>some ([(k,v,g)],true)
 |(j,z,b)::l=>match i7 d k j with
  |some true=>some ((k,v,b)::l,false)
  |some false=>match pn d k v g l with
   |some (r,n)=>some ((j,z,b)::r,n)
   |none=>none
  |none=>none
def zf(d:TypeDesc)(k:AV):List (AV×AV×Nat)→Option (List (AV×AV×Nat))
 |[]=>some []
 |(g,j,b)::l=>match i7 d k g with
  |some true=>some l
  |some false=>match zf d k l with
   |some r=>some ((g,j,b)::r)
   |none=>none
  |none=>none
def zy5(j:Heap)(a:AV):Option (List (AV×AV×Nat)):=match a with
 |.nilMap=>some []
 |.map o=>match j.get o with
  |some (.map g _)=>some g
  |_=>none
 |_=>none
def uj(z:Program)(t:TypeId)(x A:Operand)(ok:Bool):OpF :=
 match z.underlying t with
 |some (.map j g)=>match Ub z j,qh z g with
  |some d,some D=>Ss x A λB a b=>match zy5 B a with
   |none=>.no
   |some C=>match mj d b C with
    |some (some v)=>.val (if ok then .tup [v,.bool true] else v) B
    |some none=>.val (if ok then .tup [D,.bool false] else D) B
    |none=>.no
  |_,_=>Nw
 |_=>Nw
def ud(D:Program)(t:TypeId)(m k x:Operand):OpF :=
 match D.underlying t with
 |some (.map z _)=>match Ub D z with
  |some d=>⟨λA B=>match (Nk m).run A,(Nk k).run A,(Nk x).run A with
   |some (.map o),some k,some v=>match B.get o with
    |some (.map C g)=>match pn d k v g C with
     |some (j,true)=>.val Ri (B.put o (.map j (Nat.add g 1)))
     |some (j,false)=>.val Ri (B.put o (.map j g))
     |none=>.no
    |_=>.no
   |_,_,_=>.no⟩
  |none=>Nw
 |_=>Nw
def rangeF(j:Program)(t:TypeId)(x:Operand):OpF :=
 match j.underlying t with
 |some .string=>Pq x λg a=>match a with
  |.str len n=>.val (.ptr g.next 0 0) (g.push (.iter len n 0))
  |_=>.no
 |_=>Nw
def zx2(x:Operand)(g:Bool):OpF :=
 if g then Pq x λz a=>match a with
  |.ptr o 0 0=>match z.get o with
   |some (.iter len n j)=>match Nat.blt j len with
    |true=>match Nat.blt (Nat.mod (Nat.div n (Nat.pow 256 j)) 256) 128 with
     |true=>.val (.tup [.bool true,.int .i64 (Int.ofNat j),.int .i32 (Int.ofNat (Nat.mod (Nat.div n (Nat.pow 256 j)) 256))]) (z.put o (.iter len n (Nat.add j 1)))
     |false=>.no
    |false=>.val (.tup [.bool false]) z
   |_=>.no
  |_=>.no
 else Nw
def sx(z:Program)(x:Operand)(g:TypeId)(ok:Bool):OpF :=
 match z.underlying g with
 |some (.interface _)=>Nw
 |some _=>match qh z g with
  |none=>Nw
  |some A=>Pq x λj a=>match a with
   |.nilIf=>if ok then .val (.tup [A,.bool false]) j else .no
   |.iface t v=>match Nat.beq t g with
    |true=>.val (if ok then .tup [v,.bool true] else v) j
    |false=>if ok then .val (.tup [A,.bool false]) j else .no
   |_=>.no
 |none=>Nw
def zgi(x:Operand)(i:Nat):OpF:=Pq x λg a=>match a with
 |.tup l=>ret1 g l[i]?
 |_=>.no
def Ud(z:Program)(t:TypeId)(x:Operand):OpF :=
 match z.underlying t with
 |some .string=>Pq x λg a=>match a with
  |.str l _=>.val (.int .i64 (Int.ofNat l)) g
  |_=>.no
 |some (.slice _)=>Pq x λg a=>match a with
  |.sl _ _ _ len _ _=>.val (.int .i64 (Int.ofNat len)) g
  |.nilSl=>.val (.int .i64 0) g
  |.emp=>.val (.int .i64 0) g
  |_=>.no
 |some (.map _ _)=>Pq x λg a=>match a with
  |.nilMap=>.val (.int .i64 0) g
  |.map o=>match g.get o with
   |some (.map j _)=>.val (.int .i64 (Int.ofNat j.length)) g
   |_=>.no
  |_=>.no
 |some (.array n _)=>Pq x λg _=>.val (.int .i64 (Int.ofNat n)) g
 |_=>Nw
def Vk(j:Program)(t:TypeId)(x:Operand):OpF :=
 match j.underlying t with
 |some (.slice _)=>Pq x λg a=>match a with
  |.nilSl=>.val (.int .i64 0) g
  |.sl _ _ _ _ _ (some r)=>.val (.int .i64 (Int.ofNat r)) g
  |_=>.no
 |_=>Nw
def Vq(g:Bool):AV→AV→Option AV
 |.int k x,.int j y=>match Wc k j with
  |true=>match g with
   |true=>match mw x y with
    |true=>some (.int k y)
    |false=>some (.int k x)
   |false=>match mw y x with
    |true=>some (.int k y)
    |false=>some (.int k x)
  |false=>none
 |_,_=>none
def Xk(g:Bool):AV→List AV→Option AV
 |a,[]=>some a
 |a,b::l=>match Vq g a b with
  |some c=>Xk g c l
  |none=>none
def Ta(j:Bool)(g:List Operand):OpF:=⟨λz A=>match (opds g).run z with
 |some (.int k n::l)=>ret1 A (Xk j (.int k n) l)
 |_=>.no⟩
def Zg(z:Heap)(g:Nat):AV→Option (Nat×List AV)
 |.nilSl=>some (0,[])
 |.emp=>some (0,[])
 |.sl o v i len j _=>match Nat.beq j g with
  |true=>match Pt z o v i (Nat.mul len g) with
   |some l=>some (len,l)
   |none=>none
  |false=>none
 |.str len n=>if Nat.beq g 1 then some (len,(Ur len n).map λ(b:Nat)=>AV.int .u8 (Int.ofNat b)) else none
 |_=>none
def Xf(z:Heap)(n g:Nat)(l:List AV):OR :=
 match newObj z l with
 |some (o,j)=>.val (.sl o 0 0 n g none) j
 |none=>.no
def Vc(D:Heap)(j:Nat)(s:AV)(n:Nat)(A:List AV):OR :=
 match Nat.beq n 0 with
 |true=>match s with
  |.nilSl=>.val .nilSl D
  |.emp=>.val .emp D
  |.sl o v i len g B=>.val (.sl o v i len g B) D
  |_=>.no
 |false=>match s with
  |.nilSl=>Xf D n j A
  |.sl o v i len g B=>match Nat.beq g j&&Nat.ble len Nm with
   |false=>.no
   |true=>match B with
    |some r=>match Nat.ble (Nat.add len n) r with
     |true=>match Up D o v (Nat.add i (Nat.mul len g)) A with
      |some E=>.val (.sl o v i (Nat.add len n) g (some r)) E
      |none=>.no
     |false=>match Pt D o v i (Nat.mul len j) with
      |some F=>Xf D (Nat.add len n) j (F++A)
      |none=>.no
    |none=>match D.get o with
     |some (.cells c z C false)=>match Nat.beq v C with
      |false=>.no
      |true=>match Nat.ble (Nat.add i (Nat.mul (Nat.add len n) g)) z with
       |true=>match Up D o v (Nat.add i (Nat.mul len g)) A with
        |some E=>.val (.sl o v i (Nat.add len n) g none) E
        |none=>.no
       |false=>match Nat.beq i 0 with
        |false=>.no
        |true=>match Nat.beq (Nat.mul len g) z with
         |false=>.no
         |true=>.val (.sl o (Nat.add C 1) 0 (Nat.add len n) g none) (D.put o (.cells (Pp A z c) (Nat.add z A.length) (Nat.add C 1) false))
     |_=>.no
  |_=>.no
def zks(P:Program)(g:TypeId)(s x:Operand):OpF :=
 match P.info? g,R5 P g with
 |some i,some j=>if 0<i.size∧i.bytes≤65536 then Ss s x λz a b=>match b with
   |.int .i64 (.ofNat n)=>match Nat.ble n 1048576 with
    |true=>Vc z i.size a n (Sw j n)
    |false=>.no
   |_=>.no
  else Nw
 |_,_=>Nw
def pj(P:Program)(g:TypeId)(s x:Operand):OpF :=
 match P.info? g,R5 P g with
 |some i,some _=>if 0<i.size∧i.bytes≤65536 then Ss s x λj a b=>match Zg j i.size b with
   |some (n,l)=>match Nat.ble n 1048576 with
    |true=>Vc j i.size a n l
    |false=>.no
   |none=>.no
  else Nw
 |_,_=>Nw
def zgk(P:Program)(z:Array TypeId)(j:Array Operand):OpF :=
 match z.toList,j.toList with
 |[st,A],[s,x]=>match P.underlying st,P.underlying A with
  |some (.slice g),some (.int _)=>zks P g s x
  |some (.slice g),some (.slice _)=>pj P g s x
  |some (.slice g),some .string=>pj P g s x
  |_,_=>Nw
 |_,_=>Nw
def zd(P:Program)(C:Array TypeId)(j:Array Operand):OpF :=
 match C.toList,j.toList with
 |[st,_],[d,x]=>match P.underlying st with
  |some (.slice z)=>match Oz P z with
   |none=>Nw
   |some g=>if 0<g then Ss d x λB a b=>match Zg B g b with
    |some (n,l)=>match a with
     |.nilSl=>.val (.int .i64 0) B
     |.emp=>.val (.int .i64 0) B
     |.sl o v i len A _=>match Nat.beq A g with
      |true=>match Up B o v i (l.take (Nat.mul (Pr n len) g)) with
       |some D=>.val (.int .i64 (Int.ofNat (Pr n len))) D
       |none=>.no
      |false=>.no
     |_=>.no
    |none=>.no
    else Nw
  |_=>Nw
 |_,_=>Nw
def zmm(B:Program)(C:Array TypeId)(z:Array Operand):OpF :=
 match C.toList,z.toList with
 |[st],[x]=>match B.underlying st with
  |some (.slice g)=>match Oz B g,R5 B g with
   |some j,some F=>if 0<j then Pq x λD a=>match a with
    |.nilSl=>.val Ri D
    |.emp=>.val Ri D
    |.sl o v i len A _=>match Nat.beq A j with
     |true=>match Up D o v i (Sw F len) with
      |some E=>.val Ri E
      |none=>.no
     |false=>.no
    |_=>.no
    else Nw
   |_,_=>Nw
  |_=>Nw
 |_,_=>Nw
def zij(D:Program)(B:Array TypeId)(j:Array Operand):OpF :=
 match B.toList,j.toList with
 |[mt,_],[m,k]=>match D.underlying mt with
  |some (.map z _)=>match Ub D z with
   |some d=>Ss m k λE a b=>match a with
    |.map o=>match E.get o with
     |some (.map C g)=>match zf d b C with
      |some A=>.val Ri (E.put o (.map A g))
      |none=>.no
     |_=>.no
    |_=>.no
   |none=>Nw
  |_=>Nw
 |_,_=>Nw
def io(g:Program)(f:Nat):Bool:=match g.funcs[f]? with
 | some fn => fn.name != "runtime.NumGoroutine" && fn.body.isSome
 |none=>false
def zie(j:Program)(t:TypeId)(g:String):Option Nat:=match j.info? t with
 |some i=>match i.methods.find? (·.name==g) with
  |some m=>if m.path.isEmpty then match m.func,j.underlying t with
   |some (f,true),some (.pointer _)=>some f
   |some (_,false),some (.pointer _)=>none
   |some (f,false),some _=>some f
   |_,_=>none
   else none
  |none=>none
 |none=>none
def Xu(g:Program)(f:AV)(args:List AV):OR:=match f with
 |.fn (.func f) first cap=>if io g f then .call (.fn f) (first++args++cap) else .no
 |.fn (.yield l) [] _=>.call (.yield l) args
 |_=>.no
def ym(P:Program)(f:Nat):Bool:=match P.funcs[f]? with
 | some fn => fn.name == "maps.clone" && fn.origin == "" && fn.body.isNone
 |none=>false
def zs9(g:Heap):List AV→OR
 |[.iface t (.map o)]=>match g.get o with
  |some (.map j z)=>.val (.iface t (.map g.next)) (g.push (.map j z))
  |_=>.no
 |_=>.no
def zgr(j:Program)(A:Heap)(z:AV)(g:List AV):OR:=match z with
 |.fn (.func f) [] []=>match ym j f with
  |true=>zs9 A g
  |false=>Xu j z g
 |_=>Xu j z g
def Y0(j:Program)(c:Call):OpF :=
 match c.callee with
 |.builtin b=>match b with
  |.len=>match c.argTypes.toList,c.args.toList with
   |[t],[x]=>Ud j t x
   |_,_=>Nw
  |.cap=>match c.argTypes.toList,c.args.toList with
   |[t],[x]=>Vk j t x
   |_,_=>Nw
  |.max=>Ta true c.args.toList
  |.min=>Ta false c.args.toList
  |.append=>zgk j c.argTypes c.args
  |.copy=>zd j c.argTypes c.args
  |.clear=>zmm j c.argTypes c.args
  |.delete=>zij j c.argTypes c.args
  |_=>Nw
 |.value f=>⟨λz A=>match (Nk f).run z with
  |some B=>match (opds c.args.toList).run z with
   |some l=>zgr j A B l
   |none=>.no
  |none=>.no⟩
 |.invoke r g=>⟨λz _=>match (Nk r).run z with
  |some (.iface t v)=>match zie j t g with
   |some f=>match (opds c.args.toList).run z with
    |some l=>if io j f then .call (.fn f) (v::l) else .no
    |none=>.no
   |none=>.no
  |_=>.no⟩
def N5(P:Program)(o:Op):OpF :=
 match o with
 |.move x |.assign x=>Pq x λj a=>.val a j
 |.pick c a b=>⟨λz j=>match (Nk c).run z with
  |some (.bool true)=>ret1 j ((Nk a).run z)
  |some (.bool false)=>ret1 j ((Nk b).run z)
  |_=>.no⟩
 |.alloc t=>match R5 P t with
  |some l=>⟨λ_ j=>Vm j l⟩
  |none=>Nw
 |.box _ x=>Pq x λj a=>match a.cells with
  |some l=>Vm j l
  |none=>.no
 |.build t g=>tx P t g
 |.buildSlice t len g=>py P t len g
 |.load t a=>sk P t a
 |.store t a x=>znm P t a x
 |.nilCheck x=>Pq x sy
 |.binOp op t x y _=>let D:=Vd x || Vd y;Ss x y λj a b=>ret1 j (Pd P op D t a b)
 |.unOp op _ x=>Pq x λj a=>ret1 j (unA op a)
 |.convert s d x=>U1 P s d x
 |.makeInterface t x=>ua P t x
 |.makeFunc f first cap=>match f with
  |.yield _=>Nw
  |f=>qd f first cap
 |.makeMap t r=>n5 P t r
 |.makeSlice t l c=>l9 P t l c
 |.slice t x A hi B=>kf P t x A hi B
 |.fieldAddr s x f=>ug P s x f
 |.field t x f=>td P t x f
 |.indexAddr t x i=>rq P t x i
 |.index t x i=>t8 P t x i
 |.lookup t x i ok=>uj P t x i ok
 |.mapUpdate t m k x |.insert t m k x=>ud P t m k x
 |.range t x=>rangeF P t x
 |.next C s=>zx2 C s
 |.typeAssert x _ t ok=>sx P x t ok
 |.extract t i=>zgi t i
 |.call c=>Y0 P c
 |_=>Nw
inductive RV where
 |no
 |ok (v:AV) (H:Heap)
abbrev Qn:=Tgt→List AV→Heap→RV
inductive OE where
 |no
 |ok (E:Tr AV) (H:Heap)
structure SeqF where run:Qn→Tr AV→Heap→OE
structure PutF where run:AV→Tr AV→Tr AV
def Qs(n:Nat)(d:Option Tmp):Option PutF :=
 match d with
 |none=>some ⟨λ_ g=>g⟩
 |some d=>if d<n then some ⟨λa g=>Oo a (Nh d) g⟩ else none
structure GuardF where run:Tr AV→Bool
def R4(ops:Array Oper)(o:Oper):GuardF :=
 match o.guard with
 |none=>⟨λ_=>true⟩
 |some (j,g)=>match (ops[j]?).bind (·.dst) with
  |none=>⟨λ_=>false⟩
  |some d=>if d≤Nm then ⟨λz=>match M8 (Nh d) z with
   |some (.bool b)=>match b with
    |true=>g
    |false=>!g
   |_=>false⟩ else ⟨λ_=>false⟩
def Qq(P:Program)(n:Nat)(ops:Array Oper)(o:Oper):SeqF :=
 match Qs n o.dst with
 |none=>⟨λ_ _ _=>.no⟩
 |some p=>⟨λc z A=>Bool.rec (.ok (p.run Ri z) A)
   (OR.rec .no (λv j=>.ok (p.run v z) j) (λt g=>RV.rec .no (λv j=>.ok (p.run v z) j) (c t g A)) ((N5 P o.op).run z A))
   ((R4 ops o).run z)⟩
def df(B:Program)(n:Nat)(ops:Array Oper):List Oper→SeqF
 |[]=>⟨λ_ g j=>.ok g j⟩
 |o::l=>⟨λc g j=>OE.rec .no (λz A=>(df B n ops l).run c z A) ((Qq B n ops o).run c g j)⟩
inductive Cls where
 |quiet|rd|ch|al
def zo7(g:Program)(t:TypeId):Bool:=match g.underlying t with
 |some (.map _ _)=>true
 |_=>false
def zna(g:Program)(t:TypeId):Bool:=match g.underlying t with
 |some (.array _ _)=>true
 |_=>false
def nu(g:Program)(t:TypeId):Bool:=match g.underlying t with
 |some (.slice _)=>true
 |_=>false
def xk(g:Program)(c:Call):Cls:=match c.callee with
 |.builtin .len=>match c.argTypes.toList with
  |[t]=>if zo7 g t then .rd else .quiet
  |_=>.ch
 |.builtin .cap |.builtin .max |.builtin .min=>.quiet
 |_=>.ch
def cls(g:Program)(o:Op):Cls :=
 match o with
 |.move _ |.assign _ |.pick _ _ _ |.build _ _ |.nilCheck _ |.binOp _ _ _ _ _ |.unOp _ _ _ |.makeInterface _ _ |.makeFunc _ _ _ |.fieldAddr _ _ _
 |.field _ _ _ |.indexAddr _ _ _ |.index _ _ _ |.typeAssert _ _ _ _ |.extract _ _=>.quiet
 |.slice t _ _ _ _=>if zna g t then .rd else .quiet
 |.convert s d _=>if nu g d then .ch else if nu g s then .rd else .quiet
 |.load _ _ |.lookup _ _ _ _=>.rd
 |.call c=>xk g c
 |.alloc _ |.box _ _ |.buildSlice _ _ _ |.makeSlice _ _ _ |.makeMap _ _=>.al
 |_=>.ch
def mb(g:List Nat):List Edge→Nat
 |[]=>0
 |e::l=>match Region.binds .any e with
  |true=>Nat.lor (Nat.lor (2^e.on) (g.getD e.on 0)) (mb g l)
  |false=>mb g l
def znz:List Nat→Nat
 |[]=>0
 |t::l=>Nat.lor (2^t) (znz l)
def pu:List Operand→List Nat
 |[]=>[]
 |.tmp t::l=>t::pu l
 |_::l=>pu l
def Ts(ops:Array Oper)(o:Oper):List Nat :=
 pu o.op.operands.toList++(match o.guard with
  |some (g,_)=>((ops[g]?).bind (·.dst)).toList
  |none=>[])
structure DOp where
 o:Oper
 i:Nat
 m:Nat
 lm:Nat
 c:Cls
def Qf(j:Program)(ops:Array Oper):List Oper→List Nat→Nat→List DOp
 |[],_,_=>[]
 |o::l,g,i=>⟨o,i,mb g o.after.toList,znz (Ts ops o),cls j o.op⟩::Qf j ops l (g++[mb g o.after.toList]) (i+1)
def Nc(x:DOp):Bool:=match x.c with
 |.ch=>true
 |_=>false
def Tg(x:DOp):Bool:=match x.c with
 |.rd=>true
 |.al=>true
 |_=>false
def zp9(x:DOp):Bool:=match x.c with
 |.quiet=>true
 |_=>false
def zqt(x y:DOp):Bool:=match y.o.dst with
 |none=>true
 |some d=>match Nat.testBit x.lm d with
  |false=>true
  |true=>match Nat.beq x.i y.i with
   |true=>!(Tg x)
   |false=>match Nat.testBit x.m y.i with
    |true=>true
    |false=>match Nat.testBit y.m x.i with
     |true=>!(Tg x)
     |false=>false
def Us{g:Type}(f:g→Bool):List g→Bool
 |[]=>true
 |a::l=>match f a with
  |true=>Us f l
  |false=>false
def jq(g:List DOp):Bool:=Us (λx=>Us (zqt x) g) g
def zmw:List DOp→Nat→Bool
 |[],_=>true
 |x::l,seen=>match x.o.dst with
  |none=>zmw l seen
  |some d=>match Nat.testBit seen d with
   |true=>false
   |false=>zmw l (Nat.lor (2^d) seen)
def Pa:List DOp→Nat→Nat→Option Nat
 |[],seen,_=>some seen
 |x::l,seen,g=>match Nat.beq (Nat.land x.m seen) x.m with
  |false=>none
  |true=>match Nat.testBit seen x.i with
   |true=>none
   |false=>match zp9 x with
    |true=>Pa l (Nat.lor (2^x.i) seen) g
    |false=>match Nat.beq (Nat.land g x.m) g with
     |false=>none
     |true=>match Nc x with
      |true=>Pa l (Nat.lor (2^x.i) seen) (Nat.lor (2^x.i) g)
      |false=>Pa l (Nat.lor (2^x.i) seen) g
def Ny{g:Type}(f:g→Bool):List g→List g
 |[]=>[]
 |a::l=>match f a with
  |true=>a::Ny f l
  |false=>Ny f l
def ta(x:DOp):List DOp→Nat
 |[]=>0
 |c::l=>match Nat.testBit x.m c.i with
  |true=>Nat.succ (ta x l)
  |false=>ta x l
def Yx(j g:List DOp)(p:Nat):List DOp:=Ny (λx=>match Nc x with
 |true=>false
 |false=>Nat.beq (ta x g) p) j
def zln(z g:List DOp):List DOp→Nat→List DOp
 |[],_=>[]
 |c::j,p=>c::(Yx z g p++zln z g j (p+1))
def zy(j g:List DOp):List DOp:=Yx j g 0++zln j g g 1
def Xp{g:Type}(f:g→g→Bool):List g→List g→Bool
 |[],[]=>true
 |a::l,b::r=>match f a b with
  |true=>Xp f l r
  |false=>false
 |_,_=>false
def Q1:Nat→AV→AV→Bool
 |0,_,_=>false
 |n+1,a,b=>match a,b with
  |.bool x,.bool y=>x==y
  |.int k x,.int C y=>Wc k C&&ji x y
  |.str l x,.str m y=>Nat.beq l m&&Nat.beq x y
  |.nilPtr,.nilPtr=>true
  |.ptr o v i,.ptr g j z=>Nat.beq o g&&Nat.beq v j&&Nat.beq i z
  |.nilSl,.nilSl=>true
  |.sl o v i l e r,.sl g j z D E F=>Nat.beq o g&&Nat.beq v j&&Nat.beq i z&&Nat.beq l D&&Nat.beq e E&&r==F
  |.emp,.emp=>true
  |.nilMap,.nilMap=>true
  |.map o,.map g=>Nat.beq o g
  |.nilFn,.nilFn=>true
  |.fn (.func f) x y,.fn (.func G) A B=>Nat.beq f G&&Xp (Q1 n) x A&&Xp (Q1 n) y B
  |.fn (.yield f) x y,.fn (.yield G) A B=>Nat.beq f G&&Xp (Q1 n) x A&&Xp (Q1 n) y B
  |.nilIf,.nilIf=>true
  |.iface t v,.iface H j=>Nat.beq t H&&Q1 n v j
  |.agg x,.agg y=>Xp (Q1 n) x y
  |.tup x,.tup y=>Xp (Q1 n) x y
  |_,_=>false
def Nv:AV→Option Nat
 |.ptr o _ _=>some o
 |.sl o _ _ _ _ _=>some o
 |.map o=>some o
 |_=>none
def P9(id:Nat):AV→AV
 |.ptr _ v i=>.ptr id v i
 |.sl _ v i l e r=>.sl id v i l e r
 |.map _=>.map id
 |v=>v
def zpf(c g:Tr AV)(len:Nat):Bool:=match R8 c 0 len,R8 g 0 len with
 |some l,some j=>Xp (Q1 30) l j
 |_,_=>false
def eqObj:AObj→AObj→Bool
 |.cells c len z B,.cells C g j A=>Nat.beq len g&&Nat.beq z j&&B==A&&zpf c C len
 |.map [] k,.map [] D=>Nat.beq k D
 |_,_=>false
def V7(b:Bool)(x y:v8):Bool:=match b with
 |true=>true
 |false=>@decide (x=y) (Classical.propDecidable _)
def zv8(v g:AV)(z j:Heap):Bool:=match Nv v with
 |none=>false
 |some id=>match V7 (Q1 30 v (P9 id g)) v (P9 id g) with
  |false=>false
  |true=>match z.get id,j.get z.next with
   |some a,some b=>V7 (eqObj a b) a b
   |_,_=>false
structure ChkF where run:Tr AV→Heap→Bool
def Xd(P:Program)(ops:Array Oper)(x:DOp):ChkF :=
 match x.o.dst with
 |none=>⟨λ_ _=>false⟩
 |some d=>⟨λj A=>match (R4 ops x.o).run j with
  |false=>true
  |true=>match M8 (Nh d) j with
   |none=>false
   |some v=>match (N5 P x.o.op).run j A with
    |.val g z=>match x.c with
     |.al=>zv8 v g A z
     |_=>V7 (Q1 30 v g) v g
    |_=>false⟩
def kz(g:Program)(ops:Array Oper):List DOp→ChkF
 |[]=>⟨λ_ _=>true⟩
 |x::l=>⟨λj z=>match (Xd g ops x).run j z with
  |true=>(kz g ops l).run j z
  |false=>false⟩
def T5(P:Program)(n:Nat)(ops:Array Oper):List DOp→List DOp→SeqF
 |[],_=>⟨λ_ B C=>.ok B C⟩
 |x::l,g=>match x.c with
  |.quiet=>⟨λk B C=>OE.rec .no (λz A=>(T5 P n ops l g).run k z A) ((Qq P n ops x.o).run k B C)⟩
  |.rd=>⟨λk B C=>OE.rec .no (λz A=>(T5 P n ops l (x::g)).run k z A) ((Qq P n ops x.o).run k B C)⟩
  |.al=>⟨λk B C=>OE.rec .no (λz A=>Bool.rec .no ((T5 P n ops l (x::g)).run k z A) ((kz P ops (x::g)).run z A)) ((Qq P n ops x.o).run k B C)⟩
  |.ch =>
   let j:=Ny (λy=>!(Nat.testBit x.m y.i)) g
   ⟨λk B C=>OE.rec .no (λz A=>Bool.rec .no ((T5 P n ops l j).run k z A) ((kz P ops j).run z A)) ((Qq P n ops x.o).run k B C)⟩
def zv1(n:Nat)(j g:List DOp):Bool:=match Pa g 0 0 with
 |none=>false
 |some s=>match Nat.beq s (Nat.sub (2^n) 1) with
  |false=>false
  |true=>match zmw j 0 with
   |false=>false
   |true=>jq j
def sq(A:Program)(n:Nat)(ops:Array Oper):SeqF :=
 let z:=Qf A ops ops.toList [] 0;let g:=Ny Nc z;let j:=zy z g
 match zv1 ops.size z j with
 |true=>T5 A n ops j []
 |false=>⟨λ_ _ _=>.no⟩
inductive Ex where
 |normal
 |exit (id:Nat)
 |ret
inductive Res where
 |no
 |ok (x:Ex) (E:Tr AV) (D:List Nat) (H:Heap)
structure CodeF where run:Qn→Nat→Option Nat→Tr AV→List Nat→Heap→Res
def rj:CodeF:=⟨λ_ _ _ _ _ _=>.no⟩
def aq(f:Tr AV→List Nat→Heap→Res):Nat→Tr AV→List Nat→Heap→Res
 |0,_,_,_=>.no
 |m+1,A,B,C=>match f A B C with
  |.no=>.no
  |.ok x g j z=>match x with
   |.normal=>aq f m g j z
   |x=>.ok x g j z
def zbu(f n:Nat)(j:Array Tmp)(assign body:Code)(z:Option Nat)(A:Tr AV)(B:List Nat)(g:Heap):Option (Nat×List Nat×Heap) :=
 match z with
 |none=>some (Nat.add g.next 1,g.next::B,(g.push (.defd true)).push (.loop .ready none f n A j assign body g.next))
 |some l=>match g.get l with
  |some (.loop _ _ _ _ _ _ _ _ d)=>some (g.next,B,g.push (.loop .ready none f n A j assign body d))
  |_=>none
def lc:Code→Option Ex
 |.ret=>some .ret
 |.exit id=>some (.exit id)
 |_=>none
def zea(l:Nat)(z:Heap):Option (Option Code×Heap):=match z.get l with
 |some (.loop st g f n A j a b d)=>match st with
  |.busy=>none
  |_=>some (g,z.put l (.loop .exhausted g f n A j a b d))
 |_=>none
def Pl(P:Program)(f n:Nat):Code→CodeF
 |.skip=>⟨λ_ _ _ j A B=>.ok .normal j A B⟩
 |.region _ ops draw =>
  let s:=match draw with
   |true=>sq P n ops
   |false=>df P n ops ops.toList
  ⟨λk _ _ j A B=>match s.run k j B with
   |.no=>.no
   |.ok D z=>.ok .normal D A z⟩
 |.seq a b=>⟨λk m g j A B=>Res.rec .no (λx D C z=>Ex.rec ((Pl P f n b).run k m g D C z) (λid=>.ok (.exit id) D C z) (.ok .ret D C z) x)
   ((Pl P f n a).run k m g j A B)⟩
 |.cond c a b=>⟨λk m g j A B=>match (Nk c).run j with
  |some (.bool t)=>match t with
   |true=>(Pl P f n a).run k m g j A B
   |false=>(Pl P f n b).run k m g j A B
  |_=>.no⟩
 |.block id c=>⟨λk m g j A B=>match (Pl P f n c).run k m g j A B with
  |.no=>.no
  |.ok x D C z=>match x with
   |.exit E=>match Nat.beq E id with
    |true=>.ok .normal D C z
    |false=>.ok (.exit E) D C z
   |x=>.ok x D C z⟩
 |.loop c=>⟨λk m g j A B=>aq ((Pl P f n c).run k m g) m j A B⟩
 |.rangeFunc H I a b=>⟨λk _ g j A B=>match (Nk H).run j with
  |none=>.no
  |some gv=>match zbu f n I a b g j A B with
   |none=>.no
   |some (l,C,z)=>match Xu P gv [.fn (.yield l) [] []] with
    |.call (.fn H) F=>match k (.fn H) F z with
     |.no=>.no
     |.ok _ K=>match zea l K with
      |none=>.no
      |some (none,G)=>.ok .normal j C G
      |some (some c,G)=>match lc c with
       |none=>.no
       |some x=>.ok x j C G
    |_=>.no⟩
 |.exit id=>⟨λ_ _ _ j A B=>.ok (.exit id) j A B⟩
 |.scope c=>⟨λk m g j A B=>(Pl P f n c).run k m g j A B⟩
 |.label _=>⟨λ_ _ _ j A B=>.ok .normal j A B⟩
 |.ret=>⟨λ_ _ _ j A B=>.ok .ret j A B⟩
 |_=>rj
structure ResF where run:Tr AV→Heap→Option AV
def resF(z:Program)(r:ResultVar):ResF :=
 match r with
 |.tmp t=>⟨λg _=>(Nk (.tmp t)).run g⟩
 |.cell a t=>match Sc z t,Oz z t with
  |some true,some n=>⟨λg j=>match (Nk (.tmp a)).run g with
   |some (.ptr o v i)=>match Pt j o v i n with
    |some l=>some (.agg l)
    |none=>none
   |_=>none⟩
  |some false,some _=>⟨λg j=>match (Nk (.tmp a)).run g with
   |some (.ptr o v i)=>match Pt j o v i 1 with
    |some [c]=>some c
    |_=>none
   |_=>none⟩
  |_,_=>⟨λ_ _=>none⟩
structure RessF where run:Tr AV→Heap→Option (List AV)
def n7(g:Program):List ResultVar→RessF
 |[]=>⟨λ_ _=>some []⟩
 |r::l=>⟨λj z=>match (resF g r).run j z with
  |none=>none
  |some a=>match (n7 g l).run j z with
   |none=>none
   |some b=>some (a::b)⟩
def p0:List Nat→Heap→Option Heap
 |[],g=>some g
 |d::l,g=>match g.get d with
  |some (.defd true)=>p0 l (g.put d (.defd false))
  |_=>none
structure FunF where run:Qn→Nat→List AV→Heap→RV
def wh(A:Program)(f:Nat):FunF :=
 match A.funcs[f]? with
 |none=>⟨λ_ _ _ _=>.no⟩
 |some fn=>match fn.body with
  |none=>⟨λ_ _ _ _=>.no⟩
  |some j=>if fn.ntmps≤Nm then
   ⟨λk m g C=>match Nat.ble g.length fn.ntmps with
    |false=>.no
    |true=>match (Pl A f fn.ntmps j).run k m none (Pp g 0 .e) [] C with
     |.no=>.no
     |.ok x D E B=>match x with
      |.exit _=>.no
      |_=>match p0 E B with
       |none=>.no
       |some z=>match (n7 A fn.results.toList).run D z with
        |some [v]=>.ok v z
        |some l=>.ok (.tup l) z
        |none=>.no⟩
   else ⟨λ_ _ _ _=>.no⟩
def vm:List Tmp→List AV→Nat→Tr AV→Option (Tr AV)
 |[],[],_,g=>some g
 |p::j,a::as,n,g=>match Nat.blt p n with
  |true=>vm j as n (Oo a (Nh p) g)
  |false=>none
 |_,_,_,_=>none
def x8(l:Nat)(z:Heap):Option Heap:=match z.get l with
 |some (.loop .ready g f n A j a b d)=>some (z.put l (.loop .busy g f n A j a b d))
 |_=>none
def yh(l:Nat)(x:Ex)(j:Heap):RV:=match j.get l with
 |some (.loop _ _ f n z g a b d)=>match x with
  |.normal=>.ok (.bool true) (j.put l (.loop .ready none f n z g a b d))
  |.ret=>.ok (.bool false) (j.put l (.loop .done (some .ret) f n z g a b d))
  |.exit id=>.ok (.bool false) (j.put l (.loop .done (some (.exit id)) f n z g a b d))
 |_=>.no
def Q6(P:Program)(O:Qn):Nat→Qn
 |0=>λ_ _ _=>.no
 |m+1=>λt g z=>match t with
  |.fn f=>match O (.fn f) g z with
   |.ok v A=>.ok v A
   |.no=>(wh P f).run (Q6 P O m) m g z
  |.yield l=>match z.get l with
   |some (.loop .ready none f n G B a b _)=>match vm B.toList g n G with
    |none=>.no
    |some C=>match (Pl P f n a).run (Q6 P O m) m (some l) C [] z with
     |.ok .normal D [] E=>match x8 l E with
      |none=>.no
      |some j=>match (Pl P f n b).run (Q6 P O m) m (some l) D [] j with
       |.no=>.no
       |.ok x _ H F=>match H with
        |[]=>yh l x F
        |_=>.no
     |_=>.no
   |_=>.no
def noO:Qn:=λ_ _ _=>.no
def uy(g:Program)(j:Qn)(m f:Nat):Bool:=match Q6 g j m (.fn f) [] ⟨.e,0⟩ with
 |.ok (.bool true) _=>true
 |_=>false
end
variable{C X:Heap}{G:AV}{L vT:Tr AV}{M:List AV}
section
open Go.RowKit (Below)
section tries
variable {α : Type}
def Vz(p:List Bool):M8 p (Tr.e:Tr α)=none:=by
 cases p with
 |nil=>rfl
 |cons b p=>cases b<;>rfl
def us(p:List Bool)(v:Option α)(l r:Tr α):M8 (true::p) (.n v l r)=M8 p l:=rfl
def tf(p:List Bool)(v:Option α)(l r:Tr α):M8 (false::p) (.n v l r)=M8 p r:=rfl
def zk1(a:α):Oo a [] .e=.n (some a) .e .e:=rfl
def zl9(a:α)(p:List Bool):Oo a (true::p) .e=.n none (Oo a p .e) .e:=rfl
def zl2(a:α)(p:List Bool):Oo a (false::p) .e=.n none .e (Oo a p .e):=rfl
def zsn(a:α)(p:List Bool)(v:Option α)(l r:Tr α):Oo a (true::p) (.n v l r)=.n v (Oo a p l) r:=rfl
def zr1(a:α)(p:List Bool)(v:Option α)(l r:Tr α):Oo a (false::p) (.n v l r)=.n v l (Oo a p r):=rfl
def yc(a:α):∀(p:List Bool) (t:Tr α),M8 p (Oo a p t)=some a
 |[],.e=>rfl
 |[],.n _ _ _=>rfl
 |true::p,.e=>by rw[zl9,us];exact yc a p _
 |false::p,.e=>by rw[zl2,tf];exact yc a p _
 |true::p,.n v l r=>by rw[zsn,us];exact yc a p _
 |false::p,.n v l r=>by rw[zr1,tf];exact yc a p _
def zn(a:α):∀(p q:List Bool) (t:Tr α),p≠q→M8 q (Oo a p t)=M8 q t
 |[],[],_,h=>absurd rfl h
 |[],true::q,.e,_=>by rw[zk1,us,Vz,Vz]
 |[],false::q,.e,_=>by rw[zk1,tf,Vz,Vz]
 |[],true::q,.n _ _ _,_=>rfl
 |[],false::q,.n _ _ _,_=>rfl
 |true::p,[],.e,_=>rfl
 |false::p,[],.e,_=>rfl
 |true::p,[],.n _ _ _,_=>rfl
 |false::p,[],.n _ _ _,_=>rfl
 |true::p,true::q,.e,h=>by rw[zl9,us,zn a p q _ (λe=>h Co),Vz,Vz]
 |true::p,false::q,.e,_=>by rw[zl9,tf,Vz,Vz]
 |false::p,true::q,.e,_=>by rw[zl2,us,Vz,Vz]
 |false::p,false::q,.e,h=>by rw[zl2,tf,zn a p q _ (λe=>h Co),Vz,Vz]
 |true::p,true::q,.n _ l _,h=>by rw[zsn,us,us];exact zn a p q l (λe=>h Co)
 |true::p,false::q,.n _ _ _,_=>rfl
 |false::p,true::q,.n _ _ _,_=>rfl
 |false::p,false::q,.n _ _ r,h=>by rw[zr1,tf,tf];exact zn a p q r (λe=>h Co)
def pathF_inj:∀(f j g k:Nat),g<f→k<j→wc f g=wc j k→g=k
 |0,_,g,k,B,_,_=>J
 |_,0,g,k,_,C,_=>J
 |f+1,j+1,0,0,_,_,_=>rfl
 |f+1,j+1,0,k+1,_,_,h=>by simp[wc]at h
 |f+1,j+1,g+1,0,_,_,h=>by simp[wc]at h
 |f+1,j+1,g+1,k+1,B,C,h=>by
  simp only[wc,List.cons.injEq]at h;obtain⟨z,A⟩:=h;have D:Nat.div g 2=g/2:=rfl;have E:Nat.div k 2=k/2:=rfl;have F:Nat.mod g 2=g%2:=rfl;have G:Nat.mod k 2=k%2:=rfl;rw[D,E]at A;rw[F,G]at z;have:=pathF_inj f j (g/2) (k/2) J J A;have q:∀x:Nat,Nat.beq x 0=true↔x=0:=λx=>by cases x<;>simp[Nat.beq]
  have H:(g%2=0↔k%2=0):=by
   rw[←q,←q,z]
  omega
def ztr{k:Nat}(h:Nh g=Nh k):g=k :=
 pathF_inj _ _ g k (I9 _) (I9 _) h
def zht{k:Nat}(a:α)(t:Tr α) :
  M8 (Nh k) (Oo a (Nh g) t)=if k=g then some a else M8 (Nh k) t:=by
 by_cases h:k=g
 ·subst h;rw[Ij rfl];exact yc a _ t
 ·rw[Ii h];exact zn a _ _ t (λe=>h (ztr e.symm))
def z9v(g:Nat)(a:α)(t:Tr α):M8 (Nh g) (Oo a (Nh g) t)=some a:=yc a _ t
def tb{k:Nat}(h:k≠g)(a:α)(t:Tr α) :
  M8 (Nh k) (Oo a (Nh g) t)=M8 (Nh k) t:=by rw[zht,Ii h]
def get_ofList:∀(l:List α) (i:Nat) (t:Tr α) (k:Nat),
  M8 (Nh k) (Pp l i t)=if i≤k∧k<i+l.length then l[k-i]? else M8 (Nh k) t
 |[],i,t,k=>by simp only[Pp,List.length_nil];rw[Ii J]
 |a::l,i,t,k=>by
  simp only[Iy];rw[Pp,get_ofList l (i+1) _ k];by_cases g:i+1≤k∧k<i+1+l.length
  ·rw[Ij g,Ij J];have:k-i=(k-(i+1))+1:=J
   rw[this,Iv]
  ·rw[Ii g,zht];by_cases j:k=i
   ·subst j;rw[Ij rfl,Ij J];simp
   ·rw[Ii j,Ii J]
end tries
def d7{c:Tr AV}:∀{n i:Nat} {l:List AV},R8 c i n=some l→l.length=n∧∀g,g<n→M8 (Nh (i+g)) c=l[g]?
 |0,i,l,h=>by
  simp only[R8,Option.some.injEq]at h;subst h;exact⟨rfl,λg j=>J⟩
 |n+1,i,l,h=>by
  simp only[R8]at h;split at h
  ·cases h
  ·rename_i a z;split at h
   ·cases h
   ·rename_i r A;cases h;obtain⟨B,C⟩:=d7 A;refine⟨Ax,λg j=>?_⟩;cases g with
    |zero=>simpa using z
    |succ g=>have:=C g J;rw[Iv,←this];congr 2;omega
structure Loc where
 b:Nat
 d:Nat
 n:Nat
 sz:Nat
structure CM where
 f:Nat→Nat→Option Loc
 nx:Nat
instance:CoeFun CM (λ_=>Nat→Nat→Option Loc):=⟨CM.f⟩
def CM.keep(gg C:CM):Prop:=∀o v L,gg o v=some L→C o v=some L
structure CM.le (C C':CM):Prop where
 keep:C.keep C'
 nx:C.nx≤C'.nx
 new:∀o v L,C' o v=some L→(∃v' L',C o v'=some L')∨C.nx≤o
def CM.le_refl(C:CM):C.le C:=⟨λ_ _ _ h=>h,If _,λ_ v L h=>.inl ⟨v,L,h⟩⟩
def CM.le_trans{A B C:CM}(h:A.le B)(k:B.le C):A.le C:=by
 refine⟨λo v L e=>k.keep o v L (h.keep o v L e),I1 h.nx k.nx,λo v L e=>?_⟩;rcases k.new o v L e with ⟨v',L',e'⟩|e'
 ·exact h.new o v' L' e'
 ·exact .inr (I1 h.nx e')
inductive FR (C:CM):Fn→Fn→Prop where
 |same (f:Fn) (h:∀l,f≠.yield l):FR C f f
 |yield {l:Nat} {L:Loc} (h:C l 0=some L):FR C (.yield l) (.yield L.b)
def FR.mono{C C':CM}(h:C.keep C'){f g:Fn}:FR C f g→FR C' f g
 |.same f hf=>.same f hf
 |.yield e=>.yield (h _ _ _ e)
def AV.one:AV→Bool
 |.agg _=>false
 |.tup _=>false
 |_=>true
mutual
inductive VR (C:CM):AV→Value→Prop where
 |bool (b:Bool):VR C (.bool b) (.bool b)
 |int (k:IntKind) (n:Int):VR C (.int k n) (.int k n)
 |str {len n:Nat} {s:ByteArray} (h1:s.data.toList.length=len) (h2:Oy s.data.toList=n):VR C (.str len n) (.string s)
 |nilPtr:VR C .nilPtr (.pointer none)
 |ptr {o v i:Nat} {L:Loc} (h:C o v=some L):VR C (.ptr o v i) (.pointer (some ⟨L.b,L.d+i,none⟩))
 |nilSl:VR C .nilSl (.slice none 0 0)
 |sl {o v i len esz:Nat} {room:Option Nat} {L:Loc} {cap:Nat} (h:C o v=some L) (h1:i+len*esz≤L.n) (h2:L.d+i+cap*esz≤L.sz) (h3:len≤cap)
   (h4:∀r,room=some r→cap=r∧i+r*esz≤L.n) (h5:room=none→L.d+i+cap*esz=L.sz) :
   VR C (.sl o v i len esz room) (.slice (some ⟨L.b,L.d+i,none⟩) len cap)
 |emp {a:Addr} {cap:Nat}:VR C .emp (.slice (some a) 0 cap)
 |nilMap:VR C .nilMap (.map none)
 |map {o:Nat} {L:Loc} (h:C o 0=some L):VR C (.map o) (.map (some L.b))
 |nilFn:VR C .nilFn .nilFunc
 |fn {f g:Fn} {l r:List AV} {l' r':Array Value} (h:FR C f g) (hl:VRs C l l'.toList) (hr:VRs C r r'.toList):VR C (.fn f l r) (.func g l' r')
 |nilIf:VR C .nilIf .nilIface
 |iface {t:TypeId} {a:AV} {v:Value} (h:VR C a v):VR C (.iface t a) (.iface t v)
 |agg {l:List AV} {vs:Array Value} (h:VRs C l vs.toList) (h1:∀a∈l,a.one=true):VR C (.agg l) (.agg vs)
 |tup {l:List AV} {vs:Array Value} (h:VRs C l vs.toList):VR C (.tup l) (.tuple vs)
inductive VRs (C:CM):List AV→List Value→Prop where
 |nil:VRs C [] []
 |cons {a:AV} {v:Value} {l:List AV} {r:List Value} (h:VR C a v) (hs:VRs C l r):VRs C (a::l) (v::r)
end
mutual
def VR.mono'{gg C:CM}(h:gg.keep C):∀{a:AV} {v:Value},VR gg a v→VR C a v
 |_,_,.bool b=>.bool b
 |_,_,.int k n=>.int k n
 |_,_,.str h1 h2=>.str h1 h2
 |_,_,.nilPtr=>.nilPtr
 |_,_,.ptr e=>.ptr (h _ _ _ e)
 |_,_,.nilSl=>.nilSl
 |_,_,.sl e h1 h2 h3 h4 h5=>.sl (h _ _ _ e) h1 h2 h3 h4 h5
 |_,_,.emp=>.emp
 |_,_,.nilMap=>.nilMap
 |_,_,.map e=>.map (h _ _ _ e)
 |_,_,.nilFn=>.nilFn
 |_,_,.fn hf hl hr=>.fn (hf.mono h) (VRs.mono' h hl) (VRs.mono' h hr)
 |_,_,.nilIf=>.nilIf
 |_,_,.iface e=>.iface (VR.mono' h e)
 |_,_,.agg e h1=>.agg (VRs.mono' h e) h1
 |_,_,.tup e=>.tup (VRs.mono' h e)
def VRs.mono'{gg C:CM}(h:gg.keep C):∀{l:List AV} {r:List Value},VRs gg l r→VRs C l r
 |_,_,.nil=>.nil
 |_,_,.cons e es=>.cons (VR.mono' h e) (VRs.mono' h es)
end
def VR.mono{C C':CM}(h:C.le C'){a:AV}{v:Value}(k:VR C a v):VR C' a v:=k.mono' h.keep
def VRs.mono{C C':CM}(h:C.le C'){a:List AV}{v:List Value}(k:VRs C a v):VRs C' a v:=k.mono' h.keep
def VRs.length{C:CM}:∀{l:List AV} {r:List Value},VRs C l r→l.length=r.length
 |_,_,.nil=>rfl
 |_,_,.cons _ es=>by simp[VRs.length es]
def VRs.get{C:CM}:∀{l:List AV} {r:List Value},VRs C l r→∀{i:Nat} {a:AV},l[i]?=some a→∃v,r[i]?=some v∧VR C a v
 |_,_,.nil,i,a,h=>B1
 |_,_,.cons e es,0,a,h=>Dx
 |_,_,.cons e es,i+1,a,h=>by simp only[Iv]at h ⊢;exact VRs.get es h
def VRs.mk{gg:CM}:∀{l:List AV} {r:List Value},l.length=r.length→(∀(i:Nat) (a:AV),l[i]?=some a→∃v,r[i]?=some v∧VR gg a v)→VRs gg l r
 |[],[],_,_=>.nil
 |[],_::_,h,_=>B1
 |_::_,[],h,_=>B1
 |a::l,v::r,h,k=>by
  obtain⟨v',C,hr⟩:=k 0 a rfl;simp only[It,Option.some.injEq]at C;subst C;exact .cons hr (VRs.mk Bb (λi a hi=>by have:=k (i+1) a C4;simpa using this))
def VRs.append{C:CM}:∀{l:List AV} {r:List Value} {l':List AV} {r':List Value},VRs C l r→VRs C l' r'→VRs C (l++l') (r++r')
 |_,_,_,_,.nil,k=>k
 |_,_,_,_,.cons e es,k=>.cons e (VRs.append es k)
def VRs.drop{C:CM}:∀{l:List AV} {r:List Value},VRs C l r→∀n,VRs C (l.drop n) (r.drop n)
 |_,_,h,0=>h
 |_,_,.nil,_+1=>.nil
 |_,_,.cons _ es,n+1=>VRs.drop es n
def VRs.take{C:CM}:∀{l:List AV} {r:List Value},VRs C l r→∀n,VRs C (l.take n) (r.take n)
 |_,_,_,0=>.nil
 |_,_,.nil,_+1=>.nil
 |_,_,.cons e es,n+1=>.cons e (VRs.take es n)
def VR.one{C:CM}{a:AV}{v:Value}(h:VR C a v):v.oneCell'=a.one:=by cases h<;>rfl
def zoe{C:CM}{v:Value}{a:AV}(h:ig v=some a):VR C a v∧a.one=true:=by
 unfold ig at h;split at h<;>first
  |(cases h;done)
  |(cases h;exact⟨by constructor<;>rfl,rfl⟩)
  |(cases h;exact⟨by constructor,rfl⟩)
def Wd{C:CM}:∀{l:List Value} {r:List AV},S9 l=some r→VRs C r l∧∀a∈r,a.one=true
 |[],r,h=>by cases h;exact⟨.nil,N⟩
 |v::l,r,h=>by
  simp only[S9]at h;split at h
  ·cases h
  ·rename_i a g;split at h
   ·cases h
   ·rename_i E j;cases h;obtain⟨z,A⟩:=Wd (C:=C) j;obtain⟨B,D⟩:=zoe (C:=C) g;exact⟨.cons B z,by simpa using ⟨D,A⟩⟩
def zgz{C:CM}{v:Value}{a:AV}(h:Vp v=some a):VR C a v:=by
 unfold Vp at h;split at h
 ·rename_i j;cases g:S9 j.toList with
  |none=>simp[g]at h
  |some r =>
   simp only[g,Jw,Option.some.injEq]at h;subst h;obtain⟨z,A⟩:=Wd (C:=C) g;exact .agg z A
 ·rename_i B;split at h
  ·rename_i D;cases h;have:B=#[]:=Ky D;subst this;exact .tup .nil
  ·cases h
 ·exact (zoe h).1
def VR.cells{C:CM}{a:AV}{v:Value}(h:VR C a v){l:List AV}(hl:a.cells=some l):VRs C l v.cells.toList∧∀x∈l,x.one=true:=by
 cases h with
 |agg h h1=>simp only[AV.cells,Option.some.injEq]at hl;subst hl;exact⟨by simpa [Value.cells] using h,h1⟩
 |tup h=>simp[AV.cells]at hl
 |_=>simp only[AV.cells,Option.some.injEq]at hl;subst hl;exact⟨by simp only[Value.cells];exact .cons (by constructor<;>assumption) .nil,by simp[AV.one]⟩
def Xt(C:CM)(c:Tr AV)(len:Nat)(g:Array Value)(d:Nat):Prop :=
 ∀i,i<len→∃a,M8 (Nh i) c=some a∧a.one=true∧∃v,g[d+i]?=some v∧VR C a v
inductive MR (C:CM):List (AV×AV×Nat)→List MapEntry→Prop where
 |nil:MR C [] []
 |cons {k v:AV} {b:Nat} {e:MapEntry} {l:List (AV×AV×Nat)} {r:List MapEntry} (hk:VR C k e.key) (hv:VR C v e.val) (hb:e.born=b) (h:MR C l r):MR C ((k,v,b)::l) (e::r)
def OVR(g:CM)(a:Option AV)(v:Value):Prop:=match a with
 |some a=>VR g a v
 |none=>v=undef
def ER(n:Nat)(j:CM)(E:Tr AV)(g:Array Value):Prop :=
 g.size=n∧n≤Nm∧∀t,t≤Nm→OVR j (M8 (Nh t) E) (g.getD t undef)
def Po(E:Nat)(A:CM)(w:World)(o:Nat):AObj→Prop
 |.cells c len B I=>∀g,A o B=some g→g.n=len∧(I=false→E≤g.b)∧g.d+len≤g.sz∧∃C e F hi,w.heap[g.b]?=some (.cells C e (F,hi))∧g.sz≤C.size ∧
   (∀i,g.d≤i→i<g.sz→¬(F≤i∧i<hi))∧Xt A c len C g.d
 |.map K L=>∀g,A o 0=some g→E≤g.b∧∃j:Array MapEntry,w.heap[g.b]?=some (.map j L)∧MR A K j.toList
 |.iter len n D=>∀g,A o 0=some g→E≤g.b∧g.d=0∧∃s:ByteArray,w.heap[g.b]?=some (.stringIter s D)∧s.data.toList.length=len∧Oy s.data.toList=n
 |.loop st z f n O M a b d=>∀g,A o 0=some g→E≤g.b∧∃G H,A d 0=some H∧w.heap[g.b]?=some (.loop { state:=st,pending:=z,fn:=f,tmps:=G,params:=M,assign:=a,body:=b,defers:=H.b })∧ER n A O G
 |.defd op=>∀g,A o 0=some g→E≤g.b∧w.heap[g.b]?=some (.deferred (if op then some [] else none))
structure Rel (w0:World) (C:CM) (H:Heap) (w:World):Prop where
 nx:C.nx=H.next
 low:Below w0.heap.size w0 w
 fresh:∀o v L,C o v=some L→o<H.next
 lt:∀o v L,C o v=some L→L.b<w.heap.size
 excl:∀o v L o' v' L',C o v=some L→C o' v'=some L'→L.b=L'.b→w0.heap.size≤L.b→o=o'
 obj:∀o ob,o<H.next→H.get o=some ob→Po w0.heap.size C w o ob
 top:∀o c len ver ro,o<H.next→H.get o=some (.cells c len ver ro)→∀v L,C o v=some L→v≤ver
end
variable{I:CM}
section
open Go.RowKit (Below)
def CM.ext(gg:CM)(o v:Nat)(L:Loc):CM:=⟨λC v'=>if C=o∧v'=v then some L else gg C v',max gg.nx (o+1)⟩
def CM.ext_same(C:CM)(o v:Nat)(L:Loc):C.ext o v L o v=some L:=by simp[CM.ext]
def CM.ext_ne(C:CM){o v:Nat}(L:Loc)(h:¬(j=o∧v7=v)):C.ext o v L j v7=C j v7:=by simp only[CM.ext];rw[Ii h]
def CM.le_ext{C:CM}{o v:Nat}(L:Loc)(h:C o v=none)(hn:(∃v' L',C o v'=some L')∨C.nx≤o):C.le (C.ext o v L):=by
 refine⟨λo' v' L' h'=>?_,J7 _ _,λo' v' L' h'=>?_⟩
 ·by_cases e:o'=o∧v'=v
  ·obtain⟨rfl,rfl⟩:=e;rw[h]at h';cases h'
  ·rw[CM.ext_ne C L e];exact h'
 ·by_cases e:o'=o∧v'=v
  ·obtain⟨rfl,rfl⟩:=e;exact hn
  ·rw[CM.ext_ne C L e]at h';exact .inl ⟨v',L',h'⟩
def MR.mono'{gg C:CM}(h:gg.keep C):∀{l:List (AV×AV×Nat)} {r:List MapEntry},MR gg l r→MR C l r
 |_,_,.nil=>.nil
 |_,_,.cons hk hv hb hs=>.cons (hk.mono' h) (hv.mono' h) hb (MR.mono' h hs)
def OVR.mono'{gg C:CM}(h:gg.keep C){a:Option AV}{v:Value}(k:OVR gg a v):OVR C a v:=by
 cases a with
 |none=>exact k
 |some a=>exact VR.mono' h k
def ER.mono'{gg C:CM}(h:gg.keep C){n:Nat}{E:Tr AV}{tm:Array Value}(k:ER n gg E tm):ER n C E tm :=
 ⟨k.1,k.2.1,λt ht=>(k.2.2 t ht).mono' h⟩
def Xt.mono'{gg C:CM}(h:gg.keep C){c:Tr AV}{len:Nat}{vs:Array Value}{d:Nat}(k:Xt gg c len vs d):Xt C c len vs d :=
 λi hi=>let ⟨a,h1,h2,v,h3,h4⟩:=k i hi;⟨a,h1,h2,v,h3,h4.mono' h⟩
def MR.mono{C:CM}(h:C.le I){l:List (AV×AV×Nat)}{r:List MapEntry}(k:MR C l r):MR I l r:=k.mono' h.keep
def ER.mono{C:CM}(h:C.le I){n:Nat}{E:Tr AV}{tm:Array Value}(k:ER n C E tm):ER n I E tm:=k.mono' h.keep
def Xt.mono{C:CM}(h:C.le I){c:Tr AV}{len:Nat}{vs:Array Value}{d:Nat}(k:Xt C c len vs d):Xt I c len vs d:=k.mono' h.keep
def Po.frame'{B:Nat}{C':CM}{w w':World}{o:Nat}{ob:AObj}(h:Po B I w o ob)(hc:I.keep C')(hn:∀v L,C' o v=some L→I o v=some L)
  (hb:∀v L,I o v=some L→w'.heap[L.b]?=w.heap[L.b]?):Po B C' w' o ob:=by
 cases ob with
 |cells c len gj ro =>
  intro L hL;have C:=hn _ _ hL;obtain⟨h1,h2,h3,vs,e,lo,hi,h4,h5,h6,h7⟩:=h L C;exact⟨h1,h2,h3,vs,e,lo,hi,by rw[hb _ _ C];exact h4,h5,h6,h7.mono' hc⟩
 |map es ck =>
  intro L hL;have C:=hn _ _ hL;obtain⟨h1,gg,h2,h3⟩:=h L C;exact⟨h1,gg,E6,h3.mono' hc⟩
 |iter len n pos =>
  intro L hL;have C:=hn _ _ hL;obtain⟨h1,h0,s,h2,h3⟩:=h L C;exact⟨h1,h0,s,E6,h3⟩
 |loop st pend f n E ps a b d =>
  intro L hL;have C:=hn _ _ hL;obtain⟨h1,tm,Ld,h2,h3,h4⟩:=h L C;exact⟨h1,tm,Ld,hc _ _ _ h2,by rw[hb _ _ C];exact h3,h4.mono' hc⟩
 |defd op =>
  intro L hL;have C:=hn _ _ hL;obtain⟨h1,h2⟩:=h L C;exact⟨h1,E6⟩
def Po.frame{B:Nat}{C:CM}{w w':World}{o:Nat}{ob:AObj}(h:Po B I w o ob)(hc:I.le C)(hn:∀v L,C o v=some L→I o v=some L)
  (hb:∀v L,I o v=some L→w'.heap[L.b]?=w.heap[L.b]?):Po B C w' o ob:=h.frame' hc.keep hn hb
def Heap.get_push_same(H:Heap)(x:AObj):(H.push x).get H.next=some x:=z9v _ _ _
def Heap.get_push_ne(H:Heap)(x:AObj){o:Nat}(ho:o<H.next):(H.push x).get o=H.get o :=
 tb J _ _
def Heap.get_put_same(H:Heap)(o:Nat)(x:AObj):(H.put o x).get o=some x:=z9v _ _ _
def Heap.get_put_ne(H:Heap){o:Nat}(x:AObj)(gg:j≠o):(H.put o x).get j=H.get j:=tb gg _ _
def z4y(w:World)(x:Obj){k:Nat}(h:k<w.heap.size):(w.alloc x).heap[k]?=w.heap[k]?:=Below.heap_alloc w x k h
def Xv(w:World)(x:Obj):(w.alloc x).heap[w.heap.size]?=some x:=by
 show (w.heap.push x)[w.heap.size]?=some x;simp
def Rel.next_none{C:World}{H:Heap}{w:World}(h:Rel C I H w)(v:Nat):I H.next v=none:=by
 cases e:I H.next v with
 |none=>rfl
 |some L=>have:=h.fresh _ _ _ e;omega
def Rel.push{w0:World}{gB:CM}{H:Heap}{w:World}(h:Rel w0 gB H w)(ob:AObj)(x:Obj)(n sz:Nat)
  (gC:Po w0.heap.size (gB.ext H.next 0 ⟨w.heap.size,0,n,sz⟩) (w.alloc x) H.next ob) :
  Rel w0 (gB.ext H.next 0 ⟨w.heap.size,0,n,sz⟩) (H.push ob) (w.alloc x)∧gB.le (gB.ext H.next 0 ⟨w.heap.size,0,n,sz⟩):=by
 have hle:gB.le (gB.ext H.next 0 ⟨w.heap.size,0,n,sz⟩):=CM.le_ext _ (h.next_none 0) (.inr (Lu h.nx));refine⟨⟨by show max gB.nx (H.next+1)=H.next+1;rw[h.nx];exact Nat.max_eq_right (K4 _),h.low.alloc h.low.size x,?_,?_,?_,?_,?_⟩,hle⟩
 ·intro o v L C;show o<H.next+1;by_cases e:o=H.next∧v=0
  ·omega
  ·rw[CM.ext_ne _ _ e]at C;have:=h.fresh _ _ _ C;omega
 ·intro o v L C;rw[World.size_alloc];by_cases e:o=H.next∧v=0
  ·obtain⟨rfl,rfl⟩:=e;rw[CM.ext_same]at C;cases C;exact I9 _
  ·rw[CM.ext_ne _ _ e]at C;have:=h.lt _ _ _ C;omega
 ·intro o v L o' v' L' C gg hb hB;by_cases e:o=H.next∧v=0<;>by_cases e':o'=H.next∧v'=0
  ·omega
  ·obtain⟨rfl,rfl⟩:=e;rw[CM.ext_same]at C;cases C;rw[CM.ext_ne _ _ e']at gg;have:=h.lt _ _ _ gg;dsimp at hb;omega
  ·obtain⟨rfl,rfl⟩:=e';rw[CM.ext_same]at gg;cases gg;rw[CM.ext_ne _ _ e]at C;have:=h.lt _ _ _ C;dsimp at hb;omega
  ·rw[CM.ext_ne _ _ e]at C;rw[CM.ext_ne _ _ e']at gg;exact h.excl _ _ _ _ _ _ C gg hb hB
 ·intro o gD ho hg;by_cases e:o=H.next
  ·subst e;rw[Heap.get_push_same]at hg;cases hg;exact gC
  ·have gj:o<H.next:=B2
   rw[Heap.get_push_ne _ _ gj]at hg;refine (h.obj _ _ gj hg).frame hle (λv L C=>?_) (λv L C=>z4y _ _ (h.lt _ _ _ C))
   rwa [CM.ext_ne _ _ J]at C
 ·intro o c len gE ro ho hg v L C;by_cases e:o=H.next
  ·subst e;by_cases ev:v=0
   ·omega
   ·rw[CM.ext_ne _ _ J]at C;have:=h.fresh _ _ _ C;omega
  ·have gj:o<H.next:=B2
   rw[Heap.get_push_ne _ _ gj]at hg;rw[CM.ext_ne _ _ J]at C;exact h.top _ _ _ _ _ gj hg _ _ C
def Rel.put{w0:World}{gG:CM}{H:Heap}{w w':World}(h:Rel w0 gG H w){o:Nat}(ho:o<H.next)(ob:AObj)(gj:Below w0.heap.size w0 w')
  (gD:w.heap.size≤w'.heap.size) (gE:∀o' v L,o'≠o→gG o' v=some L→w'.heap[L.b]?=w.heap[L.b]?) (gF:Po w0.heap.size gG w' o ob)
  (gB:∀c len gg ro,ob=.cells c len gg ro→∀v L,gG o v=some L→v≤gg):Rel w0 gG (H.put o ob) w':=by
 refine⟨h.nx,gj,h.fresh,λo v L hL=>Ix (h.lt o v L hL) gD,h.excl,?_,?_⟩
 ·intro o' gH C hg;by_cases e:o'=o
  ·subst e;rw[Heap.get_put_same]at hg;cases hg;exact gF
  ·have gC:o'<H.next:=C;rw[Heap.get_put_ne H ob e]at hg;exact (h.obj _ _ C hg).frame (CM.le_refl gG) (λv L hL=>hL) (λv L hL=>gE _ _ _ e hL)
 ·intro o' c len gg ro C hg v L hL;by_cases e:o'=o
  ·subst e;rw[Heap.get_put_same]at hg;cases hg;exact gB _ _ _ _ rfl v L hL
  ·have gC:o'<H.next:=C;rw[Heap.get_put_ne H ob e]at hg;exact h.top _ _ _ _ _ C hg _ _ hL
def Rel.drew{w0:World}{C:CM}{H:Heap}{w:World}(h:Rel w0 C H w):Rel w0 C H w.drew :=
 ⟨h.nx,h.low.drew,h.fresh,h.lt,h.excl,λo ob ho hg=>(h.obj o ob ho hg).frame (CM.le_refl C) (λ_ _ hL=>hL) (λ_ _ _=>rfl),h.top⟩
def z7w(B:Program)(w:World)(a:Addr):∀(n i:Nat) (g:Array Value) (r:List Value),r.length=n→(∀z,z<n→w.cell? (a.add (i+z))=r[z]?) →
  (loadCellsFrom a i n g).run B w=.ok (g++r.toArray) w
 |0,i,g,r,j,_=>by
  have:r=[]:=Is j;subst this;simp[loadCellsFrom]
 |n+1,i,g,r,j,h=>by
  cases r with
  |nil=>simp at j
  |cons v r =>
   have A:w.cell? (a.add i)=some v:=by simpa using h 0 J
   simp only[loadCellsFrom,Sem.run_bind,run_load,A,Result.andThen_ok];rw[z7w B w a n (i+1) (g.push v) r B0 (λz C=>by
    have:=h (z+1) J;rw[show i+1+z=i+(z+1) from J,this,Iv])]
   simp
def z8q(A:Program)(w:World)(a:Addr)(n:Nat)(r:List Value)(j:r.length=n)(h:∀g,g<n→w.cell? (a.add g)=r[g]?) :
  (loadCells a n).run A w=.ok r.toArray w:=by
 unfold loadCells;rw[z7w A w a n 0 #[] r j (λg z=>by rw[Jc];exact h g z)];simp
def kr(b d i g:Nat):(⟨b,d+i,none⟩:Addr).add g=⟨b,d+(i+g),none⟩:=by
 unfold Addr.add;by_cases h:g=0
 ·subst h;simp
 ·rw[Ii h];simp[Je]
def fi{w:World}{b i:Nat}{vs:Array Value}{e:TypeId}{g:Nat×Nat}(h:w.heap[b]?=some (.cells vs e g)):w.cell? ⟨b,i,none⟩=vs[i]?:=by
 simp[World.cell?,h]
def Rel.read{w0:World}{C:CM}{H:Heap}{w:World}(h:Rel w0 C H w)(P:Program){o v i n:Nat}{l:List AV}(hr:Pt H o v i n=some l){L:Loc}(hL:C o v=some L) :
  ∃vs:List Value,(loadCells ⟨L.b,L.d+i,none⟩ n).run P w=.ok vs.toArray w∧VRs C l vs∧(∀a∈l,a.one=true)∧l.length=n∧i+n≤L.n ∧
   (∀j,j<n→w.cell? ⟨L.b,L.d+(i+j),none⟩=vs[j]?):=by
 unfold Pt at hr;split at hr
 ·rename_i c len gF ro hg;split at hr
  ·rename_i hv;have gB:=Ig hv;subst gB;split at hr
   ·rename_i hle;have gE:i+n≤len:=In hle;have gC:=h.obj o _ (h.fresh _ _ _ hL) hg;obtain⟨h1,_,h3,vs,e,lo,hi,h4,h5,h6,h7⟩:=gC L hL;obtain⟨k1,k2⟩:=d7 hr;have hex:∀j,j<n→∃a,l[j]?=some a∧a.one=true∧∃x,vs[L.d+(i+j)]?=some x∧VR C a x:=by
     intro j hj;obtain⟨a,q1,q2,x,q3,q4⟩:=h7 (i+j) J;exact⟨a,by rw[←k2 j hj];exact q1,q2,x,q3,q4⟩
    have gG:L.d+(i+n)≤vs.size:=J
    let r:List Value:=(List.range n).map λj=>vs.getD (L.d+(i+j)) undef
    have gD:r.length=n:=by simp[r]
    have gg:∀j,j<n→vs[L.d+(i+j)]?=r[j]?:=by
     intro j hj;simp only[r,Ks,List.getElem?_range hj,Jw];rw[Jh J,Jb,Jh J];rfl
    refine⟨r,?_,?_,?_,k1,J,?_⟩
    ·exact z8q P w _ n r gD (λj hj=>by rw[kr,fi h4];exact gg j hj)
    ·refine VRs.mk J (λj a hj=>?_);have gj:j<n:=by have:=(H7.1 hj).1;omega
     obtain⟨a',q1,_,x,q3,q4⟩:=hex j gj;rw[hj]at q1;cases q1;exact⟨x,by rw[←gg j gj];exact q3,q4⟩
    ·intro a ha;obtain⟨j,hj,rfl⟩:=List.getElem_of_mem ha;obtain⟨a',q1,q2,_⟩:=hex j J;rw[Ib hj]at q1;cases q1;exact q2
    ·intro j hj;rw[fi h4];exact gg j hj
   ·cases hr
  ·cases hr
 ·cases hr
def z7m(P:Program)(a:Addr):∀(r:List Value) (i:Nat) (w:World) (A:Array Value) (e:TypeId) (B hi:Nat),a.spot=none→w.heap[a.block]?=some (.cells A e (B,hi)) →
  (∀v∈r,v.oneCell'=true)→a.off+i+r.length≤A.size→(∀z,a.off+i≤z→z<a.off+i+r.length→¬(B≤z∧z<hi)) →
  ∃w' j,(storeCells a r i).run P w=.ok () w'∧w'.heap[a.block]?=some (.cells j e (B,hi))∧j.size=A.size∧(∀k,k≠a.block→w'.heap[k]?=w.heap[k]?) ∧
   w'.heap.size=w.heap.size∧w'.os=w.os∧w'.tape=w.tape∧w'.output=w.output∧(∀z,j[z]?=if a.off+i≤z∧z<a.off+i+r.length then r[z-(a.off+i)]? else A[z]?)
 |[],i,w,A,e,B,hi,_,E,_,_,_=>by
  refine⟨w,A,rfl,E,rfl,λ_ _=>rfl,rfl,rfl,rfl,rfl,λz=>?_⟩;rw[Ii N]
 |v::r,i,w,A,e,B,hi,Q,E,M,H,I=>by
  simp only[Iy]at H I;have g:a.add i=⟨a.block,a.off+i,none⟩:=by
   unfold Addr.add;by_cases h:i=0
   ·subst h;simp;cases a;simp_all
   ·rw[Ii h]
  have C : w.cell? (a.add i) = some (A[a.off + i]' J) := by
   rw[g,fi E,Jh]
  have K:w.frozen? (a.add i)=false:=by
   rw[g];simp only[World.frozen?,E];have:=I (a.off+i) J J;simp only[Bool.and_eq_false_iff,Me];omega
  have F:(store (a.add i) v).run P w=.ok () (w.setCell (a.add i) v):=by
   rw[run_store P w _ v .plain (M v N),C];simp[K]
  have G:(w.setCell (a.add i) v).heap[a.block]?=some (.cells (A.setIfInBounds (a.off+i) v) e (B,hi)):=by
   rw[g];simp only[World.setCell,Array.getElem?_modify,K7,E,Jw];simp
  obtain⟨w',j,R,S,T,U,V,X,Y,Z,h9⟩:=z7m P a r (i+1) (w.setCell (a.add i) v) _ e B hi Q G (λx hx=>M x (by simp[hx]))
   (by rw[Mc];omega) (λz L D=>I z J J)
  refine⟨w',j,?_,S,by rw[T,Mc],?_,?_,X,Y,Z,?_⟩
  ·simp only[storeCells,Sem.run_bind,F,Result.andThen_ok];exact R
  ·intro k O;rw[U k O];exact Below.heap_setCell w (a.add i) v k (by rw[g];exact O)
  ·rw[V,World.size_setCell]
  ·intro z;rw[h9 z];by_cases L:a.off+(i+1)≤z∧z<a.off+(i+1)+r.length
   ·rw[Ij L,Ij B5];have:z-(a.off+i)=(z-(a.off+(i+1)))+1:=J
    rw[this,Iv]
   ·rw[Ii L,Mr];by_cases D:a.off+i=z
    ·subst D;rw[Ij rfl,Ij J,Ij B5];simp
    ·rw[Ii D,Ii B5]
def VRs.get'{C:CM}{l:List AV}{r:List Value}(h:VRs C l r){i:Nat}(hi:i<l.length):∃a v,l[i]?=some a∧r[i]?=some v∧VR C a v:=by
 obtain⟨v,h1,h2⟩:=h.get (Ib hi);exact⟨_,v,Ib hi,h1,h2⟩
def VRs.one{C:CM}:∀{l:List AV} {r:List Value},VRs C l r→(∀a∈l,a.one=true)→∀v∈r,v.oneCell'=true
 |_,_,.nil,_,v,hv=>by simp at hv
 |_,_,.cons e es,h,v,hv=>by
  rcases Ik.1 hv with rfl|hv
  ·rw[e.one];exact h _ N
  ·exact VRs.one es (λa ha=>h a (by simp[ha])) v hv
def Xt.lay{C:CM}{c:Tr AV}{len:Nat}{vs gg:Array Value}{d i:Nat}{l:List AV}{r:List Value}(h:Xt C c len vs d)(hv:VRs C l r)(h1:∀a∈l,a.one=true)
  (hi:i≤len) (_hle:i+l.length≤j) (gC:j≤len∨j=i+l.length)
  (gB:∀gD,gg[gD]?=if d+i≤gD∧gD<d+i+r.length then r[gD-(d+i)]? else vs[gD]?):Xt C (Pp l i c) j gg d:=by
 intro k hk;rw[get_ofList l i c k];have hlen:=hv.length;rw[gB];by_cases gj:i≤k∧k<i+l.length
 ·rw[Ij gj,Ij J];obtain⟨a,v,q1,q2,q3⟩:=hv.get' (i:=k-i) J;refine⟨a,q1,h1 a (Jd q1),v,?_,q3⟩;rw[show d+k-(d+i)=k-i from J];exact q2
 ·rw[Ii gj,Ii J];exact h k J
def Rel.write{w0:World}{C:CM}{H H':Heap}{w:World}(h:Rel w0 C H w)(P:Program){o v i:Nat}{l:List AV}(hw:Up H o v i l=some H'){L:Loc}(hL:C o v=some L)
  {r:List Value} (hr:VRs C l r) (h1:∀a∈l,a.one=true):∃w',(storeCells ⟨L.b,L.d+i,none⟩ r).run P w=.ok () w'∧Rel w0 C H' w':=by
 unfold Up at hw;split at hw
 ·rename_i c len gH hg;split at hw
  ·rename_i hv;have gj:=Ig hv;subst gj;split at hw
   ·rename_i hle;have gg:i+l.length≤len:=In hle;cases hw;have ho:=h.fresh _ _ _ hL;have gB:=h.obj o _ ho hg;obtain⟨q1,q2,q3,vs,e,lo,hi,q4,q5,q6,q7⟩:=gB L hL;have gI:=hr.length;obtain⟨w',gC,k1,k2,k3,k4,k5,k6,k7,k8,k9⟩:=z7m P ⟨L.b,L.d+i,none⟩ r 0 w vs e lo hi rfl q4 (hr.one h1) B9 (λgK hj gD=>by dsimp at hj gD;exact q6 gK J J);refine⟨w',k1,h.put ho _ ?_ J ?_ ?_ ?_⟩
    ·exact h.low.trans ⟨k6,k7,k8,J,λk hk=>k4 k (by dsimp;have:=q2 rfl;omega)⟩
    ·intro o' v' L' gE j;refine k4 _ (λe'=>gE ?_);exact (h.excl _ _ _ _ _ _ hL j e'.symm (q2 rfl)).symm
    ·intro L' j;rw[hL]at j;cases j;refine⟨q1,q2,q3,gC,e,lo,hi,k2,J,q6,q7.lay hr h1 J gg (.inl (If _)) (λgK=>?_)⟩;rw[k9 gK];rfl
    ·intro c' gF gG gL he v' L' j;cases he;exact h.top _ _ _ _ _ ho hg _ _ j
   ·cases hw
  ·cases hw
 ·cases hw
def Rel.newRow{w0:World}{C:CM}{H H':Heap}{w:World}(h:Rel w0 C H w){l:List AV}{o:Nat}(hn:newObj H l=some (o,H'))(e:TypeId)(fz:Nat×Nat){vs:Array Value}
  (hle:l.length≤vs.size) (hv:VRs C l (vs.toList.take l.length)) (h1:∀a∈l,a.one=true) (gj:∀i,i<vs.size→¬(fz.1≤i∧i<fz.2)) :
  ∃C',C.le C'∧Rel w0 C' H' (w.alloc (.cells vs e fz))∧C' o 0=some ⟨w.heap.size,0,l.length,vs.size⟩:=by
 unfold Sv.newObj at hn;cases hn;have gg:C.le (C.ext H.next 0 ⟨w.heap.size,0,l.length,vs.size⟩):=CM.le_ext _ (h.next_none 0) (.inr (Lu h.nx));refine⟨C.ext H.next 0 ⟨w.heap.size,0,l.length,vs.size⟩,gg,(h.push _ _ l.length vs.size ?_).1,CM.ext_same _ _ _ _⟩;intro L hL;rw[CM.ext_same]at hL;cases hL;refine⟨rfl,λ_=>h.low.size,B9,vs,e,fz.1,fz.2,Xv _ _,If _,λi _ hi=>gj i hi,?_⟩;intro k hk;rw[get_ofList l 0 .e k,Ij J];obtain⟨a,v,q1,q2,q3⟩:=hv.get' (i:=k) hk;refine⟨a,by simpa using q1,h1 a (Jd q1),v,?_,q3.mono gg⟩;rw[I4 hk]at q2;simpa using q2
end
section
open Go.RowKit (Below)
section sem
variable {P : Program} {w : World}
def Oa{t:TypeId}{d:TypeDesc}(h:P.underlying t=some d):(underlying t).run P w=.ok d w:=by
 simp[underlying,h]
def et{t:TypeId}{i:TypeInfo}(h:P.info? t=some i):(typeInfo t).run P w=.ok i w:=by
 simp[typeInfo,h]
def Sa{t:TypeId}{n:Nat}(h:Oz P t=some n):(sizeOf t).run P w=.ok n w:=by
 unfold Oz at h;cases hi:P.info? t with
 |none=>simp[hi]at h
 |some i=>simp only[hi,Jw,Option.some.injEq]at h;simp[sizeOf,et hi,h]
def ye{t:TypeId}{b:Bool}(h:Sc P t=some b):(isAgg t).run P w=.ok b w:=by
 unfold Sc at h;cases hu:P.underlying t with
 |none=>simp[hu]at h
 |some d=>cases d<;>simp[hu]at h<;>subst h<;>simp[isAgg,Oa hu]
def na{t:TypeId}{l:List AV}(h:R5 P t=some l):∃v i,(zeroValue t).run P w=.ok v w∧S9 v.cells.toList=some l∧P.info? t=some i∧l.length=i.size:=by
 unfold R5 at h;cases hi:P.info? t with
 |none=>simp[hi]at h
 |some i =>
  simp only[hi]at h;cases g:i.zero with
  |none=>simp[g]at h
  |some v =>
   simp only[g]at h;cases j:S9 v.cells.toList with
   |none=>simp[j]at h
   |some r =>
    simp only[j]at h;split at h
    ·cases h;rename_i z;exact⟨v,i,El,j,rfl,z⟩
    ·cases h
def zmf{t:TypeId}{a:AV}(h:qh P t=some a):∃v,(zeroValue t).run P w=.ok v w∧Vp v=some a:=by
 unfold qh at h;cases hi:P.info? t with
 |none=>simp[hi]at h
 |some i =>
  simp only[hi]at h;cases g:i.zero with
  |none=>simp[g]at h
  |some v=>simp only[g]at h;exact⟨v,El,h⟩
end sem
def pk(g:CM)(j:Tr AV)(z:Operand→Value):Prop:=∀x a,(Nk x).run j=some a→VR g a (z x)
def ut{n:Nat}{E:Tr AV}{a:Act}(h:ER n I E a.tmps):pk I E a.eval:=by
 intro x A g;cases x with
 |tmp t =>
  unfold Nk at g;dsimp only at g;split at g
  ·rename_i j;have:=h.2.2 t (In j);dsimp only at g;show VR I A (a.tmps.getD t undef);cases z:M8 (Nh t) E with
   |none=>rw[z]at g this;cases g;rw[show a.tmps.getD t undef=undef from this];exact .tup .nil
   |some b=>rw[z]at g this;cases g;exact this
  ·cases g
 |const v =>
  unfold Nk at g;dsimp only at g;split at g
  ·rename_i b j;cases g;exact zgz j
  ·cases g
 |global B=>cases g
 |func f=>cases g;exact .fn (.same _ (λl e=>Aq)) .nil .nil
def ur{B:CM}{C:Tr AV}{D:Operand→Value}(h:pk B C D):∀{j:List Operand} {l:List AV},(opds j).run C=some l→VRs B l (j.map D)
 |[],l,g=>by cases g;exact .nil
 |x::j,l,g=>by
  unfold opds at g;dsimp only at g;split at g
  ·cases g
  ·rename_i a z;split at g
   ·cases g
   ·rename_i r A;cases g;exact .cons (h _ _ z) (ur h A)
def Zu(P:Program)(A:World)(C:CM)(w:World)(z:Sem Next)(v:AV)(B:Heap):Prop :=
 ∃g j x,C.le g∧Rel A g B j∧VR g v x∧(z.run P w=.ok (.value x) j∨(z.run P w=.ok .skip j∧x=undef))
def we(P:Program)(A:CM)(w:World)(z:Sem Next)(t:Tgt)(g:List AV):Prop :=
 ∃j:List Value,VRs A g j∧((∃f,t=.fn f∧z.run P w=.ok (.enter f j.toArray) w)∨(∃l B,t=.yield l∧A l 0=some B∧z.run P w=(Instr.yield B.b j.toArray).run P w))
def Q4(P:Program)(z:World)(C:CM)(w:World)(j:Sem Next):OR→Prop
 |.no=>True
 |.val v A=>Zu P z C w j v A
 |.call t g=>we P C w j t g
def Nt(P:Program)(f:OpF)(nx:(Operand→Value)→Sem Next):Prop :=
 ∀g j z w A B,Rel g j z w→pk j A B→Q4 P g j w (nx B) (f.run A z)
def N6(P:Program)(nx:(Operand→Value)→Sem Next):Nt P Nw nx:=λ_ _ _ _ _ _ _ _=>trivial
def Sj{P:Program}{x:Operand}{f:Heap→AV→OR}{nx:(Operand→Value)→Sem Next}
  (h:∀g C j w z a,Rel g C j w→VR C a (z x)→Q4 P g C w (nx z) (f j a)):Nt P (Pq x f) nx:=by
 intro g C j w E z A B;show Q4 P g C w (nx z) (Option.rec OR.no (λa=>f j a) ((Nk x).run E));cases D:(Nk x).run E with
 |none=>exact trivial
 |some a=>exact h _ _ _ _ _ _ A (B _ _ D)
def Xo{P:Program}{x y:Operand}{f:Heap→AV→AV→OR}{nx:(Operand→Value)→Sem Next}
  (h:∀g C A w j a b,Rel g C A w→VR C a (j x)→VR C b (j y)→Q4 P g C w (nx j) (f A a b)):Nt P (Ss x y f) nx:=by
 intro g C A w B j D z;show Q4 P g C w (nx j) (Option.rec OR.no (λa=>Option.rec OR.no (λb=>f A a b) ((Nk y).run B)) ((Nk x).run B));cases E:(Nk x).run B with
 |none=>exact trivial
 |some a =>
  cases F:(Nk y).run B with
  |none=>exact trivial
  |some b=>exact h _ _ _ _ _ _ _ D (z _ _ E) (z _ _ F)
def Pj{P:Program}{C:CM}{w:World}{nx:Sem Next}{v:AV}{x:Value}(j:Rel E C X w)(z:VR C v x)(g:nx.run P w=.ok (.value x) w) :
  Zu P E C w nx v X:=⟨C,w,x,CM.le_refl C,j,z,.inl g⟩
def zje(P:Program)(x:Operand):Nt P (Pq x λz a=>.val a z) (λA=>pure (.value (A x))) :=
 Sj λ_ _ _ _ _ _ g j=>Pj g j rfl
def zt0(P:Program)(c a b:Operand):Nt P (N5 P (.pick c a b)) (λC=>do pure (.value (if ←asBool (C c) then C a else C b))):=by
 intro F K I w D C E z;show Q4 P F K w _ (match (Nk c).run D with
  |some (.bool true)=>ret1 I ((Nk a).run D)
  |some (.bool false)=>ret1 I ((Nk b).run D)
  |_=>.no)
 split
 ·rename_i A;have g:=z _ _ A;cases G:(Nk a).run D with
  |none=>exact trivial
  |some v =>
   have B:=z _ _ G;refine Pj E B ?_;cases j:C c<;>rw[j]at g<;>cases g;simp[asBool,j]
 ·rename_i A;have g:=z _ _ A;cases H:(Nk b).run D with
  |none=>exact trivial
  |some v =>
   have B:=z _ _ H;refine Pj E B ?_;cases j:C c<;>rw[j]at g<;>cases g;simp[asBool,j]
 ·exact trivial
def znn{P:Program}{C:CM}{w:World}(H:Rel E C X w)(t:TypeId){l:List AV}(F:VRs C l v6.toList)(I:∀a∈l,a.one=true)
  {G:Sem Next} (j:G.run P w=.ok (.value (.pointer (some ⟨w.heap.size,0,none⟩))) (w.alloc (.cells v6 t))):Q4 P E C w G (Vm X l):=by
 unfold Vm;cases K:newObj X l with
 |none=>exact trivial
 |some r =>
  obtain⟨o,M⟩:=r;have g:l.length=v6.toList.length:=F.length;have z:l.length=v6.size:=B3
  obtain⟨L,A,B,D⟩:=H.newRow K t (0,0) (vs:=v6) J (by rw[g,Ls];exact F) I N;exact⟨L,_,_,A,B,by simpa using VR.ptr (i:=0) D,.inl j⟩
def zpt(P:Program)(t:TypeId):Nt P (N5 P (.alloc t)) (λ_=>do pure (.value (←Instr.alloc t true (.tuple #[])))):=by
 intro g G j w H M z I;show Q4 P g G w _ (OpF.run (match R5 P t with
  |some l=>⟨λ_ j=>Vm j l⟩
  |none=>Nw) H j)
 cases A:R5 P t with
 |none=>exact trivial
 |some l =>
  obtain⟨v,i,B,D,K,L⟩:=na (w:=w) A;obtain⟨E,F⟩:=Wd (C:=G) D;refine znn z t E F ?_;simp[Instr.alloc,B,newVar,newRow]
def zul(P:Program)(t:TypeId)(x:Operand):Nt P (N5 P (.box t x)) (λC=>do pure (.value (←Instr.box t (C x)))):=by
 refine Sj λD E F w C a g j=>?_
 cases z:a.cells with
 |none=>exact trivial
 |some l =>
  obtain⟨A,B⟩:=j.cells z;exact znn g t A B (by simp[Instr.box,newVar,newRow])
def ztn(P:Program)(t:TypeId)(x:Operand):Nt P (sk P t x) (λF=>do pure (.value (←Instr.loadAt t (F x)))):=by
 unfold sk;split
 ·rename_i n A G;refine Sj λK R S w F a g j=>?_
  split
  ·rename_i o v i;split
   ·rename_i l B;generalize L:F x=M at j;cases j with
    |ptr C =>
     obtain⟨D,H,E,I,O,_⟩:=g.read P B C;refine Pj g (.agg (vs:=D.toArray) Cq I) ?_;simp[Instr.loadAt,Instr.sureAddr,loadVar,ye A,Sa G,H]
   ·exact trivial
  ·exact trivial
 ·rename_i n A G;refine Sj λK R S w F a g j=>?_
  split
  ·rename_i o v i;split
   ·rename_i c B;generalize L:F x=M at j;cases j with
    |ptr C =>
     obtain⟨D,H,E,I,O,T,Q⟩:=g.read P B C;have z:=Q 0 J
     match D,E with
     |[u],.cons hu .nil =>
      refine Pj g hu ?_;simp only[Lv,It]at z;simp[Instr.loadAt,Instr.sureAddr,loadVar,ye A,z]
   ·exact trivial
  ·exact trivial
 ·exact N6 P _
def zpc(P:Program)(t:TypeId)(x y:Operand):Nt P (znm P t x y) (λj=>do Instr.storeAt t (j x) (j y);pure .skip):=by
 unfold znm;split
 ·rename_i n B;refine Xo λO M T w j a b C z D=>?_
  split
  ·rename_i o v i;split
   ·rename_i l E;split
    ·rename_i F;split
     ·rename_i Q hw;generalize R:j x=S at z;cases z with
      |ptr G =>
       obtain⟨A,H⟩:=D.cells E;obtain⟨I,K,L⟩:=C.write P hw G A H;refine⟨M,I,undef,CM.le_refl M,L,.tup .nil,.inr ⟨?_,rfl⟩⟩;have g:(j y).cells.size=n:=by have:=A.length;have:=Ig F;simp at *;omega
       simp[Instr.storeAt,Instr.sureAddr,storeVar,Sa B,g,K]
     ·exact trivial
    ·exact trivial
   ·exact trivial
  ·exact trivial
 ·exact N6 P _
def zj1(P:Program)(x:Operand)(o:Oper)(A:o.op=.nilCheck x):Nt P (Pq x sy) (λD=>execOp D o):=by
 refine Sj λF G H w D a B j=>?_
 unfold sy;split
 ·generalize z:D x=C at j;have g:=j;cases j with
  |ptr E=>exact Pj B g Dw
 ·generalize z:D x=C at j;have g:=j;cases j with
  |iface h=>exact Pj B g Dw
 ·generalize z:D x=C at j;have g:=j;cases j with
  |fn h=>cases h with
   |same=>exact Pj B g Dw
 ·generalize z:D x=C at j;have g:=j;cases j with
  |map E=>exact Pj B g Dw
 ·exact trivial
end
section
open Go.RowKit (Below)
def z6t{k g:IntKind}(h:Wc k g=true):k=g:=by
 cases k<;>cases g<;>first|rfl|(exact absurd h Ad)
def oi(a b:Int):ji a b=(a==b):=by
 cases a<;>cases b
 ·rename_i x y;show Nat.beq x y=_;rw[Jn];simp[Nat.beq_eq];omega
 ·show false=_;symm;rw[beq_eq_false_iff_ne];intro h;cases h
 ·show false=_;symm;rw[beq_eq_false_iff_ne];intro h;cases h
 ·rename_i x y;show Nat.beq x y=_;rw[Jn];simp[Nat.beq_eq]
def Ru{a b:Nat}:Nat.blt a b=decide (a<b):=by
 rw[Jn];simp[Nat.blt,Nat.ble_eq];omega
def ff(a b:Int):mw a b=decide (a<b):=by
 cases a<;>cases b
 ·rename_i x y;show Nat.blt x y=_;rw[Ru,Lp];simp
 ·rename_i x y;show false=_;symm;rw[Me];have:=Int.negSucc_lt_zero y;simp;omega
 ·rename_i x y;show true=_;symm;rw[decide_eq_true_iff];have:=Int.negSucc_lt_zero x;simp;omega
 ·rename_i x y;show Nat.blt y x=_;rw[Ru,Lp];omega
def z78(k:IntKind):2^k.bits=T6 k:=by cases k<;>rfl
def Xj(k:IntKind)(n:Int):T8 k n=k.wrap n:=by
 cases n with
 |negSucc m=>rfl
 |ofNat m =>
  unfold T8;dsimp only;split
  ·rename_i h;have g:m<Vu k:=by rw[Ru]at h;simpa using h
   cases k<;>simp only[Vu]at g<;>simp only[IntKind.wrap,IntKind.bits,IntKind.signed]<;>simp<;>omega
  ·rfl
def zrq(b:Int):X6 b=true↔b=0:=by
 cases b with
 |ofNat n=>simp[X6,Nat.beq_eq]
 |negSucc n=>simp[X6]
section bits
variable {k : IntKind} {x y : Nat}
def m8(w x:Nat):BitVec.ofInt w (Int.ofNat x)=BitVec.ofNat w x:=by
 show BitVec.ofInt w ((x:Nat):Int)=_;exact BitVec.ofInt_natCast w x
def cm(g:x<T6 k)(j:y<T6 k):(BitVec.ofInt k.bits (Int.ofNat x) &&& BitVec.ofInt k.bits (Int.ofNat y)).toNat=Nat.land x y:=by
 rw[←z78]at g j;rw[m8,m8,BitVec.toNat_and,Ly,Ly,J8 g,J8 j];rfl
def gu(g:x<T6 k)(j:y<T6 k):(BitVec.ofInt k.bits (Int.ofNat x) ||| BitVec.ofInt k.bits (Int.ofNat y)).toNat=Nat.lor x y:=by
 rw[←z78]at g j;rw[m8,m8,BitVec.toNat_or,Ly,Ly,J8 g,J8 j];rfl
def Zf(g:x<T6 k)(j:y<T6 k):(BitVec.ofInt k.bits (Int.ofNat x) ^^^ BitVec.ofInt k.bits (Int.ofNat y)).toNat=Nat.xor x y:=by
 rw[←z78]at g j;rw[m8,m8,BitVec.toNat_xor,Ly,Ly,J8 g,J8 j];rfl
def zqg(g:x<T6 k)(_hy:y<T6 k) :
  (BitVec.ofInt k.bits (Int.ofNat x) &&& ~~~(BitVec.ofInt k.bits (Int.ofNat y))).toNat=Nat.xor x (Nat.land x y):=by
 rw[←z78]at g;rw[m8,m8];apply Nat.eq_of_testBit_eq;intro i;rw[BitVec.testBit_toNat,BitVec.getLsbD_and,BitVec.getLsbD_not,BitVec.getLsbD_ofNat,BitVec.getLsbD_ofNat];show _=(x ^^^ (x &&& y)).testBit i;rw[Nat.testBit_xor,Nat.testBit_and];by_cases hi:i<k.bits
 ·simp only[hi,decide_true,Kg];cases x.testBit i<;>cases y.testBit i<;>rfl
 ·have:x.testBit i=false:=Nat.testBit_lt_two_pow (Ix g (Ll J J));simp[this,hi]
end bits
def zhh(a b:Nat):Pr a b=min a b:=by
 unfold Pr;split
 ·rename_i h;have:=In h;omega
 ·rename_i h;have:¬a≤b:=λg=>by rw[Ih g]at h;cases h
  omega
def zbl{P:Program}{w:World}{f:Nat→Nat→Nat}{op:BinOp}{k:IntKind}{a b:Int}{v:AV}(h:Xm f k a b=some v)
  (z:∀x y:Nat,x<T6 k→y<T6 k→(Op.intBits op k (Int.ofNat x) (Int.ofNat y)).run P w=.ok (.int k (k.wrap (Int.ofNat (f x y)))) w) :
  ∃n,v=.int k n∧(Op.intBits op k a b).run P w=.ok (.int k n) w:=by
 unfold Xm at h;split at h
 ·rename_i x y;split at h
  ·rename_i g;split at h
   ·rename_i j;cases h;rw[Ru]at g j;exact⟨_,rfl,by rw[z x y B3 B0,Xj]⟩
   ·cases h
  ·cases h
 ·cases h
def zue(P:Program)(w:World){op:BinOp}{k:IntKind}{a b:Int}{v:AV}(t:TypeId)(h:u7 op k a b=some v) :
  ∃x,(binOp op t (.int k a) (.int k b)).run P w=.ok x w∧∀g,VR g v x:=by
 cases op<;>simp only[u7]at h
 case add=>cases h;exact⟨_,Dv,λg=>Dg⟩
 case sub=>cases h;exact⟨_,Dv,λg=>Dg⟩
 case mul=>cases h;exact⟨_,Dv,λg=>Dg⟩
 case quo =>
  split at h
  ·cases h
  ·rename_i B;cases h;have C:b≠0:=λe=>by rw[(zrq b).2 e]at B;cases B
   exact⟨.int k (k.wrap (a.tdiv b)),by simp[binOp,Op.intDiv,C],λg=>Dg⟩
 case rem =>
  split at h
  ·cases h
  ·rename_i B;cases h;have C:b≠0:=λe=>by rw[(zrq b).2 e]at B;cases B
   exact⟨.int k (a.tmod b),by simp[binOp,Op.intDiv,C],λg=>.int k _⟩
 case and =>
  obtain⟨n,rfl,j⟩:=zbl (P:=P) (w:=w) (op:=.and) h (λx y z A=>by simp only[Op.intBits,cm z A];rfl);exact⟨_,De,λg=>.int k n⟩
 case or =>
  obtain⟨n,rfl,j⟩:=zbl (P:=P) (w:=w) (op:=.or) h (λx y z A=>by simp only[Op.intBits,gu z A];rfl);exact⟨_,De,λg=>.int k n⟩
 case xor =>
  obtain⟨n,rfl,j⟩:=zbl (P:=P) (w:=w) (op:=.xor) h (λx y z A=>by simp only[Op.intBits,Zf z A];rfl);exact⟨_,De,λg=>.int k n⟩
 case andNot =>
  obtain⟨n,rfl,j⟩:=zbl (P:=P) (w:=w) (op:=.andNot) h (λx y z A=>by simp only[Op.intBits,zqg z A];rfl);exact⟨_,De,λg=>.int k n⟩
 case eql=>cases h;exact⟨_,Ea,λg=>by rw[oi];exact .bool _⟩
 case neq=>cases h;exact⟨.bool (a != b),E5,λg=>by rw[oi];exact .bool _⟩
 case lss=>cases h;exact⟨_,Ea,λg=>by rw[ff];exact .bool _⟩
 case gtr=>cases h;exact⟨_,Ea,λg=>by rw[ff];exact .bool _⟩
 case leq =>
  cases h;refine⟨.bool (decide (a≤b)),E5,λg=>?_⟩;rw[ff,show (!decide (b<a))=decide (a≤b) from by rw[Jn];simp];exact .bool _
 case geq =>
  cases h;refine⟨.bool (decide (a ≥ b)),E5,λg=>?_⟩;rw[ff,show (!decide (a<b))=decide (a ≥ b) from by rw[Jn];simp];exact .bool _
 all_goals cases h
def zh5(A:Program)(w:World){op:BinOp}(g:op=.shl∨op=.shr){k j:IntKind}{a b:Int}{v:AV}(t:TypeId)(h:zok op k a b=some v) :
  ∃x,(binOp op t (.int k a) (.int j b)).run A w=.ok x w∧∀z,VR z v x:=by
 unfold zok at h;split at h
 ·rename_i x y;rcases g with rfl|rfl
  ·simp only[Option.some.injEq]at h;subst h;refine⟨.int k (k.wrap (Int.ofNat x*2^(min y k.bits))),?_,λz=>?_⟩
   ·have:¬((Int.ofNat y)<0):=N
    simp only[binOp,Op.shift];rw[Ii this];rfl
   ·rw[Xj,zhh];have:Int.ofNat (x.mul (Nat.pow 2 (min y k.bits)))=Int.ofNat x*2^(min y k.bits):=by
     show ((x*2^(min y k.bits):Nat):Int)=_;simp
    rw[this];exact .int k _
  ·simp only[Option.some.injEq]at h;subst h;refine⟨.int k ((Int.ofNat x).fdiv (2^(min y k.bits))),?_,λz=>?_⟩
   ·have:¬((Int.ofNat y)<0):=N
    simp only[binOp,Op.shift];rw[Ii this];rfl
   ·rw[zhh];have:Int.ofNat (x.div (Nat.pow 2 (min y k.bits)))=(Int.ofNat x).fdiv (2^(min y k.bits)):=by
     show ((x/2^(min y k.bits):Nat):Int)=((x:Nat):Int).fdiv (2^(min y k.bits));have e:((2:Int)^(min y k.bits))=((2^(min y k.bits):Nat):Int):=N
     rw[e,Int.fdiv_eq_ediv_of_nonneg _ (Jq _)];rfl
    rw[this];exact .int k _
 ·cases h
end
section
open Go.RowKit (Below)
def packL_append:∀a b:List UInt8,Oy (a++b)=Oy a+Oy b*256^a.length
 |[],b=>by simp[Oy]
 |x::a,b=>by
  simp only[Jl,Oy,packL_append a b,Iy,Nat.pow_succ];rw[Nat.mul_add,Je,L9 (256^a.length) 256,Nat.mul_left_comm 256]
def packL_inj:∀{a b:List UInt8},a.length=b.length→Oy a=Oy b→a=b
 |[],[],_,_=>rfl
 |[],_::_,h,_=>B1
 |_::_,[],h,_=>B1
 |x::a,y::b,h,k=>by
  simp only[Oy]at k;have z:=x.toNat_lt;have A:=y.toNat_lt;have g:x.toNat=y.toNat:=J
  have j:Oy a=Oy b:=J
  rw[packL_inj Bb j,UInt8.toNat_inj.1 g]
def packL_drop:∀(i:Nat) (l:List UInt8),Oy (l.drop i)=Oy l/256^i
 |0,l=>N
 |i+1,[]=>by simp[Oy]
 |i+1,b::l=>by
  rw[Ln,packL_drop i l];have g:=b.toNat_lt;simp only[Oy,Nat.pow_succ];rw[L9 (256^i) 256,←Nat.div_div_eq_div_mul]
  congr 1
  omega
def packL_take:∀(i:Nat) (l:List UInt8),Oy (l.take i)=Oy l%256^i
 |0,l=>by simp[Oy,Nat.mod_one]
 |i+1,[]=>by simp[Oy]
 |i+1,b::l=>by
  rw[List.take_succ_cons];simp only[Oy];rw[packL_take i l,Nat.pow_succ,L9 (256^i) 256];have g:=b.toNat_lt;rw[Nat.mod_mul,Nat.add_mul_mod_self_left,J8 g,Nat.add_mul_div_left _ _ J,Nat.div_eq_of_lt g,Jc]
def zha{l:List UInt8}{i:Nat}{b:UInt8}(h:l[i]?=some b):Oy l/256^i%256=b.toNat:=by
 rw[←packL_drop];have hi:=(H7.1 h).1;rw[Iz hi,Oy,(H7.1 h).2];have g:=b.toNat_lt;omega
def unpack_pack:∀l:List UInt8,Ur l.length (Oy l)=l.map (·.toNat)
 |[]=>rfl
 |b::l=>by
  have z:=b.toNat_lt;simp only[Iy,Ur,Oy,Kn];have g:Nat.mod (b.toNat+256*Oy l) 256=b.toNat:=by show (b.toNat+256*Oy l)%256=_;omega
  have j:Nat.div (b.toNat+256*Oy l) 256=Oy l:=by show (b.toNat+256*Oy l)/256=_;omega
  rw[g,j,unpack_pack l]
def less_spec:∀a b:List UInt8,Op.bytesLess a b=er (a.map (·.toNat)) (b.map (·.toNat))
 |_,[]=>by simp[Op.bytesLess,er]
 |[],_::_=>by simp[Op.bytesLess,er]
 |x::a,y::b=>by
  simp only[Op.bytesLess,er,Kn,less_spec a b,Ru];have g:decide (x<y)=decide (x.toNat<y.toNat):=by rw[Lp];exact UInt8.lt_iff_toNat_lt
  have j:(x==y)=Nat.beq x.toNat y.toNat:=by
   rw[Jn];simp[Nat.beq_eq,UInt8.toNat_inj]
  rw[g,j]
def zf3{a b:ByteArray}:(a.toList==b.toList)=(Nat.beq a.data.toList.length b.data.toList.length&&Nat.beq (Oy a.data.toList) (Oy b.data.toList)):=by
 rw[ByteArray.toList_eq,ByteArray.toList_eq,Jn];simp only[Ml,H9,Nat.beq_eq];exact⟨λh=>by rw[h];exact⟨rfl,rfl⟩,λ⟨g,j⟩=>packL_inj g j⟩
def zsv{a b:ByteArray}:Op.bytesLess a.toList b.toList=er (Ur a.data.toList.length (Oy a.data.toList)) (Ur b.data.toList.length (Oy b.data.toList)):=by
 rw[ByteArray.toList_eq,ByteArray.toList_eq,less_spec,unpack_pack,unpack_pack]
def zhm(a b:ByteArray):(a++b).data.toList=a.data.toList++b.data.toList:=by
 simp
def zt3(E:Program)(w:World){op:BinOp}{x y:ByteArray}{v:AV}(t:TypeId)
  (h:yq op x.data.toList.length (Oy x.data.toList) y.data.toList.length (Oy y.data.toList)=some v) :
  ∃u,(binOp op t (.string x) (.string y)).run E w=.ok u w∧∀A,VR A v u:=by
 have B:binOp op t (.string x) (.string y)=Op.stringOp op x y∨op=.shl∨op=.shr:=by cases op<;>simp[binOp]
 rcases B with B|rfl|rfl
 ·rw[B];have j:=zf3 (a:=x) (b:=y);have z:=zsv (a:=x) (b:=y);unfold Op.stringOp;cases op<;>simp only[yq]at h
  case add =>
   split at h
   ·rename_i C;cases h;have g:=In C;have D:x.size+y.size≤Nm:=g;refine⟨.string (x++y),?_,λA=>.str ?_ ?_⟩
    ·dsimp only;rw[Ii]
     ·rfl
     ·simp only[IntKind.max,IntKind.signed,IntKind.bits,K7];unfold Nm at D;omega
    ·rw[zhm,Im];rfl
    ·rw[zhm,packL_append];rfl
   ·cases h
  case eql=>cases h;exact⟨_,rfl,λA=>by rw[←j];exact .bool _⟩
  case neq=>cases h;exact⟨_,rfl,λA=>by rw[←j];exact .bool _⟩
  case lss=>cases h;exact⟨_,rfl,λA=>by rw[←z];exact .bool _⟩
  case leq=>cases h;exact⟨_,rfl,λA=>by rw[←z,←j];exact .bool _⟩
  case gtr=>cases h;exact⟨_,rfl,λA=>by rw[←z,←j];exact .bool _⟩
  case geq=>cases h;exact⟨_,rfl,λA=>by rw[←z];exact .bool _⟩
  all_goals cases h
 ·simp[yq]at h
 ·simp[yq]at h
end
section
open Go.RowKit (Below)
def zw3{l r:List AV}{n:Nat}(h:Wv l g n=some r)(z:VRs I l v6.toList)(A:∀a∈l,a.one=true) :
  VRs I r (v6.extract g (g+n)).toList∧(∀a∈r,a.one=true)∧r.length=n:=by
 unfold Wv at h;split at h
 ·rename_i B;have j:=In B;cases h;have e:(v6.extract g (g+n)).toList=(v6.toList.drop g).take n:=by
   rw[Array.toList_extract,List.extract_eq_take_drop,Lq]
  refine⟨by rw[e];exact (z.drop g).take n,λa C=>A a (J5 (Lm C)),?_⟩;have D:g+n≤l.length:=j;simp;omega
 ·cases h
def zeq{w:World}{t:TypeId}{n:Nat}(B:Sc z t=some O)(D:Oz z t=some n){l:List AV}{a:AV}(h:X3 O n l g=some a)
  (C:VRs I l v6.toList) (E:∀a∈l,a.one=true):∃v,(part t v6 g).run z w=.ok v w∧VR I a v:=by
 unfold X3 at h;cases O with
 |true =>
  simp only at h;cases j:Wv l g n with
  |none=>rw[j]at h;cases h
  |some r =>
   rw[j]at h;cases h;obtain⟨F,G,_⟩:=zw3 j C E;exact⟨_,by simp[part,ye B,Sa D],.agg F G⟩
 |false =>
  simp only at h;obtain⟨v,H,K⟩:=C.get h;have A:v6[g]?=some v:=Cv
  exact⟨v,by simp[part,ye B,A],K⟩
def zbk{w:World}{t:TypeId}{l:List AV}{a:AV}(h:w8 z t l g=some a)
  (j:VRs I l v6.toList) (A:∀a∈l,a.one=true):∃v,(part t v6 g).run z w=.ok v w∧VR I a v:=by
 unfold w8 at h;split at h
 ·rename_i D n B C;exact zeq B C h j A
 ·cases h
def zh1{t:TypeId}{g:Array Field}(h:z.underlying t=some (.struct g)):z.fieldsOf t=g:=by simp[Program.fieldsOf,h]
def t7(d:Nat)(t:TypeId)(n:Nat)(g j:Array Value):List Nat→Sem Bool
 |[]=>pure true
 |i::l=>do
  let a ←part t g (i*n);let b ←part t j (i*n);let r ←Op.equalIn d t a b
  if (!r)=true then pure false else t7 d t n g j l
def zen(w:World)(d:Nat){t e:TypeId}{n s:Nat}(g j:Array Value)(D:z.underlying t=some (.array n e))(E:Oz z e=some s) :
  (Op.equalIn (d+1) t (.agg g) (.agg j)).run z w=(t7 d e s g j (List.range n)).run z w:=by
 simp only[Op.equalIn,Sem.run_bind,Oa D,Result.andThen_ok,Sa E,Std.Legacy.Range.forIn_eq_forIn_range'];have:List.range' 0 n=List.range n:=List.range_eq_range'.symm;simp only[Std.Legacy.Range.size,Nat.sub_zero,Nat.add_sub_cancel,Nat.div_one,this];generalize List.range n=l
 induction l generalizing w with
 |nil=>simp[t7]
 |cons i l F =>
  simp only[List.forIn_cons,t7,Sem.run_bind,Sem.run_ite];generalize (part e g (i*s)).run z w=G;cases G with
  |ok a A =>
   simp only[Result.andThen_ok];generalize (part e j (i*s)).run z A=H;cases H with
   |ok b B =>
    simp only[Result.andThen_ok];generalize (Op.equalIn d e a b).run z B=I;cases I with
    |ok r C =>
     cases r
     ·simp only[Result.andThen_ok,Mj,K7,Sem.run_pure]
     ·simp only[Result.andThen_ok,Bool.not_true,Kx,Mz,Sem.run_pure];exact F C
    |halt x C=>simp[Result.andThen]
   |halt x B=>simp[Result.andThen]
  |halt x A=>simp[Result.andThen]
def zhg{R:Program}{w:World}{Q:CM}{d:Nat}{f:TypeId→AV→AV→Option Bool}
  (A:∀t a b r x y,f t a b=some r→VR Q a x→VR Q b y→(Op.equalIn d t x y).run R w=.ok r w)
  {B C:List AV} {I K:Array Value} (D:VRs Q B I.toList) (j:∀a∈B,a.one=true) (E:VRs Q C K.toList) (z:∀a∈C,a.one=true) :
  ∀{F:List Field} {r:Bool},Yo R f B C F=some r→(Op.eqFields d I K F).run R w=.ok r w
 |[],r,h=>Ce
 |fd::F,r,h=>by
  unfold Yo at h;split at h
  ·rename_i G
   have g : fd.name ≠ "_" := by simpa using G
   split at h
   ·rename_i a b S T;obtain⟨u,L,M⟩:=zbk (w:=w) S D j;obtain⟨v,O,P⟩:=zbk (w:=w) T E z;split at h
    ·rename_i H;have:=A _ _ _ _ _ _ H M P;simp only[Op.eqFields,Ij g,Sem.run_bind,L,O,this,Result.andThen_ok];simpa using zhg A D j E z h
    ·rename_i H;have:=A _ _ _ _ _ _ H M P;cases h;simp only[Op.eqFields,Ij g,Sem.run_bind,L,O,this,Result.andThen_ok];simp
    ·cases h
   ·cases h
  ·rename_i G
   have g : fd.name = "_" := by simpa using G
   simp only[Op.eqFields,g,ne_eq,not_true_eq_false,Mz];exact zhg A D j E z h
def zmx{H:Program}{w:World}{O:CM}{d:Nat}{f:TypeId→AV→AV→Option Bool}{t:TypeId}{n:Nat}
  (B:∀t a b r x y,f t a b=some r→VR O a x→VR O b y→(Op.equalIn d t x y).run H w=.ok r w)
  {C D:List AV} {E F:Array Value} (I:VRs O C E.toList) (g:∀a∈C,a.one=true) (K:VRs O D F.toList) (j:∀a∈D,a.one=true) :
  ∀{l:List Nat} {r:Bool},iw H f t n C D l=some r→(t7 d t n E F l).run H w=.ok r w
 |[],r,h=>Ce
 |i::l,r,h=>by
  unfold iw at h;split at h
  ·rename_i a b P Q;obtain⟨u,R,L⟩:=zbk (w:=w) P I g;obtain⟨v,S,M⟩:=zbk (w:=w) Q K j;have z:(part t E (i*n)).run H w=.ok u w:=R;have A:(part t F (i*n)).run H w=.ok v w:=S;split at h
   ·rename_i G;have:=B _ _ _ _ _ _ G L M;simp only[t7,Sem.run_bind,z,A,this,Result.andThen_ok];simpa using zmx B I g K j h
   ·rename_i G;have:=B _ _ _ _ _ _ G L M;cases h;simp only[t7,Sem.run_bind,z,A,this,Result.andThen_ok];simp
   ·cases h
  ·cases h
set_option maxHeartbeats 1000000 in
def zya{w:World}{d:Nat}{f:TypeId→AV→AV→Option Bool}
  (D:∀t a b r x y,f t a b=some r→VR I a x→VR I b y→(Op.equalIn d t x y).run z w=.ok r w)
  {t:TypeId} {a b:AV} {r:Bool} {x y:Value} (h:Zm z f t a b=some r) (g:VR I a x) (j:VR I b y):(Op.equalIn (d+1) t x y).run z w=.ok r w:=by
  unfold Zm at h;split at h
  case h_1 hu=>cases h;cases g;cases j;simp[Op.equalIn,Oa hu]
  case h_2 hu =>
   split at h
   ·rename_i E;cases h;cases g;cases j;have:=z6t E;subst this;simp[Op.equalIn,Oa hu,oi]
   ·cases h
  case h_3 hu =>
   cases h;cases g with
   |str F G =>
    cases j with
    |str H K =>
     subst F G H K;rw[←zf3,←beq_toListBytes];simp[Op.equalIn,Oa hu]
  case h_21 hu =>
   split at h
   ·cases h
   ·rename_i C;cases g with
    |agg g A =>
     cases j with
     |agg j B =>
      rw[run_equalIn_struct w d t _ _ (by rw[zh1 hu];exact hu) (by simpa using C),zh1 hu];exact zhg D g A j B h
  case h_22 hu =>
   split at h
   ·rename_i s C;cases g with
    |agg g A =>
     cases j with
     |agg j B =>
      rw[zen w d _ _ hu C];exact zmx D g A j B h
   ·cases h
  case h_23=>cases h
  all_goals
   rename_i hu;cases h;cases g;cases j;simp[Op.equalIn,Oa hu]
def zr8{z:Program}{w:World}{A:CM}(d:Nat):∀(n:Nat) (t:TypeId) (a b:AV) (r:Bool) (x y:Value),eqT z n t a b=some r→VR A a x→VR A b y →
  (Op.equalIn (d+n) t x y).run z w=.ok r w
 |0,_,_,_,_,_,_,h,_,_=>Am
 |n+1,_,_,_,_,_,_,h,g,j=>zya (λt a b r x y=>zr8 d n t a b r x y) h g j
end
section
open Go.RowKit (Below)
def zcj{w:World}(op:BinOp)(t:TypeId)(x y:Operand){a b:Value}(g:¬(a=.nilIface∧b=.nilIface))(j:∀c d,¬(a=.agg c∧b=.agg d)) :
  (eqGuard op t x y a b).run z w=.ok () w:=by
 unfold eqGuard;split<;>first
  |rfl
  | (rw [Ii (by decide)]
     split
     ·exact absurd ⟨rfl,rfl⟩ g
     ·exact absurd ⟨rfl,rfl⟩ (j _ _)
     ·rfl)
def zmj{w:World}(op:BinOp)(t:TypeId)(x y:Operand)(k g:IntKind)(a b:Int):(eqGuard op t x y (.int k a) (.int g b)).run z w=.ok () w :=
 zcj op t x y (λh=>by cases h.1) (λ_ _ h=>by cases h.1)
def zk4{w:World}(op:BinOp)(t:TypeId)(x y:Operand){a b:AV}{u v:Value}(hu:VR I a u)(g:VR I b v)
  (j:wn z (Vd x || Vd y) t a b=true):(eqGuard op t x y u v).run z w=.ok () w:=by
 by_cases A:u=.nilIface∧v=.nilIface
 ·obtain⟨rfl,rfl⟩:=A;cases hu;cases g;have C:(Vd x || Vd y)=true:=j;unfold eqGuard;split<;>first
   |rfl
   | (rw [Ii (by decide)]
      dsimp only;rw[Ij]
      ·rfl
      ·cases x<;>cases y<;>simp_all [Vd])
 ·by_cases B:∃c d,u=.agg c∧v=.agg d
  ·obtain⟨c,d,rfl,rfl⟩:=B;cases hu;cases g;exact run_eqGuard_agg w op t x y c d (by simpa [wn] using j)
  ·exact zcj op t x y A (λc d h=>B ⟨c,d,h⟩)
def zyh{t:TypeId}{a b:AV}{u v:Value}(hu:VR I a u)(g:VR I b v)(j:∀k x z y,¬(a=.int k x∧b=.int z y))(A:∀l x m y,¬(a=.str l x∧b=.str m y)) :
  binOp .eql t u v=(do pure (.bool (←Op.equal t u v)))∧binOp .neq t u v=(do pure (.bool (!(←Op.equal t u v)))):=by
 cases hu<;>cases g<;>first
  |exact⟨rfl,rfl⟩
  |exact absurd ⟨rfl,rfl⟩ (j _ _ _ _)
  |exact absurd ⟨rfl,rfl⟩ (A _ _ _ _)
def zqs{w:World}{t:TypeId}{a b:AV}{r:Bool}(h:Q9 z O t a b=some r){u v:Value}(hu:VR I a u)(g:VR I b v) :
  wn z O t a b=true∧(Op.equal t u v).run z w=.ok r w:=by
 unfold Q9 at h;split at h
 ·rename_i j;exact⟨j,zr8 9980 20 t a b r u v h hu g⟩
 ·cases h
def zx1{w:World}{op:BinOp}{t:TypeId}(x y:Operand){a b r:AV}(h:Pd z op (Vd x || Vd y) t a b=some r){u v:Value}(hu:VR I a u)(A:VR I b v) :
  (eqGuard op t x y u v).run z w=.ok () w∧∃C,(binOp op t u v).run z w=.ok C w∧VR I r C:=by
 unfold Pd at h;split at h
 ·cases hu;cases A;refine⟨zmj op t x y _ _ _ _,?_⟩;split at h
  ·obtain⟨C,g,j⟩:=zh5 z w (.inl rfl) t h;exact⟨C,g,j I⟩
  ·obtain⟨C,g,j⟩:=zh5 z w (.inr rfl) t h;exact⟨C,g,j I⟩
  ·split at h
   ·rename_i E;have:=z6t E;subst this;obtain⟨C,g,j⟩:=zue z w t h;exact⟨C,g,j I⟩
   ·cases h
 ·cases hu with
  |str g j =>
   cases A with
   |str F G =>
    subst g j F G;refine⟨zcj op t x y (λh=>by cases h.1) (λ_ _ h=>by cases h.1),?_⟩;obtain⟨C,g,j⟩:=zt3 z w t h;exact⟨C,g,j I⟩
 ·rename_i H K;have D:=zyh (t:=t) hu A (λk x L y e=>H k x L y e.1 e.2) (λl x m y e=>K l x m y e.1 e.2);split at h
  ·cases B:Q9 z (Vd x || Vd y) t a b with
   |none=>rw[B]at h;cases h
   |some s =>
    rw[B]at h;cases h;obtain⟨g,j⟩:=zqs (w:=w) B hu A;exact⟨zk4 _ t x y hu A g,.bool s,by rw[D.1];simp[j],.bool s⟩
  ·cases B:Q9 z (Vd x || Vd y) t a b with
   |none=>rw[B]at h;cases h
   |some s =>
    rw[B]at h;cases h;obtain⟨g,j⟩:=zqs (w:=w) B hu A;exact⟨zk4 _ t x y hu A g,.bool (!s),by rw[D.2];simp[j],.bool (!s)⟩
  ·cases h
def ma{P:Program}{w:World}{g:Sem Next}{o:Option AV}(j:Rel E I C w)
  (h:∀a,o=some a→∃z,g.run P w=.ok (.value z) w∧VR I a z):Q4 P E I w g (ret1 C o):=by
 cases o with
 |none=>exact trivial
 |some a=>obtain⟨z,A,B⟩:=h a rfl;exact Pj j B A
def zxk(G:Program)(op:BinOp)(t g:TypeId)(x y:Operand)(o:Oper)(j:o.op=.binOp op t x y g):Nt G (N5 G (.binOp op t x y g)) (λH=>execOp H o):=by
 refine Xo λI L M w H a b z A B=>ma z λr C=>?_
 obtain⟨D,K,E,F⟩:=zx1 (w:=w) x y C A B;exact⟨K,by simp[execOp,j,D,E],F⟩
def Xy(E:Program)(op:UnOp)(t:TypeId)(x:Operand)(o:Oper)(A:o.op=.unOp op t x):Nt E (N5 E (.unOp op t x)) (λB=>execOp B o):=by
 refine Sj λF G H w B a D g=>ma D λr j=>?_
 unfold unA at j;split at j
 ·rename_i k n;cases j;generalize z:B x=C at g;cases g;exact⟨.int k (k.wrap (0-n)),by simp[execOp,A,z,Op.unary,Op.intArith],by rw[Xj];exact .int _ _⟩
 ·rename_i k n;cases j;generalize z:B x=C at g;cases g;exact⟨.int k (k.wrap (BitVec.ofInt k.bits (if k.signed then -1 else k.max) ^^^ BitVec.ofInt k.bits n).toNat),by simp[execOp,A,z,Op.unary,Op.intBits],.int _ _⟩
 ·rename_i b;cases j;generalize z:B x=C at g;cases g;exact⟨.bool (!b),by simp[execOp,A,z,Op.unary],.bool _⟩
 ·cases j
def VRs.set{C:CM}:∀{l:List AV} {r:List Value},VRs C l r→∀(i:Nat) {a:AV} {v:Value},VR C a v→VRs C (l.set i a) (r.set i v)
 |_,_,.nil,_,_,_,_=>.nil
 |_,_,.cons _ es,0,_,_,h=>.cons h es
 |_,_,.cons e es,i+1,_,_,h=>.cons e (VRs.set es i h)
def je{l:List AV}(h:∀a∈l,a.one=true){i:Nat}{a:AV}(j:a.one=true):∀b∈l.set i a,b.one=true:=by
 intro b z;rcases List.mem_or_eq_of_mem_set z with g|g
 ·exact h b g
 ·rw[g];exact j
def znc{C:CM}{off:Nat}:∀(l:List AV) (r:List Value) (g:List AV) (z:Array Value) (j:Nat),VRs C l r→(∀a∈l,a.one=true)→VRs C g z.toList→(∀a∈g,a.one=true) →
  VRs C (To g (off+j) l) ((r.zipIdx j).foldl (λg (c,j)=>g.setIfInBounds (off+j) c) z).toList∧(∀a∈To g (off+j) l,a.one=true)
 |[],_,g,z,j,.nil,_,h,A=>⟨h,A⟩
 |a::l,v::r,g,z,j,.cons e D,B,h,A=>by
  simp only[To,List.zipIdx_cons,List.foldl_cons];have:=znc (off:=off) l r (g.set (off+j) a) (z.setIfInBounds (off+j) v) (j+1) D (λb E=>B b Aw)
   (by rw[Array.toList_setIfInBounds];exact h.set _ e) (je A (B a N))
  rw[show off+j+1=off+(j+1) from J];exact this
def zu5(v:Array Value)(off:Nat)(j:Array Value):v.zipIdx.foldl (λg (c,z)=>g.setIfInBounds (off+z) c) j=(v.toList.zipIdx 0).foldl (λg (c,z)=>g.setIfInBounds (off+z) c) j:=by
 rw[←Array.foldl_toList,Array.toList_zipIdx]
def zx{j:Nat→Option (Nat×Nat)}:∀{l:List (Nat×Operand)} {G:List Part},ee j l=some G →
  ∀{C:CM} {X:Tr AV} {K:Operand→Value},pk C X K→∀{z r:List AV} {A:Array Value},Yz z G X=some r→VRs C z A.toList→(∀a∈z,a.one=true) →
  ∃H,Instr.fill j A (l.map λ(i,x)=>(i,K x))=some H∧VRs C r H.toList∧(∀a∈r,a.one=true)
 |[],G,h,C,X,K,L,z,r,A,g,I,M=>by
  cases h;cases g;exact⟨A,rfl,I,M⟩
 |(i,x)::l,G,h,C,X,K,L,z,r,A,g,I,M=>by
  simp only[ee]at h;split at h
  ·cases h
  ·rename_i o s O;split at h
   ·cases h
   ·rename_i Y P;cases h;simp only[Yz]at g;split at g
    ·cases g
    ·rename_i a Z;split at g
     ·cases g
     ·rename_i q hq;split at g
      ·rename_i D;split at g
       ·rename_i Q;have B:q.length=s:=Ig D;have U:o+s≤z.length:=In Q;obtain⟨V,k2⟩:=(L _ _ Z).cells hq;have R:=V.length;have S:=I.length;have T:=znc (off:=o) q _ z A 0 V k2 I M;rw[Lv]at T;obtain⟨H,q1,q2,q3⟩:=zx P L g T.1 T.2;refine⟨H,?_,q2,q3⟩;have e1:(K x).cells.size=s:=by rw[←B,R];simp
        have E:¬((decide ((K x).cells.size≠s) || decide (o+(K x).cells.size>A.size))=true):=by
         intro F;simp only[ne_eq,La,Il]at F;rcases F with F|F
         ·exact F e1
         ·simp at S;omega
        rw[Kn];simp only[Instr.fill,O];rw[Ii E,zu5];exact q1
       ·cases g
      ·cases g
def zdt{z:Program}{w:World}:∀{l:List Field} {r:List (Nat×Nat)},xi z l=some r →
  (l.mapM λf=>do pure (f.offset,←sizeOf f.type):Sem (List (Nat×Nat))).run z w=.ok r w
 |[],r,h=>Ce
 |f::l,r,h=>by
  simp only[xi]at h;split at h
  ·cases h
  ·rename_i s g;split at h
   ·cases h
   ·rename_i A j;cases h;simp only[List.mapM_cons,Sem.run_bind,Sa g,Result.andThen_ok,Sem.run_pure,zdt j]
def zq7(B:Program)(t:TypeId)(g:Array (Nat×Operand)):Nt B (tx B t g) (λS=>do pure (.value (←Instr.build t (g.map λ(i,x)=>(i,S x))))):=by
 unfold tx;split
 ·exact N6 B _
 ·rename_i cs T;split
  ·rename_i j hu;split
   ·exact N6 B _
   ·rename_i pl D;split
    ·exact N6 B _
    ·rename_i V A;intro X Y gg w gj S E F;dsimp only;split
     ·rename_i l G;obtain⟨v,i,H,I,Z,h4⟩:=na (w:=w) T;obtain⟨K,L⟩:=Wd (C:=Y) I;obtain⟨M,O,P,Q⟩:=zx A F G K L;refine Pj E (.agg P Q) ?_;have hm:(j.mapM λf=>do pure (f.offset,←sizeOf f.type):Sem (Array (Nat×Nat))).run B w=.ok pl.toArray w:=by
       rw[Array.mapM_eq_mapM_toList];simp only[Sem.run_map,zdt D,Result.andThen_ok]
      have R:Instr.fill (pl.toArray[·]?) v.cells (g.map λ(i,x)=>(i,S x)).toList=some M:=by
       rw[J2];have:(λi:Nat=>pl.toArray[i]?)=(λi:Nat=>pl[i]?):=by funext i;simp
       rw[this];exact O
      simp only[Instr.build,Sem.run_bind,H,Oa hu,hm,Result.andThen_ok,R,Sem.run_pure]
     ·exact trivial
  ·rename_i n U hu;split
   ·exact N6 B _
   ·rename_i z hs;split
    ·exact N6 B _
    ·rename_i V A;intro X Y gg w gj S E F;dsimp only;split
     ·rename_i l G;obtain⟨v,i,H,I,Z,h4⟩:=na (w:=w) T;obtain⟨K,L⟩:=Wd (C:=Y) I;obtain⟨M,O,P,Q⟩:=zx A F G K L;refine Pj E (.agg P Q) ?_;have R:Instr.fill (λi=>some (i*z,z)) v.cells (g.map λ(i,x)=>(i,S x)).toList=some M:=by
       rw[J2];exact O
      simp only[Instr.build,Sem.run_bind,H,Oa hu,Sa hs,Result.andThen_ok,R,Sem.run_pure]
     ·exact trivial
  ·exact N6 B _
end
section
open Go.RowKit (Below)
def z5o(l:List AV):∀n,(Sw l n).length=n*l.length
 |0=>by simp[Sw]
 |n+1=>by rw[Sw,Im,z5o l n,Nat.succ_mul];omega
def vp{l:List AV}(h:∀a∈l,a.one=true):∀n,∀a∈Sw l n,a.one=true
 |0,a,g=>by simp[Sw]at g
 |n+1,a,g=>by
  rw[Sw,I2]at g;rcases g with g|g
  ·exact h a g
  ·exact vp h n a g
def Sq(l:List Value):Nat→List Value
 |0=>[]
 |n+1=>l++Sq l n
def th{C:CM}{l:List AV}{r:List Value}(h:VRs C l r):∀n,VRs C (Sw l n) (Sq r n)
 |0=>.nil
 |n+1=>h.append (th h n)
def zic(l:List Value):∀n,(Sq l n).length=n*l.length
 |0=>by simp[Sq]
 |n+1=>by rw[Sq,Im,zic l n,Nat.succ_mul];omega
def zr6(l:List Value):∀(n i:Nat),i<n*l.length→(Sq l n)[i]?=l[i%l.length]?
 |0,i,h=>B1
 |n+1,i,h=>by
  rw[Nat.succ_mul]at h;rw[Sq];by_cases hi:i<l.length
  ·rw[Ic hi,J8 hi]
  ·have j:0<l.length:=by
    rcases Nat.eq_zero_or_pos l.length with g|g
    ·rw[g]at h;omega
    ·exact g
   rw[Iq J,zr6 l n _ J,Nat.mod_eq_sub_mod (J:l.length≤i)]
def xf(g:Array Value)(n:Nat):((Array.range (n*g.size)).map λi=>g[i%g.size]!).toList=Sq g.toList n:=by
 apply Mh;intro i;rw[J2,Ks];by_cases hi:i<n*g.size
 ·rw[zr6 _ _ _ C4];have z:0<g.size:=by
   rcases Nat.eq_zero_or_pos g.size with j|j
   ·rw[j]at hi;omega
   ·exact j
  have hm:i%g.size<g.size:=Nat.mod_lt _ z;simp[hi,hm,getElem!_pos]
 ·have A:(Sq g.toList n).length≤i:=by rw[zic];simp;omega
  rw[Kf A,Kf C4];rfl
def pq(f:Nat→Value):(Array.range 0).map f=#[]:=N
def zch(g:Nat):∀(q:List (Value×Nat)) (a:Array Value),(q.foldl (λj (c,z)=>j.setIfInBounds (g+z) c) a).size=a.size
 |[],_=>rfl
 |x::q,a=>by rw[List.foldl_cons,zch g q];simp
def zgq{pl:Nat→Option (Nat×Nat)}:∀{g:List (Nat×Value)} {a b:Array Value},Instr.fill pl a g=some b→b.size=a.size
 |[],_,_,h=>Ce
 |(i,v)::g,a,b,h=>by
  simp only[Instr.fill]at h;split at h
  ·cases h
  ·split at h
   ·cases h
   ·rw[zgq h,←Array.foldl_toList,zch]
def zr5{C:CM}{H:Heap}{w:World}(M:Rel E C X w)(t:TypeId){l:List AV}{o len esz:Nat}{cs:Array Value}(O:newObj X l=some (o,H))
  (I:VRs C l cs.toList) (P:∀a∈l,a.one=true) {cap:Nat} (S:cap*esz=l.length) (j:len≤cap)
  {K:Sem Next} (B:K.run z w=.ok (.value (.slice (some ⟨w.heap.size,0,none⟩) len cap)) (w.alloc (.cells cs t))):Zu z E C w K (.sl o 0 0 len esz (some cap)) H:=by
 have g:l.length=cs.toList.length:=I.length;have D:l.length=cs.size:=B3
 obtain⟨Q,A,F,G⟩:=M.newRow O t (0,0) (vs:=cs) J (by rw[g,Ls];exact I) P N;have L:len*esz≤cap*esz:=Ip _ j;refine⟨Q,_,_,A,F,?_,.inl B⟩;have:=VR.sl (i:=0) (len:=len) (esz:=esz) (room:=some cap) (cap:=cap) G B9 B9 j (λr R=>by cases R;exact⟨rfl,B9⟩) (λh=>Am);simpa using this
def zg1(G:Program)(t:TypeId)(len:Nat)(j:Array (Nat×Operand)) :
  Nt G (py G t len j) (λU=>do pure (.value (←Instr.buildSlice t len (j.map λ(i,x)=>(i,U x))))):=by
 unfold py;split
 ·rename_i A hu;split
  ·exact N6 G _
  ·rename_i g F;split
   ·exact N6 G _
   ·rename_i gj V;split
    ·rename_i z;obtain⟨X,P⟩:=z;split
     ·exact N6 G _
     ·rename_i ps H;intro w0 C gB w gC U Y Z;dsimp only;split
      ·rename_i l hl;split
       ·rename_i o H' hn;obtain⟨v,i,h1,h2,h3,h4⟩:=na (w:=w) V;obtain⟨I,k2⟩:=Wd (C:=C) h2;have K:v.cells.size=g:=by
         have B:=I.length;unfold Oz at F;rw[h3]at F;simp at F B;omega
        have gg:gj.length=g:=by have B:=I.length;simp at B;omega
        have D:VRs C (Sw gj len) ((Array.range (len*g)).map λi=>v.cells[i%v.cells.size]!).toList:=by
         rw[←K,xf];exact th I len
        obtain⟨Q,R,S,q3⟩:=zx H Z hl D (vp k2 len);have L:l.length=len*g:=by
         have B:=S.length;have e3:=zgq R;simp at e3 B;omega
        refine zr5 Y A hn S q3 L.symm (If _) ?_;have T:Instr.fill (λi=>some (i*g,g)) ((Array.range (len*g)).map λi=>v.cells[i%v.cells.size]!) (j.map λ(i,x)=>(i,U x)).toList=some Q:=by
         rw[J2];exact R
        have E:¬(len*g>2^24):=J
        simp only[Instr.buildSlice,Sem.run_bind,Oa hu,Sa F,Result.andThen_ok,Sem.run_ite,Ii E];by_cases M:len*g=0
        ·rw[Ij M];have O:Instr.fill (λi=>some (i*g,g)) ((Array.range (len*g)).map λi=>(#[]:Array Value)[i%(#[]:Array Value).size]!) (j.map λ(i,x)=>(i,U x)).toList=some Q:=by
          rw[←T,M,pq,pq]
         simp only[Sem.run_pure,Result.andThen_ok,O,newRow,Sem.run_bind,run_newObj];rfl
        ·rw[Ii M];simp only[Sem.run_bind,h1,Sem.run_pure,Result.andThen_ok,T,newRow,run_newObj];rfl
       ·exact trivial
      ·exact trivial
    ·exact N6 G _
 ·exact N6 G _
def zlx(A:Program)(t:TypeId)(l c:Operand):Nt A (l9 A t l c) (λI=>do pure (.value (←Instr.makeSlice t (I l) (I c)))):=by
 unfold l9;split
 ·rename_i g hu;split
  ·exact N6 A _
  ·rename_i i hi;split
   ·exact N6 A _
   ·rename_i gg Q;split
    ·rename_i j;obtain⟨K,B⟩:=j;refine Xo λw0 C gj w I a b R L M=>?_
     split
     ·rename_i x y;split
      ·rename_i D;split
       ·rename_i S;split
        ·rename_i o H' T;have z:x≤y:=In D;have E:y≤1048576:=In S;obtain⟨v,gB,U,V,O,X⟩:=na (w:=w) Q;obtain⟨P,Y⟩:=Wd (C:=C) V;rw[hi]at O;cases O;have F:v.cells.size=i.size:=by have G:=P.length;simp at G;omega
         generalize I l=pl at L;generalize I c=pc at M;cases L;cases M;refine zr5 R g T (cs:=(Array.range (y*i.size)).map λk=>v.cells[k%v.cells.size]!) (by rw[←F,xf];exact th P y) (vp Y y) (by rw[z5o,X]) z ?_;have G:IntKind.i64.wrap (Int.ofNat x)=Int.ofNat x:=At
         have Z:IntKind.i64.wrap (Int.ofNat y)=Int.ofNat y:=At
         have e3:i.bytes*y≤65536*1048576:=K3 B E;have e4:¬((decide (Int.ofNat y<0) || decide ((i.bytes:Int)*Int.ofNat y>2^48) || decide (Int.ofNat x<0) || decide (Int.ofNat x>Int.ofNat y))=true):=by
          have e5:((i.bytes:Int)*Int.ofNat y)=((i.bytes*y:Nat):Int):=N
          rw[e5];simp only[La,Il,not_or];refine⟨⟨⟨N,Ab⟩,N⟩,Ab⟩
         simp only[Instr.makeSlice,Sem.run_bind,Oa hu,et hi,asInt,asIntOf,Sem.run_pure,Result.andThen_ok,G,Z,Sem.run_ite,Ii e4,run_askRoom,Sa (show Oz A g=some i.size from F6)];have e6:(Int.ofNat y).toNat=y:=rfl;have e7:(Int.ofNat x).toNat=x:=rfl;rw[e6,e7];by_cases H:y*i.size=0
         ·rw[Ij H];simp only[Sem.run_pure,Result.andThen_ok,newRow,Sem.run_bind,run_newObj];have:((Array.range (y*i.size)).map λk=>(#[]:Array Value)[k%(#[]:Array Value).size]!)=((Array.range (y*i.size)).map λk=>v.cells[k%v.cells.size]!):=by rw[H,pq,pq]
          rw[this];rfl
         ·rw[Ii H];simp only[Sem.run_bind,U,Sem.run_pure,Result.andThen_ok,newRow,run_newObj];rfl
        ·exact trivial
       ·exact trivial
      ·exact trivial
     ·exact trivial
    ·exact N6 A _
 ·exact N6 A _
def zkr(j:Program)(t:TypeId)(x:Operand):Nt j (ua j t x) (λB=>do pure (.value (←Instr.makeInterface t (B x)))):=by
 unfold ua;split
 ·exact N6 j _
 ·rename_i d g hu;refine Sj λC D E w B a z A=>Pj z (.iface A) ?_
  simp only[Instr.makeInterface,Sem.run_bind,Oa hu,Result.andThen_ok];cases d<;>first|rfl|exact absurd hu (g _)
 ·exact N6 j _
def zoi(D:Program)(f:Fn)(first cap:Array Operand)(z:∀l,f≠.yield l):Nt D (qd f first cap) (λg=>do pure (.value (←Instr.makeFunc f (first.map g) (cap.map g)))):=by
 intro E F G w H g A j;unfold qd;dsimp only;split
 ·rename_i l B;split
  ·rename_i r C;refine Pj A (.fn (.same f z) (l':=first.map g) (r':=cap.map g) ?_ ?_) rfl
   ·rw[J2];exact ur j B
   ·rw[J2];exact ur j C
  ·exact trivial
 ·exact trivial
def zjz{w:World}(j:Rel E I C w){A:Sem Next}(g:A.run z w=.ok (.value (.map (some w.heap.size))) (w.alloc (.map #[] 0))) :
  Q4 z E I w A (W0 C):=by
 unfold W0;obtain⟨D,F⟩:=j.push (.map [] 0) (.map #[] 0) 0 0 (λG B=>by
  rw[CM.ext_same]at B;cases B;exact⟨j.low.size,#[],Xv _ _,.nil⟩)
 exact⟨_,_,_,F,D,.map (CM.ext_same _ _ _ _),.inl g⟩
def zq4(A:Program)(t:TypeId)(r:Option Operand):Nt A (n5 A t r) (λz=>do pure (.value (←Instr.makeMap t (r.map z)))):=by
 unfold n5;split
 ·intro B D E w H z g F;exact zjz g (by simp[Instr.makeMap])
 ·rename_i x;split
  ·rename_i k e hu;refine Sj λB D E w z a g j=>?_
   split
   ·generalize C:z x=G at j;cases j;exact zjz g (by simp[Instr.makeMap,Oa hu,C,asInt,asIntOf])
   ·exact trivial
  ·exact N6 A _
def zik(z:Program)(t:TypeId)(x:Operand)(f:Nat):Nt z (ug z t x f) (λB=>do pure (.value (←Instr.fieldAt t (B x) f))):=by
 unfold ug;split
 ·rename_i g hu;split
  ·exact N6 z _
  ·rename_i fd C;split
   ·exact N6 z _
   ·exact N6 z _
   ·rename_i n D E;refine Sj λH L M w B a F A=>?_
    split
    ·rename_i o v i;generalize I:B x=K at A;cases A with
     |ptr G =>
      refine Pj F (.ptr (i:=i+fd.offset) G) ?_;have j:n≠0:=D;simp[Instr.fieldAt,Oa hu,C,Instr.sureAddr,fieldPlace,Sa E,j,kr]
    ·exact trivial
 ·exact N6 z _
def zq6(A:Program)(t:TypeId)(x:Operand)(f:Nat):Nt A (td A t x f) (λB=>do pure (.value (←Instr.field t (B x) f))):=by
 unfold td;split
 ·rename_i g hu;split
  ·exact N6 A _
  ·rename_i fd C;split
   ·rename_i P n D E;refine Sj λK Q R w B a F j=>?_
    split
    ·generalize L:B x=M at j;cases j with
     |agg j z =>
      refine ma F λr G=>?_
      obtain⟨O,H,I⟩:=zeq (w:=w) D E G j z;exact⟨O,by simp[Instr.field,Oa hu,C,asAgg,H],I⟩
    ·exact trivial
   ·exact N6 A _
 ·exact N6 A _
end
section
open Go.RowKit (Below)
def wj{l c:Nat}(e:Nat)(h:l≤c):l*e+(c-l)*e=c*e:=by
 rw[←I5];congr 1;omega
def Ws(r:Option Nat)(v:Option Value):Prop:=match r with
 |none=>v=none
 |some n=>∃k,v=some (.int k (Int.ofNat n))
def V6{g:Operand→Value}(j:pk I L g){x:Option Operand}{r:Option Nat}(h:(Pu x).run L=some r):Ws r (x.map g):=by
 cases x with
 |none=>cases h;rfl
 |some x =>
  unfold Pu at h;dsimp only at h;split at h
  ·rename_i k n z;cases h;have:=j _ _ z;generalize A:g x=v at this;cases this;exact⟨k,Af⟩
  ·cases h
def il{w:World}(k:IntKind){n y:Nat}(c:BoundsCode)(h:n≤y):(Instr.sliceBound (.int k (Int.ofNat n)) y c).run z w=.ok n w:=by
 have:(0:Int)≤Int.ofNat n∧Int.ofNat n≤(y:Int):=⟨N,Ab⟩;simp only[Instr.sliceBound,asIntOf,Sem.run_bind,Sem.run_pure,Result.andThen_ok,Sem.run_ite,Ij this];rfl
def z3g{P:Program}{w:World}(g:Bool){len cap:Nat}{hi mx:Option Nat}{a b c:Option Value}(A:Ws Y a)(C:Ws hi b)(E:Ws mx c)
  (hm:mx.isSome=true→hi.isSome=true) (j:Y.getD 0≤hi.getD len) (z:hi.getD len≤mx.getD cap) (B:mx.getD cap≤cap) :
  (Instr.sliceBounds g len cap a b c).run P w=.ok (Y.getD 0,hi.getD len,mx.getD cap) w:=by
 cases mx with
 |none =>
  cases E;simp only[Option.getD_none]at z B;cases hi with
  |none =>
   cases C;cases Y with
   |none=>cases A;simp[Instr.sliceBounds]
   |some l =>
    obtain⟨k,rfl⟩:=A;simp only[Kk,Option.getD_none]at j;simp only[Instr.sliceBounds,Sem.run_bind,Sem.run_pure,Result.andThen_ok,il k _ j,Option.getD]
  |some h =>
   obtain⟨k,rfl⟩:=C;simp only[Kk]at j z;cases Y with
   |none=>cases A;simp only[Instr.sliceBounds,Sem.run_bind,Sem.run_pure,Result.andThen_ok,il k _ z,Option.getD]
   |some l =>
    obtain⟨D,rfl⟩:=A;simp only[Kk]at j;simp only[Instr.sliceBounds,Sem.run_bind,Sem.run_pure,Result.andThen_ok,il k _ z,il D _ j,Option.getD]
 |some m =>
  obtain⟨F,rfl⟩:=E;simp only[Kk]at z B;cases hi with
  |none=>simp at hm
  |some h =>
   obtain⟨k,rfl⟩:=C;simp only[Kk]at j z;cases Y with
   |none=>cases A;simp only[Instr.sliceBounds,Sem.run_bind,Sem.run_pure,Result.andThen_ok,il F _ B,il k _ z,Option.getD]
   |some l =>
    obtain⟨D,rfl⟩:=A;simp only[Kk]at j;simp only[Instr.sliceBounds,Sem.run_bind,Sem.run_pure,Result.andThen_ok,il F _ B,il k _ z,il D _ j,Option.getD]
def zk5{o v i l h m:Nat}{A:Loc}(C:I o v=some A)(D:l≤h)(E:h≤m)(K:i+m*g≤A.n)(L:A.d+i+m*g≤A.sz) :
  VR I (Y1 l h m o v i g) (.slice (some (if m=l then ⟨A.b,A.d+i,none⟩ else (⟨A.b,A.d+i,none⟩:Addr).add (l*g))) (h-l) (m-l)):=by
 unfold Y1;split
 ·rename_i z;have j:l=m:=Ig z;subst j;have:h=l:=J
  subst this;rw[Ij rfl,Nat.sub_self];split
  ·exact .sl C J J (If _) (λr B=>by cases B;exact⟨rfl,J⟩) (λe=>Aq)
  ·exact .emp
 ·rename_i z;have j:¬m=l:=λe=>by rw[e,I3]at z;cases z
  rw[Ii j,kr];have M:=wj g (I1 D E);have O:=wj g D;have P:h*g≤m*g:=Ip _ E;have F:Nat.add i (Nat.mul l g)=i+l*g:=rfl;have G:Nat.sub h l=h-l:=rfl;have H:Nat.sub m l=m-l:=rfl;rw[F,G,H];exact .sl C J J J (λr B=>by cases B;exact⟨rfl,J⟩) (λe=>Aq)
def zed{o v i len l h cap:Nat}{room mx:Option Nat}{r:AV}{C:Loc}(H:I o v=some C)(X:i+len*g≤C.n)(T:C.d+i+cap*g≤C.sz)(Y:len≤cap)
  (U:∀r,room=some r→cap=r∧i+r*g≤C.n) (Z:room=none→C.d+i+cap*g=C.sz) (z:m6 l h (room.getD len) mx o v i g room=some r) :
  l≤h∧h≤mx.getD cap∧mx.getD cap≤cap ∧
  VR I r (.slice (some (if mx.getD cap=l then ⟨C.b,C.d+i,none⟩ else (⟨C.b,C.d+i,none⟩:Addr).add (l*g))) (h-l) (mx.getD cap-l)):=by
 unfold m6 at z;split at z
 ·cases z
 ·rename_i K;have j:l≤h:=In K;split at z
  ·cases z
  ·rename_i L;have A:h≤room.getD len:=In L;have M:room.getD len≤cap∧i+room.getD len*g≤C.n:=by
    cases room with
    |none=>exact⟨Y,X⟩
    |some r=>obtain⟨E,F⟩:=U r rfl;exact⟨Aw,F⟩
   split at z
   ·rename_i m;split at z
    ·cases z
    ·rename_i O;have D:h≤m:=In O;split at z
     ·cases z
     ·rename_i P;have G:m≤room.getD len:=In P;cases z;have E:m*g≤room.getD len*g:=Ip _ G;have F:m*g≤cap*g:=Ip _ J;exact⟨j,D,Ab,zk5 H j D J J⟩
   ·split at z
    ·rename_i rr;cases z;obtain⟨E,F⟩:=U rr rfl;subst E;exact⟨j,A,If _,zk5 H j A F T⟩
    ·have Q:=Z rfl;simp only[Option.getD_none]at A ⊢;have q3:h*g≤len*g:=Ip _ A;split at z
     ·rename_i V;have R:l=0:=Ig V;subst R;cases z;refine⟨j,J,If _,?_⟩;have e:(if cap=0 then (⟨C.b,C.d+i,none⟩:Addr) else (⟨C.b,C.d+i,none⟩:Addr).add (0*g))=⟨C.b,C.d+i,none⟩:=by
       split
       ·rfl
       ·rw[kr];simp
      rw[e];exact .sl H J E4 J (λr S=>by cases S) (λ_=>by simpa using Q)
     ·rename_i V;split at z
      ·rename_i B;have e:l=h:=Ig B;subst e;cases z;refine⟨j,J,If _,?_⟩;rw[Nat.sub_self];exact .emp
      ·rename_i B;have gg:¬l=h:=λe=>by rw[e,I3]at B;cases B
       cases z;refine⟨j,J,If _,?_⟩;rw[Ii J,kr];have E:=wj g (J:l≤cap);have F:=wj g j;have e1:Nat.add i (Nat.mul l g)=i+l*g:=rfl;have e2:Nat.sub h l=h-l:=rfl;rw[e1,e2];exact .sl H J J J (λr S=>by cases S) (λ_=>J)
def zbq{g:Type}(f:v8→g)(x:Option v8):(x.map f).isSome=x.isSome:=by cases x<;>rfl
def Ws.isSome{r:Option Nat}{v:Option Value}(h:Ws r v):r.isSome=v.isSome:=by
 cases r with
 |none=>rw[show v=none from h];rfl
 |some n=>obtain⟨k,rfl⟩:=h;rfl
def zph(P:Program)(t:TypeId)(x:Operand)(lo hi mx:Option Operand) :
  Nt P (kf P t x lo hi mx) (λK=>do pure (.value (←Instr.sliceAt t (K x) (lo.map K) (hi.map K) (mx.map K)))):=by
 unfold kf;split
 ·rename_i hu;split
  ·exact N6 P _
  ·intro w0 gI gK w gL K F j;dsimp only;split
   ·rename_i len n l h G H I;split
    ·rename_i h1;split
     ·rename_i h2;have Y:l.getD 0≤h.getD len:=In h1;have L:h.getD len≤len:=In h2;have B:=j _ _ G;have z:=V6 j H;have g:=V6 j I;generalize K x=X at B;cases B with
      | @str _ _ s M O =>
       subst M O;have C:=z3g (P:=P) (w:=w) false (len:=s.size) (cap:=s.size) (mx:=none) (c:=none) z g rfl N Y Dt N;refine Pj F (x:=.string (s.extract (l.getD 0) (h.getD s.size))) (.str ?_ ?_) ?_
       ·rw[Lib.extract_data];have:(s.data.toList.length)=s.size:=rfl;simp;rw[this]at L;omega
       ·rw[Lib.extract_data,packL_take,packL_drop];rfl
       ·simp only[Instr.sliceAt,Sem.run_bind,Oa hu,Result.andThen_ok,Instr.slice,Option.map_none,Option.isSome_none];simp[C]
     ·exact trivial
    ·exact trivial
   ·exact trivial
 ·rename_i Q hu;split
  ·exact N6 P _
  ·rename_i Z;split
   ·exact N6 P _
   ·rename_i D R;intro w0 gI gK w gL K F j;dsimp only;split
    ·rename_i o v i len gg gG l h m G H I hm;refine ma F λr E=>?_
     have B:=j _ _ G;have z:=V6 j H;have g:=V6 j I;have A:=V6 j hm;generalize K x=X at B;cases B with
     | @sl _ _ _ _ _ _ gM cap S q1 q2 q3 q4 q5 =>
      unfold Uf at E;split at E
      ·cases E
      ·rename_i gj;have T:gg=D:=Ig gj;subst T;obtain⟨k1,k2,k3,k4⟩:=zed S q1 q2 q3 q4 q5 E;have C:=z3g (P:=P) (w:=w) true (len:=len) (cap:=cap) z g A (by
        rw[A.isSome,g.isSome,zbq,zbq];intro e;cases hi<;>simp_all) k1 k2 k3
       refine⟨_,?_,k4⟩;simp only[Instr.sliceAt,Sem.run_bind,Oa hu,Result.andThen_ok,Instr.slice,C,Sa R,Sem.run_pure,Jw];split<;>simp_all
    ·rename_i l h G H I hm;split
     ·rename_i h0;have gB:l.getD 0+h.getD 0=0:=Ig h0;have B:=j _ _ G;have z:=V6 j H;have g:=V6 j I;have A:=V6 j hm;generalize K x=X at B;cases B;have C:=z3g (P:=P) (w:=w) true (len:=0) (cap:=0) z g A N J Ab N;refine Pj F .nilSl ?_;have M:l.getD 0=0:=J
      have O:h.getD 0=0:=J
      rw[M,O]at C;simp only[Instr.sliceAt,Sem.run_bind,Oa hu,Result.andThen_ok,Instr.slice,C,Sa R,Sem.run_pure];simp
     ·exact trivial
    ·rename_i l h G H I hm;split
     ·rename_i h0;have gB:l.getD 0+h.getD 0=0:=Ig h0;have B:=j _ _ G;have z:=V6 j H;have g:=V6 j I;have A:=V6 j hm;generalize K x=X at B;cases B with
      | @emp a cap =>
       have C:=z3g (P:=P) (w:=w) true (len:=0) (cap:=cap) z g A N J Ab N;have M:l.getD 0=0:=J
       have O:h.getD 0=0:=J
       rw[M,O]at C;refine Pj F (x:=.slice (some (if cap=0 then a else a.add 0)) 0 cap) .emp ?_;simp only[Instr.sliceAt,Sem.run_bind,Oa hu,Result.andThen_ok,Instr.slice,C,Sa R,Sem.run_pure];simp;split<;>rfl
     ·exact trivial
    ·exact trivial
 ·rename_i n Q hu;split
  ·exact N6 P _
  ·rename_i Z;split
   ·exact N6 P _
   ·rename_i D R;intro w0 gI gK w gL K F j;dsimp only;split
    ·rename_i o v i l h m G H I hm;split
     ·rename_i c U gC hg;split
      ·rename_i gD;split
       ·rename_i gE;have gH:i+n*D≤U:=In gE;have V:v=gC:=Ig gD;subst V;refine ma F λr E=>?_
        have B:=j _ _ G;have z:=V6 j H;have g:=V6 j I;have A:=V6 j hm;generalize K x=X at B;cases B with
        | @ptr _ _ _ gM S =>
         unfold Uf at E;simp only[I3]at E;have gF:=F.obj o _ (F.fresh _ _ _ S) hg;obtain⟨p1,_,p3,_⟩:=gF gM S;obtain⟨k1,k2,k3,k4⟩:=zed (cap:=n) (len:=n) (room:=some n) S J J (If _) (λr E=>by cases E;exact⟨rfl,J⟩) (λe=>Aq) E;have C:=z3g (P:=P) (w:=w) false (len:=n) (cap:=n) z g A (by
          rw[A.isSome,g.isSome,zbq,zbq];intro e;cases hi<;>simp_all) k1 k2 k3
         refine⟨_,?_,k4⟩;simp only[Instr.sliceAt,Instr.sureAddr,Sem.run_bind,Oa hu,Result.andThen_ok,C,Sa R,Sem.run_pure]
       ·exact trivial
      ·exact trivial
     ·exact trivial
    ·exact trivial
 ·exact N6 P _
end
section
open Go.RowKit (Below)
def zgx(M:Program)(t:TypeId)(x D:Operand):Nt M (rq M t x D) (λE=>do pure (.value (←Instr.indexAt t (E x) (E D)))):=by
 unfold rq;split
 ·rename_i j hu;split
  ·exact N6 M _
  ·rename_i g F;refine Xo λP T U w E a b G z A=>?_
   split
   ·rename_i o v i len B O k n;split
    ·rename_i C;split
     ·rename_i Q;have H:n<len:=by rw[Ru]at C;simpa using C
      have I:B=g:=Ig Q;subst I;generalize E x=R at z;generalize E D=S at A;cases A;cases z with
      |sl K =>
       refine Pj G (.ptr (i:=i+n*B) K) ?_;have L:(0:Int)≤Int.ofNat n∧Int.ofNat n<(len:Int):=⟨N,Ab⟩;simp only[Instr.indexAt,asIntOf,Sem.run_bind,Sem.run_pure,Result.andThen_ok,Oa hu,Sem.run_ite,Ij L,Sa F];rw[kr];rfl
     ·exact trivial
    ·exact trivial
   ·exact trivial
 ·rename_i len j hu;split
  ·exact N6 M _
  ·rename_i g F;refine Xo λP T U w E a b G z A=>?_
   split
   ·rename_i o v i k n;split
    ·rename_i C;have H:n<len:=by rw[Ru]at C;simpa using C
     generalize E x=R at z;generalize E D=S at A;cases A;cases z with
     |ptr K =>
      refine Pj G (.ptr (i:=i+n*g) K) ?_;have L:(0:Int)≤Int.ofNat n∧Int.ofNat n<(len:Int):=⟨N,Ab⟩;simp only[Instr.indexAt,asIntOf,Instr.sureAddr,Sem.run_bind,Sem.run_pure,Result.andThen_ok,Oa hu,Sem.run_ite,Ij L,Sa F];rw[kr];rfl
    ·exact trivial
   ·exact trivial
 ·exact N6 M _
def zpl(L:Program)(t:TypeId)(x D:Operand):Nt L (t8 L t x D) (λE=>do pure (.value (←Instr.index t (E x) (E D)))):=by
 unfold t8;split
 ·rename_i hu;refine Xo λO Z gg w E a b F g z=>?_
  split
  ·rename_i len n k i;split
   ·rename_i A;have j:i<len:=by rw[Ru]at A;simpa using A
    generalize E x=P at g;generalize E D=Q at z;cases z;cases g with
    | @str _ _ s G R =>
     subst G R;have hi:i<s.size:=j;have H:s.data.toList[i]?=some s[i]:=by
      rw[Ib B0];rfl
     have S:=zha H;refine Pj F (x:=.int .u8 s[i].toNat) ?_ ?_
     ·have:Int.ofNat (Nat.mod (Nat.div (Oy s.data.toList) (Nat.pow 256 i)) 256)=(s[i].toNat:Int):=by
       show ((Oy s.data.toList/256^i%256:Nat):Int)=_;rw[S]
      rw[this];exact .int _ _
     ·simp only[Instr.index,asIntOf,Sem.run_bind,Sem.run_pure,Result.andThen_ok,Oa hu];have T:(0:Int)≤Int.ofNat i:=N
      rw[Ij T];have:s[(Int.ofNat i).toNat]?=some s[i]:=by
       show s[i]?=some s[i];simp[hi]
      rw[this];rfl
   ·exact trivial
  ·exact trivial
 ·rename_i len B hu;split
  ·rename_i gj C H M;refine Xo λO Z gg w E a b F g z=>?_
   split
   ·rename_i l k n;split
    ·rename_i A;have j:n<len:=by rw[Ru]at A;simpa using A
     generalize E x=P at g;generalize E D=Q at z;cases z;cases g with
     |agg g I =>
      refine ma F λr U=>?_
      obtain⟨Y,V,X⟩:=zeq (w:=w) H M U g I;refine⟨Y,?_,X⟩;have G:(0:Int)≤Int.ofNat n∧Int.ofNat n<(len:Int):=⟨N,Ab⟩;have K:(part B _ ((Int.ofNat n).toNat*C)).run L w=.ok Y w:=V;simp only[Instr.index,asIntOf,Sem.run_bind,Sem.run_pure,Result.andThen_ok,Oa hu,Sem.run_ite,Ij G,Sa M,K]
    ·exact trivial
   ·exact trivial
  ·exact N6 L _
 ·exact N6 L _
def zi4{F:CM}:∀{l:List AV} {n:Nat} {vs:List Value},U1.bytesA l=some n→VRs F l vs→∃g:List UInt8,g.length=l.length∧Oy g=n∧vs=g.map (λb=>Value.int .u8 (b.toNat:Int))
 |[],n,_,h,.nil=>by cases h;exact⟨[],rfl,rfl,rfl⟩
 |a::l,n,_,h,.cons e A=>by
  unfold U1.bytesA at h;split at h
  ·rename_i j;cases j
  ·rename_i b G j;cases j;split at h
   ·rename_i z;split at h
    ·rename_i m hm;cases h;have B:b<256:=by rw[Ru]at z;simpa using z
     cases e;obtain⟨g,C,D,E⟩:=zi4 hm A;have hu:(UInt8.ofNat b).toNat=b:=Ab
     exact⟨UInt8.ofNat b::g,Ae,by rw[Oy,hu,D],by rw[Kn,hu,E];rfl⟩
    ·cases h
   ·cases h
  ·cases h
def zgn(g:List UInt8):(strOfNums (g.map λb=>(b.toNat:Int))).data.toList=g:=by
 simp[strOfNums,Function.comp_def]
def zle(w:World)(e:TypeId)(s:ByteArray):Lib.bytesWorld w e s=w.drew.alloc (.cells (Lib.bytesCells w e s) e ((Lib.bytesCells w e s).size,(Lib.bytesCells w e s).size+1)):=by
 have g:(Lib.bytesWorld w e s).heap=(w.drew.alloc (.cells (Lib.bytesCells w e s) e ((Lib.bytesCells w e s).size,(Lib.bytesCells w e s).size+1))).heap:=by
  apply Array.ext_getElem?;intro i;rcases Nat.lt_trichotomy i w.heap.size with h|h|h
  ·rw[Lib.bytesWorld_at_old w e s i h,z4y w.drew _ (show i<w.drew.heap.size from h)];rfl
  ·subst h;rw[Lib.bytesWorld_at_new];exact (Xv w.drew _).symm
  ·rw[Lz (by rw[Lib.bytesWorld_size];omega),Lz (by rw[World.size_alloc];show w.heap.size+1≤i;omega)]
 show ({ heap:=(Lib.bytesWorld w e s).heap,tape:=w.tape,drawn:=w.drawn+1,os:=w.os,output:=w.output }:World)=_;rw[g];rfl
def ztt(P:Program)(z A:TypeId)(x:Operand):Nt P (U1 P z A x) (λI=>do pure (.value (←convert z A (I x)))):=by
 unfold U1;split
 ·rename_i s k D hd;refine Sj λQ gg gj w I a B j=>?_
  split
  ·rename_i k' n;generalize I x=K at j;cases j;refine Pj B (x:=.int k (k.wrap n)) (by rw[Xj];exact .int _ _) ?_;simp only[convert,Sem.run_bind,Oa D,Oa hd,Result.andThen_ok,Conv.intToInt,Sem.run_pure]
  ·exact trivial
 ·rename_i e D hd;split
  ·rename_i L;refine Sj λQ gg gj w I a B j=>?_
   split
   ·generalize I x=K at j;cases j;refine Pj B (x:=.string .empty) (.str rfl rfl) ?_;simp only[Sem.run_bind,run_convert_bytes_nil w z e D L 0 0 A hd,Result.andThen_ok,Sem.run_pure]
   ·rename_i o v i len Y;split
    ·rename_i l hl;split
     ·rename_i n M;generalize I x=K at j;cases j with
      | @sl _ _ _ _ _ _ gC cap hL =>
       obtain⟨vs,Z,R,h3,h4,h5,h6⟩:=B.read P hl hL;obtain⟨O,q1,q2,q3⟩:=zi4 M R;have H:O.length=len:=J
       refine Pj B (x:=.string (strOfNums (O.map λb=>(b.toNat:Int)))) (.str (by rw[zgn,H]) (by rw[zgn,q2])) ?_;have S:=run_convert_bytes_arg (P:=P) w z e D L gC.b (gC.d+i) len cap (O.map λb=>(b.toNat:Int)) Ba (λgD hj=>by
        rw[Je,h6 gD hj,q3];simp[Ks,Ib (J:gD<O.length),List.getD]) A hd
       simp only[Sem.run_bind,S,Result.andThen_ok,Sem.run_pure]
     ·exact trivial
    ·exact trivial
   ·exact trivial
  ·exact N6 P _
 ·rename_i s gB D hd;refine Sj λQ gg gj w I a B j=>?_
  split
  ·rename_i l n;have T:=j;generalize hx:I x=K at j;cases j;refine Pj B T ?_;rw[hx];cases s<;>simp_all [convert,Oa D,Oa hd]
  ·exact trivial
 ·rename_i s e D hd;split
  ·rename_i L hz;refine Sj λQ gg gj w I a B j=>?_
   split
   ·rename_i len n;split
    ·rename_i o H' M;generalize I x=K at j;cases j with
     | @str _ _ g Z R =>
      subst Z R;rw[unpack_pack]at M;have E:g.size≤grownCap w g.size 0 e:=grownCap_ge w g.size 0 e;have C:VRs gg ((g.data.toList.map (·.toNat)).map λ(b:Nat)=>AV.int .u8 (Int.ofNat b)) (g.data.toList.map λb=>Value.int .u8 (b.toNat:Int)):=by
       generalize g.data.toList=q
       induction q with
       |nil=>exact .nil
       |cons b q ih=>exact .cons (.int _ _) ih
      have F:(Lib.bytesCells w e g).size=grownCap w g.size 0 e:=by simp[Lib.bytesCells];omega
      have G:((g.data.toList.map (·.toNat)).map λ(b:Nat)=>AV.int .u8 (Int.ofNat b)).length=g.size:=N
      obtain⟨C',U,V,X⟩:=B.drew.newRow M e ((Lib.bytesCells w e g).size,(Lib.bytesCells w e g).size+1) (vs:=Lib.bytesCells w e g) (by rw[G,F];exact E)
       (by
        rw[G];have:(Lib.bytesCells w e g).toList.take g.size=g.data.toList.map λb=>Value.int .u8 (b.toNat:Int):=by
         simp only[Lib.bytesCells,Mb,J2];rw[Lt N,Io N]
        rw[this];exact C)
       (by intro a j;simp only[Kh]at j;obtain⟨b,_,rfl⟩:=j;rfl) (λi hi=>B9)
      refine⟨C',_,.slice (some ⟨w.heap.size,0,none⟩) g.size (grownCap w g.size 0 e),U,V,?_,.inl ?_⟩
      ·have:=VR.sl (i:=0) (len:=g.size) (esz:=1) (room:=none) (cap:=grownCap w g.size 0 e) X (by rw[G];dsimp only;omega) (by rw[F];dsimp only;omega) E (λr S=>by cases S) (λ_=>by rw[F];simp);simpa using this
      ·simp only[Sem.run_bind,Lib.run_convert_string_bytes w z A e g D hd L,Result.andThen_ok,Sem.run_pure,zle]
    ·exact trivial
   ·exact trivial
  ·exact N6 P _
 ·exact N6 P _
def zkw(F:Program)(x:Operand)(i:Nat):Nt F (zgi x i) (λz=>do pure (.value (←Instr.extract (z x) i))):=by
 unfold zgi;refine Sj λG I K w z a A g=>?_
 split
 ·generalize z x=H at g;cases g with
  | @tup _ B g =>
   refine ma A λr C=>?_
   obtain⟨v,D,E⟩:=g.get C;have j:B[i]?=some v:=by simpa using D
   exact⟨v,by simp[Instr.extract,j],E⟩
 ·exact trivial
def zn2(H:Program)(x:Operand)(L g:TypeId)(ok:Bool):Nt H (sx H x g ok) (λK=>do pure (.value (←Instr.typeAssert (K x) L g ok))):=by
 unfold sx;split
 ·exact N6 H _
 ·rename_i d j hu;split
  ·exact N6 H _
  ·rename_i R M;refine Sj λP Q S w K a E z=>?_
   obtain⟨I,B,G⟩:=zmf (w:=w) M;have D:=zgz (C:=Q) G;split
   ·generalize K x=O at z;cases z;cases ok with
    |false=>exact trivial
    |true =>
     refine Pj E (x:=.tuple #[I,.bool false]) (.tup (.cons D (.cons (.bool _) .nil))) ?_;simp only[Instr.typeAssert,Sem.run_bind,Oa hu,Result.andThen_ok];cases d<;>first|(simp[B];done)|exact absurd hu (j _)
   ·rename_i t v;generalize K x=O at z;cases z with
    | @iface _ _ u z =>
     split
     ·rename_i F;have A:t=g:=Ig F;subst A;cases ok with
      |false =>
       refine Pj E (x:=u) z ?_;simp only[Instr.typeAssert,Sem.run_bind,Oa hu,Result.andThen_ok];cases d<;>first|(simp;done)|exact absurd hu (j _)
      |true =>
       refine Pj E (x:=.tuple #[u,.bool true]) (.tup (.cons z (.cons (.bool _) .nil))) ?_;simp only[Instr.typeAssert,Sem.run_bind,Oa hu,Result.andThen_ok];cases d<;>first|(simp;done)|exact absurd hu (j _)
     ·rename_i F;have A:¬t=g:=λe=>by rw[e,I3]at F;cases F
      cases ok with
      |false=>exact trivial
      |true =>
       refine Pj E (x:=.tuple #[I,.bool false]) (.tup (.cons D (.cons (.bool _) .nil))) ?_;simp only[Instr.typeAssert,Sem.run_bind,Oa hu,Result.andThen_ok];cases d<;>first|(simp[B,A];done)|exact absurd hu (j _)
   ·exact trivial
 ·exact N6 H _
end
section
open Go.RowKit (Below)
def ze0{t:TypeId}{d:TypeDesc}(h:Ub z t=some d):z.underlying t=some d∧(d=.bool∨(∃k,d=.int k)∨d=.string):=by
 unfold Ub at h;split at h
 ·rename_i hu;cases h;exact⟨hu,.inl rfl⟩
 ·rename_i k hu;cases h;exact⟨hu,.inr (.inl ⟨k,rfl⟩)⟩
 ·rename_i hu;cases h;exact⟨hu,.inr (.inr rfl)⟩
 ·cases h
def pt{w:World}{t:TypeId}{d:TypeDesc}(h:Ub z t=some d)(e:Bool)(v:Value):(Instr.checkKey e 10000 t v).run z w=.ok () w:=by
 obtain⟨hu,hd⟩:=ze0 h;show (Instr.checkKey e (9999+1) t v).run z w=_;unfold Instr.checkKey;simp only[Sem.run_bind,Oa hu,Result.andThen_ok];rcases hd with rfl|⟨k,rfl⟩|rfl<;>rfl
def nm{d:TypeDesc}{a b:AV}{r:Bool}(h:i7 d a b=some r){u v:Value}(hu:VR I a u)(g:VR I b v) :
  Instr.sameNow d u v=some r∧(r=true→Instr.sameBits 10000 v u=true):=by
 unfold i7 at h;split at h
 ·split at h
  ·rename_i z;have:=z6t z;subst this;cases h;cases hu;cases g;rename_i _ F x y _;refine⟨by simp[Instr.sameNow,oi],λe=>?_⟩;rw[oi]at e;have:x=y:=by simpa using e
   subst this;simp[Instr.sameBits]
  ·cases h
 ·cases h;cases hu with
  | @str _ _ s A B =>
   cases g with
   | @str _ _ j C D =>
    subst A B C D;rw[←zf3,←beq_toListBytes];refine⟨by simp[Instr.sameNow],λe=>?_⟩;have:s=j:=by
     have E:s.data.toList=j.data.toList:=by rw[beq_toListBytes]at e;rw[←ByteArray.toList_eq,←ByteArray.toList_eq];simpa using e
     exact ByteArray.ext (Mn.1 E)
    subst this;simp only[Instr.sameBits];rw[beq_toListBytes];simp
 ·cases h;cases hu;cases g;rename_i x y;refine⟨by simp[Instr.sameNow],λe=>?_⟩;have:x=y:=by simpa using e
  subst this;simp[Instr.sameBits]
 ·cases h
def zet{C:CM}{d:TypeDesc}{k:AV}{u:Value}(hu:VR C k u):∀{A:List (AV×AV×Nat)} {g:List MapEntry} {r:Option AV} (i:Nat),mj d k A=some r→MR C A g →
  match r with
  |none=>Instr.findNow d u g i=some none
  |some a=>∃B v,Instr.findNow d u g i=some (some (B,v))∧VR C a v
 |[],[],r,i,h,.nil=>Ce
 |(G,H,b)::l,e::_,r,i,h,.cons z D I hm=>by
  unfold mj at h;split at h
  ·rename_i j;cases h;exact⟨i,e.val,by simp[Instr.findNow,(nm j hu z).1],D⟩
  ·rename_i j;have:=zet hu (i+1) h hm;cases r with
   |none=>simpa [Instr.findNow,(nm j hu z).1] using this
   |some a =>
    obtain⟨B,v,E,F⟩:=this;exact⟨B,v,by simpa [Instr.findNow,(nm j hu z).1] using E,F⟩
  ·cases h
def nq{w:World}{t:TypeId}{d:TypeDesc}(hu:z.underlying t=some d){k:Value}{g:List MapEntry}{r:Option (Nat×Value)}(h:Instr.findNow d k g 0=some r) :
  (Instr.findKey t k g).run z w=.ok r w:=by
 simp[Instr.findKey,Oa hu,h]
def zos(S:Program)(t:TypeId)(x M:Operand)(ok:Bool):Nt S (uj S t x M ok) (λG=>do pure (.value (←Instr.lookup t (G x) (G M) ok))):=by
 unfold uj;split
 ·rename_i gg X hu;split
  ·rename_i d gB hd hz;refine Xo λw0 C gC w G a b O P Y=>?_
   split
   ·exact trivial
   ·rename_i es j;obtain⟨A,_⟩:=ze0 hd;obtain⟨Q,H,T⟩:=zmf (w:=w) hz;have I:=zgz (C:=C) T;have K:∃g:Array MapEntry,MR C es g.toList∧((G x=.map none∧g=#[])∨∃b F,G x=.map (some b)∧w.heap[b]?=some (.map g F)):=by
     unfold zy5 at j;split at j
     ·cases j;generalize G x=px at P;cases P;exact⟨#[],.nil,.inl ⟨rfl,rfl⟩⟩
     ·rename_i o;split at j
      ·rename_i gj F L;cases j;generalize G x=px at P;cases P with
       |map Z =>
        obtain⟨_,g,D,R⟩:=O.obj o _ (O.fresh _ _ _ Z) L _ Z;exact⟨g,R,.inr ⟨_,_,rfl,D⟩⟩
      ·cases j
     ·cases j
    obtain⟨g,hm,B⟩:=K;split
    ·rename_i v U;obtain⟨gD,u,D,R⟩:=zet Y 0 U hm;have z:(Instr.lookup t (G x) (G M) ok).run S w=.ok (if ok then .tuple #[u,.bool true] else u) w:=by
      unfold Instr.lookup;rcases B with ⟨E,rfl⟩|⟨r,F,E,V⟩
      ·simp only[Sem.run_bind,Oa hu,Result.andThen_ok,E,pt hd,nq A D,Sem.run_pure]
      ·have L:(getObj r).run S w=.ok (.map g F) w:=Er
       simp only[Sem.run_bind,Oa hu,Result.andThen_ok,E,L,pt hd,nq A D,Sem.run_pure]
     refine Pj O (x:=if ok then .tuple #[u,.bool true] else u) ?_ Bi;cases ok with
     |true=>exact .tup (.cons R (.cons (.bool _) .nil))
     |false=>exact R
    ·rename_i U;have D:=zet Y 0 U hm;have z:(Instr.lookup t (G x) (G M) ok).run S w=.ok (if ok then .tuple #[Q,.bool false] else Q) w:=by
      unfold Instr.lookup;rcases B with ⟨E,rfl⟩|⟨r,F,E,V⟩
      ·simp only[Sem.run_bind,Oa hu,Result.andThen_ok,E,pt hd,nq A D,Sem.run_pure,H]
      ·have L:(getObj r).run S w=.ok (.map g F) w:=Er
       simp only[Sem.run_bind,Oa hu,Result.andThen_ok,E,L,pt hd,nq A D,Sem.run_pure,H]
     refine Pj O (x:=if ok then .tuple #[Q,.bool false] else Q) ?_ Bi;cases ok with
     |true=>exact .tup (.cons I (.cons (.bool _) .nil))
     |false=>exact I
    ·exact trivial
  ·exact N6 S _
 ·exact N6 S _
def zcf(w:World){r k:Nat}(x:Obj)(h:k≠r):({ w with heap:=w.heap.setIfInBounds r x }:World).heap[k]?=w.heap[k]?:=by
 show (w.heap.setIfInBounds r x)[k]?=_;rw[Array.getElem?_setIfInBounds_ne J]
def putObj_heap_same(w:World){r:Nat}(x:Obj)(h:r<w.heap.size):({ w with heap:=w.heap.setIfInBounds r x }:World).heap[r]?=some x:=by
 show (w.heap.setIfInBounds r x)[r]?=_;simp[h]
def Rel.putObj{w0:World}{H:Heap}{w:World}(h:Rel w0 I H w){o v:Nat}{L:Loc}(hL:I o v=some L)(hB:w0.heap.size≤L.b)(ob:AObj)(x:Obj)
  (gj:Po w0.heap.size I { w with heap:=w.heap.setIfInBounds L.b x } o ob) (gg:∀c len C ro,ob≠.cells c len C ro):Rel w0 I (H.put o ob) { w with heap:=w.heap.setIfInBounds L.b x }:=by
 refine h.put (h.fresh _ _ _ hL) ob (h.low.trans ⟨rfl,rfl,rfl,N,λk hk=>zcf w x J⟩) N ?_ gj (λc len C ro e=>absurd e (gg c len C ro));intro o' v' L' gB gC;refine zcf w x (λe=>gB ?_);exact (h.excl _ _ _ _ _ _ hL gC e.symm hB).symm
def MR.length{C:CM}:∀{es:List (AV×AV×Nat)} {gg:List MapEntry},MR C es gg→es.length=gg.length
 |_,_,.nil=>rfl
 |_,_,.cons _ _ _ h=>by simp[MR.length h]
def zbf{F:CM}{d:TypeDesc}{k v:AV}{u x:Value}(hu:VR F k u)(B:VR F v x){G:Nat}:∀{H j:List (AV×AV×Nat)} {g:List MapEntry} {n:Bool} (i:Nat),pn d k v G H=some (j,n)→MR F H g →
  match n with
  |true=>Instr.findNow d u g i=some none∧MR F j (g++[{ key:=u,val:=x,born:=G }])
  |false=>∃C e y,Instr.findNow d u g i=some (some (C+i,y))∧g[C]?=some e∧Instr.sameBits 10000 e.key u=true∧MR F j (g.modify C λe=>{ e with key:=u,val:=x })
 |[],j,[],n,i,h,.nil=>by
  cases h;exact⟨rfl,.cons hu B rfl .nil⟩
 |(S,T,b)::l,j,e::r,n,i,h,.cons z I D hm=>by
  unfold pn at h;split at h
  ·rename_i E;cases h;obtain⟨A,K⟩:=nm E hu z;exact⟨0,e,e.val,by simp[Instr.findNow,A],rfl,K rfl,by simpa using MR.cons (e:={ e with key:=u,val:=x }) hu B D hm⟩
  ·rename_i E;obtain⟨A,_⟩:=nm E hu z;split at h
   ·rename_i U V L;cases h;have:=zbf hu B (i+1) L hm;cases n with
    |true=>exact⟨by simpa [Instr.findNow,A] using this.1,.cons z I D this.2⟩
    |false =>
     obtain⟨C,M,y,O,P,Q,R⟩:=this;refine⟨C+1,M,y,?_,by simpa using P,Q,by simpa using MR.cons z I D R⟩;rw[show C+1+i=C+(i+1) from J];simpa [Instr.findNow,A] using O
   ·cases h
  ·cases h
def za4(O:Program)(t:TypeId)(m k x:Operand):Nt O (ud O t m k x) (λD=>do Instr.mapUpdate t (D m) (D k) (D x);pure .skip):=by
 unfold ud;split
 ·rename_i gj V hu;split
  ·rename_i d hd;obtain⟨E,_⟩:=ze0 hd;intro w0 gg gD w gE D F P;dsimp only;split
   ·rename_i o ka va hm hk hx;have G:=P _ _ hm;have H:=P _ _ hk;have I:=P _ _ hx;split
    ·rename_i es L hg;generalize gB:D m=pm at G;cases G with
     |map B =>
      rename_i X;obtain⟨M,j,Y,Z⟩:=F.obj o _ (F.fresh _ _ _ B) hg _ B;have K:=F.lt _ _ _ B;have z:(getObj X.b).run O w=.ok (.map j L) w:=by simp[getObj,Sem.run,Y]
      have A:∀y,(setObj X.b y).run O w=.ok () { w with heap:=w.heap.setIfInBounds X.b y }:=by intro y;simp[setObj,Sem.run,Y]
      split
      ·rename_i Q R;obtain⟨S,T⟩:=zbf H I 0 R Z;refine⟨gg,{ w with heap:=w.heap.setIfInBounds X.b (.map (j.push { key:=D k,val:=D x,born:=L }) (L+1)) },undef,CM.le_refl gg,F.putObj B M _ _ ?_ (λ_ _ _ _ e=>Aq),.tup .nil,.inr ⟨?_,rfl⟩⟩
       ·intro L' g;rw[B]at g;cases g;exact⟨M,_,putObj_heap_same w _ K,by rw[Array.toList_push];exact T⟩
       ·simp only[Instr.mapUpdate,Sem.run_bind,Oa hu,Result.andThen_ok,z,pt hd,nq E S,A,Sem.run_pure]
      ·rename_i Q R;obtain⟨gC,e,y,S,T,p3,p4⟩:=zbf H I 0 R Z;have U:j[gC]?=some e:=E4
       refine⟨gg,{ w with heap:=w.heap.setIfInBounds X.b (.map (j.modify gC λe=>{ e with key:=D k,val:=D x }) L) },undef,CM.le_refl gg,F.putObj B M _ _ ?_ (λ_ _ _ _ e=>Aq),.tup .nil,.inr ⟨?_,rfl⟩⟩
       ·intro L' g;rw[B]at g;cases g;exact⟨M,_,putObj_heap_same w _ K,by rw[Array.toList_modify];exact p4⟩
       ·have C:(Instr.keyThatStays e.key (D k)).run O w=.ok (D k) w:=by simp[Instr.keyThatStays,p3]
        simp only[Instr.mapUpdate,Sem.run_bind,Oa hu,Result.andThen_ok,z,pt hd,nq E S,Lv,U,Jw,Kk,C,A,Sem.run_pure]
      ·exact trivial
    ·exact trivial
   ·exact trivial
  ·exact N6 O _
 ·exact N6 O _
def zqn(A:Program)(t:TypeId)(x:Operand):Nt A (rangeF A t x) (λB=>do pure (.value (←Instr.range t (B x)))):=by
 unfold rangeF;split
 ·rename_i hu;refine Sj λG H I w B a g j=>?_
  split
  ·rename_i len n;generalize B x=K at j;cases j with
   | @str _ _ s C D =>
    obtain⟨E,F⟩:=g.push (.iter len n 0) (.stringIter s 0) 0 0 (λL z=>by
     rw[CM.ext_same]at z;cases z;exact⟨g.low.size,rfl,s,Xv _ _,C,D⟩)
    refine⟨_,_,.pointer (some ⟨w.heap.size,0,none⟩),F,E,by simpa using VR.ptr (i:=0) (CM.ext_same H I.next 0 ⟨w.heap.size,0,0,0⟩),.inl ?_⟩;simp only[Instr.range,Sem.run_bind,Oa hu,Sem.run_pure,Result.andThen_ok,run_newObj];rfl
  ·exact trivial
 ·exact N6 A _
def zt6(Z:Program)(x:Operand)(j:Bool)(ty:TypeId):Nt Z (zx2 x j) (λρ=>do pure (.value (←Instr.next (ρ x) j ty))):=by
 unfold zx2;split
 ·rename_i hs;subst hs;refine Sj λw0 gg gj w ρ a C T=>?_
  split
  ·rename_i o;split
   ·rename_i len n g hg;generalize ρ x=px at T;cases T with
    | @ptr _ _ _ M D =>
     obtain⟨U,E,s,V,X,Y⟩:=C.obj o _ (C.fresh _ _ _ D) hg _ D;have O:=C.lt _ _ _ D;have A:(getObj M.b).run Z w=.ok (.stringIter s g) w:=Er
     have F:∀y,(setObj M.b y).run Z w=.ok () { w with heap:=w.heap.setIfInBounds M.b y }:=by intro y;simp[setObj,Sem.run,V]
     have B:(⟨M.b,M.d+0,none⟩:Addr)=⟨M.b,0,none⟩:=by rw[E]
     rw[B];split
     ·rename_i G;have H:g<len:=by rw[Ru]at G;simpa using G
      have z:g<s.size:=E9
      split
      ·rename_i P;have Q:s.data.toList[g]?=some s[g]:=by
        rw[Ib (by rw[X];exact H)];rfl
       have I:=zha Q;rw[Y]at I;have R:Nat.mod (Nat.div n (Nat.pow 256 g)) 256=s[g].toNat:=I;rw[R]at P ⊢;have S:s[g].toNat<128:=by rw[Ru]at P;simpa using P
       have K:=decode_ascii s g z S;refine⟨gg,{ w with heap:=w.heap.setIfInBounds M.b (.stringIter s (g+1)) },.tuple #[.bool true,goInt g,.int .i32 (s[g].toNat:Int)],CM.le_refl gg,
        C.putObj D U _ _ ?_ (λ_ _ _ _ e=>Aq),.tup (.cons (.bool _) (.cons (.int _ _) (.cons (.int _ _) .nil))),.inl ?_⟩
       ·intro L' L;rw[D]at L;cases L;exact⟨U,E,s,putObj_heap_same w _ O,X,Y⟩
       ·simp only[Instr.next,Sem.run_bind,A,Result.andThen_ok,Ij z,K,F,Sem.run_pure]
      ·exact trivial
     ·rename_i G;have H:¬g<len:=by rw[Ru]at G;simpa using G
      have z:¬g<s.size:=E9
      refine Pj C (x:=.tuple #[.bool false]) (.tup (.cons (.bool _) .nil)) ?_;simp only[Instr.next,Sem.run_bind,A,Result.andThen_ok,Ii z,Sem.run_pure]
   ·exact trivial
  ·exact trivial
 ·exact N6 Z _
end
section
open Go.RowKit (Below)
def Rel.bump{w0:World}{C:CM}{H:Heap}{w w':World}(h:Rel w0 C H w){o len:Nat}{c:Tr AV}(ho:o<H.next)(gF:∃v L,C o v=some L)(hg:H.get o=some (.cells c len j false))(L':Loc)(c':Tr AV)(gB:Nat)
  (gD:Below w0.heap.size w0 w') (gG:w.heap.size≤w'.heap.size) (gH:L'.b<w'.heap.size) (hex:∀o' v L,C o' v=some L→L.b=L'.b→o'=o)
  (gI:∀o' v L,o'≠o→C o' v=some L→w'.heap[L.b]?=w.heap[L.b]?) (gK:Po w0.heap.size (C.ext o (j+1) L') w' o (.cells c' gB (j+1) false)) :
  Rel w0 (C.ext o (j+1) L') (H.put o (.cells c' gB (j+1) false)) w'∧C.le (C.ext o (j+1) L'):=by
 have gC:C o (j+1)=none:=by
  cases e:C o (j+1) with
  |none=>rfl
  |some L=>have:=h.top _ _ _ _ _ ho hg _ _ e;omega
 have hle:C.le (C.ext o (j+1) L'):=CM.le_ext _ gC (.inl gF);refine⟨⟨by show max C.nx (o+1)=H.next;rw[h.nx];exact Nat.max_eq_left ho,gD,?_,?_,?_,?_,?_⟩,hle⟩
 ·intro o' v L hL;by_cases e:o'=o∧v=j+1
  ·rw[e.1];exact ho
  ·rw[CM.ext_ne _ _ e]at hL;exact h.fresh _ _ _ hL
 ·intro o' v L hL;by_cases e:o'=o∧v=j+1
  ·obtain⟨rfl,rfl⟩:=e;rw[CM.ext_same]at hL;cases hL;exact gH
  ·rw[CM.ext_ne _ _ e]at hL;exact Ix (h.lt _ _ _ hL) gG
 ·intro o1 v1 L1 o2 v2 L2 h1 h2 hb hB;by_cases e1:o1=o∧v1=j+1<;>by_cases e2:o2=o∧v2=j+1
  ·rw[e1.1,e2.1]
  ·obtain⟨rfl,rfl⟩:=e1;rw[CM.ext_same]at h1;cases h1;rw[CM.ext_ne _ _ e2]at h2;exact (hex _ _ _ h2 hb.symm).symm
  ·obtain⟨rfl,rfl⟩:=e2;rw[CM.ext_same]at h2;cases h2;rw[CM.ext_ne _ _ e1]at h1;exact hex _ _ _ h1 hb
  ·rw[CM.ext_ne _ _ e1]at h1;rw[CM.ext_ne _ _ e2]at h2;exact h.excl _ _ _ _ _ _ h1 h2 hb hB
 ·intro o' ob gj gg;by_cases e:o'=o
  ·subst e;rw[Heap.get_put_same]at gg;cases gg;exact gK
  ·have gE:o'<H.next:=gj;rw[Heap.get_put_ne H _ e]at gg;exact (h.obj _ _ gj gg).frame hle (λv L hL=>by rwa [CM.ext_ne _ _ (λq=>e q.1)]at hL) (λv L hL=>gI _ _ _ e hL)
 ·intro o' c1 gL gM gO gj gg v L hL;by_cases e:o'=o
  ·subst e;rw[Heap.get_put_same]at gg;cases gg;by_cases e2:v=j+1
   ·omega
   ·rw[CM.ext_ne _ _ J]at hL;have:=h.top _ _ _ _ _ ho hg _ _ hL;omega
  ·have gE:o'<H.next:=gj;rw[Heap.get_put_ne H _ e]at gg;rw[CM.ext_ne _ _ (λq=>e q.1)]at hL;exact h.top _ _ _ _ _ gj gg _ _ hL
structure AppX (P:Program) (w:World) (elem:TypeId) (size:Nat) (xt:TypeId) (x:Value) (n:Nat) (news:Array Value):Prop where
 und:∃d,P.underlying xt=some d∧((d=.string∨∃e,d=.slice e)∧(Builtin.lenOf x).run P w=.ok n w∧(∀w',w'.heap=w.heap→(Builtin.firstCells size n x).run P w'=.ok news w')
  ∨ (∃k,d=.int k)∧x=.int .i64 (Int.ofNat n)∧n≤1048576∧0<size∧∃zv,(∀w',(zeroValue elem).run P w'=.ok zv w')∧(∃i,P.info? elem=some i∧i.bytes≤65536)∧news=Builtin.zeroCells zv.cells n∧zv.cells.size=size)
def zdy(g:Array Value):Builtin.zeroCells g 0=#[]:=by simp[Builtin.zeroCells]
def wy{w w':World}{st elem ty:TypeId}{n len cap:Nat}{base:Option Addr}{x:Value}(hu:z.underlying st=some (.slice elem))(H:Oz z elem=some g)
  (K:AppX z w elem g S x n v6) (B:len+n≤cap)
  (j:match base with
   |none=>w'=w
   |some a=>(storeCells (a.add (len*g)) v6.toList).run z w=.ok () w') :
  (Builtin.append_ #[st,S] ty #[.slice base len cap,x]).run z w=.ok (.slice base (len+n) cap) w':=by
 obtain⟨d,hd,A⟩:=K.und;unfold Builtin.append_;rcases A with ⟨D,C,L⟩|⟨⟨k,rfl⟩,rfl,M,I,V,O,⟨i,hi,E⟩,rfl,P⟩
 ·rcases D with rfl|⟨e,rfl⟩
  all_goals
   simp only[Jm,It,Iv,Sem.run_bind,Oa hu,Oa hd,Sa H,Result.andThen_ok,Sem.run_pure,Kx,Mz,C,Sem.run_ite,Ij B,Mj,K7,L w rfl];cases base with
   |none=>subst j;rfl
   |some a=>simp only[Sem.run_bind,j,Result.andThen_ok,Sem.run_pure]
 ·have Q:IntKind.i64.wrap (Int.ofNat n)=Int.ofNat n:=At
  have R:¬(Int.ofNat n<0):=N
  have T:¬(Int.ofNat n*(i.bytes:Int)>2^48):=by
   have:(Int.ofNat n*(i.bytes:Int))=((n*i.bytes:Nat):Int):=N
   rw[this];have:n*i.bytes≤1048576*65536:=K3 M E;omega
  simp only[Jm,It,Iv,Sem.run_bind,Oa hu,Oa hd,Sa H,Result.andThen_ok,Sem.run_pure,K7,asInt,asIntOf,Q,Sem.run_ite,Ii R,et hi,Ii T,Bool.not_true,Kx,Mz];have U:(Int.ofNat n).toNat=n:=rfl;rw[U,Ij B];by_cases F:n*g=0
  ·have G:n=0:=by
    rcases Nat.mul_eq_zero.1 F with h|h
    ·exact h
    ·omega
   subst G;rw[zdy]at j;rw[Ij F];simp only[Result.andThen_ok];cases base with
   |none=>subst j;rfl
   |some a=>simp only[Sem.run_bind,j,Result.andThen_ok,Sem.run_pure]
  ·rw[Ii F];simp only[O,Result.andThen_ok];cases base with
   |none=>subst j;rfl
   |some a=>simp only[Sem.run_bind,j,Result.andThen_ok,Sem.run_pure]
def z47{P:Program}{w:World}{st elem ty:TypeId}{i:TypeInfo}{n len cap:Nat}{base:Option Addr}{x zv:Value}{olds:Array Value}(hu:P.underlying st=some (.slice elem))(hi:P.info? elem=some i)
  (U:AppX P w elem i.size S x n v6) (I:cap<len+n) (F:i.bytes≤65536) (D:len+n≤2000000000) (K:∀w',(zeroValue elem).run P w'=.ok zv w')
  (z:(Builtin.firstCells i.size len (.slice base len cap)).run P w.drew=.ok olds w.drew) :
  (Builtin.append_ #[st,S] ty #[.slice base len cap,x]).run P w =
   .ok (.slice (some ⟨w.heap.size,0,none⟩) (len+n) (grownCap w (len+n) cap elem)) (w.drew.alloc (.cells (olds++v6++Builtin.zeroCells zv.cells (grownCap w (len+n) cap elem-(len+n))) elem)):=by
 have R:Oz P elem=some i.size:=F6
 obtain⟨d,hd,E⟩:=U.und;have A:¬(len+n≤cap):=J
 have B:¬(Builtin.nextslicecap (len+n) cap*i.bytes>2^48):=by
  have h1:(len+n)*i.bytes≤2000000000*65536:=K3 D F;have:=growslice_fits (bytes:=i.bytes) I J;omega
 have C:¬(((len+n:Nat):Int)>IntKind.i64.max):=by
  simp only[IntKind.max,IntKind.signed,IntKind.bits,K7];omega
 have g:(Question.appendCap (len+n) cap elem).forced=false:=rfl;unfold Builtin.append_;rcases E with ⟨L,G,V⟩|⟨⟨k,rfl⟩,rfl,X,T,M,H,⟨gg,hj,_⟩,rfl,Y⟩
 ·have j:(Builtin.firstCells i.size len (.slice base len cap)).run P { w with drawn:=w.drawn+1 }=.ok olds { w with drawn:=w.drawn+1 }:=z;rcases L with rfl|⟨e,rfl⟩
  all_goals
   simp only[Jm,It,Iv,Sem.run_bind,Oa hu,Oa hd,Sa R,Result.andThen_ok,Sem.run_pure,Kx,Mz,G,Sem.run_ite,Ii A,et hi,C,false_and,Ii B,run_choose,g,run_askRoom];simp only[j,Result.andThen_ok,Mj,K7,V { w with drawn:=w.drawn+1 } rfl,K,newRow,Sem.run_bind,run_newObj,Sem.run_pure];rfl
 ·obtain rfl:M=zv:=by have a:=H w;rw[K w]at a;cases a;rfl
  have Z:IntKind.i64.wrap (Int.ofNat n)=Int.ofNat n:=At
  have e2:¬(Int.ofNat n<0):=N
  have e3:¬(Int.ofNat n*(i.bytes:Int)>2^48):=by
   have:(Int.ofNat n*(i.bytes:Int))=((n*i.bytes:Nat):Int):=N
   rw[this];have:n*i.bytes≤1048576*65536:=K3 X F;omega
  simp only[Jm,It,Iv,Sem.run_bind,Oa hu,Oa hd,Sa R,Result.andThen_ok,Sem.run_pure,K7,asInt,asIntOf,Z,Sem.run_ite,Ii e2,et hi,Ii e3,Bool.not_true,Kx,Mz];have e4:(Int.ofNat n).toNat=n:=rfl;rw[e4,Ii A];simp only[C,false_and,Mz,Result.andThen_ok,Ii B,run_choose,g,Kx,run_askRoom];have j:(Builtin.firstCells i.size len (.slice base len cap)).run P { w with drawn:=w.drawn+1 }=.ok olds { w with drawn:=w.drawn+1 }:=z;simp only[j,Result.andThen_ok];by_cases O:n*i.size=0
  ·have Q:n=0:=by
    rcases Nat.mul_eq_zero.1 O with h|h
    ·exact h
    ·omega
   subst Q;rw[Ij O];simp only[Sem.run_pure,Result.andThen_ok,zdy,K,newRow,Sem.run_bind,run_newObj];rfl
  ·rw[Ii O];simp only[Sem.run_bind,H,Sem.run_pure,Result.andThen_ok,newRow,run_newObj];rfl
def zek{P:Program}{t:TypeId}{l:List AV}(h:R5 P t=some l):∃v i,(∀w',(zeroValue t).run P w'=.ok v w')∧S9 v.cells.toList=some l∧P.info? t=some i∧l.length=i.size:=by
 unfold R5 at h;cases hi:P.info? t with
 |none=>simp[hi]at h
 |some i =>
  simp only[hi]at h;cases g:i.zero with
  |none=>simp[g]at h
  |some v =>
   simp only[g]at h;cases j:S9 v.cells.toList with
   |none=>simp[j]at h
   |some r =>
    simp only[j]at h;split at h
    ·cases h;rename_i z;exact⟨v,i,λw'=>El,j,rfl,z⟩
    ·cases h
def z9j{l r:List Value}{n:Nat}(h:l.length=n):(l++r).take n=l:=by rw[←h];simp
def zyf{C:CM}{w:World}(G:Rel E C X w){elem:TypeId}{i:TypeInfo}{n:Nat}{l:List AV}{cs:Array Value}{cap:Nat}(g:n≤cap)
  (P:l.length=n*i.size) (H:cs.size=cap*i.size) (I:VRs C l (cs.toList.take l.length)) (K:∀a∈l,a.one=true) {F:Sem Next}
  (j:F.run z w=.ok (.value (.slice (some ⟨w.heap.size,0,none⟩) n cap)) (w.drew.alloc (.cells cs elem))):Q4 z E C w F (Xf X n i.size l):=by
 unfold Xf;cases L:newObj X l with
 |none=>exact trivial
 |some r =>
  obtain⟨o,Q⟩:=r;have hm:n*i.size≤cap*i.size:=Ip _ g;obtain⟨M,A,B,D⟩:=G.drew.newRow L elem (0,0) (vs:=cs) J I K N;refine⟨M,_,_,A,B,?_,.inl j⟩;have:=VR.sl (i:=0) (len:=n) (esz:=i.size) (room:=none) (cap:=cap) D An An g (λr O=>by cases O) (λ_=>An);simpa using this
def zot{P:Program}{C:CM}{w:World}(H:Rel E C X w){st elem ty:TypeId}{i:TypeInfo}(hu:P.underlying st=some (.slice elem))(hi:P.info? elem=some i)(gT:0<i.size)
  (gG:i.bytes≤65536) (hz:R5 P elem=some M) {s:AV} {x:Value} (hs:VR C s vZ) {n:Nat} {j:List AV} {news:Array Value} (Z:AppX P w elem i.size S x n news) (hn:n≤1048576)
  (D:VRs C j news.toList) (I:∀a∈j,a.one=true) (gB:j.length=n*i.size) :
  Q4 P E C w (do pure (.value (←Builtin.append_ #[st,S] ty #[vZ,x]))) (Vc X i.size s n j):=by
 have Q:Oz P elem=some i.size:=F6
 obtain⟨zv,gS,gH,jD,gU,jU⟩:=zek hz;rw[hi]at gU;cases gU;have gI:zv.cells.size=i.size:=by
  have:=(Wd (C:=C) jD).1.length;simp at this;omega
 have K:news.size=n*i.size:=by have:=D.length;simp at this;omega
 unfold Vc;split
 ·rename_i h0;have gV:n=0:=Ig h0;subst gV;have gX:news=#[]:=Ky J;subst gX;split
  ·cases hs;have z:=wy (ty:=ty) (base:=none) (len:=0) (cap:=0) (w':=w) hu Q Z J rfl;exact Pj H .nilSl Bi
  ·cases hs with
   | @emp a cap =>
    have z:=wy (ty:=ty) (base:=some a) (len:=0) (cap:=cap) (w':=w) hu Q Z J rfl;exact Pj H (x:=.slice (some a) 0 cap) .emp Bi
  ·rename_i o v k len gY gC;have jE:=hs;cases hs with
   | @sl _ _ _ _ _ _ L cap O q1 q2 q3 =>
    have z:=wy (ty:=ty) (base:=some ⟨L.b,L.d+k,none⟩) (len:=len) (cap:=cap) (w':=w) hu Q Z J rfl;exact Pj H jE (by simp only[Sem.run_bind,z,Result.andThen_ok,Sem.run_pure];rfl)
  ·exact trivial
 ·rename_i h0;have gV:n≠0:=λe=>by rw[e]at h0;cases h0
  split
  ·cases hs;have T:=grownCap_ge w (0+n) 0 elem;refine zyf H (elem:=elem) (cap:=grownCap w (0+n) 0 elem) (cs:=#[]++news++Builtin.zeroCells zv.cells (grownCap w (0+n) 0 elem-(0+n))) J gB ?_ ?_ I ?_
   ·rw[Jp,Jp,size_zeroCells,gI,K];have:=wj i.size (show 0+n≤grownCap w (0+n) 0 elem from T);simp at this ⊢;omega
   ·rw[Mb,Mb,z9j Ab];simpa using D
   ·have:=z47 (ty:=ty) (base:=none) (len:=0) (cap:=0) (olds:=#[]) hu hi Z J gG J gH (by simp[Builtin.firstCells]);simp only[Sem.run_bind,this,Result.andThen_ok,Sem.run_pure,Jc]
  ·rename_i o v k len gY gC;split
   ·exact trivial
   ·rename_i he;rw[H9]at he;have gD:len≤Nm:=In he.2;have jF:gY=i.size:=Ig he.1;subst jF;cases hs with
    | @sl _ _ _ _ _ _ L cap O q1 q2 q3 q4 q5 =>
     have U:(⟨L.b,L.d+k,none⟩:Addr).add (len*i.size)=⟨L.b,L.d+(k+len*i.size),none⟩:=kr _ _ _ _;have gZ:(len+n)*i.size=len*i.size+n*i.size:=I5 _ _ _;have gE:∀G,Pt X o v k (len*i.size)=some G→∃A:Array Value,(Builtin.firstCells i.size len (.slice (some ⟨L.b,L.d+k,none⟩) len cap)).run P w.drew=.ok A w.drew∧VRs C G A.toList∧(∀a∈G,a.one=true)∧G.length=len*i.size:=by
      intro G z;obtain⟨vs,p1,V,p3,p4,_,_⟩:=H.drew.read P z O;exact⟨vs.toArray,by simpa [Builtin.firstCells] using p1,by simpa using V,p3,p4⟩
     split
     ·rename_i r;obtain⟨g8,gK⟩:=q4 r rfl;subst g8;split
      ·rename_i R;have F:len+n≤cap:=In R;split
       ·rename_i H' hw;have gL:Up X o v (k+len*i.size) j=some H':=hw;obtain⟨Y,p1,V⟩:=H.write P gL O D I;have jG:(len+n)*i.size≤cap*i.size:=Ip _ F;refine⟨C,Y,.slice (some ⟨L.b,L.d+k,none⟩) (len+n) cap,CM.le_refl C,V,.sl O (J:k+(len+n)*i.size≤L.n) q2 F (λr z=>by cases z;exact⟨rfl,gK⟩) (λe=>Aq),.inl ?_⟩;simp only[Sem.run_bind,wy (w':=Y) (base:=some ⟨L.b,L.d+k,none⟩) hu Q Z F (by dsimp only;rw[U];exact p1),Result.andThen_ok,Sem.run_pure]
       ·exact trivial
      ·rename_i R;have jH:cap<len+n:=by
        rcases Le cap (len+n) with h|h
        ·exact h
        ·rw[show Nat.ble (Nat.add len n) cap=true from Ih h]at R;cases R
       split
       ·rename_i G z;obtain⟨A,p1,V,p3,p4⟩:=gE G z;have gg:A.size=len*i.size:=by have:=V.length;simp at this;omega
        have T:=grownCap_ge w (len+n) cap elem;refine zyf H (elem:=elem) (cap:=grownCap w (len+n) cap elem) (cs:=A++news++Builtin.zeroCells zv.cells (grownCap w (len+n) cap elem-(len+n))) T ?_ ?_ ?_ ?_ ?_
        ·rw[Im,p4,gB];exact gZ.symm
        ·rw[Jp,Jp,size_zeroCells,gI,K,gg];have:=wj i.size T;omega
        ·rw[Mb,Mb,z9j Ab];exact V.append D
        ·intro a ha;rcases I2.1 ha with h|h
         ·exact p3 a h
         ·exact I a h
        ·have:=z47 (ty:=ty) (base:=some ⟨L.b,L.d+k,none⟩) hu hi Z jH gG (by unfold Nm at gD;omega) gH p1;simp only[Sem.run_bind,this,Result.andThen_ok,Sem.run_pure]
       ·exact trivial
     ·have gM:=q5 rfl;split
      ·rename_i c g jI T;split
       ·exact trivial
       ·rename_i hv;have jK:v=jI:=Ig hv;subst jK;have ho:=H.fresh _ _ _ O;have jL:=H.obj o _ ho T;obtain⟨p1,V,p3,vs,e,lo,g9,p4,p5,p6,p7⟩:=jL L O;split
        ·rename_i R;have F:k+(len+n)*i.size≤g:=In R;have gF:len+n≤cap:=by
          have:(len+n)*i.size≤cap*i.size:=J
          exact M0 this gT
         split
         ·rename_i H' hw;have gL:Up X o v (k+len*i.size) j=some H':=hw;obtain⟨Y,r1,r2⟩:=H.write P gL O D I;refine⟨C,Y,.slice (some ⟨L.b,L.d+k,none⟩) (len+n) cap,CM.le_refl C,r2,.sl O (J:k+(len+n)*i.size≤L.n) q2 gF (λr z=>by cases z) (λ_=>gM),.inl ?_⟩;simp only[Sem.run_bind,wy (w':=Y) (base:=some ⟨L.b,L.d+k,none⟩) hu Q Z gF (by dsimp only;rw[U];exact r1),Result.andThen_ok,Sem.run_pure]
         ·exact trivial
        ·rename_i jS;split
         ·exact trivial
         ·rename_i hk;have jM:k=0:=Ig hk;subst jM;split
          ·exact trivial
          ·rename_i jg;have gO:len*i.size=g:=Ig jg;by_cases hc:len+n≤cap
           ·
            have jG:(len+n)*i.size≤cap*i.size:=Ip _ hc;obtain⟨Y,jO,r1,r2,r3,r4,r5,r6,r7,r8,r9⟩:=z7m P ⟨L.b,L.d+(0+len*i.size),none⟩ news.toList 0 w vs e lo g9 rfl p4 (D.one I) Ab
             (λgS hj gj=>by simp at hj gj;exact p6 gS J J)
            obtain⟨gQ,F⟩:=H.bump ho ⟨_,_,O⟩ T ⟨L.b,L.d,g+j.length,L.sz⟩ (Pp j g c) (g+j.length) (w':=Y)
             (H.low.trans ⟨r6,r7,r8,J,λgS hj=>r4 gS (by dsimp only;have:=V rfl;omega)⟩) J (show L.b<Y.heap.size by rw[r5];exact H.lt _ _ _ O)
             (λo' v' L' B hb=>(H.excl _ _ _ _ _ _ O B hb.symm (V rfl)).symm)
             (λo' v' L' jP B=>r4 _ (λe'=>jP (H.excl _ _ _ _ _ _ O B e'.symm (V rfl)).symm))
             (by
              intro L' B;rw[CM.ext_same]at B;cases B;refine⟨rfl,λ_=>V rfl,An,jO,e,lo,g9,r2,An,p6,?_⟩;refine Xt.mono (CM.le_ext _ ?_ (.inl ⟨_,_,O⟩)) (p7.lay D I (If _) (If _) (.inr rfl) (λgS=>?_))
              ·cases e':C o (v+1) with
               |none=>rfl
               |some jQ=>have:=H.top _ _ _ _ _ ho T _ _ e';omega
              ·rw[r9 gS];have:L.d+(0+len*i.size)+0=L.d+g:=J
               simp only[this])
            refine⟨_,Y,.slice (some ⟨L.b,L.d+0,none⟩) (len+n) cap,F,gQ,?_,.inl ?_⟩
            ·exact VR.sl (L:=⟨L.b,L.d,g+j.length,L.sz⟩) (i:=0) (len:=len+n) (esz:=i.size) (room:=none) (cap:=cap) (CM.ext_same C o (v+1) ⟨L.b,L.d,g+j.length,L.sz⟩)
              An An hc (λr z=>by cases z) (λ_=>An)
            ·simp only[Sem.run_bind,wy (w':=Y) (base:=some ⟨L.b,L.d+0,none⟩) hu Q Z hc (by dsimp only;rw[U];exact r1),Result.andThen_ok,Sem.run_pure]
           ·
            have z:∃G,Pt X o v 0 (len*i.size)=some G:=by
             unfold Pt;rw[T];have hb:Nat.ble (Nat.add 0 (len*i.size)) g=true:=Ih (by show 0+len*i.size≤g;omega);simp only[I3,hb];have:∀m a,a+m≤g→∃l,R8 c a m=some l:=by
              intro m
              induction m with
              |zero=>intro a _;exact⟨[],rfl⟩
              |succ m ih =>
               intro a ha;obtain⟨x1,y1,_⟩:=p7 a J;obtain⟨l1,y2⟩:=ih (a+1) J;exact⟨x1::l1,by simp only[R8,y1,y2]⟩
             exact this _ 0 J
            obtain⟨G,z⟩:=z;obtain⟨A,s1,s2,s3,s4⟩:=gE G z;have gg:A.size=len*i.size:=by have:=s2.length;simp at this;omega
            have jz:=grownCap_ge w (len+n) cap elem;have jA:=z47 (ty:=ty) (base:=some ⟨L.b,L.d+0,none⟩) hu hi Z J gG (by unfold Nm at gD;omega) gH s1;have jX:=wj i.size jz;have jB:(A++news++Builtin.zeroCells zv.cells (grownCap w (len+n) cap elem-(len+n))).size=grownCap w (len+n) cap elem*i.size:=by
             rw[Jp,Jp,size_zeroCells,gI,K,gg];omega
            obtain⟨gQ,F⟩:=H.bump ho ⟨_,_,O⟩ T ⟨w.heap.size,0,g+j.length,grownCap w (len+n) cap elem*i.size⟩ (Pp j g c) (g+j.length)
             (w':=w.drew.alloc (.cells (A++news++Builtin.zeroCells zv.cells (grownCap w (len+n) cap elem-(len+n))) elem))
             (H.low.drew.alloc H.low.size _) (by rw[World.size_alloc,World.size_drew];omega) (by rw[World.size_alloc,World.size_drew];dsimp only;omega)
             (λo' v' L' B hb=>by have:=H.lt _ _ _ B;dsimp only at hb;omega)
             (λo' v' L' _ B=>z4y w.drew _ (H.lt _ _ _ B))
             (by
              intro L' B;rw[CM.ext_same]at B;cases B;refine⟨rfl,λ_=>H.low.size,An,_,elem,0,0,Xv w.drew _,by rw[jB];exact If _,λ_ _ _=>J,?_⟩;have gR:C o (v+1)=none:=by
               cases e':C o (v+1) with
               |none=>rfl
               |some jQ=>have:=H.top _ _ _ _ _ ho T _ _ e';omega
              refine Xt.mono (CM.le_ext _ gR (.inl ⟨_,_,O⟩)) ?_;obtain⟨g1,g2⟩:=d7 (show R8 c 0 (len*i.size)=some G by
               unfold Pt at z;rw[T]at z;dsimp only at z;split at z
               ·split at z
                ·exact z
                ·cases z
               ·cases z)
              intro gS hj;rw[get_ofList j g c gS,Jc];by_cases gj:g≤gS∧gS<g+j.length
              ·rw[Ij gj];obtain⟨a,x1,y1,y2,y3⟩:=D.get' (i:=gS-g) J;refine⟨a,y1,I a (Jd y1),x1,?_,y3⟩;rw[Jx (by rw[Jp];omega),My J,gg,gO];simpa using y2
              ·rw[Ii gj];have jR:gS<len*i.size:=J
               have:=g2 gS jR;rw[Jc]at this;obtain⟨a,x1,y1,y2,y3⟩:=s2.get' (i:=gS) J;rw[y1]at this;refine⟨a,this,s3 a (Jd y1),x1,?_,y3⟩;rw[Jx (by rw[Jp];omega),Jx J];simpa using y2)
            refine⟨_,_,.slice (some ⟨w.heap.size,0,none⟩) (len+n) (grownCap w (len+n) cap elem),F,gQ,?_,.inl ?_⟩
            ·have:=VR.sl (i:=0) (len:=len+n) (esz:=i.size) (room:=none) (cap:=grownCap w (len+n) cap elem) (CM.ext_same C o (v+1) ⟨w.heap.size,0,g+j.length,grownCap w (len+n) cap elem*i.size⟩)
              An An jz (λr z=>by cases z) (λ_=>An)
             simpa using this
            ·simp only[Sem.run_bind,jA,Result.andThen_ok,Sem.run_pure]
      ·exact trivial
  ·exact trivial
end
section
open Go.RowKit (Below)
def znp{w:World}(h:E.heap=w.heap)(a:Addr):E.cell? a=w.cell? a:=by simp[World.cell?,h]
def zke{P:Program}{C:CM}{w:World}(Q:Rel E C X w){b:AV}{x:Value}(D:VR C b x){n:Nat}{l:List AV}(h:Zg X g b=some (n,l)) :
  ∃A:List Value,VRs C l A∧(∀a∈l,a.one=true)∧l.length=n*g∧(Builtin.lenOf x).run P w=.ok n w ∧
   ∀m,m≤n→∀z,z.heap=w.heap→(Builtin.firstCells g m x).run P z=.ok (A.take (m*g)).toArray z:=by
 unfold Zg at h;split at h
 ·cases h;cases D;exact⟨[],.nil,N,N,rfl,λm hm z _=>by simp[Builtin.firstCells]⟩
 ·cases h;cases D with
  | @emp a cap =>
   refine⟨[],.nil,N,N,rfl,λm hm z _=>?_⟩;have:m=0:=J
   subst this;simp only[Builtin.firstCells,Kz];rw[z8q P z a 0 [] rfl (λO I=>J)];rfl
 ·rename_i o v i len j K;split at h
  ·rename_i R;have G:j=g:=Ig R;subst G;split at h
   ·rename_i l' S;cases h;cases D with
    | @sl _ _ _ _ _ _ gg cap T =>
     obtain⟨A,_,F,U,L,_,V⟩:=Q.read P S T;refine⟨A,F,U,L,rfl,λm hm z hw=>?_⟩;have Y:m*j≤n*j:=Ip _ hm;have Z:A.length=n*j:=by have e1:=F.length;have e2:l.length=n*j:=L;omega
     simp only[Builtin.firstCells];refine z8q P z _ _ _ Ab (λO I=>?_);rw[kr,znp hw,V O (show O<Nat.mul n j by show O<n*j;omega),I4 I]
   ·cases h
  ·cases h
 ·rename_i len n';split at h
  ·rename_i H;cases h;have B:g=1:=Ig H;subst B;cases D with
   | @str _ _ s h1 F =>
    subst h1 F;rw[unpack_pack];refine⟨s.data.toList.map λb=>Value.int .u8 (b.toNat:Int),?_,?_,N,rfl,λm hm z _=>?_⟩
    ·generalize s.data.toList=q
     induction q with
     |nil=>exact .nil
     |cons b q ih=>exact .cons (.int _ _) ih
    ·intro a M;simp only[Kh]at M;obtain⟨b,_,rfl⟩:=M;rfl
    ·simp only[Builtin.firstCells,Sem.run_pure]
     congr 1
     apply Mn.1;rw[J2,Lib.extract_data];simp
  ·cases h
 ·cases h
def Nt.congr{P:Program}{f:OpF}{nx C:(Operand→Value)→Sem Next}(h:∀ρ,nx ρ=C ρ)(s:Nt P f nx):Nt P f C:=λw0 gg H w E ρ hR hρ=>by rw[←h ρ];exact s w0 gg H w E ρ hR hρ
def Wp{a:Array v8}{x y:v8}(h:a.toList=[x,y]):a=#[x,y]:=Mn.1 h
def Wm{a:Array v8}{x:v8}(h:a.toList=[x]):a=#[x]:=Mn.1 h
def zn8(P:Program)(ts:Array TypeId)(D:Array Operand)(R:TypeId):Nt P (zgk P ts D) (λG=>do pure (.value (←Builtin.append_ ts R (D.map G)))):=by
 unfold zgk;split
 ·rename_i st S s x T E;have U:=Wp T;have F:=Wp E;subst U F;refine Nt.congr (nx:=λG=>do pure (.value (←Builtin.append_ #[st,S] R #[G s,G x]))) (λG=>N) ?_;have H:∀g,P.underlying st=some (.slice g)→∀d,P.underlying S=some d→(d=.string∨∃e,d=.slice e)→Nt P (pj P g s x) (λG=>do pure (.value (←Builtin.append_ #[st,S] R #[G s,G x]))):=by
   intro g hu d hd V;unfold pj;split
   ·rename_i i gE hi L;split
    ·rename_i X;obtain⟨j,z⟩:=X;refine Xo λw0 C gF w G a b M Y O=>?_
     split
     ·rename_i n l ht;split
      ·rename_i Z;have A:n≤1048576:=In Z;obtain⟨vs,h1,h2,h3,h4,h5⟩:=zke (P:=P) M O ht;have gD:vs.length=n*i.size:=by have:=h1.length;omega
       refine zot M hu hi j z L Y (news:=vs.toArray) ⟨d,hd,.inl ⟨V,h4,λw' hw=>?_⟩⟩ A (by simpa using h1) h2 h3;rw[h5 n (If _) w' hw,Io J]
      ·exact trivial
     ·exact trivial
    ·exact N6 P _
   ·exact N6 P _
  split
  ·rename_i g k hu I;unfold zks;split
   ·rename_i i gE hi L;split
    ·rename_i X;obtain⟨j,z⟩:=X;refine Xo λw0 C gF w G a b M Y O=>?_
     split
     ·rename_i n;split
      ·rename_i Z;have A:n≤1048576:=In Z;obtain⟨Q,gG,gg,gj,K,gB⟩:=zek L;rw[hi]at K;cases K;obtain⟨k1,k2⟩:=Wd (C:=C) gj;have gC:Q.cells.size=i.size:=by have:=k1.length;simp at this;omega
       have B:VRs C (Sw gE n) (Builtin.zeroCells Q.cells n).toList:=by
        unfold Builtin.zeroCells;rw[xf];exact th k1 n
       generalize G x=px at O;cases O;exact zot M hu hi j z L Y (news:=Builtin.zeroCells Q.cells n) ⟨_,I,.inr ⟨⟨_,rfl⟩,rfl,A,j,Q,gg,⟨i,hi,z⟩,rfl,gC⟩⟩ A B (vp k2 n) (by rw[z5o,gB])
      ·exact trivial
     ·exact trivial
    ·exact N6 P _
   ·exact N6 P _
  ·rename_i g e hu I;exact H g hu _ I (.inr ⟨e,rfl⟩)
  ·rename_i g hu I;exact H g hu _ I (.inl rfl)
  ·exact N6 P _
 ·exact N6 P _
def ztl(P:Program)(R:Array TypeId)(g:Array Operand)(S:TypeId):Nt P (zd P R g) (λE=>do pure (.value (←Builtin.copy_ R S (g.map E)))):=by
 unfold zd;split
 ·rename_i st xt s x G A;have H:=Wp G;have B:=Wp A;subst H B;refine Nt.congr (nx:=λE=>do pure (.value (←Builtin.copy_ #[st,xt] S #[E s,E x]))) (λE=>N) ?_;split
  ·rename_i T hu;split
   ·exact N6 P _
   ·rename_i j I;split
    ·rename_i U;refine Xo λw0 gj gC w E a b F z hb=>?_
     split
     ·rename_i n l ht;obtain⟨V,X,h2,h3,K,L⟩:=zke (P:=P) F hb ht;have gg:V.length=n*j:=by have:=X.length;omega
      split
      ·generalize E s=Y at z;cases z;refine Pj F (x:=.int .i64 0) (.int _ _) ?_;have C:=L 0 (Lk _) w rfl;have M:Nat.min n 0=0:=Nat.min_zero n;unfold Builtin.copy_;simp only[Jm,It,Iv,Sem.run_bind,Oa hu,Result.andThen_ok,K,Sa I,M,C,Sem.run_pure];rfl
      ·generalize E s=Y at z;cases z with
       | @emp ad cap =>
        refine Pj F (x:=.int .i64 0) (.int _ _) ?_;have C:=L 0 (Lk _) w rfl;have M:Nat.min n 0=0:=Nat.min_zero n;unfold Builtin.copy_;simp only[Jm,It,Iv,Sem.run_bind,Oa hu,Result.andThen_ok,K,Sa I,M,C,Sem.run_pure];simp[storeCells,goInt]
      ·rename_i o v i len D Z;split
       ·rename_i he;have O:D=j:=Ig he;subst O;split
        ·rename_i H' hw;generalize E s=Y at z;cases z with
         | @sl _ _ _ _ _ _ gB cap hL q1 q2 q3 =>
          have hm:Pr n len=Nat.min n len:=zhh n len;have C:=L (Nat.min n len) (Nat.min_le_left _ _) w rfl;obtain⟨w',r1,r2⟩:=F.write P hw hL (X.take _) (λa z=>h2 a (Lm z));rw[hm]at r1 ⊢;refine⟨gj,w',.int .i64 (Int.ofNat (Nat.min n len)),CM.le_refl gj,r2,.int _ _,.inl ?_⟩;unfold Builtin.copy_;have Q:(storeCells ⟨gB.b,gB.d+i,none⟩ (V.take (Nat.min n len*D))).run P w=.ok () w':=r1;simp only[Jm,It,Iv,Sem.run_bind,Oa hu,Result.andThen_ok,K,Sa I,C,Sem.run_pure,Q];rfl
        ·exact trivial
       ·exact trivial
      ·exact trivial
     ·exact trivial
    ·exact N6 P _
  ·exact N6 P _
 ·exact N6 P _
def zpk(D:Program)(T:Array TypeId)(g:Array Operand)(U:TypeId):Nt D (zmm D T g) (λE=>do pure (.value (←Builtin.clear_ T U (g.map E)))):=by
 unfold zmm;split
 ·rename_i st x F j;have G:=Wm F;have z:=Wm j;subst G z;refine Nt.congr (nx:=λE=>do pure (.value (←Builtin.clear_ #[st] U #[E x]))) (λE=>N) ?_;split
  ·rename_i V hu;split
   ·rename_i B gE hs hz;split
    ·rename_i X;refine Sj λw0 Y gF w E a H A=>?_
     split
     ·generalize E x=Z at A;cases A;refine Pj H (x:=.tuple #[]) (.tup .nil) ?_;simp[Builtin.clear_,Oa hu]
     ·generalize E x=Z at A;cases A with
      | @emp ad cap =>
       refine Pj H (x:=.tuple #[]) (.tup .nil) ?_;simp[Builtin.clear_,Oa hu]
     ·rename_i o v i len I gg;split
      ·rename_i he;have K:I=B:=Ig he;subst K;split
       ·rename_i H' hw;generalize E x=Z at A;cases A with
        | @sl _ _ _ _ _ _ gD cap hL q1 q2 q3 =>
         obtain⟨L,gG,M,O,gB,gC⟩:=zek hz;obtain⟨k1,k2⟩:=Wd (C:=Y) O;obtain⟨P,Q,r2⟩:=H.write D hw hL (th k1 len) (vp k2 len);by_cases R:len=0
         ·subst R;have:P=w:=by
           have:(storeCells ⟨gD.b,gD.d+i,none⟩ (Sq L.cells.toList 0)).run D w=.ok () w:=rfl;rw[this]at Q;cases Q;rfl
          subst this;exact⟨Y,P,.tuple #[],CM.le_refl Y,r2,.tup .nil,.inl (by simp[Builtin.clear_,Oa hu])⟩
         ·refine⟨Y,P,.tuple #[],CM.le_refl Y,r2,.tup .nil,.inl ?_⟩;unfold Builtin.clear_;have S:(Builtin.zeroCells L.cells len).toList=Sq L.cells.toList len:=by unfold Builtin.zeroCells;exact xf _ _
          obtain⟨gj,rfl⟩:∃k,len=k+1:=⟨len-1,J⟩;simp only[Jm,It,Sem.run_bind,Oa hu,Result.andThen_ok,M,Sem.run_pure,S,Q]
       ·exact trivial
      ·exact trivial
     ·exact trivial
    ·exact N6 D _
   ·exact N6 D _
  ·exact N6 D _
 ·exact N6 D _
def zwn(I:Program)(t K:TypeId)(x:Operand):Nt I (Ud I t x) (λz=>do pure (.value (←Builtin.len_ #[t] K #[z x]))):=by
 unfold Ud;split
 ·rename_i hu;refine Sj λE L M w z a j g=>?_
  split
  ·generalize z x=A at g;cases g with
   | @str _ _ s O P =>
    subst O P;exact Pj j (x:=.int .i64 (Int.ofNat s.size)) (.int _ _) Bn
  ·exact trivial
 ·rename_i e hu;refine Sj λE L M w z a j g=>?_
  split
  ·rename_i o v i len Q F;generalize z x=A at g;cases g with
   |sl=>exact Pj j (x:=.int .i64 (Int.ofNat len)) (.int _ _) Bn
  ·generalize z x=A at g;cases g;exact Pj j (x:=.int .i64 0) (.int _ _) Bn
  ·generalize z x=A at g;cases g;exact Pj j (x:=.int .i64 0) (.int _ _) Bn
  ·exact trivial
 ·rename_i k e hu;refine Sj λE L M w z a j g=>?_
  split
  ·generalize z x=A at g;cases g;exact Pj j (x:=.int .i64 0) (.int _ _) Bn
  ·rename_i o;split
   ·rename_i G R S;generalize z x=A at g;cases g with
    | @map _ V H =>
     obtain⟨_,B,T,U⟩:=j.obj o _ (j.fresh _ _ _ H) S _ H;have C:G.length=B.size:=by have:=U.length;simpa using this
     have D:(getObj V.b).run I w=.ok (.map B R) w:=by simp[getObj,Sem.run,T]
     exact Pj j (x:=.int .i64 (Int.ofNat G.length)) (.int _ _) (by simp[Builtin.len_,Oa hu,D,goInt,C])
   ·exact trivial
  ·exact trivial
 ·rename_i n e hu;refine Sj λE L M w z a j g=>?_
  exact Pj j (x:=.int .i64 (Int.ofNat n)) (.int _ _) Bn
 ·exact N6 I _
def zwq(A:Program)(t B:TypeId)(x:Operand):Nt A (Vk A t x) (λz=>do pure (.value (←Builtin.cap_ #[t] B #[z x]))):=by
 unfold Vk;split
 ·rename_i e hu;refine Sj λF G H w z a j g=>?_
  split
  ·generalize z x=C at g;cases g;exact Pj j (x:=.int .i64 0) (.int _ _) (by simp[Builtin.cap_,Oa hu,goInt])
  ·rename_i r;generalize z x=C at g;cases g with
   |sl _ _ _ _ D =>
    obtain⟨E,_⟩:=D r rfl;subst E;exact Pj j (.int .i64 _) (by simp[Builtin.cap_,Oa hu,goInt])
  ·exact trivial
 ·exact N6 A _
def zxy{P:Program}{w:World}{a b r:AV}(h:Vq O a b=some r){u v:Value}(hu:VR I a u)(j:VR I b v) :
  ∃A,(if O then Builtin.max2 u v else Builtin.min2 u v).run P w=.ok A w∧VR I r A:=by
 unfold Vq at h;split at h
 ·rename_i k x B y;split at h
  ·rename_i z;have:=z6t z;subst this;cases hu;cases j;split at h
   ·split at h
    ·rename_i g;rw[ff]at g;cases h;refine⟨.int k y,?_,.int _ _⟩;have:y>x:=B3
     simp[Builtin.max2,this]
    ·rename_i g;rw[ff]at g;cases h;refine⟨.int k x,?_,.int _ _⟩;have:¬y>x:=B3
     simp[Builtin.max2,this]
   ·split at h
    ·rename_i g;rw[ff]at g;cases h;refine⟨.int k y,?_,.int _ _⟩;have:y<x:=B3
     simp[Builtin.min2,this]
    ·rename_i g;rw[ff]at g;cases h;refine⟨.int k x,?_,.int _ _⟩;have:¬y<x:=B3
     simp[Builtin.min2,this]
  ·cases h
 ·cases h
def zf7{P:Program}{w:World}{B:CM}{g:Bool}:∀{l:List AV} {a r:AV},Xk g a l=some r→∀{u:Value} {j:List Value},VR B a u→VRs B l j →
  ∃A,(j.foldlM (if g then Builtin.max2 else Builtin.min2) u).run P w=.ok A w∧VR B r A
 |[],a,r,h,u,[],hu,.nil=>by cases h;exact⟨u,N,hu⟩
 |b::l,a,r,h,u,v::j,hu,.cons e C=>by
  unfold Xk at h;split at h
  ·rename_i c D;obtain⟨A,E,F⟩:=zxy (P:=P) (w:=w) D hu e;obtain⟨G,H,I⟩:=zf7 (P:=P) (w:=w) h F C;refine⟨G,?_,I⟩;have z:((if g then Builtin.max2 else Builtin.min2) u v).run P w=.ok A w:=by cases g<;>simpa using E
   simp only[List.foldlM_cons,Sem.run_bind,z,Result.andThen_ok,H]
  ·cases h
def znw(P:Program)(A:Bool)(g:Array Operand)(C:Array TypeId)(D:TypeId) :
  Nt P (Ta A g.toList) (λB=>do pure (.value (←if A then Builtin.max_ C D (g.map B) else Builtin.min_ C D (g.map B)))):=by
 intro O T U w Q B F G;unfold Ta;dsimp only;cases H:(opds g.toList).run Q with
 |none=>exact trivial
 |some I =>
  cases I with
  |nil=>exact trivial
  |cons a l =>
   cases a with
   |int k n =>
    refine ma F λr K=>?_
    have E:=ur G H;have j:(g.map B).toList=g.toList.map B:=J2 ..;generalize R:g.toList.map B=V at E j;cases E with
    |cons e L =>
     obtain⟨S,z,M⟩:=zf7 (P:=P) (w:=w) K e L;refine⟨S,?_,M⟩;cases A
     ·simp only[Kx,Mz,Builtin.min_,j]at z ⊢;simp only[Sem.run_bind,z,Result.andThen_ok,Sem.run_pure]
     ·simp only[K7,Builtin.max_,j]at z ⊢;simp only[Sem.run_bind,z,Result.andThen_ok,Sem.run_pure]
   |_=>exact trivial
def zfh{H:CM}{d:TypeDesc}{k:AV}{u:Value}(hu:VR H k u):∀{E j:List (AV×AV×Nat)} {g:List MapEntry} (i:Nat),zf d k E=some j→MR H E g →
  (Instr.findNow d u g i=some none∧MR H j g)∨(∃B y,Instr.findNow d u g i=some (some (B+i,y))∧B<g.length∧MR H j (g.eraseIdx B))
 |[],j,[],i,h,.nil=>by cases h;exact .inl ⟨rfl,.nil⟩
 |(L,M,b)::l,j,e::r,i,h,.cons z F G hm=>by
  unfold zf at h;split at h
  ·rename_i A;cases h;exact .inr ⟨0,e.val,by simp[Instr.findNow,(nm A hu z).1],N,by simpa using hm⟩
  ·rename_i A;split at h
   ·rename_i O I;cases h;rcases zfh hu (i+1) I hm with ⟨C,D⟩|⟨B,y,C,D,K⟩
    ·exact .inl ⟨by simpa [Instr.findNow,(nm A hu z).1] using C,.cons z F G D⟩
    ·refine .inr ⟨B+1,y,?_,by simpa using D,.cons z F G K⟩;rw[show B+1+i=B+(i+1) from J];simpa [Instr.findNow,(nm A hu z).1] using C
   ·cases h
  ·cases h
def zo4(K:Program)(S:Array TypeId)(z:Array Operand)(T:TypeId):Nt K (zij K S z) (λL=>do pure (.value (←Builtin.delete_ S T (z.map L)))):=by
 unfold zij;split
 ·rename_i st xt s x M C;have O:=Wp M;have D:=Wp C;subst O D;refine Nt.congr (nx:=λL=>do pure (.value (←Builtin.delete_ #[st,xt] T #[L s,L x]))) (λL=>N) ?_;split
  ·rename_i gg e hu;split
   ·rename_i d hd;obtain⟨F,_⟩:=ze0 hd;refine Xo λw0 Y gB w L a b G U hb=>?_
    split
    ·rename_i o;split
     ·rename_i es P hg;split
      ·rename_i gj hs;generalize L s=ps at U;cases U with
       | @map _ V E =>
        obtain⟨I,g,X,q2⟩:=G.obj o _ (G.fresh _ _ _ E) hg _ E;have H:=G.lt _ _ _ E;have A:(getObj V.b).run K w=.ok (.map g P) w:=by simp[getObj,Sem.run,X]
        have B:∀y,(setObj V.b y).run K w=.ok () { w with heap:=w.heap.setIfInBounds V.b y }:=by intro y;simp[setObj,Sem.run,X]
        rcases zfh hb 0 hs q2 with ⟨Q,R⟩|⟨Z,y,Q,R,p3⟩
        ·refine⟨Y,{ w with heap:=w.heap.setIfInBounds V.b (.map g P) },.tuple #[],CM.le_refl Y,G.putObj E I _ _ ?_ (λ_ _ _ _ e=>Aq),.tup .nil,.inl ?_⟩
         ·intro L' j;rw[E]at j;cases j;exact⟨I,_,putObj_heap_same w _ H,R⟩
         ·unfold Builtin.delete_;simp only[Jm,It,Iv,Sem.run_bind,Oa hu,Result.andThen_ok,A,pt hd,nq F Q,B,Sem.run_pure]
        ·refine⟨Y,{ w with heap:=w.heap.setIfInBounds V.b (.map (g.eraseIdxIfInBounds Z) P) },.tuple #[],CM.le_refl Y,G.putObj E I _ _ ?_ (λ_ _ _ _ e=>Aq),.tup .nil,.inl ?_⟩
         ·intro L' j;rw[E]at j;cases j;refine⟨I,_,putObj_heap_same w _ H,?_⟩;have hj:Z<g.size:=Ev
          have:(g.eraseIdxIfInBounds Z).toList=g.toList.eraseIdx Z:=by
           simp[Array.eraseIdxIfInBounds,hj]
          rw[this];exact p3
         ·unfold Builtin.delete_;simp only[Jm,It,Iv,Sem.run_bind,Oa hu,Result.andThen_ok,A,pt hd,nq F Q,Lv,B,Sem.run_pure]
      ·exact trivial
     ·exact trivial
    ·exact trivial
   ·exact N6 K _
  ·exact N6 K _
 ·exact N6 K _
end
section
open Go.RowKit (Below)
def z9y{w:World}{f:Nat}(h:io z f=true)(args:Array Value):(callFunc f args).run z w=.ok (.enter f args) w:=by
 unfold io at h;cases g:z.funcs[f]? with
 |none=>rw[g]at h;cases h
 |some fn =>
  rw[g]at h;simp only[H9,bne_iff_ne,ne_eq]at h;obtain⟨B,A⟩:=h;have j:fn.body≠none:=by intro e;rw[e]at A;cases A
  simp[callFunc,g,B,j]
def zvw{w:World}{gv:Value}(F:VR I G gv){vs:Array Value}(H:VRs I M vs.toList){K:Sem Next}
  (g:∀fn first cap,gv=.func fn first cap→K.run z w=(invoke (.fn fn cap) (first++vs)).run z w):Q4 z E I w K (Xu z G M):=by
 unfold Xu;split
 ·rename_i f first cap
  split
  ·rename_i O;cases F with
   | @fn _ P _ _ j A B C L =>
    cases B with
    |same =>
     refine⟨j.toList++vs.toList++A.toList,(C.append H).append L,.inl ⟨f,rfl,?_⟩⟩;rw[g _ _ _ rfl];have:(j++vs++A)=(j.toList++vs.toList++A.toList).toArray:=N
     rw[←this];exact z9y O _
  ·exact trivial
 ·rename_i l cap;cases F with
  | @fn _ P _ _ j A B C L =>
   cases B with
   |same _ h=>exact absurd rfl (h l)
   | @yield _ R Q =>
    have D:j=#[]:=by
     have:=C.length;exact Ky (by simpa using this.symm)
    subst D;refine⟨vs.toList,H,.inr ⟨l,R,rfl,Q,?_⟩⟩;rw[g _ _ _ rfl];simp[invoke]
 ·exact trivial
theorem zt8 {fn : Func} (g : fn.name = "maps.clone") (j : fn.origin = "") : Extern.findNext fn = none ∧ Extern.find fn = some Extern.MapsClone.clone := by
 have z : Extern.allNextRows.lookup "maps.clone" = none := Aa
 have A : Extern.allNextRows.lookup "" = none := Aa
 have B : Extern.allGenericRows.lookup "maps.clone" = none := Aa
 have C : Extern.allTypedRows.lookup "maps.clone" = none := Aa
 have D : Extern.allRows.lookup "maps.clone" = some Extern.MapsClone.clone := Aa
 refine⟨?_,?_⟩
 ·unfold Extern.findNext;dsimp only;rw[g,j,z,A];rfl
 ·unfold Extern.find;dsimp only;rw[g,B,C,D];rfl
def zxd{P:Program}{w:World}{r:Nat}{z:Array MapEntry}(t:TypeId)(A:w.heap[r]?=some (.map z g)) :
  (Extern.MapsClone.clone #[.iface t (.map (some r))]).run P w=.ok (.iface t (.map (some w.heap.size))) (w.alloc (.map z g)):=by
 have e:Extern.MapsClone.clone #[.iface t (.map (some r))]=(getObj r >>= λo=>match o with
   |.map j g=>(_root_.Go.newObj (.map j g) >>= λn=>pure (.iface t (.map (some n))))
   | _ => stuck "maps.clone: a map expected") := rfl
 rw[e];simp[MapKept.run_getObj_map A,Result.andThen,go_sem]
def cn{P:Program}{w:World}(g:Rel E I C w){f:Nat}(j:ym P f=true){vs:Array Value}(K:VRs I M vs.toList) :
  Q4 P E I w (callFunc f vs) (zs9 C M):=by
 unfold ym at j;split at j
 ·rename_i fn F;simp only[H9,Ml]at j;obtain⟨⟨L,R⟩,S⟩:=j;obtain⟨T,U⟩:=zt8 L R;have z:=run_callFunc_extern (P:=P) F (by rw[L];decide) S T U vs w;unfold zs9;split
  ·rename_i t o;split
   ·rename_i V O X
    ·generalize G:vs.toList=l at K;cases K with
     |cons H Y =>
      cases Y;cases H with
      |iface H =>
       cases H with
       | @map _ gg Q =>
        have A:vs=#[.iface t (.map (some gg.b))]:=Mn.1 G;obtain⟨q1,B,Z,q3⟩:=g.obj _ _ (g.fresh _ _ _ Q) X gg Q;obtain⟨p1,p2⟩:=g.push (.map V O) (.map B O) 0 0 (λL' D=>by
         rw[CM.ext_same]at D;cases D;exact⟨g.low.size,B,Xv _ _,q3.mono (CM.le_ext _ (g.next_none 0) (.inr (Lu g.nx)))⟩)
        refine⟨_,_,.iface t (.map (some w.heap.size)),p2,p1,.iface (.map (CM.ext_same _ _ _ _)),.inl ?_⟩;rw[z,A,zxd t Z];rfl
   ·exact trivial
  ·exact trivial
 ·cases j
def zn3{w:World}{t:TypeId}{g:String}{f:Nat}(h:zie z t g=some f)(v:Value):(method (z.types.size+Made.depth) t v g).run z w=.ok (f,v) w:=by
 unfold zie at h;have hd:z.types.size+Made.depth=(z.types.size+99)+1:=rfl;rw[hd];cases hi:z.info? t with
 |none=>rw[hi]at h;cases h
 |some i =>
  rw[hi]at h;dsimp only at h;cases hm:i.methods.find? (·.name==g) with
  |none=>rw[hm]at h;cases h
  |some m =>
   rw[hm]at h;dsimp only at h;split at h
   ·rename_i C;have j:m.path=#[]:=Array.isEmpty_iff.1 C;unfold method;simp only[Sem.run_bind,et hi,Result.andThen_ok,hm,j,follow,Sem.run_pure];split at h
    ·rename_i D e A hu;cases h;simp only[A,Sem.run_bind,receiverAt,Oa hu,Result.andThen_ok,Place.get,Sem.run_pure]
    ·cases h
    ·rename_i D d B A hu;cases h;simp only[A,Sem.run_bind,receiverAt,Oa hu,Result.andThen_ok];cases d<;>first|rfl|exact absurd hu (B _)
    ·cases h
   ·cases h
def zsp(z:Program)(c:Call)(o:Oper)(ho:o.op=.call c):Nt z (Y0 z c) (λj=>execOp j o):=by
 have G:∀j,execOp j o=(do let d ←resolve j c o.type;invoke d.target d.args):=λj=>by simp[execOp,ho]
 refine Nt.congr (λj=>(G j).symm) ?_;unfold Y0;split
 ·rename_i b hb;have H:∀j,(do let d ←resolve j c o.type;invoke d.target d.args:Sem Next)=builtin b c.argTypes o.type (c.args.map fun | .const _=>true|_=>false) (c.args.map j):=by
   intro j;simp only[resolve,hb];rfl
  refine Nt.congr (λj=>(H j).symm) ?_;split
  ·split
   ·rename_i t x I K;have L:=Wm I;have M:=Wm K;exact Nt.congr (λj=>by rw[L,M];simp[builtin]) (zwn z t o.type x)
   ·exact N6 z _
  ·split
   ·rename_i t x I K;have L:=Wm I;have M:=Wm K;exact Nt.congr (λj=>by rw[L,M];simp[builtin]) (zwq z t o.type x)
   ·exact N6 z _
  ·exact Nt.congr (λj=>Dc) (znw z true c.args c.argTypes o.type)
  ·exact Nt.congr (λj=>Dc) (znw z false c.args c.argTypes o.type)
  ·exact Nt.congr (λj=>Dc) (zn8 z c.argTypes c.args o.type)
  ·exact Nt.congr (λj=>Dc) (ztl z c.argTypes c.args o.type)
  ·exact Nt.congr (λj=>Dc) (zpk z c.argTypes c.args o.type)
  ·exact Nt.congr (λj=>Dc) (zo4 z c.argTypes c.args o.type)
  ·exact N6 z _
 ·rename_i f Y;intro Z gB gC w gD j hR A;dsimp only;split
  ·rename_i gE hg;split
   ·rename_i l F;have C:Q4 z Z gB w (do let d ←resolve j c o.type;invoke d.target d.args) (Xu z gE l):=by
     refine zvw (A _ _ hg) (vs:=c.args.map j) (by rw[J2];exact ur A F) (λfn first cap B=>?_);simp only[resolve,Y,B,Deferred.ofValue,Sem.run_bind,Sem.run_pure,Result.andThen_ok]
    unfold zgr;split
    ·rename_i f';split
     ·rename_i O;have P:=cn hR O (vs:=c.args.map j) (by rw[J2];exact ur A F);have B:=A _ _ hg;generalize Q:j f=gv at B;cases B with
      | @fn _ g' _ _ l' r' R S T =>
       cases R with
       |same =>
        have U:l'=#[]:=Ky (by simpa using S.length.symm);have V:r'=#[]:=Ky (by simpa using T.length.symm);subst U V;have D:(do let d ←resolve j c o.type;invoke d.target d.args:Sem Next).run z w=(callFunc f' (c.args.map j)).run z w:=by
         simp only[resolve,Y,Q,Deferred.ofValue,Sem.run_bind,Sem.run_pure,Result.andThen_ok,invoke];simp
        unfold Q4 at P ⊢;split at P
        ·exact trivial
        ·obtain⟨C',w',x,a1,a2,a3,a4⟩:=P;exact⟨C',w',x,a1,a2,a3,by rw[D];exact a4⟩
        ·rename_i t gg g;unfold zs9 at g;split at g
         ·split at g<;>cases g
         ·cases g
     ·exact C
    ·exact C
   ·exact trivial
  ·exact trivial
 ·rename_i r gj hr;intro Z gB gC w gD j hR A;dsimp only;split
  ·rename_i t v B;split
   ·rename_i f hm;split
    ·rename_i l F;split
     ·rename_i hc;have E:=A _ _ B;generalize X:j r=pv at E;cases E with
      | @iface _ _ u hu =>
       refine⟨u::c.args.toList.map j,.cons hu (ur A F),.inl ⟨f,rfl,?_⟩⟩;have U:(#[Value.iface t u]++c.args.map j)[0]?=some (Value.iface t u):=by rw[Jx N];rfl
       have V:(#[Value.iface t u]++c.args.map j).extract 1 (#[Value.iface t u]++c.args.map j).size=c.args.map j:=N
       have e3:(#[u]++c.args.map j)=(u::c.args.toList.map j).toArray:=N
       simp only[resolve,hr,X,Sem.run_bind,Sem.run_pure,Result.andThen_ok,invoke,U,V,callMethod,run_program,zn3 hm u,e3];exact z9y hc _
     ·exact trivial
    ·exact trivial
   ·exact trivial
  ·exact trivial
def Yj(P:Program)(o:Oper):Nt P (N5 P o.op) (λj=>execOp j o):=by
 generalize g:o.op=op;cases op with
 |move x=>exact Nt.congr (λj=>Al) (zje P x)
 |assign x=>exact Nt.congr (λj=>Al) (zje P x)
 |pick c a b=>exact Nt.congr (λj=>Al) (zt0 P c a b)
 |alloc t=>exact Nt.congr (λj=>by simp only[execOp,g]) (zpt P t)
 |box t x=>exact Nt.congr (λj=>Al) (zul P t x)
 |build t z=>exact Nt.congr (λj=>Al) (zq7 P t z)
 |buildSlice t n z=>exact Nt.congr (λj=>Al) (zg1 P t n z)
 |load t a=>exact Nt.congr (λj=>Al) (ztn P t a)
 |store t a x=>exact Nt.congr (λj=>Al) (zpc P t a x)
 |nilCheck x=>exact zj1 P x o g
 |binOp op t x y A=>exact zxk P op t A x y o g
 |unOp op t x=>exact Xy P op t x o g
 |convert s d x=>exact Nt.congr (λj=>Al) (ztt P s d x)
 |makeInterface t x=>exact Nt.congr (λj=>Al) (zkr P t x)
 |makeFunc f a b =>
  cases f with
  |yield l=>exact N6 P _
  |_=>exact Nt.congr (λj=>Al) (zoi P _ a b (λl e=>Aq))
 |makeMap t r=>exact Nt.congr (λj=>Al) (zq4 P t r)
 |makeSlice t l c=>exact Nt.congr (λj=>Al) (zlx P t l c)
 |slice t x a b c=>exact Nt.congr (λj=>Al) (zph P t x a b c)
 |fieldAddr t x f=>exact Nt.congr (λj=>Al) (zik P t x f)
 |field t x f=>exact Nt.congr (λj=>Al) (zq6 P t x f)
 |indexAddr t x i=>exact Nt.congr (λj=>Al) (zgx P t x i)
 |index t x i=>exact Nt.congr (λj=>Al) (zpl P t x i)
 |lookup t x i ok=>exact Nt.congr (λj=>Al) (zos P t x i ok)
 |mapUpdate t m k x=>exact Nt.congr (λj=>Al) (za4 P t m k x)
 |insert t m k x=>exact Nt.congr (λj=>Al) (za4 P t m k x)
 |range t x=>exact Nt.congr (λj=>Al) (zqn P t x)
 |next B s=>exact Nt.congr (λj=>Al) (zt6 P B s o.type)
 |typeAssert x t a ok=>exact Nt.congr (λj=>Al) (zn2 P x t a ok)
 |extract t i=>exact Nt.congr (λj=>Al) (zkw P t i)
 |call c=>exact zsp P c o g
 |_=>exact N6 P _
end
section
open Go.RowKit (Below)
def oq(P:Program)(A:World)(E:CM)(w:World)(t:Tgt)(vs:List Value)(v:AV)(B:Heap):Prop :=
 match t with
 |.fn f=>∀cs,∃g w' j z,E.le g∧Rel A g B w'∧VR g v j∧Steps P (lone (Frame.enter P f vs.toArray .normal) cs w) (lone z cs w')∧z.fn=f∧z.leaving P w' (.returned j)
 |.yield l=>∀D,E l 0=some D→∀c cs,∃g w' j f C a b,E.le g∧Rel A g B w'∧VR g v j∧(Instr.yield D.b vs.toArray).run P w=.ok (.round D.b f C a b) w ∧
   Steps P (lone (Frame.round D.b f C a b .normal) (c::cs) w) (lone (c.finish j) cs w')
def X9(P:Program)(c:Qn):Prop :=
 ∀j B C w t g z v A,Rel j B C w→VRs B g z→c t g C=.ok v A→oq P j B w t z v A
def zx7(P:Program):X9 P noO:=λ_ _ _ _ _ _ _ _ _ _ _ h=>Am
noncomputable def O0(d:Option Tmp)(a:AV)(E:Tr AV):Tr AV:=match d with
 |none=>E
 |some d=>Oo a (Nh d) E
def z9w{n:Nat}{d:Option Tmp}{p:PutF}(h:Qs n d=some p):(∀a E,p.run a E=O0 d a E)∧∀t,d=some t→t<n:=by
 unfold Qs at h;split at h
 ·cases h;exact⟨λ_ _=>rfl,λt e=>Aq⟩
 ·split at h
  ·rename_i hd;cases h;exact⟨λ_ _=>rfl,λt e=>by cases e;exact hd⟩
  ·cases h
def ER.put{n:Nat}{gj:CM}{E:Tr AV}{a:Act}(h:ER n gj E a.tmps){d:Option Tmp}(hd:∀t,d=some t→t<n){C:AV}{x:Value}(hv:VR gj C x):ER n gj (O0 d C E) (a.put d x).tmps:=by
 obtain⟨h1,h2,h3⟩:=h;cases d with
 |none=>exact⟨h1,h2,h3⟩
 |some d =>
  have gg:(d:Nat)<n:=hd d rfl;refine⟨by show (a.tmps.setIfInBounds d x).size=n;simpa using h1,h2,λt ht=>?_⟩;show OVR gj (M8 (Nh t) (Oo C (Nh d) E)) ((a.tmps.setIfInBounds d x).getD t undef);rw[zht];by_cases e:t=d
  ·subst e;rw[Ij rfl];have:(a.tmps.setIfInBounds t x).getD t undef=x:=by
    rw[Jb,Array.getElem?_setIfInBounds_self_of_lt (show t<a.tmps.size by rw[h1];exact gg)];rfl
   rw[this];exact hv
  ·rw[Ii e];have:(a.tmps.setIfInBounds d x).getD t undef=a.tmps.getD t undef:=by
    rw[Jb,Array.getElem?_setIfInBounds_ne (λq=>e q.symm),←Jb]
   rw[this];exact h3 t ht
def zgo{n:Nat}{E:Tr AV}(h:ER n I E v6)(ops:Array Oper)(o:Oper):(R4 ops o).run E=Region.wanted o (yielded ops v6):=by
 obtain⟨H,K,L⟩:=h;unfold R4 Region.wanted;cases O:o.guard with
 |none=>rfl
 |some M =>
  obtain⟨Q,A⟩:=M;dsimp only;unfold yielded;cases hd:(ops[Q]?).bind (·.dst) with
  |none=>rfl
  |some d =>
   dsimp only[Option.bind];split
   ·rename_i j;dsimp only;have g:=L d j;by_cases B:d<v6.size
    ·have z:v6[d]?=some v6[d]:=Jh B;have D:v6.getD d undef=v6[d]:=by rw[Jb,z];rfl
     rw[D]at g;rw[z];generalize v6[d]=v at g;cases C:M8 (Nh d) E with
     |none =>
      rw[C]at g;have:v=undef:=g;subst this;rfl
     |some F =>
      rw[C]at g;have G:VR I F v:=g;cases G with
      |bool b=>cases b<;>cases A<;>rfl
      |_=>rfl
    ·have z:v6[d]?=none:=Lz (Nat.le_of_not_lt B);have D:v6.getD d undef=undef:=by rw[Jb,z];rfl
     rw[D]at g;rw[z];cases C:M8 (Nh d) E with
     |none=>rfl
     |some F =>
      rw[C]at g;have G:VR I F undef:=g;cases G;rfl
   ·rename_i j;have z:v6[d]?=none:=Lz (by rw[H];exact I1 K (Mv (Nat.lt_of_not_le j)));rw[z];rfl
section steps
variable {P : Program} {b : Frame} {a : Act} {k : List Item} {cs : List Frame} {w w' : World} {ops : Array Oper}
def zqw{i:Nat}{rest:List Nat}{o:Oper}(g:ops[i]?=some o)(v:Value):(b.atR a (.inRegion ops (i::rest)::k)).finish v=b.atR (a.put o.dst v) (.inRegion ops rest::k):=by
 rw[Frame.finish_atR,g];rfl
def zri{i:Nat}{rest:List Nat}{o:Oper}{x:Value}(g:ops[i]?=some o)(hw:Region.wanted o (yielded ops a.tmps)=true)(hd:∀c,o.op≠.defer c)
  (j:(execOp a.eval o).run P w=.ok (.value x) w') :
  step P (lone (b.atR a (.inRegion ops (i::rest)::k)) cs w)=.next (lone (b.atR (a.put o.dst x) (.inRegion ops rest::k)) cs w'):=by
 refine step_lone_go ?_;rw[stepGR_op (b:=b) (k:=k) (cs:=cs) g hw,Oper.semAt_eq _ _ _ hd,←zqw g];simp[stepG.apply,Sem.runT_eq,j]
def Xx{i:Nat}{rest:List Nat}{o:Oper}(g:ops[i]?=some o)(hw:Region.wanted o (yielded ops a.tmps)=true)(hd:∀c,o.op≠.defer c)
  (j:(execOp a.eval o).run P w=.ok .skip w') :
  step P (lone (b.atR a (.inRegion ops (i::rest)::k)) cs w)=.next (lone (b.atR (a.put o.dst undef) (.inRegion ops rest::k)) cs w'):=by
 refine step_lone_go ?_;rw[stepGR_op (b:=b) (k:=k) (cs:=cs) g hw,Oper.semAt_eq _ _ _ hd,←zqw g];simp[stepG.apply,Sem.runT_eq,j]
def zt2{i:Nat}{rest:List Nat}{o:Oper}{f:Nat}(g:ops[i]?=some o)(hw:Region.wanted o (yielded ops a.tmps)=true)(hd:∀c,o.op≠.defer c)
  (j:(execOp a.eval o).run P w=.ok (.enter f v6) w') :
  step P (lone (b.atR a (.inRegion ops (i::rest)::k)) cs w)=.next (lone (Frame.enter P f v6 .normal) (b.atR a (.inRegion ops (i::rest)::k)::cs) w'):=by
 refine step_lone_go ?_;rw[stepGR_op (b:=b) (k:=k) (cs:=cs) g hw,Oper.semAt_eq _ _ _ hd];simp[stepG.apply,Sem.runT_eq,j,Frame.atR]
def Yb{i:Nat}{rest:List Nat}{o:Oper}{l f:Nat}{x y:Code}(g:ops[i]?=some o)(hw:Region.wanted o (yielded ops a.tmps)=true)(hd:∀c,o.op≠.defer c)
  (j:(execOp a.eval o).run P w=.ok (.round l f v6 x y) w') :
  step P (lone (b.atR a (.inRegion ops (i::rest)::k)) cs w)=.next (lone (Frame.round l f v6 x y .normal) (b.atR a (.inRegion ops (i::rest)::k)::cs) w'):=by
 refine step_lone_go ?_;rw[stepGR_op (b:=b) (k:=k) (cs:=cs) g hw,Oper.semAt_eq _ _ _ hd];simp[stepG.apply,Sem.runT_eq,j]
end steps
def zgw{P:Program}{o:Oper}{E:Tr AV}{H:Heap}(h:(N5 P o.op).run E H≠.no):∀c,o.op≠.defer c:=by
 intro c e;rw[e]at h;exact h rfl
def zhw{P:Program}{c:Qn}(hc:X9 P c){n:Nat}{ops:Array Oper}{i:Nat}{o:Oper}(G:ops[i]?=some o){H:Heap}{w:World}{E:Tr AV}{a:Act}
  (Z:Rel R I H w) (hE:ER n I E a.tmps) (h:(Qq P n ops o).run c E H=.ok L C) (b:Frame) (rest:List Nat) (k:List Item) (cs:List Frame) :
  ∃D w' x av,I.le D∧Rel R D C w'∧VR D av x∧L=O0 o.dst av E∧(∀t,o.dst=some t→t<n) ∧
   Steps P (lone (b.atR a (.inRegion ops (i::rest)::k)) cs w) (lone (b.atR (a.put o.dst x) (.inRegion ops rest::k)) cs w'):=by
 unfold Qq at h;cases hp:Qs n o.dst with
 |none=>rw[hp]at h;cases h
 |some p =>
  rw[hp]at h;dsimp only at h;obtain⟨g,z⟩:=z9w hp;have X:=zgo hE ops o;cases T:(R4 ops o).run E with
  |false =>
   rw[T]at h X;cases h;refine⟨I,w,undef,Ri,CM.le_refl I,Z,.tup .nil,g _ _,z,.one ?_⟩;have:=stepR_op_skip (P:=P) (b:=b) (a:=a) (k:=k) (cs:=cs) (w:=w) (ops:=ops) (i:=i) (rest:=rest) (by rw[G];simpa using X.symm);rw[this,G];rfl
  |true =>
   rw[T]at h X;dsimp only at h;have hw:Region.wanted o (yielded ops a.tmps)=true:=X.symm;have Y:=Yj P o R I H w E a.eval Z (ut hE);cases U:(N5 P o.op).run E H with
   |no=>rw[U]at h;cases h
   |val v H2 =>
    rw[U]at h Y;cases h;have A:=zgw (P:=P) (o:=o) (E:=E) (H:=H) (by rw[U];intro e;cases e);obtain⟨D,w',x,O,Q,S,F⟩:=Y;rcases F with F|⟨F,rfl⟩
    ·exact⟨D,w',x,v,O,Q,S,g _ _,z,.one (zri G hw A F)⟩
    ·exact⟨D,w',undef,v,O,Q,S,g _ _,z,.one (Xx G hw A F)⟩
   |call t V =>
    rw[U]at h Y;dsimp only at h;have A:=zgw (P:=P) (o:=o) (E:=E) (H:=H) (by rw[U];intro e;cases e);cases K:c t V H with
    |no=>rw[K]at h;cases h
    |ok v H2 =>
     rw[K]at h;cases h;obtain⟨vs,hv,M⟩:=Y;have B:=hc _ _ _ _ _ _ _ _ _ Z hv K;rcases M with ⟨f,rfl,j⟩|⟨l,gg,rfl,hL,j⟩
     ·obtain⟨D,w',v',fr,O,Q,S,F,h5,h6⟩:=B (b.atR a (.inRegion ops (i::rest)::k)::cs);refine⟨D,w',v',v,O,Q,S,g _ _,z,.head (zt2 G hw A j) (Steps.trans F (.one ?_))⟩;rw[step_leave_returned h6,zqw G]
     ·obtain⟨D,w',v',f,tm,x,y,O,Q,S,F,h5⟩:=B gg hL (b.atR a (.inRegion ops (i::rest)::k)) cs;rw[F]at j;refine⟨D,w',v',v,O,Q,S,g _ _,z,.head (Yb G hw A j) ?_⟩;rw[←zqw G];exact h5
def zoq{P:Program}{c:Qn}(K:X9 P c){n:Nat}{ops:Array Oper}(b:Frame)(k:List Item)(cs:List Frame):∀(l:List Oper) (i:Nat),ops.toList.drop i=l →
  ∀{j:World} {C:CM} {L z:Heap} {w:World} {M A:Tr AV} {a:Act},Rel j C L w→ER n C M a.tmps→(df P n ops l).run c M L=.ok A z →
  ∃D w' E,C.le D∧Rel j D z w'∧ER n D A E.tmps∧E.defers=a.defers ∧
   Steps P (lone (b.atR a (.inRegion ops (List.range' i l.length)::k)) cs w) (lone (b.atR E (.inRegion ops []::k)) cs w')
 |[],i,g,j,C,L,z,w,M,A,a,F,B,h=>by
  cases h;exact⟨C,w,a,CM.le_refl C,F,B,rfl,.refl _ _⟩
 |o::l,i,g,j,C,L,z,w,M,A,a,F,B,h=>by
  have hi:i<ops.toList.length:=by
   rcases Le i ops.toList.length with G|G
   ·exact G
   ·rw[List.drop_eq_nil_of_le G]at g;cases g
  rw[Iz hi]at g;injection g with Q g
  have H:ops[i]?=some o:=by rw[←Q];simp at hi ⊢
  unfold df at h;dsimp only at h;cases I:(Qq P n ops o).run c M L with
  |no=>rw[I]at h;cases h
  |ok E1 H1 =>
   rw[I]at h;dsimp only at h;obtain⟨C1,w1,x,av,O,R,S,T,U,V⟩:=zhw K H F B I b (List.range' (i+1) l.length) k cs;subst T;obtain⟨X,Y,Z,r1,r2,r3,r4,r5⟩:=zoq K b k cs l (i+1) g (a:=a.put o.dst x) R ((B.mono O).put U S) h;refine⟨X,Y,Z,CM.le_trans O r1,r2,r3,?_,?_⟩
   ·rw[r4];cases o.dst<;>rfl
   ·rw[show (o::l).length=l.length+1 from rfl,List.range'_succ];exact Steps.trans V r5
end
section
def Ro(g:List Nat)(E' E:Tr AV):Prop:=∀t∈g,t≤Nm→M8 (Nh t) E'=M8 (Nh t) E
def bz{x:Operand}{E E':Tr AV}(h:Ro (pu [x]) E' E):(Nk x).run E'=(Nk x).run E:=by
 cases x with
 |tmp t =>
  unfold Nk;dsimp only;split
  ·rename_i g;dsimp only;rw[h t (by simp[pu]) (In g)]
  ·rfl
 |const v=>unfold Nk;dsimp only;split<;>rfl
 |func f=>rfl
 |global j=>rfl
def Ro.opds:∀{l:List Operand} {E E':Tr AV},Ro (pu l) E' E→∀x∈l,(Nk x).run E'=(Nk x).run E
 |[],_,_,_,x,hx=>by cases hx
 |y::l,E,E',h,x,hx=>by
  rcases Ik.1 hx with rfl|hx
  ·refine bz (λt ht=>h t ?_);cases x<;>simp_all [pu]
  ·refine Ro.opds (l:=l) (λt ht=>h t ?_) x hx;cases y<;>simp_all [pu]
section cong
variable {E E' : Tr AV} {H : Heap}
def opds_cong:∀{l:List Operand},(∀x∈l,(Nk x).run E'=(Nk x).run E)→(opds l).run E'=(opds l).run E
 |[],_=>rfl
 |x::l,h=>by
  simp only[opds];rw[h x N,opds_cong (λy g=>h y Ay)]
def Tp{x:Operand}{f:Heap→AV→OR}(h:(Nk x).run E'=(Nk x).run E):(Pq x f).run E' H=(Pq x f).run E H:=by
 simp only[Pq];rw[h]
def Wu{x y:Operand}{f:Heap→AV→AV→OR}(h:(Nk x).run E'=(Nk x).run E)(k:(Nk y).run E'=(Nk y).run E):(Ss x y f).run E' H=(Ss x y f).run E H:=by
 simp only[Ss];rw[h,k]
def zgj{x:Option Operand}(h:∀y,x=some y→(Nk y).run E'=(Nk y).run E):(Pu x).run E'=(Pu x).run E:=by
 cases x with
 |none=>rfl
 |some y=>simp only[Pu];rw[h y rfl]
def fillA_cong:∀{g:List Part} {j:List AV},(∀p∈g,p.v.run E'=p.v.run E)→Yz j g E'=Yz j g E
 |[],_,_=>rfl
 |p::g,j,h=>by
  simp only[Yz];rw[h p N];split
  ·rfl
  ·split
   ·rfl
   ·split
    ·split
     ·exact fillA_cong (λq z=>h q As)
     ·rfl
    ·rfl
def z7g{g:Nat→Option (Nat×Nat)}:∀{l:List (Nat×Operand)} {z:List Part},ee g l=some z→(∀x∈l.map (·.2),(Nk x).run E'=(Nk x).run E)→∀p∈z,p.v.run E'=p.v.run E
 |[],z,h,_,p,j=>by cases h;cases j
 |(i,x)::l,z,h,A,p,j=>by
  simp only[ee]at h;split at h
  ·cases h
  ·split at h
   ·cases h
   ·rename_i r C;cases h;rcases Ik.1 j with rfl|j
    ·exact A x N
    ·exact z7g C (λy B=>A y (by simp at B ⊢;exact .inr B)) p j
end cong
def zt5{c:Call}{E E':Tr AV}{H:Heap}(h:∀x∈c.operands.toList,(Nk x).run E'=(Nk x).run E):(Y0 z c).run E' H=(Y0 z c).run E H:=by
 have g:∀x∈c.args.toList,(Nk x).run E'=(Nk x).run E:=λx A=>h x (by simp[Call.operands]at A ⊢;exact .inr A)
 unfold Y0;split
 ·split
  ·split
   ·rename_i q;rw[q]at g;unfold Ud;split<;>first|rfl|exact Tp (g _ N)
   ·rfl
  ·split
   ·rename_i q;rw[q]at g;unfold Vk;split<;>first|rfl|exact Tp (g _ N)
   ·rfl
  ·simp only[Ta];rw[opds_cong g]
  ·simp only[Ta];rw[opds_cong g]
  ·unfold zgk;split
   ·rename_i q;rw[q]at g;split
    ·unfold zks;split
     ·split
      ·exact Wu (g _ N) (g _ N)
      ·rfl
     ·rfl
    ·unfold pj;split
     ·split
      ·exact Wu (g _ N) (g _ N)
      ·rfl
     ·rfl
    ·unfold pj;split
     ·split
      ·exact Wu (g _ N) (g _ N)
      ·rfl
     ·rfl
    ·rfl
   ·rfl
  ·unfold zd;split
   ·rename_i q;rw[q]at g;split
    ·split
     ·rfl
     ·split
      ·exact Wu (g _ N) (g _ N)
      ·rfl
    ·rfl
   ·rfl
  ·unfold zmm;split
   ·rename_i q;rw[q]at g;split
    ·split
     ·split
      ·exact Tp (g _ N)
      ·rfl
     ·rfl
    ·rfl
   ·rfl
  ·unfold zij;split
   ·rename_i q;rw[q]at g;split
    ·split
     ·exact Wu (g _ N) (g _ N)
     ·rfl
    ·rfl
   ·rfl
  ·rfl
 ·rename_i f q;have j:(Nk f).run E'=(Nk f).run E:=h f (by simp[Call.operands,q]);dsimp only;rw[j,opds_cong g]
 ·rename_i r B q;have j:(Nk r).run E'=(Nk r).run E:=h r (by simp[Call.operands,q]);dsimp only;rw[j,opds_cong g]
def zif{o:Op}{E E':Tr AV}{H:Heap}(h:∀x∈o.operands.toList,(Nk x).run E'=(Nk x).run E):(N5 z o).run E' H=(N5 z o).run E H:=by
 unfold N5;split
 ·exact Tp (h _ Ac)
 ·exact Tp (h _ Ac)
 ·rename_i c a b;dsimp only;rw[h c Ac,h a Ac,h b Ac]
 ·split<;>rfl
 ·exact Tp (h _ Ac)
 ·rename_i t g;have A:∀x∈g.toList.map (·.2),(Nk x).run E'=(Nk x).run E:=λx j=>h x Ds
  unfold tx;split
  ·rfl
  ·split
   ·split
    ·rfl
    ·split
     ·rfl
     ·rename_i q;dsimp only;rw[fillA_cong (z7g q A)]
   ·split
    ·rfl
    ·split
     ·rfl
     ·rename_i q;dsimp only;rw[fillA_cong (z7g q A)]
   ·rfl
 ·rename_i t len g;have A:∀x∈g.toList.map (·.2),(Nk x).run E'=(Nk x).run E:=λx j=>h x Ds
  unfold py;split
  ·split
   ·rfl
   ·split
    ·rfl
    ·split
     ·split
      ·rfl
      ·rename_i q;dsimp only;rw[fillA_cong (z7g q A)]
     ·rfl
  ·rfl
 ·unfold sk;split<;>first|rfl|exact Tp (h _ Ac)
 ·unfold znm;split<;>first|rfl|exact Wu (h _ Ac) (h _ Ac)
 ·exact Tp (h _ Ac)
 ·exact Wu (h _ Ac) (h _ Ac)
 ·exact Tp (h _ Ac)
 ·unfold U1;split
  ·exact Tp (h _ Ac)
  ·split<;>first|rfl|exact Tp (h _ Ac)
  ·exact Tp (h _ Ac)
  ·split<;>first|rfl|exact Tp (h _ Ac)
  ·rfl
 ·unfold ua;split<;>first|rfl|exact Tp (h _ Ac)
 ·rename_i f first cap
  split
  ·rfl
  ·simp only[qd];rw[opds_cong (l:=first.toList) (λx j=>h x (by simp[Op.operands]at j ⊢;exact .inl j)),opds_cong (l:=cap.toList) (λx j=>h x (by simp[Op.operands]at j ⊢;exact .inr j))]
 ·unfold n5;split
  ·rfl
  ·split<;>first|rfl|exact Tp (h _ Ac)
 ·unfold l9;split
  ·split
   ·rfl
   ·split
    ·rfl
    ·split
     ·exact Wu (h _ Ac) (h _ Ac)
     ·rfl
  ·rfl
 ·rename_i t x F hi G;have B:=h x Ac;have C:(Pu F).run E'=(Pu F).run E:=zgj (λy e=>h y Ff);have D:(Pu hi).run E'=(Pu hi).run E:=zgj (λy e=>h y Ff);have I:(Pu G).run E'=(Pu G).run E:=zgj (λy e=>h y Ff);unfold kf;split
  ·split
   ·rfl
   ·dsimp only;rw[B,C,D]
  ·split
   ·rfl
   ·split
    ·rfl
    ·dsimp only;rw[B,C,D,I]
  ·split
   ·rfl
   ·split
    ·rfl
    ·dsimp only;rw[B,C,D,I]
  ·rfl
 ·unfold ug;split
  ·split
   ·rfl
   ·split<;>first|rfl|exact Tp (h _ Ac)
  ·rfl
 ·unfold td;split
  ·split
   ·rfl
   ·split<;>first|rfl|exact Tp (h _ Ac)
  ·rfl
 ·unfold rq;split
  ·split
   ·rfl
   ·exact Wu (h _ Ac) (h _ Ac)
  ·split
   ·rfl
   ·exact Wu (h _ Ac) (h _ Ac)
  ·rfl
 ·unfold t8;split
  ·exact Wu (h _ Ac) (h _ Ac)
  ·split
   ·exact Wu (h _ Ac) (h _ Ac)
   ·rfl
  ·rfl
 ·unfold uj;split
  ·split
   ·exact Wu (h _ Ac) (h _ Ac)
   ·rfl
  ·rfl
 ·rename_i t m k x;unfold ud;split
  ·split
   ·dsimp only;rw[h m Ac,h k Ac,h x Ac]
   ·rfl
  ·rfl
 ·rename_i t m k x;unfold ud;split
  ·split
   ·dsimp only;rw[h m Ac,h k Ac,h x Ac]
   ·rfl
  ·rfl
 ·unfold rangeF;split<;>first|rfl|exact Tp (h _ Ac)
 ·unfold zx2;split<;>first|rfl|exact Tp (h _ Ac)
 ·unfold sx;split
  ·rfl
  ·split
   ·rfl
   ·exact Tp (h _ Ac)
  ·rfl
 ·exact Tp (h _ Ac)
 ·exact zt5 (λx j=>h x Ds)
 ·rfl
def ow{ops:Array Oper}{o:Oper}{E E':Tr AV}(h:Ro (Ts ops o) E' E):(R4 ops o).run E'=(R4 ops o).run E:=by
 unfold R4;split
 ·rfl
 ·rename_i A j z;split
  ·rfl
  ·rename_i d hd;split
   ·rename_i g;dsimp only;rw[h d (by simp[Ts,z,hd]) g]
   ·rfl
end
inductive QR (H H2:Heap):OR→OR→Prop where
 |no:QR H H2 .no .no
 |val (v:AV):QR H H2 (.val v H) (.val v H2)
def Sz(j:OpF):Prop:=∀z A g,QR A g (j.run z A) (j.run z g)
inductive RR (H:Heap):OR→Prop where
 |no:RR H .no
 |val (v:AV):RR H (.val v H)
def Vs(j:OpF):Prop:=∀z g,RR g (j.run z g)
def Sz.reads{F:OpF}(h:Sz F):Vs F:=λE H=>by
 have:=h E H H;generalize F.run E H=r at this;cases this with
 |no=>exact .no
 |val v=>exact .val v
def quiet_stuck:Sz Nw:=λ_ _ _=>.no
def reads_stuck:Vs Nw:=λ_ _=>.no
def QR.ret1{H H2:Heap}(o:Option AV):QR H H2 (ret1 H o) (Sv.ret1 H2 o):=by cases o<;>constructor
def RR.ret1{H:Heap}(o:Option AV):RR H (Sv.ret1 H o):=by cases o<;>constructor
def Vj{x:Operand}{f:Heap→AV→OR}(h:∀a j g,QR j g (f j a) (f g a)):Sz (Pq x f):=λz j g=>by
 simp only[Pq];cases (Nk x).run z with
 |none=>exact .no
 |some a=>exact h a j g
def z5u{x y:Operand}{f:Heap→AV→AV→OR}(h:∀a b j g,QR j g (f j a b) (f g a b)):Sz (Ss x y f):=λz j g=>by
 simp only[Ss];cases (Nk x).run z with
 |none=>exact .no
 |some a =>
  cases (Nk y).run z with
  |none=>exact .no
  |some b=>exact h a b j g
def x7{x:Operand}{f:Heap→AV→OR}(h:∀a g,RR g (f g a)):Vs (Pq x f):=λj g=>by
 simp only[Pq];cases (Nk x).run j with
 |none=>exact .no
 |some a=>exact h a g
def znq{x y:Operand}{f:Heap→AV→AV→OR}(h:∀a b g,RR g (f g a b)):Vs (Ss x y f):=λj g=>by
 simp only[Ss];cases (Nk x).run j with
 |none=>exact .no
 |some a =>
  cases (Nk y).run j with
  |none=>exact .no
  |some b=>exact h a b g
def zpj(z:Program)(t:TypeId)(g:Array (Nat×Operand)):Sz (tx z t g):=by
 unfold tx;split
 ·exact quiet_stuck
 ·split
  ·split
   ·exact quiet_stuck
   ·split
    ·exact quiet_stuck
    ·intro A B j;dsimp only;split
     ·exact .val _
     ·exact .no
  ·split
   ·exact quiet_stuck
   ·split
    ·exact quiet_stuck
    ·intro A B j;dsimp only;split
     ·exact .val _
     ·exact .no
  ·exact quiet_stuck
def zj5(j g:Heap)(a:AV):QR j g (sy j a) (sy g a):=by
 unfold sy;split<;>constructor
def zkj(g:Program)(t:TypeId)(x:Operand):Sz (ua g t x):=by
 unfold ua;split
 ·exact quiet_stuck
 ·exact Vj λa z j=>.val _
 ·exact quiet_stuck
def zow(f:Fn)(x y:Array Operand):Sz (qd f x y):=λj z g=>by
 simp only[qd];split
 ·split<;>constructor
 ·exact .no
def zi2(g:Program)(s:TypeId)(x:Operand)(f:Nat):Sz (ug g s x f):=by
 unfold ug;split
 ·split
  ·exact quiet_stuck
  ·split
   ·exact quiet_stuck
   ·exact quiet_stuck
   ·exact Vj λa z j=>Bt
 ·exact quiet_stuck
def zq5(g:Program)(s:TypeId)(x:Operand)(f:Nat):Sz (td g s x f):=by
 unfold td;split
 ·split
  ·exact quiet_stuck
  ·split
   ·exact Vj λa z j=>by
     split
     ·exact .ret1 _
     ·exact .no
   ·exact quiet_stuck
 ·exact quiet_stuck
def zgm(A:Program)(t:TypeId)(x g:Operand):Sz (rq A t x g):=by
 unfold rq;split
 ·split
  ·exact quiet_stuck
  ·refine z5u λa b B j=>?_
   split
   ·rename_i len z _ _ n;cases Nat.blt n len
    ·exact .no
    ·dsimp only;split<;>constructor
   ·exact .no
 ·split
  ·exact quiet_stuck
  ·refine z5u λa b B j=>?_
   split
   ·split<;>constructor
   ·exact .no
 ·exact quiet_stuck
def zpi(z:Program)(t:TypeId)(x g:Operand):Sz (t8 z t x g):=by
 unfold t8;split
 ·refine z5u λa b A j=>?_
  split
  ·split<;>constructor
  ·exact .no
 ·split
  ·refine z5u λa b A j=>?_
   split
   ·split
    ·exact .ret1 _
    ·exact .no
   ·exact .no
  ·exact quiet_stuck
 ·exact quiet_stuck
def zor(g:Program)(x:Operand)(t:TypeId)(ok:Bool):Sz (sx g x t ok):=by
 unfold sx;split
 ·exact quiet_stuck
 ·split
  ·exact quiet_stuck
  ·refine Vj λa z j=>?_
   split
   ·cases ok<;>constructor
   ·split
    ·constructor
    ·cases ok<;>constructor
   ·exact .no
 ·exact quiet_stuck
def zlj(x:Operand)(i:Nat):Sz (zgi x i):=Vj λa j g=>by
 split
 ·exact .ret1 _
 ·exact .no
def zgp{t:TypeId}{x:Operand}{g hi j:Option Operand}(h:zna z t=false):Sz (kf z t x g hi j):=by
 unfold kf;split
 ·split
  ·exact quiet_stuck
  ·intro B C A;dsimp only;split
   ·split
    ·split<;>constructor
    ·exact .no
   ·exact .no
 ·split
  ·exact quiet_stuck
  ·split
   ·exact quiet_stuck
   ·intro B C A;dsimp only;split
    ·exact .ret1 _
    ·split<;>constructor
    ·split<;>constructor
    ·exact .no
 ·rename_i q;simp[zna,q]at h
 ·exact quiet_stuck
def zp7(A:Program)(t:TypeId)(x:Operand)(j hi z:Option Operand):Vs (kf A t x j hi z):=by
 cases g:zna A t
 ·exact (zgp g).reads
 ·unfold zna at g;unfold kf;split at g
  ·rename_i q;rw[q];dsimp only;split
   ·exact reads_stuck
   ·split
    ·exact reads_stuck
    ·intro B C;dsimp only;split
     ·split
      ·split
       ·split
        ·exact .ret1 _
        ·exact .no
       ·exact .no
      ·exact .no
     ·exact .no
  ·cases g
def zt4{s d:TypeId}{x:Operand}(hd:nu z d=false)(g:nu z s=false):Sz (U1 z s d x):=by
 unfold U1;split
 ·exact Vj λa A j=>Bt
 ·rename_i q _;simp[nu,q]at g
 ·exact Vj λa A j=>Bt
 ·rename_i q;simp[nu,q]at hd
 ·exact quiet_stuck
def zt1{s d:TypeId}{x:Operand}(hd:nu z d=false):Vs (U1 z s d x):=by
 unfold U1;split
 ·exact x7 λa g=>Bt
 ·split
  ·refine x7 λa g=>?_
   split
   ·exact .val _
   ·split
    ·split<;>constructor
    ·exact .no
   ·exact .no
  ·exact reads_stuck
 ·exact x7 λa g=>Bt
 ·rename_i q;simp[nu,q]at hd
 ·exact reads_stuck
def zte(g:Program)(t:TypeId)(x:Operand):Vs (sk g t x):=by
 unfold sk;split
 ·exact x7 λa j=>by
   split
   ·split<;>constructor
   ·exact .no
 ·exact x7 λa j=>by
   split
   ·split<;>constructor
   ·exact .no
 ·exact reads_stuck
def zm0(j:Program)(t:TypeId)(x g:Operand)(ok:Bool):Vs (uj j t x g ok):=by
 unfold uj;split
 ·split
  ·refine znq λa b z=>?_
   split
   ·exact .no
   ·split<;>constructor
  ·exact reads_stuck
 ·exact reads_stuck
def znh{t:TypeId}{x:Operand}(h:zo7 z t=false):Sz (Ud z t x):=by
 unfold Ud;split
 ·exact Vj λa j g=>Bt
 ·exact Vj λa j g=>Bt
 ·rename_i q;simp[zo7,q]at h
 ·exact Vj λa j g=>.val _
 ·exact quiet_stuck
def zxt(j:Program)(t:TypeId)(x:Operand):Vs (Ud j t x):=by
 cases g:zo7 j t
 ·exact (znh g).reads
 ·unfold zo7 at g;unfold Ud;split at g
  ·rename_i q;rw[q];refine x7 λa z=>?_
   split
   ·exact .val _
   ·split<;>constructor
   ·exact .no
  ·cases g
def zup(g:Program)(t:TypeId)(x:Operand):Sz (Vk g t x):=by
 unfold Vk;split
 ·exact Vj λa z j=>Bt
 ·exact quiet_stuck
def znu(g:Bool)(l:List Operand):Sz (Ta g l):=λz A j=>by
 simp only[Ta];split
 ·exact .ret1 _
 ·exact .no
def zlz{c:Call}:(xk z c=.quiet→Sz (Y0 z c))∧(xk z c=.rd→Vs (Y0 z c)):=by
 unfold xk Y0;split
 ·rename_i q;rw[q];dsimp only;split
  ·rename_i t g;rw[g];split
   ·rename_i hm;exact⟨λh=>Am,λ_=>by
     split
     ·exact zxt _ _ _
     ·exact reads_stuck⟩
   ·rename_i hm;refine⟨λ_=>?_,λh=>Am⟩;split
    ·rename_i e _ ;cases e;exact znh (by simpa using hm)
    ·exact quiet_stuck
  ·exact⟨λh=>Am,λh=>Am⟩
 ·rename_i q;rw[q];refine⟨λ_=>?_,λh=>Am⟩;dsimp only;split
  ·exact zup _ _ _
  ·exact quiet_stuck
 ·rename_i q;rw[q];exact⟨λ_=>znu _ _,λh=>Am⟩
 ·rename_i q;rw[q];exact⟨λ_=>znu _ _,λh=>Am⟩
 ·exact⟨λh=>Am,λh=>Am⟩
def xm{P:Program}{o:Op}:(cls P o=.quiet→Sz (N5 P o))∧(cls P o=.rd→Vs (N5 P o)):=by
 unfold cls;split
 ·exact⟨λ_=>Vj λa j g=>.val _,λh=>Am⟩
 ·exact⟨λ_=>Vj λa j g=>.val _,λh=>Am⟩
 ·refine⟨λ_ A j g=>?_,λh=>Am⟩;simp only[N5];split
  ·exact .ret1 _
  ·exact .ret1 _
  ·exact .no
 ·exact⟨λ_=>zpj _ _ _,λh=>Am⟩
 ·exact⟨λ_=>Vj λa j g=>zj5 _ _ _,λh=>Am⟩
 ·exact⟨λ_=>z5u λa b j g=>.ret1 _,λh=>Am⟩
 ·exact⟨λ_=>Vj λa j g=>.ret1 _,λh=>Am⟩
 ·exact⟨λ_=>zkj _ _ _,λh=>Am⟩
 ·rename_i f x y;refine⟨λ_=>?_,λh=>Am⟩;simp only[N5];split
  ·exact quiet_stuck
  ·exact zow _ _ _
 ·exact⟨λ_=>zi2 _ _ _ _,λh=>Am⟩
 ·exact⟨λ_=>zq5 _ _ _ _,λh=>Am⟩
 ·exact⟨λ_=>zgm _ _ _ _,λh=>Am⟩
 ·exact⟨λ_=>zpi _ _ _ _,λh=>Am⟩
 ·exact⟨λ_=>zor _ _ _ _,λh=>Am⟩
 ·exact⟨λ_=>zlj _ _,λh=>Am⟩
 ·split
  ·exact⟨λh=>Am,λ_=>zp7 _ _ _ _ _ _⟩
  ·rename_i h;exact⟨λ_=>zgp Bb,λh=>Am⟩
 ·split
  ·exact⟨λh=>Am,λh=>Am⟩
  ·rename_i hd;split
   ·exact⟨λh=>Am,λ_=>zt1 (by simpa using hd)⟩
   ·rename_i z;exact⟨λ_=>zt4 (by simpa using hd) Cp,λh=>Am⟩
 ·exact⟨λh=>Am,λ_=>zte _ _ _⟩
 ·exact⟨λh=>Am,λ_=>zm0 _ _ _ _ _⟩
 ·exact zlz
 all_goals exact⟨λh=>Am,λh=>Am⟩
def z5k{P:Program}{n:Nat}{ops:Array Oper}{o:Oper}{k:Qn}(h:(Qq P n ops o).run k L C=.ok vT X) :
  ∃v,vT=O0 o.dst v L∧(∀d,o.dst=some d→d<n)∧∀j,Ro (Ts ops o) j L→(Qq P n ops o).run k j C=.ok (O0 o.dst v j) X:=by
 unfold Qq at h ⊢;cases G:Qs n o.dst with
 |none=>rw[G]at h;cases h
 |some p =>
  rw[G]at h;dsimp only at h ⊢;obtain⟨g,A⟩:=z9w G;have B:∀j,Ro (Ts ops o) j L→(N5 P o.op).run j C=(N5 P o.op).run L C:=λj z =>
   zif (Ro.opds (λt I=>z t (by simp[Ts,I])))
  cases D:(R4 ops o).run L with
  |false =>
   rw[D]at h;cases h;refine⟨Ri,g _ _,A,λj z=>?_⟩;rw[ow z,D];dsimp only;rw[g]
  |true =>
   rw[D]at h;dsimp only at h;cases E:(N5 P o.op).run L C with
   |no=>rw[E]at h;cases h
   |val v K =>
    rw[E]at h;cases h;refine⟨v,g _ _,A,λj z=>?_⟩;rw[ow z,D,B j z,E];dsimp only;rw[g]
   |call t F =>
    rw[E]at h;dsimp only at h;cases H:k t F C with
    |no=>rw[H]at h;cases h
    |ok v K =>
     rw[H]at h;cases h;refine⟨v,g _ _,A,λj z=>?_⟩;rw[ow z,D,B j z,E];dsimp only;rw[H];dsimp only;rw[g]
def z5q{P:Program}{n:Nat}{ops:Array Oper}{o:Oper}{k:Qn}(A:Vs (N5 P o.op))(h:(Qq P n ops o).run k L C=.ok vT X):X=C:=by
 unfold Qq at h;cases g:Qs n o.dst with
 |none=>rw[g]at h;cases h
 |some p =>
  rw[g]at h;dsimp only at h;cases j:(R4 ops o).run L with
  |false=>rw[j]at h;cases h;rfl
  |true =>
   rw[j]at h;dsimp only at h;have z:=A L C;generalize (N5 P o.op).run L C=r at h z;cases z with
   |no=>cases h
   |val v=>cases h;rfl
def zj4{P:Program}{n:Nat}{ops:Array Oper}{o:Oper}{k:Qn}(B:Sz (N5 P o.op))(h:(Qq P n ops o).run k L C=.ok vT X)(g:Heap) :
  (Qq P n ops o).run k L g=.ok vT g:=by
 unfold Qq at h ⊢;cases z:Qs n o.dst with
 |none=>rw[z]at h;cases h
 |some p =>
  rw[z]at h;dsimp only at h ⊢;cases A:(R4 ops o).run L with
  |false=>rw[A]at h;cases h;rfl
  |true =>
   rw[A]at h;dsimp only at h ⊢;have j:=B L C g;generalize (N5 P o.op).run L C=r at h j;generalize (N5 P o.op).run L g=D at j ⊢;cases j with
   |no=>cases h
   |val v=>cases h;rfl
end Go.Sv
