/- Texts of the evaluator, of the logic over it, of plain arithmetic. -/
import Derived.AtR
import Derived.Laws.Sem
import Derived.Laws.World
import Derived.KernelRfl
import Derived.Below
import Derived.Laws.Strings
import Derived.Laws.StructEq
import Derived.Lib.Strings
import Derived.Lib.ConvBytes
import Derived.Laws.BytesArg
import Derived.Laws.RangeString
import Derived.MapKept
import Derived.Laws.Append
import Derived.Laws.AppendOwn
import Derived.Laws.Externs
import Derived.RangeFuncIn
import Derived.RangeFuncRecord
set_option linter.unusedSimpArgs false
set_option linter.defProp false
namespace Go.Sv
variable{g j vV:Nat}{B:Program}{K v9:World}{Q:Bool}{Z:TypeId}{vU:Type}{vR:Array Value}{vO:Option Nat}{vM:Value}
noncomputable section
abbrev Hm:=@List.getElem?_eq_some_iff
abbrev Hn:=@List.getD_eq_getElem?_getD
abbrev Ho:=@List.getElem?_set_ne
abbrev Hq:=@Bool.and_eq_true
abbrev Hr:=@Int.eq_ofNat_of_zero_le
abbrev Hs:=@if_neg
abbrev Ht:=@List.getElem?_eq_getElem
abbrev Hu:=@List.getElem?_set_self
abbrev Hv:=@if_pos
abbrev Hw:=@Nat.le_refl
abbrev Hx:=@List.getElem?_append_left
abbrev Hy:=@Nat.ble_eq_true_of_le
abbrev Hz:=@decide_eq_true_eq
abbrev H0:=@Nat.eq_of_beq_eq_true
abbrev H4:=@List.length_append
abbrev H5:=@List.mem_cons
abbrev H6:=@Nat.le_of_ble_eq_true
abbrev H7:=@List.take_of_length_le
abbrev H8:=@Nat.mul_le_mul_right
abbrev H9:=@List.getElem?_append_right
abbrev Ia:=@List.mem_of_getElem?
abbrev Ib:=@List.getElem?_cons_succ
abbrev Ic:=@List.eq_nil_of_length_eq_zero
abbrev Ie:=@List.getElem?_concat_length
abbrev If:=@Int.toNat_natCast
abbrev Ig:=@List.length_cons
abbrev Ih:=@List.mem_append
abbrev Ii:=@List.getElem?_cons_zero
abbrev Ij:=@List.mem_cons_of_mem
abbrev Ik:=@Int.ofNat_eq_natCast
abbrev Il:=@Nat.lt_of_lt_of_le
abbrev Im:=@Nat.add_mul
abbrev In:=@Nat.mod_eq_of_lt
abbrev Io:=@List.set_eq_take_append_cons_drop
abbrev Ip:=@List.cons_append
abbrev Iq:=@Nat.zero_add
abbrev Ir:=@List.mem_cons_self
abbrev Is:=@Nat.le_trans
abbrev It:=@Nat.beq_refl
abbrev Iu:=@Array.getD_eq_getD_getElem?
abbrev Iv:=@List.mem_append_right
abbrev Iw:=@List.any_eq_true
abbrev Ix:=@Nat.mod_lt
abbrev Iy:=@Bool.or_eq_true
abbrev Iz:=@decide_eq_false_iff_not
abbrev I0:=@List.take_succ_eq_append_getElem
abbrev I3:=@List.map_set
abbrev I4:=@Nat.lt_succ_self
abbrev I5:=@UInt64.toNat_ofNat'
abbrev I6:=@UInt64.lt_iff_toNat_lt
abbrev I7:=@decide_eq_true
abbrev I8:=@List.append_assoc
abbrev I9:=@List.append_nil
abbrev Ja:=@Int.natCast_nonneg
abbrev Jb:=@List.drop_eq_getElem_cons
abbrev Jc:=@List.getElem?_take_of_lt
abbrev Jd:=@UInt64.toNat_inj
abbrev Je:=@Bool.eq_iff_iff
abbrev Jf:=@List.getElem?_toArray
abbrev Jg:=@Option.getD_some
abbrev Jh:=@List.all_eq_true
abbrev Ji:=@Nat.pow_succ
abbrev Jj:=@List.getElem?_map
abbrev Jk:=@List.drop_of_length_le
abbrev Jl:=@Bool.not_eq_true'
abbrev Jm:=@UInt64.toNat_add
abbrev Jn:=@Array.getElem?_eq_getElem
abbrev Jo:=@List.length_nil
abbrev Jp:=@List.length_take
abbrev Jq:=@Array.toList_map
abbrev Jr:=@Nat.mul_le_mul
abbrev Js:=@List.mem_iff_getElem
abbrev Jt:=@Option.map_some
abbrev Ju:=@Nat.min_eq_left
abbrev Jv:=@List.length_set
abbrev Jw:=@List.not_mem_nil
abbrev Jx:=@Int.emod_eq_of_lt
abbrev Jy:=@List.mem_iff_getElem?
abbrev Jz:=@List.getElem?_eq_none
abbrev J0:=@List.mem_range
abbrev J1:=@List.all_cons
abbrev J2:=@Nat.add_assoc
abbrev J3:=@List.map_cons
abbrev J4:=@of_decide_eq_true
abbrev J5:=@UInt64.le_iff_toNat_le
abbrev J6:=@List.drop_zero
abbrev J7:=@Nat.le_max_left
abbrev J8:=@Bool.false_eq_true
abbrev J9:=@Array.eq_empty_of_size_eq_zero
abbrev Ka:=@Nat.mul_comm
abbrev Kb:=@Nat.lt_or_ge
abbrev Kc:=@Nat.mul_mod
abbrev Kd:=@List.flatMap_cons
abbrev Ke:=@Array.size_append
abbrev Kf:=@List.take_left'
abbrev Kg:=@List.replicate_succ
abbrev Kh:=@Nat.zero_mul
abbrev Ki:=@List.take_length
abbrev Kj:=@List.getElem_mem
abbrev Kk:=@Array.getElem?_append_left
abbrev Kl:=@List.set_append_right
abbrev Km:=@List.map_append
abbrev Kn:=@Nat.zero_le
abbrev Kq:=@Nat.le_of_eq
abbrev Kr:=@Nat.add_zero
abbrev Ks:=@Nat.le_max_right
abbrev Kt:=@Nat.sub_self
abbrev Ku:=@Nat.div_div_eq_div_mul
abbrev Kw:=@BitVec.toNat_ofNat
abbrev Kx:=@Nat.mul_assoc
abbrev Ky:=@if_true
abbrev Kz:=@List.any_eq_false
abbrev K0:=@Nat.pow_le_pow_right
abbrev K2:=@Nat.mul_one
abbrev K3:=@Nat.mul_add
abbrev K5:=@List.mem_append_left
abbrev K6:=@UInt64.toNat_sub
abbrev K7:=@Nat.gcd_comm
abbrev K8:=@Nat.div_eq_of_lt
abbrev K9:=@List.length_pos_iff
abbrev La:=@Array.toList_append
abbrev Le:=@if_false
abbrev Lf:=@List.map_take
abbrev Lh:=@Bool.true_and
abbrev Li:=@decide_eq_false
abbrev Lj:=@or_false
abbrev Lk:=@Nat.testBit_eq_decide_div_mod_eq
abbrev Ll:=@Nat.succ_mul
abbrev Lm:=@List.getElem?_set
abbrev Ln:=@List.ext_getElem?
abbrev Lp:=@List.all_eq_false
abbrev Lq:=@Array.getElem?_eq_none
abbrev Lr:=@List.replicate_append_replicate
abbrev Ls:=@List.take_append_drop
abbrev Lt:=@beq_iff_eq
abbrev Lu:=@UInt64.toNat_mul
abbrev Lv:=@Array.toList_inj
abbrev Lw:=@Nat.pow_add
abbrev Ly:=@Nat.le_succ
abbrev Lz:=@List.take_append_of_le_length
abbrev L5:=@List.mem_of_mem_take
abbrev L6:=@Nat.not_lt_zero
abbrev L7:=@Nat.div_le_self
abbrev L8:=@List.nil_append
abbrev L9:=@Nat.mul_le_mul_left
abbrev Ma:=@Nat.le_of_lt
abbrev Mb:=@List.mem_map
abbrev Mc:=@Nat.le_of_mul_le_mul_right
abbrev Md:=@List.take_zero
abbrev Me:=@List.take_take
abbrev Mf:=@List.set_cons_zero
abbrev Mg:=@List.set_cons_succ
abbrev Mh:=@List.mem_singleton
abbrev Mi:=@List.getElem?_drop
abbrev Mj:=@Int.tmod_eq_emod_of_nonneg
abbrev Ml:=@Nat.mul_left_comm
abbrev Mm:=@Nat.gcd_rec
abbrev Mn:=@UInt64.not_lt
abbrev Mo:=@Bool.toNat_le
def J{p:Prop}(h:p:=by omega):p:=h
def N{p:Prop}(h:p:=by simp):p:=h
def Aa{p:Prop}(h:p:=by kernel_rfl):p:=h
def Ab{p:Prop}(h:p:=by simp;omega):p:=h
def Ac{p:Prop}(h:p:=by simp[Op.operands]):p:=h
def Ad{p:Prop}(h:p:=by decide):p:=h
def Ae{p:Prop}(h:p:=by simp[z]):p:=h
def Af{p:Prop}(h:p:=by simp[j]):p:=h
def Ah{p:Prop}(h:p:=by simp[execOp,ho]):p:=h
def Ai{p:Prop}(h:p:=by simp[E]):p:=h
def Ak{p:Prop}(h:p:=by simp[D]):p:=h
def Al{p:Prop}(h:p:=by simp[C]):p:=h
def Am{p:Prop}(h:p:=by simp[F]):p:=h
def An{p:Prop}(h:p:=by cases h):p:=h
def Ao{p:Prop}(h:p:=by simp[B]):p:=h
def Aq{p:Prop}(h:p:=by cases e):p:=h
def Ar{p:Prop}(h:p:=by simp[A]):p:=h
def As{p:Prop}(h:p:=by simp only[IntKind.wrap,IntKind.bits,IntKind.signed];simp;omega):p:=h
def At{p:Prop}(h:p:=by simp[g]):p:=h
def Au{p:Prop}(h:p:=by unfold Qs;omega):p:=h
def Av{p:Prop}(h:p:=by simpa using h):p:=h
def Aw{p:Prop}(h:p:=by dsimp only;omega):p:=h
def Ax{p:Prop}(h:p:=by simp[T5,Xg,bm,gl,ni,ew,bi]):p:=h
def Ay{p:Prop}(h:p:=by simp[I]):p:=h
def A0{p:Prop}(h:p:=by simp[M]):p:=h
def A1{p:Prop}(h:p:=by simp[H]):p:=h
def A2{p:Prop}(h:p:=by simpa using g):p:=h
def A3{p:Prop}(h:p:=by simp[dats,LV.dat,Qo]):p:=h
def A4{p:Prop}(h:p:=by simp only[Sem.run_bind,z,Result.andThen_ok,Sem.run_pure]):p:=h
def A5{p:Prop}(h:p:=by simp[dats,LV.dat,Mv,S0,Sz]):p:=h
def A6{p:Prop}(h:p:=by rw[g];exact Hw _):p:=h
def A7{p:Prop}(h:p:=by simp[Builtin.len_,N6 hu,goInt]):p:=h
def A8{p:Prop}(h:p:=by simp[G]):p:=h
def A9{p:Prop}(h:p:=by simp[K]):p:=h
def Ba{p:Prop}(h:p:=by obtain⟨_,_,h,_⟩:=id h;exact (Hm.1 h).1):p:=h
def Bb{p:Prop}(h:p:=by split<;>constructor):p:=h
def Bc{p:Prop}(h:p:=by simp[T]):p:=h
def Bd{p:Prop}(h:p:=by simp[R]):p:=h
def Be{p:Prop}(h:p:=by have:o<H.next+1:=ho;omega):p:=h
def Bg{p:Prop}(h:p:=by simpa using j):p:=h
def Bh{p:Prop}(h:p:=by simp[L]):p:=h
def Bi{p:Prop}(h:p:=by simp[M3,Nb,cK]):p:=h
def Bj{p:Prop}(h:p:=by dsimp;omega):p:=h
def Bk{p:Prop}(h:p:=by simpa using G):p:=h
def Bl{p:Prop}(h:p:=by rw[←q',h1]at e;exact ho _ _ _ _ (Option.some.inj e).symm):p:=h
def Bm{p:Prop}(h:p:=by simp[U]):p:=h
def Bn{p:Prop}(h:p:=by simp at h):p:=h
def Bo{p:Prop}(h:p:=by simp at e):p:=h
def Bq{p:Prop}(h:p:=by simp[Mv]):p:=h
def Br{p:Prop}(h:p:=by cases h;rfl):p:=h
def Bs{p:Prop}(h:p:=by rw[Nk O];exact L):p:=h
def Bt{p:Prop}(h:p:=by simpa using E):p:=h
def Bu{p:Prop}(h:p:=by have:=g.b;simpa [Pn.p] using this):p:=h
def Bv{p:Prop}(h:p:=by simp only[Ik];omega):p:=h
def Bx{p:Prop}(h:p:=by simp[Ud]):p:=h
def By{p:Prop}(h:p:=by simp[gg]):p:=h
def Bz{p:Prop}(h:p:=by simp[LV.dat,dats]):p:=h
def B0{p:Prop}(h:p:=by rw[j,C]):p:=h
def B1{p:Prop}(h:p:=by simp[dats,LV.dat]):p:=h
def B2{p:Prop}(h:p:=by simpa using A):p:=h
def B3{p:Prop}(h:p:=by simp only[Nr];unfold M0;rw[z]):p:=h
def B4{p:Prop}(h:p:=by rw[C,O];exact F):p:=h
def B5{p:Prop}(h:p:=by cases op<;>rfl):p:=h
def B6{p:Prop}(h:p:=by simp[N0];omega):p:=h
def B7{p:Prop}(h:p:=by simpa using z):p:=h
def B8{p:Prop}(h:p:=by rw[O];exact T):p:=h
def B9{p:Prop}(h:p:=by simp[Qq];omega):p:=h
def Ca{p:Prop}(h:p:=by simpa using C):p:=h
def Cb{p:Prop}(h:p:=by rw[Z8 hl.2.2 hx,Z8 hl.2.1 hx,Z8 hl.2.2 hx,Z8 hl.2.1 hx];exact h.low x hx):p:=h
def Cc{p:Prop}(h:p:=by simp[RU]):p:=h
def Cd{p:Prop}(h:p:=by simp[builtin]):p:=h
def Ce{p:Prop}(h:p:=by rw[←r6.length];exact r1):p:=h
def Cg{p:Prop}(h:p:=by rw[H4,h2,hx,Im];omega):p:=h
def Ch{p:Prop}(h:p:=by simp[Q,P];omega):p:=h
def Ci{p:Prop}(h:p:=by simpa [binOp] using j):p:=h
def Cj{p:Prop}(h:p:=by rw[hg o rfl];exact r2):p:=h
def Ck{p:Prop}(h:p:=by rw[bg];exact .int k _):p:=h
def Cl{p:Prop}(h:p:=by simpa using r1):p:=h
def Cm{p:Prop}(h:p:=by simp[et];omega):p:=h
def Cn{p:Prop}(h:p:=by simpa using hi):p:=h
def Co{p:Prop}(h:p:=by simp[e]):p:=h
def Cp{p:Prop}(h:p:=by simp[O1]):p:=h
def Cq{p:Prop}(h:p:=by simp only[Ig];omega):p:=h
def Cr{p:Prop}(h:p:=by simpa using I):p:=h
def Cs{p:Prop}(h:p:=by show Int.ofNat (a.toNat ||| b.toNat)<_;simp only[Ik];omega):p:=h
def Ct{p:Prop}(h:p:=by show Int.ofNat (a.toNat &&& b.toNat)<_;simp only[Ik];omega):p:=h
def Cu{p:Prop}(h:p:=by rw[H4,Jp,U];show min (len*j) l.length+n*j=(len+n)*j;omega):p:=h
def Cv{p:Prop}(h:p:=by have:=List.findIdx_le_length (p:=p) (xs:=l);omega):p:=h
def Cw{p:Prop}(h:p:=by simpa using K):p:=h
def Cy{p:Prop}(h:p:=by simpa [Op.operands] using j):p:=h
def Cz{p:Prop}(h:p:=by simpa using U):p:=h
def C3{p:Prop}(h:p:=by simp[execOp,ho,j]):p:=h
def C4{p:Prop}(h:p:=by simp[Ob,Ni];omega):p:=h
def C5{p:Prop}(h:p:=by simp[h.l,h.i]):p:=h
def C6{p:Prop}(h:p:=by simp[binOp,Op.intArith];rfl):p:=h
def C7{p:Prop}(h:p:=by simp[P]):p:=h
def C8{p:Prop}(h:p:=by have:=(hm.ev.row e).1;omega):p:=h
def C9{p:Prop}(h:p:=by simp[Pn.p]):p:=h
def Da{p:Prop}(h:p:=by simp only[Ii,Option.some.injEq]at h;subst h;exact⟨_,rfl,e⟩):p:=h
def Db{p:Prop}(h:p:=by rw[Nk A];exact K):p:=h
def Dc{p:Prop}(h:p:=by simp[Z]):p:=h
def Dd{p:Prop}(h:p:=by grind):p:=h
def De{p:Prop}(h:p:=by simp[dats,LV.dat,S0,zei]):p:=h
def Df{p:Prop}(h:p:=by rw[←h3];exact gg):p:=h
def Dg{p:Prop}(h:p:=by simp[hs.len]):p:=h
def Dh{p:Prop}(h:p:=by simp[binOp,Op.intCmp];rfl):p:=h
def Di{p:Prop}(h:p:=by rw[Hx (Hm.1 e).1];exact e):p:=h
def Dk{p:Prop}(h:p:=by have:=z.s;have:=z.z;omega):p:=h
def Dl{p:Prop}(h:p:=by simp[dats,LV.dat,S0,Sz]):p:=h
def Dm{p:Prop}(h:p:=by simp[h.i]):p:=h
def Do{p:Prop}(h:p:=by simp only;omega):p:=h
def Dp{p:Prop}(h:p:=by rw[e]):p:=h
def Dq{p:Prop}(h:p:=by unfold Xu;split<;>omega):p:=h
def Dr{p:Prop}(h:p:=by simp[Ni];omega):p:=h
def Ds{p:Prop}(h:p:=by have:=congrArg List.length hd;simp at this;omega):p:=h
def Dt{p:Prop}(h:p:=by simp[zeroValue,mz hi,g]):p:=h
def Du{p:Prop}(h:p:=by simp[Qc,M8,Nj,nq,vh,m6]):p:=h
def Dv{p:Prop}(h:p:=by simp[O]):p:=h
def Dw{p:Prop}(h:p:=by simp only[Fr.cat,Fr.noW,zct r g,Bool.and_assoc]):p:=h
def Dx{p:Prop}(h:p:=by rw[h]):p:=h
def Dy{p:Prop}(h:p:=by have:=(D1.lt e).1;omega):p:=h
def Dz{p:Prop}(h:p:=by rw[Nk I,jC Q];exact T):p:=h
def D0{p:Prop}(h:p:=by unfold Mw;split<;>simp):p:=h
def D3{p:Prop}(h:p:=by simpa using hm):p:=h
def D4{p:Prop}(h:p:=by simpa using H):p:=h
def D5{p:Prop}(h:p:=by simp[getObj,Sem.run,X]):p:=h
def D6{p:Prop}(h:p:=by simp[cK]):p:=h
def D7{p:Prop}(h:p:=by simp[Nc]):p:=h
def D8{p:Prop}(h:p:=by rw[It,show Nat.ble len P0=true from Hy C];rfl):p:=h
def D9{p:Prop}(h:p:=by simp[Qp,hb,Qq];omega):p:=h
def Ea{p:Prop}(h:p:=by rw[q];rfl):p:=h
def Eb{p:Prop}(h:p:=by simp[binOp,Op.intCmp]):p:=h
def Ec{p:Prop}(h:p:=by rw[hb _ _ C];exact h2):p:=h
def Ed{p:Prop}(h:p:=by have:s.data.toList.length=s.size:=rfl;omega):p:=h
def Ee{p:Prop}(h:p:=by simpa using D):p:=h
def Eg{p:Prop}(h:p:=by simp[Qp,U,Qq];omega):p:=h
def Eh{p:Prop}(h:p:=by simp[Op.operands,e]):p:=h
def Ei{p:Prop}(h:p:=by rw[Fr.cat,Fr.stp,Fr.stp,stp_cat r g];omega):p:=h
def Ej{p:Prop}(h:p:=by simpa using e):p:=h
def Ek{p:Prop}(h:p:=by rw[j]):p:=h
def El{p:Prop}(h:p:=by rw[A];rfl):p:=h
def Em{p:Prop}(h:p:=by simp[val]):p:=h
def En{p:Prop}(h:p:=by simp[Hn,hj]):p:=h
def Eo{p:Prop}(h:p:=by rw[z];omega):p:=h
def Ep{p:Prop}(h:p:=by rw[j,C,E]):p:=h
def Er{p:Prop}(h:p:=by have:=u.toNat_lt;simp only[Ik];omega):p:=h
def Es{p:Prop}(h:p:=by have:=h.fc.2;omega):p:=h
def Et{p:Prop}(h:p:=by simp[Nw]at h;omega):p:=h
def Eu{p:Prop}(h:p:=by simp[M8]at h;omega):p:=h
def Ev{p:Prop}(h:p:=by simp only[Ik];exact Int.ofNat_lt.2 F):p:=h
def Ew{p:Prop}(h:p:=by show y+1≤2*9223372036854775808;omega):p:=h
def Ey{p:Prop}(h:p:=by show x+1≤2*9223372036854775808;omega):p:=h
def Ez{p:Prop}(h:p:=by show _≤(gv vs d).limbs.toNat+2;omega):p:=h
def E4{p:Prop}(h:p:=by simp[vl]):p:=h
def E5{p:Prop}(h:p:=by simp[Ot,hi]):p:=h
def E6{p:Prop}(h:p:=by simp[N1,cK]):p:=h
def E7{p:Prop}(h:p:=by show s.i+1≤_;omega):p:=h
def E8{p:Prop}(h:p:=by have:=g _ q;omega):p:=h
def E9{p:Prop}(h:p:=by simp[stepG,stepG.exec,Frame.atR]):p:=h
def Fa{p:Prop}(h:p:=by simp[P6,(zgu j ops l _ (i+1) 0).1]):p:=h
def Fb{p:Prop}(h:p:=by simp[LV.dat,W6]):p:=h
def Fe{p:Prop}(h:p:=by cases q):p:=h
def Ff{p:Prop}(h:p:=by rw[Q1];exact Ix _ J):p:=h
def Fg{p:Prop}(h:p:=by show (iU (p.p.at_+(off:Int))).toNat<sz p.b;rw[zuw J];exact h):p:=h
def Fh{p:Prop}(h:p:=by show (iU (p.p.at_+(off:Int))).toNat+m≤sz p.b;rw[zuw J];exact h):p:=h
def Fi{p:Prop}(h:p:=by have:=m8 (Ix (val gK) (J:0<val gg));omega):p:=h
def Fj{p:Prop}(h:p:=by rw[hx];exact List.mem_flatMap.2 ⟨_,N,gg⟩):p:=h
def Fk{p:Prop}(h:p:=by rw[N0,Hs J];omega):p:=h
inductive Tr (α:Type) where
 |e
 |n (v:Option α) (l r:Tr α)
structure GetF (α:Type) where run:Tr α→Option α
structure SetF (α:Type) where run:α→Tr α→Tr α
def getF{g:Type}:List Bool→GetF g
 |[]=>⟨λt=>Tr.rec none (λv _ _ _ _=>v) t⟩
 |b::p=>match b with
  |true=>⟨λt=>Tr.rec none (λ_ l _ _ _=>(getF p).run l) t⟩
  |false=>⟨λt=>Tr.rec none (λ_ _ r _ _=>(getF p).run r) t⟩
def ko{g:Type}:List Bool→SetF g
 |[]=>⟨λa t=>Tr.rec (.n (some a) .e .e) (λ_ l r _ _=>.n (some a) l r) t⟩
 |b::p=>match b with
  |true=>⟨λa t=>Tr.rec (.n none ((ko p).run a .e) .e) (λv l r _ _=>.n v ((ko p).run a l) r) t⟩
  |false=>⟨λa t=>Tr.rec (.n none .e ((ko p).run a .e)) (λv l r _ _=>.n v l ((ko p).run a r)) t⟩
def Mt(p:List Bool)(t:Tr vU):Option vU:=(getF p).run t
def Oh(a:vU)(p:List Bool)(t:Tr vU):Tr vU:=(ko p).run a t
def zsp:Nat→Nat→List Bool
 |0,_=>[]
 |f+1,k=>match k with
  |0=>[]
  |k+1=>Nat.beq (Nat.mod k 2) 0::zsp f (Nat.div k 2)
def M9(k:Nat):List Bool:=zsp (Nat.succ k) k
def P0:Nat:=1000000000
def Qz{g:Type}:List g→Nat→Tr g→Tr g
 |[],_,t=>t
 |a::l,i,t=>Qz l (i+1) (Oh a (M9 i) t)
inductive AV where
 |bool (b:Bool)
 |int (k:IntKind) (n:Int)
 |str (len n:Nat)
 |nilPtr
 |ptr (o v i:Nat)
 |nilSl
 |sl (o v i len esz:Nat) (room:Option Nat)
 |emp
 |nilMap
 |map (o:Nat)
 |nilFn
 |fn (f:Fn) (first cap:List AV)
 |nilIf
 |iface (t:TypeId) (v:AV)
 |agg (cs:List AV)
 |tup (vs:List AV)
 deriving Inhabited
def AV.cells:AV→Option (List AV)
 |.agg cs=>some cs
 |.tup _=>none
 |v=>some [v]
def On:List UInt8→Nat
 |[]=>0
 |b::l=>b.toNat+256*On l
def rh:Value→Option AV
 |.bool b=>some (.bool b)
 |.int k n=>some (.int k n)
 |.string s=>some (.str s.data.toList.length (On s.data.toList))
 |.pointer none=>some .nilPtr
 |.slice none 0 0=>some .nilSl
 |.map none=>some .nilMap
 |.nilFunc=>some .nilFn
 |.nilIface=>some .nilIf
 |_=>none
def T4:List Value→Option (List AV)
 |[]=>some []
 |v::l=>match rh v with
  |none=>none
  |some a=>match T4 l with
   |none=>none
   |some r=>some (a::r)
def Wh:Value→Option AV
 |.agg g=>(T4 g.toList).map .agg
 |.tuple j=>if j.size=0 then some (.tup []) else none
 |v=>rh v
inductive AObj where
 |cells (c:Tr AV) (len ver:Nat) (ro:Bool)
 |map (es:List (AV×AV×Nat)) (clock:Nat)
 |iter (len n pos:Nat)
 |loop (st:LoopState) (pend:Option Code) (f nt:Nat) (env:Tr AV) (ps:Array Tmp) (assign body:Code) (defers:Nat)
 |defd (isOpen:Bool)
structure Heap where
 t:Tr AObj
 next:Nat
def Heap.get(H:Heap)(o:Nat):Option AObj:=Mt (M9 o) H.t
def Heap.put(H:Heap)(o:Nat)(x:AObj):Heap:=⟨Oh x (M9 o) H.t,H.next⟩
def Heap.push(H:Heap)(x:AObj):Heap:=⟨Oh x (M9 H.next) H.t,H.next+1⟩
def R8(c:Tr AV):Nat→Nat→Option (List AV)
 |_,0=>some []
 |i,n+1=>match Mt (M9 i) c with
  |none=>none
  |some a=>match R8 c (i+1) n with
   |none=>none
   |some l=>some (a::l)
def Qi(j:Heap)(o v i n:Nat):Option (List AV) :=
 match j.get o with
 |some (.cells c len g _)=>match Nat.beq v g with
  |true=>match Nat.ble (Nat.add i n) len with
   |true=>R8 c i n
   |false=>none
  |false=>none
 |_=>none
def Vc(j:Heap)(o v i:Nat)(l:List AV):Option Heap :=
 match j.get o with
 |some (.cells c len g false)=>match Nat.beq v g with
  |true=>match Nat.ble (Nat.add i l.length) len with
   |true=>some (j.put o (.cells (Qz l i c) len g false))
   |false=>none
  |false=>none
 |_=>none
def newObj(g:Heap)(l:List AV):Option (Nat×Heap):=some (g.next,g.push (.cells (Qz l 0 .e) l.length 0 false))
inductive Tgt where
 |fn (f:Nat)
 |yield (l:Nat)
inductive OR where
 |no
 |val (v:AV) (H:Heap)
 |call (t:Tgt) (args:List AV)
structure OpdF where run:Tr AV→Option AV
structure OpF where run:Tr AV→Heap→OR
def Rh:AV:=.tup []
def Na(x:Operand):OpdF :=
 match x with
 |.tmp t=>match Nat.ble t P0 with
  |true=>⟨λg=>Option.rec (some Rh) (λv=>some v) (Mt (M9 t) g)⟩
  |false=>⟨λ_=>none⟩
 |.const v=>match Wh v with
  |some a=>⟨λ_=>some a⟩
  |none=>⟨λ_=>none⟩
 |.func f=>⟨λ_=>some (.fn (.func f) [] [])⟩
 |.global _=>⟨λ_=>none⟩
structure OpdsF where run:Tr AV→Option (List AV)
def opds:List Operand→OpdsF
 |[]=>⟨λ_=>some []⟩
 |x::l=>⟨λg=>match (Na x).run g with
  |none=>none
  |some a=>match (opds l).run g with
   |none=>none
   |some r=>some (a::r)⟩
def Np:OpF:=⟨λ_ _=>.no⟩
def ret1(g:Heap)(o:Option AV):OR:=match o with
 |some v=>.val v g
 |none=>.no
def Ps(x:Operand)(f:Heap→AV→OR):OpF:=⟨λg j=>Option.rec .no (λa=>f j a) ((Na x).run g)⟩
def S9(x y:Operand)(f:Heap→AV→AV→OR):OpF:=⟨λg j=>Option.rec .no (λa=>Option.rec .no (λb=>f j a b) ((Na y).run g)) ((Na x).run g)⟩
def Ot(g:Program)(t:TypeId):Option Nat:=(g.info? t).map (·.size)
def Sm(g:Program)(t:TypeId):Option Bool:=match g.underlying t with
 |some (.struct _)|some (.array _ _)=>some true
 |some _=>some false
 |none=>none
def R6(g:Program)(t:TypeId):Option (List AV):=match g.info? t with
 |some i=>match i.zero with
  |some v=>match T4 v.cells.toList with
   |some l=>if l.length=i.size then some l else none
   |none=>none
  |none=>none
 |none=>none
def zri(g:Program)(t:TypeId):Option AV:=match g.info? t with
 |some i=>match i.zero with
  |some v=>Wh v
  |none=>none
 |none=>none
def Wm(j:Heap)(l:List AV):OR:=match newObj j l with
 |some (o,g)=>.val (.ptr o 0 0) g
 |none=>.no
def ku:IntKind→Nat
 |.i8=>0 |.i16=>1 |.i32=>2 |.i64=>3 |.u8=>4 |.u16=>5 |.u32=>6 |.u64=>7
def Yd(k g:IntKind):Bool:=Nat.beq (ku k) (ku g)
def Y6(a b:Int):Bool:=match a,b with
 |.ofNat x,.ofNat y=>Nat.beq x y
 |.negSucc x,.negSucc y=>Nat.beq x y
 |_,_=>false
def xw(a b:Int):Bool:=match a,b with
 |.ofNat x,.ofNat y=>Nat.blt x y
 |.negSucc x,.negSucc y=>Nat.blt y x
 |.negSucc _,.ofNat _=>true
 |.ofNat _,.negSucc _=>false
def Xh:IntKind→Nat
 |.i8=>128 |.u8=>128 |.i16=>32768 |.u16=>32768 |.i32=>2147483648 |.u32=>2147483648
 |.i64=>9223372036854775808 |.u64=>9223372036854775808
def Un(k:IntKind)(n:Int):Int:=match n with
 |.ofNat m=>match Nat.blt m (Xh k) with
  |true=>.ofNat m
  |false=>k.wrap (.ofNat m)
 |.negSucc m=>k.wrap (.negSucc m)
def Uz(k:IntKind):Nat:=Nat.mul 2 (Xh k)
def Z6(f:Nat→Nat→Nat)(k:IntKind)(a b:Int):Option AV:=match a,b with
 |.ofNat x,.ofNat y=>match Nat.blt x (Uz k) with
  |true=>match Nat.blt y (Uz k) with
   |true=>some (.int k (Un k (.ofNat (f x y))))
   |false=>none
  |false=>none
 |_,_=>none
def ki(b:Int):Bool:=match b with
 |.ofNat n=>Nat.beq n 0
 |_=>false
def zrf(op:BinOp)(k:IntKind)(a b:Int):Option AV :=
 match op with
 |.add=>some (.int k (Un k (Int.add a b)))
 |.sub=>some (.int k (Un k (Int.sub a b)))
 |.mul=>some (.int k (Un k (Int.mul a b)))
 |.quo=>match ki b with
  |true=>none
  |false=>some (.int k (Un k (Int.tdiv a b)))
 |.rem=>match ki b with
  |true=>none
  |false=>some (.int k (Int.tmod a b))
 |.and=>Z6 Nat.land k a b
 |.or=>Z6 Nat.lor k a b
 |.xor=>Z6 Nat.xor k a b
 |.andNot=>Z6 (λx y=>Nat.xor x (Nat.land x y)) k a b
 |.eql=>some (.bool (Y6 a b))
 |.neq=>some (.bool (!(Y6 a b)))
 |.lss=>some (.bool (xw a b))
 |.leq=>some (.bool (!(xw b a)))
 |.gtr=>some (.bool (xw b a))
 |.geq=>some (.bool (!(xw a b)))
 |_=>none
def Py(a b:Nat):Nat:=match Nat.ble a b with
 |true=>a
 |false=>b
def zoz(op:BinOp)(k:IntKind)(a:Int)(y:Int):Option AV :=
 match a,y with
 |.ofNat x,.ofNat y=>match op with
  |.shl=>some (.int k (Un k (.ofNat (Nat.mul x (Nat.pow 2 (Py y k.bits))))))
  |.shr=>some (.int k (.ofNat (Nat.div x (Nat.pow 2 (Py y k.bits)))))
  |_=>none
 |_,_=>none
def Vg:Nat→Nat→List Nat
 |0,_=>[]
 |len+1,n=>Nat.mod n 256::Vg len (Nat.div n 256)
def m9:List Nat→List Nat→Bool
 |_,[]=>false
 |[],_::_=>true
 |a::x,b::y=>Nat.blt a b || (Nat.beq a b&&m9 x y)
def zwd(op:BinOp)(g a j b:Nat):Option AV :=
 match op with
 |.add=>match Nat.ble (Nat.add g j) P0 with
  |true=>some (.str (Nat.add g j) (Nat.add a (Nat.mul b (Nat.pow 256 g))))
  |false=>none
 |.eql=>some (.bool (Nat.beq g j&&Nat.beq a b))
 |.neq=>some (.bool (!(Nat.beq g j&&Nat.beq a b)))
 |.lss=>some (.bool (m9 (Vg g a) (Vg j b)))
 |.gtr=>some (.bool (!(m9 (Vg g a) (Vg j b) || (Nat.beq g j&&Nat.beq a b))))
 |.leq=>some (.bool (m9 (Vg g a) (Vg j b) || (Nat.beq g j&&Nat.beq a b)))
 |.geq=>some (.bool (!(m9 (Vg g a) (Vg j b))))
 |_=>none
def Yx(l:List AV)(g n:Nat):Option (List AV):=match Nat.ble (Nat.add g n) l.length with
 |true=>some ((l.drop g).take n)
 |false=>none
def dh(z:Bool)(g:Nat)(l:List AV)(j:Nat):Option AV :=
 match z with
 |true=>match Yx l j g with
  |some r=>some (.agg r)
  |none=>none
 |false=>l[j]?
def zvf(j:Program)(t:TypeId)(l:List AV)(g:Nat):Option AV :=
 match Sm j t,Ot j t with
 |some z,some n=>dh z n l g
 |_,_=>none
def iz(z:Program)(f:TypeId→AV→AV→Option Bool)(g j:List AV):List Field→Option Bool
 |[]=>some true
 | fd :: l => match fd.name != "_" with
  |true=>match zvf z fd.type g fd.offset,zvf z fd.type j fd.offset with
   |some a,some b=>match f fd.type a b with
    |some true=>iz z f g j l
    |some false=>some false
    |none=>none
   |_,_=>none
  |false=>iz z f g j l
def uj(z:Program)(f:TypeId→AV→AV→Option Bool)(t:TypeId)(n:Nat)(g j:List AV):List Nat→Option Bool
 |[]=>some true
 |i::l=>match zvf z t g (Nat.mul i n),zvf z t j (Nat.mul i n) with
  |some a,some b=>match f t a b with
   |some true=>uj z f t n g j l
   |some false=>some false
   |none=>none
  |_,_=>none
def ie(z:Program)(f:TypeId→AV→AV→Option Bool)(t:TypeId)(a b:AV):Option Bool:=match z.underlying t,a,b with
  |some .bool,.bool x,.bool y=>some (x==y)
  |some (.int _),.int k x,.int A y=>match Yd k A with
   |true=>some (Y6 x y)
   |false=>none
  |some .string,.str B x,.str C y=>some (Nat.beq B C&&Nat.beq x y)
  |some (.pointer _),.nilPtr,.nilPtr=>some true
  |some (.pointer _),.nilPtr,.ptr _ _ _=>some false
  |some (.pointer _),.ptr _ _ _,.nilPtr=>some false
  |some (.interface _),.nilIf,.nilIf=>some true
  |some (.interface _),.nilIf,.iface _ _=>some false
  |some (.interface _),.iface _ _,.nilIf=>some false
  |some (.slice _),.nilSl,.nilSl=>some true
  |some (.slice _),.nilSl,.sl _ _ _ _ _ _=>some false
  |some (.slice _),.sl _ _ _ _ _ _,.nilSl=>some false
  |some (.slice _),.nilSl,.emp=>some false
  |some (.slice _),.emp,.nilSl=>some false
  |some (.map _ _),.nilMap,.nilMap=>some true
  |some (.map _ _),.nilMap,.map _=>some false
  |some (.map _ _),.map _,.nilMap=>some false
  |some (.func _ _ _),.nilFn,.nilFn=>some true
  |some (.func _ _ _),.nilFn,.fn _ _ _=>some false
  |some (.func _ _ _),.fn _ _ _,.nilFn=>some false
  |some (.struct D),.agg g,.agg j=>match z.stoodInHeld t with
   |true=>none
   |false=>iz z f g j D.toList
  |some (.array n e),.agg g,.agg j=>match Ot z e with
   |some s=>uj z f e s g j (List.range n)
   |none=>none
  |_,_,_=>none
def eqT(g:Program):Nat→TypeId→AV→AV→Option Bool
 |0=>λ_ _ _=>none
 |d+1=>ie g (eqT g d)
def zlg(g:Program)(j:Bool)(t:TypeId)(a b:AV):Bool:=match a,b with
 |.nilIf,.nilIf=>j
 |.agg _,.agg _=>!(g.eqGuardType g.depth t)
 |_,_=>true
def Q9(g:Program)(j:Bool)(t:TypeId)(a b:AV):Option Bool:=match zlg g j t a b with
 |true=>eqT g 20 t a b
 |false=>none
def notB:Option Bool→Option AV
 |some b=>some (.bool (!b))
 |none=>none
def yesB:Option Bool→Option AV
 |some b=>some (.bool b)
 |none=>none
def Wj:Operand→Bool
 |.const _=>true
 |_=>false
def Pa(A:Program)(op:BinOp)(B:Bool)(t:TypeId)(a b:AV):Option AV :=
 match a,b with
 |.int k x,.int g y=>match op with
  |.shl=>zoz .shl k x y
  |.shr=>zoz .shr k x y
  |op=>match Yd k g with
   |true=>zrf op k x y
   |false=>none
 |.str j x,.str z y=>zwd op j x z y
 |a,b=>match op with
  |.eql=>yesB (Q9 A B t a b)
  |.neq=>notB (Q9 A B t a b)
  |_=>none
def unA(op:UnOp)(a:AV):Option AV :=
 match op,a with
 |.neg,.int k n=>some (.int k (Un k (Int.sub 0 n)))
 |.xor,.int k n=>some (.int k (k.wrap (BitVec.ofInt k.bits (if k.signed then -1 else k.max) ^^^ BitVec.ofInt k.bits n).toNat))
 |.not,.bool b=>some (.bool (!b))
 |_,_=>none
def Tw:List AV→Nat→List AV→List AV
 |g,_,[]=>g
 |g,i,a::l=>Tw (g.set i a) (i+1) l
structure Part where
 off:Nat
 size:Nat
 v:OpdF
def jd(cs:List AV):List Part→Tr AV→Option (List AV)
 |[],_=>some cs
 |p::g,j=>match p.v.run j with
  |none=>none
  |some a=>match a.cells with
   |none=>none
   |some l=>match Nat.beq l.length p.size with
    |true=>match Nat.ble (Nat.add p.off p.size) cs.length with
     |true=>jd (Tw cs p.off l) g j
     |false=>none
    |false=>none
def mr(g:Nat→Option (Nat×Nat)):List (Nat×Operand)→Option (List Part)
 |[]=>some []
 |(i,x)::l=>match g i with
  |none=>none
  |some (o,s)=>match mr g l with
   |none=>none
   |some r=>some (⟨o,s,Na x⟩::r)
def zbg(g:Program):List Field→Option (List (Nat×Nat))
 |[]=>some []
 |f::l=>match Ot g f.type with
  |none=>none
  |some s=>match zbg g l with
   |none=>none
   |some r=>some ((f.offset,s)::r)
def zp(D:Program)(t:TypeId)(g:Array (Nat×Operand)):OpF :=
 match R6 D t with
 |none=>Np
 |some C=>match D.underlying t with
  |some (.struct j)=>match zbg D j.toList with
   |none=>Np
   |some pl=>match mr (pl[·]?) g.toList with
    |none=>Np
    |some B=>⟨λE F=>match jd C B E with
     |some l=>.val (.agg l) F
     |none=>.no⟩
  |some (.array _ A)=>match Ot D A with
   |none=>Np
   |some z=>match mr (λi=>some (i*z,z)) g.toList with
    |none=>Np
    |some B=>⟨λE F=>match jd C B E with
     |some l=>.val (.agg l) F
     |none=>.no⟩
  |_=>Np
def S8(l:List AV):Nat→List AV
 |0=>[]
 |n+1=>l++S8 l n
def xd(A:Program)(t:TypeId)(len:Nat)(z:Array (Nat×Operand)):OpF :=
 match A.underlying t with
 |some (.slice j)=>match Ot A j with
  |none=>Np
  |some g=>match R6 A j with
   |none=>Np
   |some D=>if len*g≤2^20∧0<g then
     match mr (λi=>some (i*g,g)) z.toList with
     |none=>Np
     |some B=>⟨λE F=>match jd (S8 D len) B E with
      |some l=>match newObj F l with
       |some (o,C)=>.val (.sl o 0 0 len g (some len)) C
       |none=>.no
      |none=>.no⟩
    else Np
 |_=>Np
def zsh(j:Program)(t:TypeId)(x:Operand):OpF :=
 match Sm j t,Ot j t with
 |some true,some n=>Ps x λg a=>match a with
  |.ptr o v i=>match Qi g o v i n with
   |some l=>.val (.agg l) g
   |none=>.no
  |_=>.no
 |some false,some _=>Ps x λg a=>match a with
  |.ptr o v i=>match Qi g o v i 1 with
   |some [c]=>.val c g
   |_=>.no
  |_=>.no
 |_,_=>Np
def zqy(j:Program)(t:TypeId)(x y:Operand):OpF :=
 match Ot j t with
 |some n=>S9 x y λz a b=>match a with
  |.ptr o v i=>match b.cells with
   |some l=>match Nat.beq l.length n with
    |true=>match Vc z o v i l with
     |some g=>.val Rh g
     |none=>.no
    |false=>.no
   |none=>.no
  |_=>.no
 |none=>Np
def z7d(g:Heap)(a:AV):OR:=match a with
 |.ptr o v i=>.val (.ptr o v i) g
 |.iface t v=>.val (.iface t v) g
 |.fn (.func f) l c=>.val (.fn (.func f) l c) g
 |.map o=>.val (.map o) g
 |_=>.no
def Vy(P:Program)(src dst:TypeId)(x:Operand):OpF :=
 match P.underlying src,P.underlying dst with
 |some _,some (.int k)=>Ps x λH a=>match a with
  |.int _ n=>.val (.int k (Un k n)) H
  |_=>.no
 |some (.slice e),some .string=>match P.underlying e with
  |some (.int .u8)=>Ps x λH a=>match a with
   |.nilSl=>.val (.str 0 0) H
   |.sl o v i len 1 _=>match Qi H o v i len with
    |some l=>match bytesA l with
     |some n=>.val (.str len n) H
     |none=>.no
    |none=>.no
   |_=>.no
  |_=>Np
 |some _,some .string=>Ps x λH a=>match a with
  |.str l n=>.val (.str l n) H
  |_=>.no
 |some _,some (.slice e)=>match P.underlying e,Ot P e with
  |some (.int .u8),some 1=>Ps x λH a=>match a with
   |.str len n=>match newObj H ((Vg len n).map λ(b:Nat)=>AV.int .u8 (Int.ofNat b)) with
    |some (o,H')=>.val (.sl o 0 0 len 1 none) H'
    |none=>.no
   |_=>.no
  |_,_=>Np
 |_,_=>Np
where
 bytesA:List AV→Option Nat
  |[]=>some 0
  |.int .u8 (.ofNat b)::l=>if Nat.blt b 256 then match bytesA l with
   |some n=>some (b+256*n)
   |none=>none
   else none
  |_=>none
def z98(g:Program)(t:TypeId)(x:Operand):OpF :=
 match g.underlying t with
 |some (.interface _)=>Np
 |some _=>Ps x λj a=>.val (.iface t a) j
 |none=>Np
def zd6(f:Fn)(first cap:Array Operand):OpF :=
 ⟨λg j=>match (opds first.toList).run g with
  |some l=>match (opds cap.toList).run g with
   |some r=>.val (.fn f l r) j
   |none=>.no
  |none=>.no⟩
def Zv(g:Heap):OR:=.val (.map g.next) (g.push (.map [] 0))
def xh(j:Program)(t:TypeId)(r:Option Operand):OpF :=
 match r with
 |none=>⟨λ_ g=>Zv g⟩
 |some x=>match j.underlying t with
  |some (.map _ _)=>Ps x λg a=>match a with
   |.int _ _=>Zv g
   |_=>.no
  |_=>Np
def yr(j:Program)(t:TypeId)(l c:Operand):OpF :=
 match j.underlying t with
 |some (.slice g)=>match j.info? g with
  |none=>Np
  |some i=>match R6 j g with
   |none=>Np
   |some A=>if 0<i.size∧i.bytes≤2^16 then S9 l c λB a b=>match a,b with
    |.int .i64 (.ofNat l),.int .i64 (.ofNat c)=>match Nat.ble l c with
     |true=>match Nat.ble c 1048576 with
      |true=>match newObj B (S8 A c) with
       |some (o,z)=>.val (.sl o 0 0 l i.size (some c)) z
       |none=>.no
      |false=>.no
     |false=>.no
    |_,_=>.no
    else Np
 |_=>Np
structure OptF where run:Tr AV→Option (Option Nat)
def Px:Option Operand→OptF
 |none=>⟨λ_=>some none⟩
 |some x=>⟨λg=>match (Na x).run g with
  |some (.int _ (.ofNat n))=>some (some n)
  |_=>none⟩
def eq(l h m o v i g:Nat):AV :=
 match Nat.beq l m with
 |true=>match Nat.beq l 0 with
  |true=>.sl o v i 0 g (some 0)
  |false=>.emp
 |false=>.sl o v (Nat.add i (Nat.mul l g)) (Nat.sub h l) g (some (Nat.sub m l))
def yz(l h j:Nat)(A:Option Nat)(o v i g:Nat)(z:Option Nat):Option AV :=
 match Nat.ble l h with
 |false=>none
 |true=>match Nat.ble h j with
  |false=>none
  |true=>match A with
   |some m=>match Nat.ble h m with
    |false=>none
    |true=>match Nat.ble m j with
     |false=>none
     |true=>some (eq l h m o v i g)
   |none=>match z with
    |some r=>some (eq l h r o v i g)
    |none=>match Nat.beq l 0 with
     |true=>some (.sl o v i h g none)
     |false=>match Nat.beq l h with
      |true=>some .emp
      |false=>some (.sl o v (Nat.add i (Nat.mul l g)) (Nat.sub h l) g none)
def U4(g:Nat)(z hi mx:Option Nat)(o v i len j:Nat)(room:Option Nat):Option AV :=
 match Nat.beq j g with
 |false=>none
 |true=>yz (z.getD 0) (hi.getD len) (room.getD len) mx o v i j room
def ol(P:Program)(t:TypeId)(x:Operand)(j hi mx:Option Operand):OpF :=
 match P.underlying t with
 |some .string=>match mx with
  |some _=>Np
  |none=>⟨λA D=>match (Na x).run A,(Px j).run A,(Px hi).run A with
   |some (.str len n),some j,some hi =>
    let l:=j.getD 0;let h:=hi.getD len
    match Nat.ble l h with
    |true=>match Nat.ble h len with
     |true=>.val (.str (Nat.sub h l) (Nat.mod (Nat.div n (Nat.pow 256 l)) (Nat.pow 256 (Nat.sub h l)))) D
     |false=>.no
    |false=>.no
   |_,_,_=>.no⟩
 |some (.slice z)=>if mx.isSome&&hi.isNone then Np else match Ot P z with
  |none=>Np
  |some g=>⟨λA D=>match (Na x).run A,(Px j).run A,(Px hi).run A,(Px mx).run A with
   |some (.sl o v i len E B),some j,some hi,some mx=>ret1 D (U4 g j hi mx o v i len E B)
   |some .nilSl,some j,some hi,some none=>match Nat.beq (Nat.add (j.getD 0) (hi.getD 0)) 0 with
    |true=>.val .nilSl D
    |false=>.no
   |some .emp,some j,some hi,some none=>match Nat.beq (Nat.add (j.getD 0) (hi.getD 0)) 0 with
    |true=>.val .emp D
    |false=>.no
   |_,_,_,_=>.no⟩
 |some (.array n z)=>if mx.isSome&&hi.isNone then Np else match Ot P z with
  |none=>Np
  |some g=>⟨λA D=>match (Na x).run A,(Px j).run A,(Px hi).run A,(Px mx).run A with
   |some (.ptr o v i),some j,some hi,some mx=>match D.get o with
    |some (.cells _ C F false)=>match Nat.beq v F with
     |true=>match Nat.ble (Nat.add i (Nat.mul n g)) C with
      |true=>ret1 D (U4 g j hi mx o v i n g (some n))
      |false=>.no
     |false=>.no
    |_=>.no
   |_,_,_,_=>.no⟩
 |_=>Np
def z59(z:Program)(s:TypeId)(x:Operand)(f:Nat):OpF :=
 match z.underlying s with
 |some (.struct g)=>match g[f]? with
  |none=>Np
  |some fd=>match Ot z fd.type with
   |none=>Np
   |some 0=>Np
   |some _=>let j:=fd.offset;Ps x λA a=>match a with
    |.ptr o v i=>.val (.ptr o v (Nat.add i j)) A
    |_=>.no
 |_=>Np
def zhh(z:Program)(t:TypeId)(x:Operand)(f:Nat):OpF :=
 match z.underlying t with
 |some (.struct g)=>match g[f]? with
  |none=>Np
  |some fd=>match Sm z fd.type,Ot z fd.type with
   |some A,some n=>let j:=fd.offset;Ps x λB a=>match a with
    |.agg l=>ret1 B (dh A n l j)
    |_=>.no
   |_,_=>Np
 |_=>Np
def z5e(B:Program)(t:TypeId)(x A:Operand):OpF :=
 match B.underlying t with
 |some (.slice g)=>match Ot B g with
  |none=>Np
  |some j=>S9 x A λC a b=>match a,b with
   |.sl o v i len z _,.int _ (.ofNat n)=>match Nat.blt n len with
    |true=>match Nat.beq z j with
     |true=>.val (.ptr o v (Nat.add i (Nat.mul n z))) C
     |false=>.no
    |false=>.no
   |_,_=>.no
 |some (.array len g)=>match Ot B g with
  |none=>Np
  |some j=>S9 x A λC a b=>match a,b with
   |.ptr o v i,.int _ (.ofNat n)=>match Nat.blt n len with
    |true=>.val (.ptr o v (Nat.add i (Nat.mul n j))) C
    |false=>.no
   |_,_=>.no
 |_=>Np
def zjf(A:Program)(t:TypeId)(x z:Operand):OpF :=
 match A.underlying t with
 |some .string=>S9 x z λB a b=>match a,b with
  |.str len n,.int _ (.ofNat i)=>match Nat.blt i len with
   |true=>.val (.int .u8 (Int.ofNat (Nat.mod (Nat.div n (Nat.pow 256 i)) 256))) B
   |false=>.no
  |_,_=>.no
 |some (.array len g)=>match Sm A g,Ot A g with
  |some C,some j=>S9 x z λB a b=>match a,b with
   |.agg l,.int _ (.ofNat n)=>match Nat.blt n len with
    |true=>ret1 B (dh C j l (Nat.mul n j))
    |false=>.no
   |_,_=>.no
  |_,_=>Np
 |_=>Np
def uc(d:TypeDesc)(a b:AV):Option Bool:=match d,a,b with
 |.int _,.int k a,.int g b=>match Yd k g with
  |true=>some (Y6 a b)
  |false=>none
 |.string,.str j a,.str z b=>some (Nat.beq j z&&Nat.beq a b)
 |.bool,.bool a,.bool b=>some (a==b)
 |_,_,_=>none
def Uw(g:Program)(t:TypeId):Option TypeDesc:=match g.underlying t with
 |some .bool=>some .bool
 |some (.int k)=>some (.int k)
 |some .string=>some .string
 |_=>none
def xu(d:TypeDesc)(k:AV):List (AV×AV×Nat)→Option (Option AV)
 |[]=>some none
 |(g,v,_)::l=>match uc d k g with
  |some true=>some (some v)
  |some false=>xu d k l
  |none=>none
def yq(d:TypeDesc)(k v:AV)(g:Nat):List (AV×AV×Nat)→Option (List (AV×AV×Nat)×Bool)
 |[]=>some ([(k,v,g)],true)
 |(j,z,b)::l=>match uc d k j with
  |some true=>some ((k,v,b)::l,false)
  |some false=>match yq d k v g l with
   |some (r,n)=>some ((j,z,b)::r,n)
   |none=>none
  |none=>none
def zhf(d:TypeDesc)(k:AV):List (AV×AV×Nat)→Option (List (AV×AV×Nat))
 |[]=>some []
 |(g,j,b)::l=>match uc d k g with
  |some true=>some l
  |some false=>match zhf d k l with
   |some r=>some ((g,j,b)::r)
   |none=>none
  |none=>none
def zzj(j:Heap)(a:AV):Option (List (AV×AV×Nat)):=match a with
 |.nilMap=>some []
 |.map o=>match j.get o with
  |some (.map g _)=>some g
  |_=>none
 |_=>none
def zcv(z:Program)(t:TypeId)(x A:Operand)(ok:Bool):OpF :=
 match z.underlying t with
 |some (.map j g)=>match Uw z j,zri z g with
  |some d,some D=>S9 x A λB a b=>match zzj B a with
   |none=>.no
   |some C=>match xu d b C with
    |some (some v)=>.val (if ok then .tup [v,.bool true] else v) B
    |some none=>.val (if ok then .tup [D,.bool false] else D) B
    |none=>.no
  |_,_=>Np
 |_=>Np
def z5d(D:Program)(t:TypeId)(m k x:Operand):OpF :=
 match D.underlying t with
 |some (.map z _)=>match Uw D z with
  |some d=>⟨λA B=>match (Na m).run A,(Na k).run A,(Na x).run A with
   |some (.map o),some k,some v=>match B.get o with
    |some (.map C g)=>match yq d k v g C with
     |some (j,true)=>.val Rh (B.put o (.map j (Nat.add g 1)))
     |some (j,false)=>.val Rh (B.put o (.map j g))
     |none=>.no
    |_=>.no
   |_,_,_=>.no⟩
  |none=>Np
 |_=>Np
def rangeF(j:Program)(t:TypeId)(x:Operand):OpF :=
 match j.underlying t with
 |some .string=>Ps x λg a=>match a with
  |.str len n=>.val (.ptr g.next 0 0) (g.push (.iter len n 0))
  |_=>.no
 |_=>Np
def zyo(x:Operand)(g:Bool):OpF :=
 if g then Ps x λz a=>match a with
  |.ptr o 0 0=>match z.get o with
   |some (.iter len n j)=>match Nat.blt j len with
    |true=>match Nat.blt (Nat.mod (Nat.div n (Nat.pow 256 j)) 256) 128 with
     |true=>.val (.tup [.bool true,.int .i64 (Int.ofNat j),.int .i32 (Int.ofNat (Nat.mod (Nat.div n (Nat.pow 256 j)) 256))]) (z.put o (.iter len n (Nat.add j 1)))
     |false=>.no
    |false=>.val (.tup [.bool false]) z
   |_=>.no
  |_=>.no
 else Np
def zco(z:Program)(x:Operand)(g:TypeId)(ok:Bool):OpF :=
 match z.underlying g with
 |some (.interface _)=>Np
 |some _=>match zri z g with
  |none=>Np
  |some A=>Ps x λj a=>match a with
   |.nilIf=>if ok then .val (.tup [A,.bool false]) j else .no
   |.iface t v=>match Nat.beq t g with
    |true=>.val (if ok then .tup [v,.bool true] else v) j
    |false=>if ok then .val (.tup [A,.bool false]) j else .no
   |_=>.no
 |none=>Np
def zgt(x:Operand)(i:Nat):OpF:=Ps x λg a=>match a with
 |.tup l=>ret1 g l[i]?
 |_=>.no
def Uj(z:Program)(t:TypeId)(x:Operand):OpF :=
 match z.underlying t with
 |some .string=>Ps x λg a=>match a with
  |.str l _=>.val (.int .i64 (Int.ofNat l)) g
  |_=>.no
 |some (.slice _)=>Ps x λg a=>match a with
  |.sl _ _ _ len _ _=>.val (.int .i64 (Int.ofNat len)) g
  |.nilSl=>.val (.int .i64 0) g
  |.emp=>.val (.int .i64 0) g
  |_=>.no
 |some (.map _ _)=>Ps x λg a=>match a with
  |.nilMap=>.val (.int .i64 0) g
  |.map o=>match g.get o with
   |some (.map j _)=>.val (.int .i64 (Int.ofNat j.length)) g
   |_=>.no
  |_=>.no
 |some (.array n _)=>Ps x λg _=>.val (.int .i64 (Int.ofNat n)) g
 |_=>Np
def Wn(j:Program)(t:TypeId)(x:Operand):OpF :=
 match j.underlying t with
 |some (.slice _)=>Ps x λg a=>match a with
  |.nilSl=>.val (.int .i64 0) g
  |.sl _ _ _ _ _ (some r)=>.val (.int .i64 (Int.ofNat r)) g
  |_=>.no
 |_=>Np
def Wp(g:Bool):AV→AV→Option AV
 |.int k x,.int j y=>match Yd k j with
  |true=>match g with
   |true=>match xw x y with
    |true=>some (.int k y)
    |false=>some (.int k x)
   |false=>match xw y x with
    |true=>some (.int k y)
    |false=>some (.int k x)
  |false=>none
 |_,_=>none
def bj(g:Bool):AV→List AV→Option AV
 |a,[]=>some a
 |a,b::l=>match Wp g a b with
  |some c=>bj g c l
  |none=>none
def Tp(j:Bool)(g:List Operand):OpF:=⟨λz A=>match (opds g).run z with
 |some (.int k n::l)=>ret1 A (bj j (.int k n) l)
 |_=>.no⟩
def i3(z:Heap)(g:Nat):AV→Option (Nat×List AV)
 |.nilSl=>some (0,[])
 |.emp=>some (0,[])
 |.sl o v i len j _=>match Nat.beq j g with
  |true=>match Qi z o v i (Nat.mul len g) with
   |some l=>some (len,l)
   |none=>none
  |false=>none
 |.str len n=>if Nat.beq g 1 then some (len,(Vg len n).map λ(b:Nat)=>AV.int .u8 (Int.ofNat b)) else none
 |_=>none
def ag(z:Heap)(n g:Nat)(l:List AV):OR :=
 match newObj z l with
 |some (o,j)=>.val (.sl o 0 0 n g none) j
 |none=>.no
def V5(D:Heap)(j:Nat)(s:AV)(n:Nat)(A:List AV):OR :=
 match Nat.beq n 0 with
 |true=>match s with
  |.nilSl=>.val .nilSl D
  |.emp=>.val .emp D
  |.sl o v i len g B=>.val (.sl o v i len g B) D
  |_=>.no
 |false=>match s with
  |.nilSl=>ag D n j A
  |.sl o v i len g B=>match Nat.beq g j&&Nat.ble len P0 with
   |false=>.no
   |true=>match B with
    |some r=>match Nat.ble (Nat.add len n) r with
     |true=>match Vc D o v (Nat.add i (Nat.mul len g)) A with
      |some E=>.val (.sl o v i (Nat.add len n) g (some r)) E
      |none=>.no
     |false=>match Qi D o v i (Nat.mul len j) with
      |some F=>ag D (Nat.add len n) j (F++A)
      |none=>.no
    |none=>match D.get o with
     |some (.cells c z C false)=>match Nat.beq v C with
      |false=>.no
      |true=>match Nat.ble (Nat.add i (Nat.mul (Nat.add len n) g)) z with
       |true=>match Vc D o v (Nat.add i (Nat.mul len g)) A with
        |some E=>.val (.sl o v i (Nat.add len n) g none) E
        |none=>.no
       |false=>match Nat.beq i 0 with
        |false=>.no
        |true=>match Nat.beq (Nat.mul len g) z with
         |false=>.no
         |true=>.val (.sl o (Nat.add C 1) 0 (Nat.add len n) g none) (D.put o (.cells (Qz A z c) (Nat.add z A.length) (Nat.add C 1) false))
     |_=>.no
  |_=>.no
def zn2(P:Program)(g:TypeId)(s x:Operand):OpF :=
 match P.info? g,R6 P g with
 |some i,some j=>if 0<i.size∧i.bytes≤65536 then S9 s x λz a b=>match b with
   |.int .i64 (.ofNat n)=>match Nat.ble n 1048576 with
    |true=>V5 z i.size a n (S8 j n)
    |false=>.no
   |_=>.no
  else Np
 |_,_=>Np
def yk(P:Program)(g:TypeId)(s x:Operand):OpF :=
 match P.info? g,R6 P g with
 |some i,some _=>if 0<i.size∧i.bytes≤65536 then S9 s x λj a b=>match i3 j i.size b with
   |some (n,l)=>match Nat.ble n 1048576 with
    |true=>V5 j i.size a n l
    |false=>.no
   |none=>.no
  else Np
 |_,_=>Np
def zj3(P:Program)(z:Array TypeId)(j:Array Operand):OpF :=
 match z.toList,j.toList with
 |[st,A],[s,x]=>match P.underlying st,P.underlying A with
  |some (.slice g),some (.int _)=>zn2 P g s x
  |some (.slice g),some (.slice _)=>yk P g s x
  |some (.slice g),some .string=>yk P g s x
  |_,_=>Np
 |_,_=>Np
def zyh(P:Program)(C:Array TypeId)(j:Array Operand):OpF :=
 match C.toList,j.toList with
 |[st,_],[d,x]=>match P.underlying st with
  |some (.slice z)=>match Ot P z with
   |none=>Np
   |some g=>if 0<g then S9 d x λB a b=>match i3 B g b with
    |some (n,l)=>match a with
     |.nilSl=>.val (.int .i64 0) B
     |.emp=>.val (.int .i64 0) B
     |.sl o v i len A _=>match Nat.beq A g with
      |true=>match Vc B o v i (l.take (Nat.mul (Py n len) g)) with
       |some D=>.val (.int .i64 (Int.ofNat (Py n len))) D
       |none=>.no
      |false=>.no
     |_=>.no
    |none=>.no
    else Np
  |_=>Np
 |_,_=>Np
def zo6(B:Program)(C:Array TypeId)(z:Array Operand):OpF :=
 match C.toList,z.toList with
 |[st],[x]=>match B.underlying st with
  |some (.slice g)=>match Ot B g,R6 B g with
   |some j,some F=>if 0<j then Ps x λD a=>match a with
    |.nilSl=>.val Rh D
    |.emp=>.val Rh D
    |.sl o v i len A _=>match Nat.beq A j with
     |true=>match Vc D o v i (S8 F len) with
      |some E=>.val Rh E
      |none=>.no
     |false=>.no
    |_=>.no
    else Np
   |_,_=>Np
  |_=>Np
 |_,_=>Np
def ziu(D:Program)(B:Array TypeId)(j:Array Operand):OpF :=
 match B.toList,j.toList with
 |[mt,_],[m,k]=>match D.underlying mt with
  |some (.map z _)=>match Uw D z with
   |some d=>S9 m k λE a b=>match a with
    |.map o=>match E.get o with
     |some (.map C g)=>match zhf d b C with
      |some A=>.val Rh (E.put o (.map A g))
      |none=>.no
     |_=>.no
    |_=>.no
   |none=>Np
  |_=>Np
 |_,_=>Np
def uk(g:Program)(f:Nat):Bool:=match g.funcs[f]? with
 | some fn => fn.name != "runtime.NumGoroutine" && fn.body.isSome
 |none=>false
def zhs(j:Program)(t:TypeId)(g:String):Option Nat:=match j.info? t with
 |some i=>match i.methods.find? (·.name==g) with
  |some m=>if m.path.isEmpty then match m.func,j.underlying t with
   |some (f,true),some (.pointer _)=>some f
   |some (_,false),some (.pointer _)=>none
   |some (f,false),some _=>some f
   |_,_=>none
   else none
  |none=>none
 |none=>none
def na(g:Program)(f:AV)(args:List AV):OR:=match f with
 |.fn (.func f) first cap=>if uk g f then .call (.fn f) (first++args++cap) else .no
 |.fn (.yield l) [] _=>.call (.yield l) args
 |_=>.no
def zez(P:Program)(f:Nat):Bool:=match P.funcs[f]? with
 | some fn => fn.name == "maps.clone" && fn.origin == "" && fn.body.isNone
 |none=>false
def zuh(g:Heap):List AV→OR
 |[.iface t (.map o)]=>match g.get o with
  |some (.map j z)=>.val (.iface t (.map g.next)) (g.push (.map j z))
  |_=>.no
 |_=>.no
def zj2(j:Program)(A:Heap)(z:AV)(g:List AV):OR:=match z with
 |.fn (.func f) [] []=>match zez j f with
  |true=>zuh A g
  |false=>na j z g
 |_=>na j z g
def fj(j:Program)(c:Call):OpF :=
 match c.callee with
 |.builtin b=>match b with
  |.len=>match c.argTypes.toList,c.args.toList with
   |[t],[x]=>Uj j t x
   |_,_=>Np
  |.cap=>match c.argTypes.toList,c.args.toList with
   |[t],[x]=>Wn j t x
   |_,_=>Np
  |.max=>Tp true c.args.toList
  |.min=>Tp false c.args.toList
  |.append=>zj3 j c.argTypes c.args
  |.copy=>zyh j c.argTypes c.args
  |.clear=>zo6 j c.argTypes c.args
  |.delete=>ziu j c.argTypes c.args
  |_=>Np
 |.value f=>⟨λz A=>match (Na f).run z with
  |some B=>match (opds c.args.toList).run z with
   |some l=>zj2 j A B l
   |none=>.no
  |none=>.no⟩
 |.invoke r g=>⟨λz _=>match (Na r).run z with
  |some (.iface t v)=>match zhs j t g with
   |some f=>match (opds c.args.toList).run z with
    |some l=>if uk j f then .call (.fn f) (v::l) else .no
    |none=>.no
   |none=>.no
  |_=>.no⟩
def Ny(P:Program)(o:Op):OpF :=
 match o with
 |.move x |.assign x=>Ps x λj a=>.val a j
 |.pick c a b=>⟨λz j=>match (Na c).run z with
  |some (.bool true)=>ret1 j ((Na a).run z)
  |some (.bool false)=>ret1 j ((Na b).run z)
  |_=>.no⟩
 |.alloc t=>match R6 P t with
  |some l=>⟨λ_ j=>Wm j l⟩
  |none=>Np
 |.box _ x=>Ps x λj a=>match a.cells with
  |some l=>Wm j l
  |none=>.no
 |.build t g=>zp P t g
 |.buildSlice t len g=>xd P t len g
 |.load t a=>zsh P t a
 |.store t a x=>zqy P t a x
 |.nilCheck x=>Ps x z7d
 |.binOp op t x y _=>let D:=Wj x || Wj y;S9 x y λj a b=>ret1 j (Pa P op D t a b)
 |.unOp op _ x=>Ps x λj a=>ret1 j (unA op a)
 |.convert s d x=>Vy P s d x
 |.makeInterface t x=>z98 P t x
 |.makeFunc f first cap=>match f with
  |.yield _=>Np
  |f=>zd6 f first cap
 |.makeMap t r=>xh P t r
 |.makeSlice t l c=>yr P t l c
 |.slice t x A hi B=>ol P t x A hi B
 |.fieldAddr s x f=>z59 P s x f
 |.field t x f=>zhh P t x f
 |.indexAddr t x i=>z5e P t x i
 |.index t x i=>zjf P t x i
 |.lookup t x i ok=>zcv P t x i ok
 |.mapUpdate t m k x |.insert t m k x=>z5d P t m k x
 |.range t x=>rangeF P t x
 |.next C s=>zyo C s
 |.typeAssert x _ t ok=>zco P x t ok
 |.extract t i=>zgt t i
 |.call c=>fj P c
 |_=>Np
inductive RV where
 |no
 |ok (v:AV) (H:Heap)
abbrev Qe:=Tgt→List AV→Heap→RV
inductive OE where
 |no
 |ok (E:Tr AV) (H:Heap)
structure SeqF where run:Qe→Tr AV→Heap→OE
structure PutF where run:AV→Tr AV→Tr AV
def Qk(n:Nat)(d:Option Tmp):Option PutF :=
 match d with
 |none=>some ⟨λ_ g=>g⟩
 |some d=>if d<n then some ⟨λa g=>Oh a (M9 d) g⟩ else none
structure GuardF where run:Tr AV→Bool
def R3(ops:Array Oper)(o:Oper):GuardF :=
 match o.guard with
 |none=>⟨λ_=>true⟩
 |some (j,g)=>match (ops[j]?).bind (·.dst) with
  |none=>⟨λ_=>false⟩
  |some d=>if d≤P0 then ⟨λz=>match Mt (M9 d) z with
   |some (.bool b)=>match b with
    |true=>g
    |false=>!g
   |_=>false⟩ else ⟨λ_=>false⟩
def Qj(P:Program)(n:Nat)(ops:Array Oper)(o:Oper):SeqF :=
 match Qk n o.dst with
 |none=>⟨λ_ _ _=>.no⟩
 |some p=>⟨λc z A=>Bool.rec (.ok (p.run Rh z) A)
   (OR.rec .no (λv j=>.ok (p.run v z) j) (λt g=>RV.rec .no (λv j=>.ok (p.run v z) j) (c t g A)) ((Ny P o.op).run z A))
   ((R3 ops o).run z)⟩
def mw(B:Program)(n:Nat)(ops:Array Oper):List Oper→SeqF
 |[]=>⟨λ_ g j=>.ok g j⟩
 |o::l=>⟨λc g j=>OE.rec .no (λz A=>(mw B n ops l).run c z A) ((Qj B n ops o).run c g j)⟩
inductive Cls where
 |quiet|rd|ch|al
def zq2(g:Program)(t:TypeId):Bool:=match g.underlying t with
 |some (.map _ _)=>true
 |_=>false
def zow(g:Program)(t:TypeId):Bool:=match g.underlying t with
 |some (.array _ _)=>true
 |_=>false
def wy(g:Program)(t:TypeId):Bool:=match g.underlying t with
 |some (.slice _)=>true
 |_=>false
def zff(g:Program)(c:Call):Cls:=match c.callee with
 |.builtin .len=>match c.argTypes.toList with
  |[t]=>if zq2 g t then .rd else .quiet
  |_=>.ch
 |.builtin .cap |.builtin .max |.builtin .min=>.quiet
 |_=>.ch
def cls(g:Program)(o:Op):Cls :=
 match o with
 |.move _ |.assign _ |.pick _ _ _ |.build _ _ |.nilCheck _ |.binOp _ _ _ _ _ |.unOp _ _ _ |.makeInterface _ _ |.makeFunc _ _ _ |.fieldAddr _ _ _
 |.field _ _ _ |.indexAddr _ _ _ |.index _ _ _ |.typeAssert _ _ _ _ |.extract _ _=>.quiet
 |.slice t _ _ _ _=>if zow g t then .rd else .quiet
 |.convert s d _=>if wy g d then .ch else if wy g s then .rd else .quiet
 |.load _ _ |.lookup _ _ _ _=>.rd
 |.call c=>zff g c
 |.alloc _ |.box _ _ |.buildSlice _ _ _ |.makeSlice _ _ _ |.makeMap _ _=>.al
 |_=>.ch
def y4(g:List Nat):List Edge→Nat
 |[]=>0
 |e::l=>match Region.binds .any e with
  |true=>Nat.lor (Nat.lor (2^e.on) (g.getD e.on 0)) (y4 g l)
  |false=>y4 g l
def zql:List Nat→Nat
 |[]=>0
 |t::l=>Nat.lor (2^t) (zql l)
def xp:List Operand→List Nat
 |[]=>[]
 |.tmp t::l=>t::xp l
 |_::l=>xp l
def Ue(ops:Array Oper)(o:Oper):List Nat :=
 xp o.op.operands.toList++(match o.guard with
  |some (g,_)=>((ops[g]?).bind (·.dst)).toList
  |none=>[])
structure DOp where
 o:Oper
 i:Nat
 m:Nat
 lm:Nat
 c:Cls
def P6(j:Program)(ops:Array Oper):List Oper→List Nat→Nat→List DOp
 |[],_,_=>[]
 |o::l,g,i=>⟨o,i,y4 g o.after.toList,zql (Ue ops o),cls j o.op⟩::P6 j ops l (g++[y4 g o.after.toList]) (i+1)
def M0(x:DOp):Bool:=match x.c with
 |.ch=>true
 |_=>false
def Tz(x:DOp):Bool:=match x.c with
 |.rd=>true
 |.al=>true
 |_=>false
def zrr(x:DOp):Bool:=match x.c with
 |.quiet=>true
 |_=>false
def zuf(x y:DOp):Bool:=match y.o.dst with
 |none=>true
 |some d=>match Nat.testBit x.lm d with
  |false=>true
  |true=>match Nat.beq x.i y.i with
   |true=>!(Tz x)
   |false=>match Nat.testBit x.m y.i with
    |true=>true
    |false=>match Nat.testBit y.m x.i with
     |true=>!(Tz x)
     |false=>false
def Vf{g:Type}(f:g→Bool):List g→Bool
 |[]=>true
 |a::l=>match f a with
  |true=>Vf f l
  |false=>false
def qj(g:List DOp):Bool:=Vf (λx=>Vf (zuf x) g) g
def zpz:List DOp→Nat→Bool
 |[],_=>true
 |x::l,seen=>match x.o.dst with
  |none=>zpz l seen
  |some d=>match Nat.testBit seen d with
   |true=>false
   |false=>zpz l (Nat.lor (2^d) seen)
def O2:List DOp→Nat→Nat→Option Nat
 |[],seen,_=>some seen
 |x::l,seen,g=>match Nat.beq (Nat.land x.m seen) x.m with
  |false=>none
  |true=>match Nat.testBit seen x.i with
   |true=>none
   |false=>match zrr x with
    |true=>O2 l (Nat.lor (2^x.i) seen) g
    |false=>match Nat.beq (Nat.land g x.m) g with
     |false=>none
     |true=>match M0 x with
      |true=>O2 l (Nat.lor (2^x.i) seen) (Nat.lor (2^x.i) g)
      |false=>O2 l (Nat.lor (2^x.i) seen) g
def Nr{g:Type}(f:g→Bool):List g→List g
 |[]=>[]
 |a::l=>match f a with
  |true=>a::Nr f l
  |false=>Nr f l
def rank(x:DOp):List DOp→Nat
 |[]=>0
 |c::l=>match Nat.testBit x.m c.i with
  |true=>Nat.succ (rank x l)
  |false=>rank x l
def i7(j g:List DOp)(p:Nat):List DOp:=Nr (λx=>match M0 x with
 |true=>false
 |false=>Nat.beq (rank x g) p) j
def zna(z g:List DOp):List DOp→Nat→List DOp
 |[],_=>[]
 |c::j,p=>c::(i7 z g p++zna z g j (p+1))
def zzf(j g:List DOp):List DOp:=i7 j g 0++zna j g g 1
def aa{g:Type}(f:g→g→Bool):List g→List g→Bool
 |[],[]=>true
 |a::l,b::r=>match f a b with
  |true=>aa f l r
  |false=>false
 |_,_=>false
def Qw:Nat→AV→AV→Bool
 |0,_,_=>false
 |n+1,a,b=>match a,b with
  |.bool x,.bool y=>x==y
  |.int k x,.int C y=>Yd k C&&Y6 x y
  |.str l x,.str m y=>Nat.beq l m&&Nat.beq x y
  |.nilPtr,.nilPtr=>true
  |.ptr o v i,.ptr g j z=>Nat.beq o g&&Nat.beq v j&&Nat.beq i z
  |.nilSl,.nilSl=>true
  |.sl o v i l e r,.sl g j z D E F=>Nat.beq o g&&Nat.beq v j&&Nat.beq i z&&Nat.beq l D&&Nat.beq e E&&r==F
  |.emp,.emp=>true
  |.nilMap,.nilMap=>true
  |.map o,.map g=>Nat.beq o g
  |.nilFn,.nilFn=>true
  |.fn (.func f) x y,.fn (.func G) A B=>Nat.beq f G&&aa (Qw n) x A&&aa (Qw n) y B
  |.fn (.yield f) x y,.fn (.yield G) A B=>Nat.beq f G&&aa (Qw n) x A&&aa (Qw n) y B
  |.nilIf,.nilIf=>true
  |.iface t v,.iface H j=>Nat.beq t H&&Qw n v j
  |.agg x,.agg y=>aa (Qw n) x y
  |.tup x,.tup y=>aa (Qw n) x y
  |_,_=>false
def Nl:AV→Option Nat
 |.ptr o _ _=>some o
 |.sl o _ _ _ _ _=>some o
 |.map o=>some o
 |_=>none
def P2(id:Nat):AV→AV
 |.ptr _ v i=>.ptr id v i
 |.sl _ v i l e r=>.sl id v i l e r
 |.map _=>.map id
 |v=>v
def zrj(c g:Tr AV)(len:Nat):Bool:=match R8 c 0 len,R8 g 0 len with
 |some l,some j=>aa (Qw 30) l j
 |_,_=>false
def eqObj:AObj→AObj→Bool
 |.cells c len z B,.cells C g j A=>Nat.beq len g&&Nat.beq z j&&B==A&&zrj c C len
 |.map [] k,.map [] D=>Nat.beq k D
 |_,_=>false
def Xo(b:Bool)(x y:vU):Bool:=match b with
 |true=>true
 |false=>@decide (x=y) (Classical.propDecidable _)
def Wv(v g:AV)(z j:Heap):Bool:=match Nl v with
 |none=>false
 |some id=>match Xo (Qw 30 v (P2 id g)) v (P2 id g) with
  |false=>false
  |true=>match z.get id,j.get z.next with
   |some a,some b=>Xo (eqObj a b) a b
   |_,_=>false
structure ChkF where run:Tr AV→Heap→Bool
def bv(P:Program)(ops:Array Oper)(x:DOp):ChkF :=
 match x.o.dst with
 |none=>⟨λ_ _=>false⟩
 |some d=>⟨λj A=>match (R3 ops x.o).run j with
  |false=>true
  |true=>match Mt (M9 d) j with
   |none=>false
   |some v=>match (Ny P x.o.op).run j A with
    |.val g z=>match x.c with
     |.al=>Wv v g A z
     |_=>Xo (Qw 30 v g) v g
    |_=>false⟩
def q9(g:Program)(ops:Array Oper):List DOp→ChkF
 |[]=>⟨λ_ _=>true⟩
 |x::l=>⟨λj z=>match (bv g ops x).run j z with
  |true=>(q9 g ops l).run j z
  |false=>false⟩
def Uo(P:Program)(n:Nat)(ops:Array Oper):List DOp→List DOp→SeqF
 |[],_=>⟨λ_ B C=>.ok B C⟩
 |x::l,g=>match x.c with
  |.quiet=>⟨λk B C=>OE.rec .no (λz A=>(Uo P n ops l g).run k z A) ((Qj P n ops x.o).run k B C)⟩
  |.rd=>⟨λk B C=>OE.rec .no (λz A=>(Uo P n ops l (x::g)).run k z A) ((Qj P n ops x.o).run k B C)⟩
  |.al=>⟨λk B C=>OE.rec .no (λz A=>Bool.rec .no ((Uo P n ops l (x::g)).run k z A) ((q9 P ops (x::g)).run z A)) ((Qj P n ops x.o).run k B C)⟩
  |.ch =>
   let j:=Nr (λy=>!(Nat.testBit x.m y.i)) g
   ⟨λk B C=>OE.rec .no (λz A=>Bool.rec .no ((Uo P n ops l j).run k z A) ((q9 P ops j).run z A)) ((Qj P n ops x.o).run k B C)⟩
def Wx(n:Nat)(j g:List DOp):Bool:=match O2 g 0 0 with
 |none=>false
 |some s=>match Nat.beq s (Nat.sub (2^n) 1) with
  |false=>false
  |true=>match zpz j 0 with
   |false=>false
   |true=>qj j
def z95(A:Program)(n:Nat)(ops:Array Oper):SeqF :=
 let z:=P6 A ops ops.toList [] 0;let g:=Nr M0 z;let j:=zzf z g
 match Wx ops.size z j with
 |true=>Uo A n ops j []
 |false=>⟨λ_ _ _=>.no⟩
inductive Ex where
 |normal
 |exit (id:Nat)
 |ret
inductive Res where
 |no
 |ok (x:Ex) (E:Tr AV) (D:List Nat) (H:Heap)
structure CodeF where run:Qe→Nat→Option Nat→Tr AV→List Nat→Heap→Res
def stuckC:CodeF:=⟨λ_ _ _ _ _ _=>.no⟩
def lz(f:Tr AV→List Nat→Heap→Res):Nat→Tr AV→List Nat→Heap→Res
 |0,_,_,_=>.no
 |m+1,A,B,C=>match f A B C with
  |.no=>.no
  |.ok x g j z=>match x with
   |.normal=>lz f m g j z
   |x=>.ok x g j z
def zf1(f n:Nat)(j:Array Tmp)(assign body:Code)(z:Option Nat)(A:Tr AV)(B:List Nat)(g:Heap):Option (Nat×List Nat×Heap) :=
 match z with
 |none=>some (Nat.add g.next 1,g.next::B,(g.push (.defd true)).push (.loop .ready none f n A j assign body g.next))
 |some l=>match g.get l with
  |some (.loop _ _ _ _ _ _ _ _ d)=>some (g.next,B,g.push (.loop .ready none f n A j assign body d))
  |_=>none
def exOf:Code→Option Ex
 |.ret=>some .ret
 |.exit id=>some (.exit id)
 |_=>none
def zmv(l:Nat)(z:Heap):Option (Option Code×Heap):=match z.get l with
 |some (.loop st g f n A j a b d)=>match st with
  |.busy=>none
  |_=>some (g,z.put l (.loop .exhausted g f n A j a b d))
 |_=>none
def Pq(P:Program)(f n:Nat):Code→CodeF
 |.skip=>⟨λ_ _ _ j A B=>.ok .normal j A B⟩
 |.region _ ops draw =>
  let s:=match draw with
   |true=>z95 P n ops
   |false=>mw P n ops ops.toList
  ⟨λk _ _ j A B=>match s.run k j B with
   |.no=>.no
   |.ok D z=>.ok .normal D A z⟩
 |.seq a b=>⟨λk m g j A B=>Res.rec .no (λx D C z=>Ex.rec ((Pq P f n b).run k m g D C z) (λid=>.ok (.exit id) D C z) (.ok .ret D C z) x)
   ((Pq P f n a).run k m g j A B)⟩
 |.cond c a b=>⟨λk m g j A B=>match (Na c).run j with
  |some (.bool t)=>match t with
   |true=>(Pq P f n a).run k m g j A B
   |false=>(Pq P f n b).run k m g j A B
  |_=>.no⟩
 |.block id c=>⟨λk m g j A B=>match (Pq P f n c).run k m g j A B with
  |.no=>.no
  |.ok x D C z=>match x with
   |.exit E=>match Nat.beq E id with
    |true=>.ok .normal D C z
    |false=>.ok (.exit E) D C z
   |x=>.ok x D C z⟩
 |.loop c=>⟨λk m g j A B=>lz ((Pq P f n c).run k m g) m j A B⟩
 |.rangeFunc H I a b=>⟨λk _ g j A B=>match (Na H).run j with
  |none=>.no
  |some gv=>match zf1 f n I a b g j A B with
   |none=>.no
   |some (l,C,z)=>match na P gv [.fn (.yield l) [] []] with
    |.call (.fn H) F=>match k (.fn H) F z with
     |.no=>.no
     |.ok _ K=>match zmv l K with
      |none=>.no
      |some (none,G)=>.ok .normal j C G
      |some (some c,G)=>match exOf c with
       |none=>.no
       |some x=>.ok x j C G
    |_=>.no⟩
 |.exit id=>⟨λ_ _ _ j A B=>.ok (.exit id) j A B⟩
 |.scope c=>⟨λk m g j A B=>(Pq P f n c).run k m g j A B⟩
 |.label _=>⟨λ_ _ _ j A B=>.ok .normal j A B⟩
 |.ret=>⟨λ_ _ _ j A B=>.ok .ret j A B⟩
 |_=>stuckC
structure ResF where run:Tr AV→Heap→Option AV
def resF(z:Program)(r:ResultVar):ResF :=
 match r with
 |.tmp t=>⟨λg _=>(Na (.tmp t)).run g⟩
 |.cell a t=>match Sm z t,Ot z t with
  |some true,some n=>⟨λg j=>match (Na (.tmp a)).run g with
   |some (.ptr o v i)=>match Qi j o v i n with
    |some l=>some (.agg l)
    |none=>none
   |_=>none⟩
  |some false,some _=>⟨λg j=>match (Na (.tmp a)).run g with
   |some (.ptr o v i)=>match Qi j o v i 1 with
    |some [c]=>some c
    |_=>none
   |_=>none⟩
  |_,_=>⟨λ_ _=>none⟩
structure RessF where run:Tr AV→Heap→Option (List AV)
def xm(g:Program):List ResultVar→RessF
 |[]=>⟨λ_ _=>some []⟩
 |r::l=>⟨λj z=>match (resF g r).run j z with
  |none=>none
  |some a=>match (xm g l).run j z with
   |none=>none
   |some b=>some (a::b)⟩
def z9l:List Nat→Heap→Option Heap
 |[],g=>some g
 |d::l,g=>match g.get d with
  |some (.defd true)=>z9l l (g.put d (.defd false))
  |_=>none
structure FunF where run:Qe→Nat→List AV→Heap→RV
def zjl(A:Program)(f:Nat):FunF :=
 match A.funcs[f]? with
 |none=>⟨λ_ _ _ _=>.no⟩
 |some fn=>match fn.body with
  |none=>⟨λ_ _ _ _=>.no⟩
  |some j=>if fn.ntmps≤P0 then
   ⟨λk m g C=>match Nat.ble g.length fn.ntmps with
    |false=>.no
    |true=>match (Pq A f fn.ntmps j).run k m none (Qz g 0 .e) [] C with
     |.no=>.no
     |.ok x D E B=>match x with
      |.exit _=>.no
      |_=>match z9l E B with
       |none=>.no
       |some z=>match (xm A fn.results.toList).run D z with
        |some [v]=>.ok v z
        |some l=>.ok (.tup l) z
        |none=>.no⟩
   else ⟨λ_ _ _ _=>.no⟩
def zx7:List Tmp→List AV→Nat→Tr AV→Option (Tr AV)
 |[],[],_,g=>some g
 |p::j,a::as,n,g=>match Nat.blt p n with
  |true=>zx7 j as n (Oh a (M9 p) g)
  |false=>none
 |_,_,_,_=>none
def zt3(l:Nat)(z:Heap):Option Heap:=match z.get l with
 |some (.loop .ready g f n A j a b d)=>some (z.put l (.loop .busy g f n A j a b d))
 |_=>none
def zil(l:Nat)(x:Ex)(j:Heap):RV:=match j.get l with
 |some (.loop _ _ f n z g a b d)=>match x with
  |.normal=>.ok (.bool true) (j.put l (.loop .ready none f n z g a b d))
  |.ret=>.ok (.bool false) (j.put l (.loop .done (some .ret) f n z g a b d))
  |.exit id=>.ok (.bool false) (j.put l (.loop .done (some (.exit id)) f n z g a b d))
 |_=>.no
def Rs(P:Program)(O:Qe):Nat→Qe
 |0=>λ_ _ _=>.no
 |m+1=>λt g z=>match t with
  |.fn f=>match O (.fn f) g z with
   |.ok v A=>.ok v A
   |.no=>(zjl P f).run (Rs P O m) m g z
  |.yield l=>match z.get l with
   |some (.loop .ready none f n G B a b _)=>match zx7 B.toList g n G with
    |none=>.no
    |some C=>match (Pq P f n a).run (Rs P O m) m (some l) C [] z with
     |.ok .normal D [] E=>match zt3 l E with
      |none=>.no
      |some j=>match (Pq P f n b).run (Rs P O m) m (some l) D [] j with
       |.no=>.no
       |.ok x _ H F=>match H with
        |[]=>zil l x F
        |_=>.no
     |_=>.no
   |_=>.no
def noO:Qe:=λ_ _ _=>.no
def runA(g:Program)(j:Qe)(m f:Nat):Bool:=match Rs g j m (.fn f) [] ⟨.e,0⟩ with
 |.ok (.bool true) _=>true
 |_=>false
end
variable{F vY:Heap}{I:AV}{P vG:Tr AV}{T:List AV}
section
open Go.RowKit (Below)
section tries
variable {α : Type}
def Xd(p:List Bool):Mt p (Tr.e:Tr α)=none:=by
 cases p with
 |nil=>rfl
 |cons b p=>cases b<;>rfl
def zj9(p:List Bool)(v:Option α)(l r:Tr α):Mt (true::p) (.n v l r)=Mt p l:=rfl
def zih(p:List Bool)(v:Option α)(l r:Tr α):Mt (false::p) (.n v l r)=Mt p r:=rfl
def zlv(a:α):Oh a [] .e=.n (some a) .e .e:=rfl
def zmx(a:α)(p:List Bool):Oh a (true::p) .e=.n none (Oh a p .e) .e:=rfl
def zmb(a:α)(p:List Bool):Oh a (false::p) .e=.n none .e (Oh a p .e):=rfl
def ztx(a:α)(p:List Bool)(v:Option α)(l r:Tr α):Oh a (true::p) (.n v l r)=.n v (Oh a p l) r:=rfl
def zte(a:α)(p:List Bool)(v:Option α)(l r:Tr α):Oh a (false::p) (.n v l r)=.n v l (Oh a p r):=rfl
def z3f(a:α):∀(p:List Bool) (t:Tr α),Mt p (Oh a p t)=some a
 |[],.e=>rfl
 |[],.n _ _ _=>rfl
 |true::p,.e=>by rw[zmx,zj9];exact z3f a p _
 |false::p,.e=>by rw[zmb,zih];exact z3f a p _
 |true::p,.n v l r=>by rw[ztx,zj9];exact z3f a p _
 |false::p,.n v l r=>by rw[zte,zih];exact z3f a p _
def z61(a:α):∀(p q:List Bool) (t:Tr α),p≠q→Mt q (Oh a p t)=Mt q t
 |[],[],_,h=>absurd rfl h
 |[],true::q,.e,_=>by rw[zlv,zj9,Xd,Xd]
 |[],false::q,.e,_=>by rw[zlv,zih,Xd,Xd]
 |[],true::q,.n _ _ _,_=>rfl
 |[],false::q,.n _ _ _,_=>rfl
 |true::p,[],.e,_=>rfl
 |false::p,[],.e,_=>rfl
 |true::p,[],.n _ _ _,_=>rfl
 |false::p,[],.n _ _ _,_=>rfl
 |true::p,true::q,.e,h=>by rw[zmx,zj9,z61 a p q _ (λe=>h Dp),Xd,Xd]
 |true::p,false::q,.e,_=>by rw[zmx,zih,Xd,Xd]
 |false::p,true::q,.e,_=>by rw[zmb,zj9,Xd,Xd]
 |false::p,false::q,.e,h=>by rw[zmb,zih,z61 a p q _ (λe=>h Dp),Xd,Xd]
 |true::p,true::q,.n _ l _,h=>by rw[ztx,zj9,zj9];exact z61 a p q l (λe=>h Dp)
 |true::p,false::q,.n _ _ _,_=>rfl
 |false::p,true::q,.n _ _ _,_=>rfl
 |false::p,false::q,.n _ _ r,h=>by rw[zte,zih,zih];exact z61 a p q r (λe=>h Dp)
def pathF_inj:∀(f j g k:Nat),g<f→k<j→zsp f g=zsp j k→g=k
 |0,_,g,k,B,_,_=>J
 |_,0,g,k,_,C,_=>J
 |f+1,j+1,0,0,_,_,_=>rfl
 |f+1,j+1,0,k+1,_,_,h=>by simp[zsp]at h
 |f+1,j+1,g+1,0,_,_,h=>by simp[zsp]at h
 |f+1,j+1,g+1,k+1,B,C,h=>by
  simp only[zsp,List.cons.injEq]at h;obtain⟨z,A⟩:=h;have D:Nat.div g 2=g/2:=rfl;have E:Nat.div k 2=k/2:=rfl;have F:Nat.mod g 2=g%2:=rfl;have G:Nat.mod k 2=k%2:=rfl;rw[D,E]at A;rw[F,G]at z;have:=pathF_inj f j (g/2) (k/2) J J A;have q:∀x:Nat,Nat.beq x 0=true↔x=0:=λx=>by cases x<;>simp[Nat.beq]
  have H:(g%2=0↔k%2=0):=by
   rw[←q,←q,z]
  omega
def zwk{k:Nat}(h:M9 g=M9 k):g=k :=
 pathF_inj _ _ g k (I4 _) (I4 _) h
def zjh{k:Nat}(a:α)(t:Tr α) :
  Mt (M9 k) (Oh a (M9 g) t)=if k=g then some a else Mt (M9 k) t:=by
 by_cases h:k=g
 ·subst h;rw[Hv rfl];exact z3f a _ t
 ·rw[Hs h];exact z61 a _ _ t (λe=>h (zwk e.symm))
def zah(g:Nat)(a:α)(t:Tr α):Mt (M9 g) (Oh a (M9 g) t)=some a:=z3f a _ t
def z5b{k:Nat}(h:k≠g)(a:α)(t:Tr α) :
  Mt (M9 k) (Oh a (M9 g) t)=Mt (M9 k) t:=by rw[zjh,Hs h]
def get_ofList:∀(l:List α) (i:Nat) (t:Tr α) (k:Nat),
  Mt (M9 k) (Qz l i t)=if i≤k∧k<i+l.length then l[k-i]? else Mt (M9 k) t
 |[],i,t,k=>by simp only[Qz,Jo];rw[Hs J]
 |a::l,i,t,k=>by
  simp only[Ig];rw[Qz,get_ofList l (i+1) _ k];by_cases g:i+1≤k∧k<i+1+l.length
  ·rw[Hv g,Hv J];have:k-i=(k-(i+1))+1:=J
   rw[this,Ib]
  ·rw[Hs g,zjh];by_cases j:k=i
   ·subst j;rw[Hv rfl,Hv J];simp
   ·rw[Hs j,Hs J]
end tries
def nr{c:Tr AV}:∀{n i:Nat} {l:List AV},R8 c i n=some l→l.length=n∧∀g,g<n→Mt (M9 (i+g)) c=l[g]?
 |0,i,l,h=>by
  simp only[R8,Option.some.injEq]at h;subst h;exact⟨rfl,λg j=>J⟩
 |n+1,i,l,h=>by
  simp only[R8]at h;split at h
  ·cases h
  ·rename_i a z;split at h
   ·cases h
   ·rename_i r A;cases h;obtain⟨B,C⟩:=nr A;refine⟨Ao,λg j=>?_⟩;cases g with
    |zero=>simpa using z
    |succ g=>have:=C g J;rw[Ib,←this];congr 2;omega
structure Loc where
 b:Nat
 d:Nat
 n:Nat
 sz:Nat
structure CM where
 f:Nat→Nat→Option Loc
 nx:Nat
instance:CoeFun CM (λ_=>Nat→Nat→Option Loc):=⟨CM.f⟩
def CM.keep(gg C:CM):Prop:=∀o v L,gg o v=some L→C o v=some L
structure CM.le (C C':CM):Prop where
 keep:C.keep C'
 nx:C.nx≤C'.nx
 new:∀o v L,C' o v=some L→(∃v' L',C o v'=some L')∨C.nx≤o
def CM.le_refl(C:CM):C.le C:=⟨λ_ _ _ h=>h,Hw _,λ_ v L h=>.inl ⟨v,L,h⟩⟩
def CM.le_trans{A B C:CM}(h:A.le B)(k:B.le C):A.le C:=by
 refine⟨λo v L e=>k.keep o v L (h.keep o v L e),Is h.nx k.nx,λo v L e=>?_⟩;rcases k.new o v L e with ⟨v',L',e'⟩|e'
 ·exact h.new o v' L' e'
 ·exact .inr (Is h.nx e')
inductive FR (C:CM):Fn→Fn→Prop where
 |same (f:Fn) (h:∀l,f≠.yield l):FR C f f
 |yield {l:Nat} {L:Loc} (h:C l 0=some L):FR C (.yield l) (.yield L.b)
def FR.mono{C C':CM}(h:C.keep C'){f g:Fn}:FR C f g→FR C' f g
 |.same f hf=>.same f hf
 |.yield e=>.yield (h _ _ _ e)
def AV.one:AV→Bool
 |.agg _=>false
 |.tup _=>false
 |_=>true
mutual
inductive VR (C:CM):AV→Value→Prop where
 |bool (b:Bool):VR C (.bool b) (.bool b)
 |int (k:IntKind) (n:Int):VR C (.int k n) (.int k n)
 |str {len n:Nat} {s:ByteArray} (h1:s.data.toList.length=len) (h2:On s.data.toList=n):VR C (.str len n) (.string s)
 |nilPtr:VR C .nilPtr (.pointer none)
 |ptr {o v i:Nat} {L:Loc} (h:C o v=some L):VR C (.ptr o v i) (.pointer (some ⟨L.b,L.d+i,none⟩))
 |nilSl:VR C .nilSl (.slice none 0 0)
 |sl {o v i len esz:Nat} {room:Option Nat} {L:Loc} {cap:Nat} (h:C o v=some L) (h1:i+len*esz≤L.n) (h2:L.d+i+cap*esz≤L.sz) (h3:len≤cap)
   (h4:∀r,room=some r→cap=r∧i+r*esz≤L.n) (h5:room=none→L.d+i+cap*esz=L.sz) :
   VR C (.sl o v i len esz room) (.slice (some ⟨L.b,L.d+i,none⟩) len cap)
 |emp {a:Addr} {cap:Nat}:VR C .emp (.slice (some a) 0 cap)
 |nilMap:VR C .nilMap (.map none)
 |map {o:Nat} {L:Loc} (h:C o 0=some L):VR C (.map o) (.map (some L.b))
 |nilFn:VR C .nilFn .nilFunc
 |fn {f g:Fn} {l r:List AV} {l' r':Array Value} (h:FR C f g) (hl:VRs C l l'.toList) (hr:VRs C r r'.toList):VR C (.fn f l r) (.func g l' r')
 |nilIf:VR C .nilIf .nilIface
 |iface {t:TypeId} {a:AV} {v:Value} (h:VR C a v):VR C (.iface t a) (.iface t v)
 |agg {l:List AV} {vs:Array Value} (h:VRs C l vs.toList) (h1:∀a∈l,a.one=true):VR C (.agg l) (.agg vs)
 |tup {l:List AV} {vs:Array Value} (h:VRs C l vs.toList):VR C (.tup l) (.tuple vs)
inductive VRs (C:CM):List AV→List Value→Prop where
 |nil:VRs C [] []
 |cons {a:AV} {v:Value} {l:List AV} {r:List Value} (h:VR C a v) (hs:VRs C l r):VRs C (a::l) (v::r)
end
mutual
def VR.mono'{gg C:CM}(h:gg.keep C):∀{a:AV} {v:Value},VR gg a v→VR C a v
 |_,_,.bool b=>.bool b
 |_,_,.int k n=>.int k n
 |_,_,.str h1 h2=>.str h1 h2
 |_,_,.nilPtr=>.nilPtr
 |_,_,.ptr e=>.ptr (h _ _ _ e)
 |_,_,.nilSl=>.nilSl
 |_,_,.sl e h1 h2 h3 h4 h5=>.sl (h _ _ _ e) h1 h2 h3 h4 h5
 |_,_,.emp=>.emp
 |_,_,.nilMap=>.nilMap
 |_,_,.map e=>.map (h _ _ _ e)
 |_,_,.nilFn=>.nilFn
 |_,_,.fn hf hl hr=>.fn (hf.mono h) (VRs.mono' h hl) (VRs.mono' h hr)
 |_,_,.nilIf=>.nilIf
 |_,_,.iface e=>.iface (VR.mono' h e)
 |_,_,.agg e h1=>.agg (VRs.mono' h e) h1
 |_,_,.tup e=>.tup (VRs.mono' h e)
def VRs.mono'{gg C:CM}(h:gg.keep C):∀{l:List AV} {r:List Value},VRs gg l r→VRs C l r
 |_,_,.nil=>.nil
 |_,_,.cons e es=>.cons (VR.mono' h e) (VRs.mono' h es)
end
def VR.mono{C C':CM}(h:C.le C'){a:AV}{v:Value}(k:VR C a v):VR C' a v:=k.mono' h.keep
def VRs.mono{C C':CM}(h:C.le C'){a:List AV}{v:List Value}(k:VRs C a v):VRs C' a v:=k.mono' h.keep
def VRs.length{C:CM}:∀{l:List AV} {r:List Value},VRs C l r→l.length=r.length
 |_,_,.nil=>rfl
 |_,_,.cons _ es=>by simp[VRs.length es]
def VRs.get{C:CM}:∀{l:List AV} {r:List Value},VRs C l r→∀{i:Nat} {a:AV},l[i]?=some a→∃v,r[i]?=some v∧VR C a v
 |_,_,.nil,i,a,h=>Bn
 |_,_,.cons e es,0,a,h=>Da
 |_,_,.cons e es,i+1,a,h=>by simp only[Ib]at h ⊢;exact VRs.get es h
def VRs.mk{gg:CM}:∀{l:List AV} {r:List Value},l.length=r.length→(∀(i:Nat) (a:AV),l[i]?=some a→∃v,r[i]?=some v∧VR gg a v)→VRs gg l r
 |[],[],_,_=>.nil
 |[],_::_,h,_=>Bn
 |_::_,[],h,_=>Bn
 |a::l,v::r,h,k=>by
  obtain⟨v',hv,C⟩:=k 0 a rfl;simp only[Ii,Option.some.injEq]at hv;subst hv;exact .cons C (VRs.mk Av (λi a hi=>by have:=k (i+1) a Cn;simpa using this))
def VRs.append{C:CM}:∀{l:List AV} {r:List Value} {l':List AV} {r':List Value},VRs C l r→VRs C l' r'→VRs C (l++l') (r++r')
 |_,_,_,_,.nil,k=>k
 |_,_,_,_,.cons e es,k=>.cons e (VRs.append es k)
def VRs.drop{C:CM}:∀{l:List AV} {r:List Value},VRs C l r→∀n,VRs C (l.drop n) (r.drop n)
 |_,_,h,0=>h
 |_,_,.nil,_+1=>.nil
 |_,_,.cons _ es,n+1=>VRs.drop es n
def VRs.take{C:CM}:∀{l:List AV} {r:List Value},VRs C l r→∀n,VRs C (l.take n) (r.take n)
 |_,_,_,0=>.nil
 |_,_,.nil,_+1=>.nil
 |_,_,.cons e es,n+1=>.cons e (VRs.take es n)
def VR.one{C:CM}{a:AV}{v:Value}(h:VR C a v):v.oneCell'=a.one:=by cases h<;>rfl
def zpf{C:CM}{v:Value}{a:AV}(h:rh v=some a):VR C a v∧a.one=true:=by
 unfold rh at h;split at h<;>first
  |(cases h;done)
  |(cases h;exact⟨by constructor<;>rfl,rfl⟩)
  |(cases h;exact⟨by constructor,rfl⟩)
def Y7{C:CM}:∀{l:List Value} {r:List AV},T4 l=some r→VRs C r l∧∀a∈r,a.one=true
 |[],r,h=>by cases h;exact⟨.nil,N⟩
 |v::l,r,h=>by
  simp only[T4]at h;split at h
  ·cases h
  ·rename_i a g;split at h
   ·cases h
   ·rename_i E j;cases h;obtain⟨z,A⟩:=Y7 (C:=C) j;obtain⟨B,D⟩:=zpf (C:=C) g;exact⟨.cons B z,by simpa using ⟨D,A⟩⟩
def zjy{C:CM}{v:Value}{a:AV}(h:Wh v=some a):VR C a v:=by
 unfold Wh at h;split at h
 ·rename_i j;cases g:T4 j.toList with
  |none=>simp[g]at h
  |some r =>
   simp only[g,Jt,Option.some.injEq]at h;subst h;obtain⟨z,A⟩:=Y7 (C:=C) g;exact .agg z A
 ·rename_i B;split at h
  ·rename_i D;cases h;have:B=#[]:=J9 D;subst this;exact .tup .nil
  ·cases h
 ·exact (zpf h).1
def VR.cells{C:CM}{a:AV}{v:Value}(h:VR C a v){l:List AV}(hl:a.cells=some l):VRs C l v.cells.toList∧∀x∈l,x.one=true:=by
 cases h with
 |agg h h1=>simp only[AV.cells,Option.some.injEq]at hl;subst hl;exact⟨by simpa [Value.cells] using h,h1⟩
 |tup h=>simp[AV.cells]at hl
 |_=>simp only[AV.cells,Option.some.injEq]at hl;subst hl;exact⟨by simp only[Value.cells];exact .cons (by constructor<;>assumption) .nil,by simp[AV.one]⟩
def az(C:CM)(c:Tr AV)(len:Nat)(g:Array Value)(d:Nat):Prop :=
 ∀i,i<len→∃a,Mt (M9 i) c=some a∧a.one=true∧∃v,g[d+i]?=some v∧VR C a v
inductive MR (C:CM):List (AV×AV×Nat)→List MapEntry→Prop where
 |nil:MR C [] []
 |cons {k v:AV} {b:Nat} {e:MapEntry} {l:List (AV×AV×Nat)} {r:List MapEntry} (hk:VR C k e.key) (hv:VR C v e.val) (hb:e.born=b) (h:MR C l r):MR C ((k,v,b)::l) (e::r)
def OVR(g:CM)(a:Option AV)(v:Value):Prop:=match a with
 |some a=>VR g a v
 |none=>v=undef
def ER(n:Nat)(j:CM)(E:Tr AV)(g:Array Value):Prop :=
 g.size=n∧n≤P0∧∀t,t≤P0→OVR j (Mt (M9 t) E) (g.getD t undef)
def Pr(E:Nat)(A:CM)(w:World)(o:Nat):AObj→Prop
 |.cells c len B I=>∀g,A o B=some g→g.n=len∧(I=false→E≤g.b)∧g.d+len≤g.sz∧∃C e F hi,w.heap[g.b]?=some (.cells C e (F,hi))∧g.sz≤C.size ∧
   (∀i,g.d≤i→i<g.sz→¬(F≤i∧i<hi))∧az A c len C g.d
 |.map K L=>∀g,A o 0=some g→E≤g.b∧∃j:Array MapEntry,w.heap[g.b]?=some (.map j L)∧MR A K j.toList
 |.iter len n D=>∀g,A o 0=some g→E≤g.b∧g.d=0∧∃s:ByteArray,w.heap[g.b]?=some (.stringIter s D)∧s.data.toList.length=len∧On s.data.toList=n
 |.loop st z f n O M a b d=>∀g,A o 0=some g→E≤g.b∧∃G H,A d 0=some H∧w.heap[g.b]?=some (.loop { state:=st,pending:=z,fn:=f,tmps:=G,params:=M,assign:=a,body:=b,defers:=H.b })∧ER n A O G
 |.defd op=>∀g,A o 0=some g→E≤g.b∧w.heap[g.b]?=some (.deferred (if op then some [] else none))
structure Rel (w0:World) (C:CM) (H:Heap) (w:World):Prop where
 nx:C.nx=H.next
 low:Below w0.heap.size w0 w
 fresh:∀o v L,C o v=some L→o<H.next
 lt:∀o v L,C o v=some L→L.b<w.heap.size
 excl:∀o v L o' v' L',C o v=some L→C o' v'=some L'→L.b=L'.b→w0.heap.size≤L.b→o=o'
 obj:∀o ob,o<H.next→H.get o=some ob→Pr w0.heap.size C w o ob
 top:∀o c len ver ro,o<H.next→H.get o=some (.cells c len ver ro)→∀v L,C o v=some L→v≤ver
end
variable{M:CM}
section
open Go.RowKit (Below)
def CM.ext(gg:CM)(o v:Nat)(L:Loc):CM:=⟨λC v'=>if C=o∧v'=v then some L else gg C v',max gg.nx (o+1)⟩
def CM.ext_same(C:CM)(o v:Nat)(L:Loc):C.ext o v L o v=some L:=by simp[CM.ext]
def CM.ext_ne(C:CM){o v:Nat}(L:Loc)(h:¬(j=o∧vV=v)):C.ext o v L j vV=C j vV:=by simp only[CM.ext];rw[Hs h]
def CM.le_ext{C:CM}{o v:Nat}(L:Loc)(h:C o v=none)(hn:(∃v' L',C o v'=some L')∨C.nx≤o):C.le (C.ext o v L):=by
 refine⟨λo' v' L' h'=>?_,J7 _ _,λo' v' L' h'=>?_⟩
 ·by_cases e:o'=o∧v'=v
  ·obtain⟨rfl,rfl⟩:=e;rw[h]at h';cases h'
  ·rw[CM.ext_ne C L e];exact h'
 ·by_cases e:o'=o∧v'=v
  ·obtain⟨rfl,rfl⟩:=e;exact hn
  ·rw[CM.ext_ne C L e]at h';exact .inl ⟨v',L',h'⟩
def MR.mono'{gg C:CM}(h:gg.keep C):∀{l:List (AV×AV×Nat)} {r:List MapEntry},MR gg l r→MR C l r
 |_,_,.nil=>.nil
 |_,_,.cons hk hv hb hs=>.cons (hk.mono' h) (hv.mono' h) hb (MR.mono' h hs)
def OVR.mono'{gg C:CM}(h:gg.keep C){a:Option AV}{v:Value}(k:OVR gg a v):OVR C a v:=by
 cases a with
 |none=>exact k
 |some a=>exact VR.mono' h k
def ER.mono'{gg C:CM}(h:gg.keep C){n:Nat}{E:Tr AV}{tm:Array Value}(k:ER n gg E tm):ER n C E tm :=
 ⟨k.1,k.2.1,λt ht=>(k.2.2 t ht).mono' h⟩
def az.mono'{gg C:CM}(h:gg.keep C){c:Tr AV}{len:Nat}{vs:Array Value}{d:Nat}(k:az gg c len vs d):az C c len vs d :=
 λi hi=>let ⟨a,h1,h2,v,h3,h4⟩:=k i hi;⟨a,h1,h2,v,h3,h4.mono' h⟩
def MR.mono{C C':CM}(h:C.le C'){l:List (AV×AV×Nat)}{r:List MapEntry}(k:MR C l r):MR C' l r:=k.mono' h.keep
def ER.mono{C C':CM}(h:C.le C'){n:Nat}{E:Tr AV}(k:ER n C E vR):ER n C' E vR:=k.mono' h.keep
def az.mono{C C':CM}(h:C.le C'){c:Tr AV}{len:Nat}{vs:Array Value}{d:Nat}(k:az C c len vs d):az C' c len vs d:=k.mono' h.keep
def Pr.frame'{B:Nat}{gz C':CM}{w:World}{o:Nat}{ob:AObj}(h:Pr B gz w o ob)(hc:gz.keep C')(hn:∀v L,C' o v=some L→gz o v=some L)
  (hb:∀v L,gz o v=some L→v9.heap[L.b]?=w.heap[L.b]?):Pr B C' v9 o ob:=by
 cases ob with
 |cells c len gA ro =>
  intro L hL;have C:=hn _ _ hL;obtain⟨h1,h2,h3,vs,e,lo,hi,h4,h5,h6,h7⟩:=h L C;exact⟨h1,h2,h3,vs,e,lo,hi,by rw[hb _ _ C];exact h4,h5,h6,h7.mono' hc⟩
 |map es ck =>
  intro L hL;have C:=hn _ _ hL;obtain⟨h1,gg,h2,h3⟩:=h L C;exact⟨h1,gg,Ec,h3.mono' hc⟩
 |iter len n pos =>
  intro L hL;have C:=hn _ _ hL;obtain⟨h1,h0,s,h2,h3⟩:=h L C;exact⟨h1,h0,s,Ec,h3⟩
 |loop st pend f n E ps a b d =>
  intro L hL;have C:=hn _ _ hL;obtain⟨h1,tm,Ld,h2,h3,h4⟩:=h L C;exact⟨h1,tm,Ld,hc _ _ _ h2,by rw[hb _ _ C];exact h3,h4.mono' hc⟩
 |defd op =>
  intro L hL;have C:=hn _ _ hL;obtain⟨h1,h2⟩:=h L C;exact⟨h1,Ec⟩
def Pr.frame{B:Nat}{gg C:CM}{w:World}{o:Nat}{ob:AObj}(h:Pr B gg w o ob)(hc:gg.le C)(hn:∀v L,C o v=some L→gg o v=some L)
  (hb:∀v L,gg o v=some L→v9.heap[L.b]?=w.heap[L.b]?):Pr B C v9 o ob:=h.frame' hc.keep hn hb
def Heap.get_push_same(H:Heap)(x:AObj):(H.push x).get H.next=some x:=zah _ _ _
def Heap.get_push_ne(H:Heap)(x:AObj){o:Nat}(ho:o<H.next):(H.push x).get o=H.get o :=
 z5b J _ _
def Heap.get_put_same(H:Heap)(o:Nat)(x:AObj):(H.put o x).get o=some x:=zah _ _ _
def Heap.get_put_ne(H:Heap){o:Nat}(x:AObj)(gg:j≠o):(H.put o x).get j=H.get j:=z5b gg _ _
def z6x(w:World)(x:Obj){k:Nat}(h:k<w.heap.size):(w.alloc x).heap[k]?=w.heap[k]?:=Below.heap_alloc w x k h
def ln(w:World)(x:Obj):(w.alloc x).heap[w.heap.size]?=some x:=by
 show (w.heap.push x)[w.heap.size]?=some x;simp
def Rel.next_none{C:CM}{H:Heap}{w:World}(h:Rel v9 C H w)(v:Nat):C H.next v=none:=by
 cases e:C H.next v with
 |none=>rfl
 |some L=>have:=h.fresh _ _ _ e;omega
def Rel.push{w0:World}{gA:CM}{H:Heap}{w:World}(h:Rel w0 gA H w)(ob:AObj)(x:Obj)(n sz:Nat)
  (gC:Pr w0.heap.size (gA.ext H.next 0 ⟨w.heap.size,0,n,sz⟩) (w.alloc x) H.next ob) :
  Rel w0 (gA.ext H.next 0 ⟨w.heap.size,0,n,sz⟩) (H.push ob) (w.alloc x)∧gA.le (gA.ext H.next 0 ⟨w.heap.size,0,n,sz⟩):=by
 have hle:gA.le (gA.ext H.next 0 ⟨w.heap.size,0,n,sz⟩):=CM.le_ext _ (h.next_none 0) (.inr (Kq h.nx));refine⟨⟨by show max gA.nx (H.next+1)=H.next+1;rw[h.nx];exact Nat.max_eq_right (Ly _),h.low.alloc h.low.size x,?_,?_,?_,?_,?_⟩,hle⟩
 ·intro o v L C;show o<H.next+1;by_cases e:o=H.next∧v=0
  ·omega
  ·rw[CM.ext_ne _ _ e]at C;have:=h.fresh _ _ _ C;omega
 ·intro o v L C;rw[World.size_alloc];by_cases e:o=H.next∧v=0
  ·obtain⟨rfl,rfl⟩:=e;rw[CM.ext_same]at C;cases C;exact I4 _
  ·rw[CM.ext_ne _ _ e]at C;have:=h.lt _ _ _ C;omega
 ·intro o v L o' v' L' C gg hb hB;by_cases e:o=H.next∧v=0<;>by_cases e':o'=H.next∧v'=0
  ·omega
  ·obtain⟨rfl,rfl⟩:=e;rw[CM.ext_same]at C;cases C;rw[CM.ext_ne _ _ e']at gg;have:=h.lt _ _ _ gg;dsimp at hb;omega
  ·obtain⟨rfl,rfl⟩:=e';rw[CM.ext_same]at gg;cases gg;rw[CM.ext_ne _ _ e]at C;have:=h.lt _ _ _ C;dsimp at hb;omega
  ·rw[CM.ext_ne _ _ e]at C;rw[CM.ext_ne _ _ e']at gg;exact h.excl _ _ _ _ _ _ C gg hb hB
 ·intro o gD ho hg;by_cases e:o=H.next
  ·subst e;rw[Heap.get_push_same]at hg;cases hg;exact gC
  ·have gz:o<H.next:=Be
   rw[Heap.get_push_ne _ _ gz]at hg;refine (h.obj _ _ gz hg).frame hle (λv L C=>?_) (λv L C=>z6x _ _ (h.lt _ _ _ C))
   rwa [CM.ext_ne _ _ J]at C
 ·intro o c len gE ro ho hg v L C;by_cases e:o=H.next
  ·subst e;by_cases ev:v=0
   ·omega
   ·rw[CM.ext_ne _ _ J]at C;have:=h.fresh _ _ _ C;omega
  ·have gz:o<H.next:=Be
   rw[Heap.get_push_ne _ _ gz]at hg;rw[CM.ext_ne _ _ J]at C;exact h.top _ _ _ _ _ gz hg _ _ C
def Rel.put{w0:World}{gF:CM}{H:Heap}{w w':World}(h:Rel w0 gF H w){o:Nat}(ho:o<H.next)(ob:AObj)(gg:Below w0.heap.size w0 w')
  (gC:w.heap.size≤w'.heap.size) (gD:∀o' v L,o'≠o→gF o' v=some L→w'.heap[L.b]?=w.heap[L.b]?) (gE:Pr w0.heap.size gF w' o ob)
  (gz:∀c len ver ro,ob=.cells c len ver ro→∀v L,gF o v=some L→v≤ver):Rel w0 gF (H.put o ob) w':=by
 refine⟨h.nx,gg,h.fresh,λo v L hL=>Il (h.lt o v L hL) gC,h.excl,?_,?_⟩
 ·intro o' gG C hg;by_cases e:o'=o
  ·subst e;rw[Heap.get_put_same]at hg;cases hg;exact gE
  ·have gA:o'<H.next:=C;rw[Heap.get_put_ne H ob e]at hg;exact (h.obj _ _ C hg).frame (CM.le_refl gF) (λv L hL=>hL) (λv L hL=>gD _ _ _ e hL)
 ·intro o' c len ver ro C hg v L hL;by_cases e:o'=o
  ·subst e;rw[Heap.get_put_same]at hg;cases hg;exact gz _ _ _ _ rfl v L hL
  ·have gA:o'<H.next:=C;rw[Heap.get_put_ne H ob e]at hg;exact h.top _ _ _ _ _ C hg _ _ hL
def Rel.drew{w0:World}{C:CM}{H:Heap}{w:World}(h:Rel w0 C H w):Rel w0 C H w.drew :=
 ⟨h.nx,h.low.drew,h.fresh,h.lt,h.excl,λo ob ho hg=>(h.obj o ob ho hg).frame (CM.le_refl C) (λ_ _ hL=>hL) (λ_ _ _=>rfl),h.top⟩
def z8y(B:Program)(w:World)(a:Addr):∀(n i:Nat) (g:Array Value) (r:List Value),r.length=n→(∀z,z<n→w.cell? (a.add (i+z))=r[z]?) →
  (loadCellsFrom a i n g).run B w=.ok (g++r.toArray) w
 |0,i,g,r,j,_=>by
  have:r=[]:=Ic j;subst this;simp[loadCellsFrom]
 |n+1,i,g,r,j,h=>by
  cases r with
  |nil=>simp at j
  |cons v r =>
   have A:w.cell? (a.add i)=some v:=by simpa using h 0 J
   simp only[loadCellsFrom,Sem.run_bind,run_load,A,Result.andThen_ok];rw[z8y B w a n (i+1) (g.push v) r Bg (λz C=>by
    have:=h (z+1) J;rw[show i+1+z=i+(z+1) from J,this,Ib])]
   simp
def z9q(A:Program)(w:World)(a:Addr)(n:Nat)(r:List Value)(j:r.length=n)(h:∀g,g<n→w.cell? (a.add g)=r[g]?) :
  (loadCells a n).run A w=.ok r.toArray w:=by
 unfold loadCells;rw[z8y A w a n 0 #[] r j (λg z=>by rw[Iq];exact h g z)];simp
def uu(b d i g:Nat):(⟨b,d+i,none⟩:Addr).add g=⟨b,d+(i+g),none⟩:=by
 unfold Addr.add;by_cases h:g=0
 ·subst h;simp
 ·rw[Hs h];simp[J2]
def zhr{w:World}{b i:Nat}{e:TypeId}{g:Nat×Nat}(h:w.heap[b]?=some (.cells vR e g)):w.cell? ⟨b,i,none⟩=vR[i]?:=by
 simp[World.cell?,h]
def Rel.read{C:CM}{H:Heap}{w:World}(h:Rel v9 C H w)(P:Program){o v i n:Nat}{l:List AV}(hr:Qi H o v i n=some l){L:Loc}(hL:C o v=some L) :
  ∃vs:List Value,(loadCells ⟨L.b,L.d+i,none⟩ n).run P w=.ok vs.toArray w∧VRs C l vs∧(∀a∈l,a.one=true)∧l.length=n∧i+n≤L.n ∧
   (∀j,j<n→w.cell? ⟨L.b,L.d+(i+j),none⟩=vs[j]?):=by
 unfold Qi at hr;split at hr
 ·rename_i c len gF ro hg;split at hr
  ·rename_i hv;have gA:=H0 hv;subst gA;split at hr
   ·rename_i hle;have gE:i+n≤len:=H6 hle;have gC:=h.obj o _ (h.fresh _ _ _ hL) hg;obtain⟨h1,_,h3,vs,e,lo,hi,h4,h5,h6,h7⟩:=gC L hL;obtain⟨k1,k2⟩:=nr hr;have hex:∀j,j<n→∃a,l[j]?=some a∧a.one=true∧∃x,vs[L.d+(i+j)]?=some x∧VR C a x:=by
     intro j hj;obtain⟨a,q1,q2,x,q3,q4⟩:=h7 (i+j) J;exact⟨a,by rw[←k2 j hj];exact q1,q2,x,q3,q4⟩
    have gG:L.d+(i+n)≤vs.size:=J
    let r:List Value:=(List.range n).map λj=>vs.getD (L.d+(i+j)) undef
    have gD:r.length=n:=by simp[r]
    have gg:∀j,j<n→vs[L.d+(i+j)]?=r[j]?:=by
     intro j hj;simp only[r,Jj,List.getElem?_range hj,Jt];rw[Jn J,Iu,Jn J];rfl
    refine⟨r,?_,?_,?_,k1,J,?_⟩
    ·exact z9q P w _ n r gD (λj hj=>by rw[uu,zhr h4];exact gg j hj)
    ·refine VRs.mk J (λj a hj=>?_);have gz:j<n:=by have:=(Hm.1 hj).1;omega
     obtain⟨a',q1,_,x,q3,q4⟩:=hex j gz;rw[hj]at q1;cases q1;exact⟨x,by rw[←gg j gz];exact q3,q4⟩
    ·intro a ha;obtain⟨j,hj,rfl⟩:=List.getElem_of_mem ha;obtain⟨a',q1,q2,_⟩:=hex j J;rw[Ht hj]at q1;cases q1;exact q2
    ·intro j hj;rw[zhr h4];exact gg j hj
   ·cases hr
  ·cases hr
 ·cases hr
def z89(O:Program)(a:Addr):∀(r:List Value) (i:Nat) (w:World) (A:Array Value) (e:TypeId) (B hi:Nat),a.spot=none→w.heap[a.block]?=some (.cells A e (B,hi)) →
  (∀v∈r,v.oneCell'=true)→a.off+i+r.length≤A.size→(∀z,a.off+i≤z→z<a.off+i+r.length→¬(B≤z∧z<hi)) →
  ∃w' j,(storeCells a r i).run O w=.ok () w'∧w'.heap[a.block]?=some (.cells j e (B,hi))∧j.size=A.size∧(∀k,k≠a.block→w'.heap[k]?=w.heap[k]?) ∧
   w'.heap.size=w.heap.size∧w'.os=w.os∧w'.tape=w.tape∧w'.output=w.output∧(∀z,j[z]?=if a.off+i≤z∧z<a.off+i+r.length then r[z-(a.off+i)]? else A[z]?)
 |[],i,w,A,e,B,hi,_,E,_,_,_=>by
  refine⟨w,A,rfl,E,rfl,λ_ _=>rfl,rfl,rfl,rfl,rfl,λz=>?_⟩;rw[Hs N]
 |v::r,i,w,A,e,B,hi,P,E,hv,H,I=>by
  simp only[Ig]at H I;have g:a.add i=⟨a.block,a.off+i,none⟩:=by
   unfold Addr.add;by_cases h:i=0
   ·subst h;simp;cases a;simp_all
   ·rw[Hs h]
  have C : w.cell? (a.add i) = some (A[a.off + i]' J) := by
   rw[g,zhr E,Jn]
  have K:w.frozen? (a.add i)=false:=by
   rw[g];simp only[World.frozen?,E];have:=I (a.off+i) J J;simp only[Bool.and_eq_false_iff,Iz];omega
  have F:(store (a.add i) v).run O w=.ok () (w.setCell (a.add i) v):=by
   rw[run_store O w _ v .plain (hv v N),C];simp[K]
  have G:(w.setCell (a.add i) v).heap[a.block]?=some (.cells (A.setIfInBounds (a.off+i) v) e (B,hi)):=by
   rw[g];simp only[World.setCell,Array.getElem?_modify,Ky,E,Jt];simp
  obtain⟨w',j,Q,R,T,U,V,X,Y,Z,h9⟩:=z89 O a r (i+1) (w.setCell (a.add i) v) _ e B hi P G (λx hx=>hv x (by simp[hx]))
   (by rw[Array.size_setIfInBounds];omega) (λz L D=>I z J J)
  refine⟨w',j,?_,R,by rw[T,Array.size_setIfInBounds],?_,?_,X,Y,Z,?_⟩
  ·simp only[storeCells,Sem.run_bind,F,Result.andThen_ok];exact Q
  ·intro k M;rw[U k M];exact Below.heap_setCell w (a.add i) v k (by rw[g];exact M)
  ·rw[V,World.size_setCell]
  ·intro z;rw[h9 z];by_cases L:a.off+(i+1)≤z∧z<a.off+(i+1)+r.length
   ·rw[Hv L,Hv Cq];have:z-(a.off+i)=(z-(a.off+(i+1)))+1:=J
    rw[this,Ib]
   ·rw[Hs L,Array.getElem?_setIfInBounds];by_cases D:a.off+i=z
    ·subst D;rw[Hv rfl,Hv J,Hv Cq];simp
    ·rw[Hs D,Hs Cq]
def VRs.get'{C:CM}{l:List AV}{r:List Value}(h:VRs C l r){i:Nat}(hi:i<l.length):∃a v,l[i]?=some a∧r[i]?=some v∧VR C a v:=by
 obtain⟨v,h1,h2⟩:=h.get (Ht hi);exact⟨_,v,Ht hi,h1,h2⟩
def VRs.one{C:CM}:∀{l:List AV} {r:List Value},VRs C l r→(∀a∈l,a.one=true)→∀v∈r,v.oneCell'=true
 |_,_,.nil,_,v,hv=>by simp at hv
 |_,_,.cons e es,h,v,hv=>by
  rcases H5.1 hv with rfl|hv
  ·rw[e.one];exact h _ N
  ·exact VRs.one es (λa ha=>h a (by simp[ha])) v hv
def az.lay{C:CM}{c:Tr AV}{len:Nat}{gg:Array Value}{d i:Nat}{l:List AV}{r:List Value}(h:az C c len vR d)(hv:VRs C l r)(h1:∀a∈l,a.one=true)
  (hi:i≤len) (_hle:i+l.length≤j) (gC:j≤len∨j=i+l.length)
  (gA:∀gD,gg[gD]?=if d+i≤gD∧gD<d+i+r.length then r[gD-(d+i)]? else vR[gD]?):az C (Qz l i c) j gg d:=by
 intro k hk;rw[get_ofList l i c k];have hlen:=hv.length;rw[gA];by_cases gz:i≤k∧k<i+l.length
 ·rw[Hv gz,Hv J];obtain⟨a,v,q1,q2,q3⟩:=hv.get' (i:=k-i) J;refine⟨a,q1,h1 a (Ia q1),v,?_,q3⟩;rw[show d+k-(d+i)=k-i from J];exact q2
 ·rw[Hs gz,Hs J];exact h k J
def Rel.write{C:CM}{H:Heap}{w:World}(h:Rel v9 C H w)(P:Program){o v i:Nat}{l:List AV}(hw:Vc H o v i l=some vY){L:Loc}(hL:C o v=some L)
  {r:List Value} (hr:VRs C l r) (h1:∀a∈l,a.one=true):∃w',(storeCells ⟨L.b,L.d+i,none⟩ r).run P w=.ok () w'∧Rel v9 C vY w':=by
 unfold Vc at hw;split at hw
 ·rename_i c len gH hg;split at hw
  ·rename_i hv;have gz:=H0 hv;subst gz;split at hw
   ·rename_i hle;have gg:i+l.length≤len:=H6 hle;cases hw;have ho:=h.fresh _ _ _ hL;have gA:=h.obj o _ ho hg;obtain⟨q1,q2,q3,vs,e,lo,hi,q4,q5,q6,q7⟩:=gA L hL;have gI:=hr.length;obtain⟨w',gC,k1,k2,k3,k4,k5,k6,k7,k8,k9⟩:=z89 P ⟨L.b,L.d+i,none⟩ r 0 w vs e lo hi rfl q4 (hr.one h1) Bj (λgK hj gD=>by dsimp at hj gD;exact q6 gK J J);refine⟨w',k1,h.put ho _ ?_ J ?_ ?_ ?_⟩
    ·exact h.low.trans ⟨k6,k7,k8,J,λk hk=>k4 k (by dsimp;have:=q2 rfl;omega)⟩
    ·intro o' v' L' gE j;refine k4 _ (λe'=>gE ?_);exact (h.excl _ _ _ _ _ _ hL j e'.symm (q2 rfl)).symm
    ·intro L' j;rw[hL]at j;cases j;refine⟨q1,q2,q3,gC,e,lo,hi,k2,J,q6,q7.lay hr h1 J gg (.inl (Hw _)) (λgK=>?_)⟩;rw[k9 gK];rfl
    ·intro c' gF gG gL he v' L' j;cases he;exact h.top _ _ _ _ _ ho hg _ _ j
   ·cases hw
  ·cases hw
 ·cases hw
def Rel.newRow{C:CM}{H:Heap}{w:World}(h:Rel v9 C H w){l:List AV}{o:Nat}(hn:newObj H l=some (o,vY))(e:TypeId)(fz:Nat×Nat){vs:Array Value}
  (hle:l.length≤vs.size) (hv:VRs C l (vs.toList.take l.length)) (h1:∀a∈l,a.one=true) (gz:∀i,i<vs.size→¬(fz.1≤i∧i<fz.2)) :
  ∃C',C.le C'∧Rel v9 C' vY (w.alloc (.cells vs e fz))∧C' o 0=some ⟨w.heap.size,0,l.length,vs.size⟩:=by
 unfold Sv.newObj at hn;cases hn;have gg:C.le (C.ext H.next 0 ⟨w.heap.size,0,l.length,vs.size⟩):=CM.le_ext _ (h.next_none 0) (.inr (Kq h.nx));refine⟨C.ext H.next 0 ⟨w.heap.size,0,l.length,vs.size⟩,gg,(h.push _ _ l.length vs.size ?_).1,CM.ext_same _ _ _ _⟩;intro L hL;rw[CM.ext_same]at hL;cases hL;refine⟨rfl,λ_=>h.low.size,Bj,vs,e,fz.1,fz.2,ln _ _,Hw _,λi _ hi=>gz i hi,?_⟩;intro k hk;rw[get_ofList l 0 .e k,Hv J];obtain⟨a,v,q1,q2,q3⟩:=hv.get' (i:=k) hk;refine⟨a,by simpa using q1,h1 a (Ia q1),v,?_,q3.mono gg⟩;rw[Jc hk]at q2;simpa using q2
end
section
open Go.RowKit (Below)
section sem
variable {P : Program} {w : World}
def N6{t:TypeId}{d:TypeDesc}(h:P.underlying t=some d):(underlying t).run P w=.ok d w:=by
 simp[underlying,h]
def mz{t:TypeId}{i:TypeInfo}(h:P.info? t=some i):(typeInfo t).run P w=.ok i w:=by
 simp[typeInfo,h]
def R5{t:TypeId}{n:Nat}(h:Ot P t=some n):(sizeOf t).run P w=.ok n w:=by
 unfold Ot at h;cases hi:P.info? t with
 |none=>simp[hi]at h
 |some i=>simp only[hi,Jt,Option.some.injEq]at h;simp[sizeOf,mz hi,h]
def z8s{t:TypeId}{b:Bool}(h:Sm P t=some b):(isAgg t).run P w=.ok b w:=by
 unfold Sm at h;cases hu:P.underlying t with
 |none=>simp[hu]at h
 |some d=>cases d<;>simp[hu]at h<;>subst h<;>simp[isAgg,N6 hu]
def ym{t:TypeId}{l:List AV}(h:R6 P t=some l):∃v i,(zeroValue t).run P w=.ok v w∧T4 v.cells.toList=some l∧P.info? t=some i∧l.length=i.size:=by
 unfold R6 at h;cases hi:P.info? t with
 |none=>simp[hi]at h
 |some i =>
  simp only[hi]at h;cases g:i.zero with
  |none=>simp[g]at h
  |some v =>
   simp only[g]at h;cases j:T4 v.cells.toList with
   |none=>simp[j]at h
   |some r =>
    simp only[j]at h;split at h
    ·cases h;rename_i z;exact⟨v,i,Dt,j,rfl,z⟩
    ·cases h
def zp5{t:TypeId}{a:AV}(h:zri P t=some a):∃v,(zeroValue t).run P w=.ok v w∧Wh v=some a:=by
 unfold zri at h;cases hi:P.info? t with
 |none=>simp[hi]at h
 |some i =>
  simp only[hi]at h;cases g:i.zero with
  |none=>simp[g]at h
  |some v=>simp only[g]at h;exact⟨v,Dt,h⟩
end sem
def xk(g:CM)(j:Tr AV)(z:Operand→Value):Prop:=∀x a,(Na x).run j=some a→VR g a (z x)
def z9h{n:Nat}{E:Tr AV}{a:Act}(h:ER n M E a.tmps):xk M E a.eval:=by
 intro x A g;cases x with
 |tmp t =>
  unfold Na at g;dsimp only at g;split at g
  ·rename_i j;have:=h.2.2 t (H6 j);dsimp only at g;show VR M A (a.tmps.getD t undef);cases z:Mt (M9 t) E with
   |none=>rw[z]at g this;cases g;rw[show a.tmps.getD t undef=undef from this];exact .tup .nil
   |some b=>rw[z]at g this;cases g;exact this
  ·cases g
 |const v =>
  unfold Na at g;dsimp only at g;split at g
  ·rename_i b j;cases g;exact zjy j
  ·cases g
 |global B=>cases g
 |func f=>cases g;exact .fn (.same _ (λl e=>Aq)) .nil .nil
def z77{B:CM}{C:Tr AV}{D:Operand→Value}(h:xk B C D):∀{j:List Operand} {l:List AV},(opds j).run C=some l→VRs B l (j.map D)
 |[],l,g=>by cases g;exact .nil
 |x::j,l,g=>by
  unfold opds at g;dsimp only at g;split at g
  ·cases g
  ·rename_i a z;split at g
   ·cases g
   ·rename_i r A;cases g;exact .cons (h _ _ z) (z77 h A)
def f7(P:Program)(A:World)(C:CM)(w:World)(z:Sem Next)(v:AV)(B:Heap):Prop :=
 ∃g j x,C.le g∧Rel A g B j∧VR g v x∧(z.run P w=.ok (.value x) j∨(z.run P w=.ok .skip j∧x=undef))
def CallOk(P:Program)(A:CM)(w:World)(z:Sem Next)(t:Tgt)(g:List AV):Prop :=
 ∃j:List Value,VRs A g j∧((∃f,t=.fn f∧z.run P w=.ok (.enter f j.toArray) w)∨(∃l B,t=.yield l∧A l 0=some B∧z.run P w=(Instr.yield B.b j.toArray).run P w))
def Qt(P:Program)(z:World)(C:CM)(w:World)(j:Sem Next):OR→Prop
 |.no=>True
 |.val v A=>f7 P z C w j v A
 |.call t g=>CallOk P C w j t g
def Nn(P:Program)(f:OpF)(nx:(Operand→Value)→Sem Next):Prop :=
 ∀g j z w A B,Rel g j z w→xk j A B→Qt P g j w (nx B) (f.run A z)
def Nz(P:Program)(nx:(Operand→Value)→Sem Next):Nn P Np nx:=λ_ _ _ _ _ _ _ _=>trivial
def So{P:Program}{x:Operand}{f:Heap→AV→OR}{nx:(Operand→Value)→Sem Next}
  (h:∀g C j w z a,Rel g C j w→VR C a (z x)→Qt P g C w (nx z) (f j a)):Nn P (Ps x f) nx:=by
 intro g C j w E z A B;show Qt P g C w (nx z) (Option.rec OR.no (λa=>f j a) ((Na x).run E));cases D:(Na x).run E with
 |none=>exact trivial
 |some a=>exact h _ _ _ _ _ _ A (B _ _ D)
def bu{P:Program}{x y:Operand}{f:Heap→AV→AV→OR}{nx:(Operand→Value)→Sem Next}
  (h:∀g C A w j a b,Rel g C A w→VR C a (j x)→VR C b (j y)→Qt P g C w (nx j) (f A a b)):Nn P (S9 x y f) nx:=by
 intro g C A w B j D z;show Qt P g C w (nx j) (Option.rec OR.no (λa=>Option.rec OR.no (λb=>f A a b) ((Na y).run B)) ((Na x).run B));cases E:(Na x).run B with
 |none=>exact trivial
 |some a =>
  cases F:(Na y).run B with
  |none=>exact trivial
  |some b=>exact h _ _ _ _ _ _ _ D (z _ _ E) (z _ _ F)
def Ph{P:Program}{C:CM}{w:World}{nx:Sem Next}{v:AV}{x:Value}(j:Rel K C F w)(hv:VR C v x)(g:nx.run P w=.ok (.value x) w) :
  f7 P K C w nx v F:=⟨C,w,x,CM.le_refl C,j,hv,.inl g⟩
def zl3(P:Program)(x:Operand):Nn P (Ps x λj a=>.val a j) (λz=>pure (.value (z x))) :=
 So λ_ _ _ _ _ _ g hv=>Ph g hv rfl
def zvl(P:Program)(c a b:Operand):Nn P (Ny P (.pick c a b)) (λB=>do pure (.value (if ←asBool (B c) then B a else B b))):=by
 intro E I H w C B D z;show Qt P E I w _ (match (Na c).run C with
  |some (.bool true)=>ret1 H ((Na a).run C)
  |some (.bool false)=>ret1 H ((Na b).run C)
  |_=>.no)
 split
 ·rename_i A;have g:=z _ _ A;cases F:(Na a).run C with
  |none=>exact trivial
  |some v =>
   have hv:=z _ _ F;refine Ph D hv ?_;cases j:B c<;>rw[j]at g<;>cases g;simp[asBool,j]
 ·rename_i A;have g:=z _ _ A;cases G:(Na b).run C with
  |none=>exact trivial
  |some v =>
   have hv:=z _ _ G;refine Ph D hv ?_;cases j:B c<;>rw[j]at g<;>cases g;simp[asBool,j]
 ·exact trivial
def zoy{P:Program}{C:CM}{w:World}(G:Rel K C F w)(t:TypeId){l:List AV}(hv:VRs C l vR.toList)(H:∀a∈l,a.one=true)
  {E:Sem Next} (j:E.run P w=.ok (.value (.pointer (some ⟨w.heap.size,0,none⟩))) (w.alloc (.cells vR t))):Qt P K C w E (Wm F l):=by
 unfold Wm;cases I:newObj F l with
 |none=>exact trivial
 |some r =>
  obtain⟨o,M⟩:=r;have g:l.length=vR.toList.length:=hv.length;have z:l.length=vR.size:=A2
  obtain⟨L,A,B,D⟩:=G.newRow I t (0,0) (vs:=vR) J (by rw[g,Ki];exact hv) H N;exact⟨L,_,_,A,B,by simpa using VR.ptr (i:=0) D,.inl j⟩
def zsv(P:Program)(t:TypeId):Nn P (Ny P (.alloc t)) (λ_=>do pure (.value (←Instr.alloc t true (.tuple #[])))):=by
 intro g G j w H M z I;show Qt P g G w _ (OpF.run (match R6 P t with
  |some l=>⟨λ_ j=>Wm j l⟩
  |none=>Np) H j)
 cases A:R6 P t with
 |none=>exact trivial
 |some l =>
  obtain⟨v,i,B,D,K,L⟩:=ym (w:=w) A;obtain⟨E,F⟩:=Y7 (C:=G) D;refine zoy z t E F ?_;simp[Instr.alloc,B,newVar,newRow]
def zxf(P:Program)(t:TypeId)(x:Operand):Nn P (Ny P (.box t x)) (λB=>do pure (.value (←Instr.box t (B x)))):=by
 refine So λC D E w B a g hv=>?_
 cases j:a.cells with
 |none=>exact trivial
 |some l =>
  obtain⟨z,A⟩:=hv.cells j;exact zoy g t z A (by simp[Instr.box,newVar,newRow])
def zvv(P:Program)(t:TypeId)(x:Operand):Nn P (zsh P t x) (λE=>do pure (.value (←Instr.loadAt t (E x)))):=by
 unfold zsh;split
 ·rename_i n z F;refine So λI Q R w E a g hv=>?_
  split
  ·rename_i o v i;split
   ·rename_i l A;generalize K:E x=L at hv;cases hv with
    |ptr B =>
     obtain⟨C,G,D,H,M,_⟩:=g.read P A B;refine Ph g (.agg (vs:=C.toArray) Ee H) ?_;simp[Instr.loadAt,Instr.sureAddr,loadVar,z8s z,R5 F,G]
   ·exact trivial
  ·exact trivial
 ·rename_i n z F;refine So λI Q R w E a g hv=>?_
  split
  ·rename_i o v i;split
   ·rename_i c A;generalize K:E x=L at hv;cases hv with
    |ptr B =>
     obtain⟨C,G,D,H,M,T,O⟩:=g.read P A B;have j:=O 0 J
     match C,D with
     |[u],.cons hu .nil =>
      refine Ph g hu ?_;simp only[Kr,Ii]at j;simp[Instr.loadAt,Instr.sureAddr,loadVar,z8s z,j]
   ·exact trivial
  ·exact trivial
 ·exact Nz P _
def zrs(P:Program)(t:TypeId)(x y:Operand):Nn P (zqy P t x y) (λj=>do Instr.storeAt t (j x) (j y);pure .skip):=by
 unfold zqy;split
 ·rename_i n A;refine bu λM L T w j a b B hv C=>?_
  split
  ·rename_i o v i;split
   ·rename_i l D;split
    ·rename_i E;split
     ·rename_i O hw;generalize Q:j x=R at hv;cases hv with
      |ptr F =>
       obtain⟨z,G⟩:=C.cells D;obtain⟨H,I,K⟩:=B.write P hw F z G;refine⟨L,H,undef,CM.le_refl L,K,.tup .nil,.inr ⟨?_,rfl⟩⟩;have g:(j y).cells.size=n:=by have:=z.length;have:=H0 E;simp at *;omega
       simp[Instr.storeAt,Instr.sureAddr,storeVar,R5 A,g,I]
     ·exact trivial
    ·exact trivial
   ·exact trivial
  ·exact trivial
 ·exact Nz P _
def zk5(P:Program)(x:Operand)(o:Oper)(ho:o.op=.nilCheck x):Nn P (Ps x z7d) (λB=>execOp B o):=by
 refine So λD E F w B a z hv=>?_
 unfold z7d;split
 ·generalize j:B x=A at hv;have g:=hv;cases hv with
  |ptr C=>exact Ph z g C3
 ·generalize j:B x=A at hv;have g:=hv;cases hv with
  |iface h=>exact Ph z g C3
 ·generalize j:B x=A at hv;have g:=hv;cases hv with
  |fn h=>cases h with
   |same=>exact Ph z g C3
 ·generalize j:B x=A at hv;have g:=hv;cases hv with
  |map C=>exact Ph z g C3
 ·exact trivial
end
section
open Go.RowKit (Below)
def z7c{k g:IntKind}(h:Yd k g=true):k=g:=by
 cases k<;>cases g<;>first|rfl|(exact absurd h Ad)
def yh(a b:Int):Y6 a b=(a==b):=by
 cases a<;>cases b
 ·rename_i x y;show Nat.beq x y=_;rw[Je];simp[Nat.beq_eq];omega
 ·show false=_;symm;rw[beq_eq_false_iff_ne];intro h;cases h
 ·show false=_;symm;rw[beq_eq_false_iff_ne];intro h;cases h
 ·rename_i x y;show Nat.beq x y=_;rw[Je];simp[Nat.beq_eq]
def Rp{a b:Nat}:Nat.blt a b=decide (a<b):=by
 rw[Je];simp[Nat.blt,Nat.ble_eq];omega
def vd(a b:Int):xw a b=decide (a<b):=by
 cases a<;>cases b
 ·rename_i x y;show Nat.blt x y=_;rw[Rp,decide_eq_decide];simp
 ·rename_i x y;show false=_;symm;rw[Iz];have:=Int.negSucc_lt_zero y;simp;omega
 ·rename_i x y;show true=_;symm;rw[decide_eq_true_iff];have:=Int.negSucc_lt_zero x;simp;omega
 ·rename_i x y;show Nat.blt y x=_;rw[Rp,decide_eq_decide];omega
def z7g(k:IntKind):2^k.bits=Uz k:=by cases k<;>rfl
def bg(k:IntKind)(n:Int):Un k n=k.wrap n:=by
 cases n with
 |negSucc m=>rfl
 |ofNat m =>
  unfold Un;dsimp only;split
  ·rename_i h;have g:m<Xh k:=by rw[Rp]at h;simpa using h
   cases k<;>simp only[Xh]at g<;>simp only[IntKind.wrap,IntKind.bits,IntKind.signed]<;>simp<;>omega
  ·rfl
def ztc(b:Int):ki b=true↔b=0:=by
 cases b with
 |ofNat n=>simp[ki,Nat.beq_eq]
 |negSucc n=>simp[ki]
section bits
variable {k : IntKind} {x y : Nat}
def zm(w x:Nat):BitVec.ofInt w (Int.ofNat x)=BitVec.ofNat w x:=by
 show BitVec.ofInt w ((x:Nat):Int)=_;exact BitVec.ofInt_natCast w x
def co(g:x<Uz k)(j:y<Uz k):(BitVec.ofInt k.bits (Int.ofNat x) &&& BitVec.ofInt k.bits (Int.ofNat y)).toNat=Nat.land x y:=by
 rw[←z7g]at g j;rw[zm,zm,BitVec.toNat_and,Kw,Kw,In g,In j];rfl
def rp(g:x<Uz k)(j:y<Uz k):(BitVec.ofInt k.bits (Int.ofNat x) ||| BitVec.ofInt k.bits (Int.ofNat y)).toNat=Nat.lor x y:=by
 rw[←z7g]at g j;rw[zm,zm,BitVec.toNat_or,Kw,Kw,In g,In j];rfl
def en(g:x<Uz k)(j:y<Uz k):(BitVec.ofInt k.bits (Int.ofNat x) ^^^ BitVec.ofInt k.bits (Int.ofNat y)).toNat=Nat.xor x y:=by
 rw[←z7g]at g j;rw[zm,zm,BitVec.toNat_xor,Kw,Kw,In g,In j];rfl
def zs5(g:x<Uz k)(_hy:y<Uz k) :
  (BitVec.ofInt k.bits (Int.ofNat x) &&& ~~~(BitVec.ofInt k.bits (Int.ofNat y))).toNat=Nat.xor x (Nat.land x y):=by
 rw[←z7g]at g;rw[zm,zm];apply Nat.eq_of_testBit_eq;intro i;rw[BitVec.testBit_toNat,BitVec.getLsbD_and,BitVec.getLsbD_not,BitVec.getLsbD_ofNat,BitVec.getLsbD_ofNat];show _=(x ^^^ (x &&& y)).testBit i;rw[Nat.testBit_xor,Nat.testBit_and];by_cases hi:i<k.bits
 ·simp only[hi,decide_true,Lh];cases x.testBit i<;>cases y.testBit i<;>rfl
 ·have:x.testBit i=false:=Nat.testBit_lt_two_pow (Il g (K0 J J));simp[this,hi]
end bits
def zhv(a b:Nat):Py a b=min a b:=by
 unfold Py;split
 ·rename_i h;have:=H6 h;omega
 ·rename_i h;have:¬a≤b:=λg=>by rw[Hy g]at h;cases h
  omega
def zbo{P:Program}{w:World}{f:Nat→Nat→Nat}{op:BinOp}{k:IntKind}{a b:Int}{v:AV}(h:Z6 f k a b=some v)
  (z:∀x y:Nat,x<Uz k→y<Uz k→(Op.intBits op k (Int.ofNat x) (Int.ofNat y)).run P w=.ok (.int k (k.wrap (Int.ofNat (f x y)))) w) :
  ∃n,v=.int k n∧(Op.intBits op k a b).run P w=.ok (.int k n) w:=by
 unfold Z6 at h;split at h
 ·rename_i x y;split at h
  ·rename_i g;split at h
   ·rename_i j;cases h;rw[Rp]at g j;exact⟨_,rfl,by rw[z x y A2 Bg,bg]⟩
   ·cases h
  ·cases h
 ·cases h
def zwi(P:Program)(w:World){op:BinOp}{k:IntKind}{a b:Int}{v:AV}(t:TypeId)(h:zrf op k a b=some v) :
  ∃x,(binOp op t (.int k a) (.int k b)).run P w=.ok x w∧∀g,VR g v x:=by
 cases op<;>simp only[zrf]at h
 case add=>cases h;exact⟨_,C6,λg=>Ck⟩
 case sub=>cases h;exact⟨_,C6,λg=>Ck⟩
 case mul=>cases h;exact⟨_,C6,λg=>Ck⟩
 case quo =>
  split at h
  ·cases h
  ·rename_i B;cases h;have C:b≠0:=λe=>by rw[(ztc b).2 e]at B;cases B
   exact⟨.int k (k.wrap (a.tdiv b)),by simp[binOp,Op.intDiv,C],λg=>Ck⟩
 case rem =>
  split at h
  ·cases h
  ·rename_i B;cases h;have C:b≠0:=λe=>by rw[(ztc b).2 e]at B;cases B
   exact⟨.int k (a.tmod b),by simp[binOp,Op.intDiv,C],λg=>.int k _⟩
 case and =>
  obtain⟨n,rfl,j⟩:=zbo (P:=P) (w:=w) (op:=.and) h (λx y z A=>by simp only[Op.intBits,co z A];rfl);exact⟨_,Ci,λg=>.int k n⟩
 case or =>
  obtain⟨n,rfl,j⟩:=zbo (P:=P) (w:=w) (op:=.or) h (λx y z A=>by simp only[Op.intBits,rp z A];rfl);exact⟨_,Ci,λg=>.int k n⟩
 case xor =>
  obtain⟨n,rfl,j⟩:=zbo (P:=P) (w:=w) (op:=.xor) h (λx y z A=>by simp only[Op.intBits,en z A];rfl);exact⟨_,Ci,λg=>.int k n⟩
 case andNot =>
  obtain⟨n,rfl,j⟩:=zbo (P:=P) (w:=w) (op:=.andNot) h (λx y z A=>by simp only[Op.intBits,zs5 z A];rfl);exact⟨_,Ci,λg=>.int k n⟩
 case eql=>cases h;exact⟨_,Dh,λg=>by rw[yh];exact .bool _⟩
 case neq=>cases h;exact⟨.bool (a != b),Eb,λg=>by rw[yh];exact .bool _⟩
 case lss=>cases h;exact⟨_,Dh,λg=>by rw[vd];exact .bool _⟩
 case gtr=>cases h;exact⟨_,Dh,λg=>by rw[vd];exact .bool _⟩
 case leq =>
  cases h;refine⟨.bool (decide (a≤b)),Eb,λg=>?_⟩;rw[vd,show (!decide (b<a))=decide (a≤b) from by rw[Je];simp];exact .bool _
 case geq =>
  cases h;refine⟨.bool (decide (a ≥ b)),Eb,λg=>?_⟩;rw[vd,show (!decide (a<b))=decide (a ≥ b) from by rw[Je];simp];exact .bool _
 all_goals cases h
def zi6(A:Program)(w:World){op:BinOp}(g:op=.shl∨op=.shr){k j:IntKind}{a b:Int}{v:AV}(t:TypeId)(h:zoz op k a b=some v) :
  ∃x,(binOp op t (.int k a) (.int j b)).run A w=.ok x w∧∀z,VR z v x:=by
 unfold zoz at h;split at h
 ·rename_i x y;rcases g with rfl|rfl
  ·simp only[Option.some.injEq]at h;subst h;refine⟨.int k (k.wrap (Int.ofNat x*2^(min y k.bits))),?_,λz=>?_⟩
   ·have:¬((Int.ofNat y)<0):=N
    simp only[binOp,Op.shift];rw[Hs this];rfl
   ·rw[bg,zhv];have:Int.ofNat (x.mul (Nat.pow 2 (min y k.bits)))=Int.ofNat x*2^(min y k.bits):=by
     show ((x*2^(min y k.bits):Nat):Int)=_;simp
    rw[this];exact .int k _
  ·simp only[Option.some.injEq]at h;subst h;refine⟨.int k ((Int.ofNat x).fdiv (2^(min y k.bits))),?_,λz=>?_⟩
   ·have:¬((Int.ofNat y)<0):=N
    simp only[binOp,Op.shift];rw[Hs this];rfl
   ·rw[zhv];have:Int.ofNat (x.div (Nat.pow 2 (min y k.bits)))=(Int.ofNat x).fdiv (2^(min y k.bits)):=by
     show ((x/2^(min y k.bits):Nat):Int)=((x:Nat):Int).fdiv (2^(min y k.bits));have e:((2:Int)^(min y k.bits))=((2^(min y k.bits):Nat):Int):=N
     rw[e,Int.fdiv_eq_ediv_of_nonneg _ (Ja _)];rfl
    rw[this];exact .int k _
 ·cases h
end
section
open Go.RowKit (Below)
def packL_append:∀a b:List UInt8,On (a++b)=On a+On b*256^a.length
 |[],b=>by simp[On]
 |x::a,b=>by
  simp only[Ip,On,packL_append a b,Ig,Ji];rw[K3,J2,Ka (256^a.length) 256,Ml 256]
def packL_inj:∀{a b:List UInt8},a.length=b.length→On a=On b→a=b
 |[],[],_,_=>rfl
 |[],_::_,h,_=>Bn
 |_::_,[],h,_=>Bn
 |x::a,y::b,h,k=>by
  simp only[On]at k;have z:=x.toNat_lt;have A:=y.toNat_lt;have g:x.toNat=y.toNat:=J
  have j:On a=On b:=J
  rw[packL_inj Av j,UInt8.toNat_inj.1 g]
def packL_drop:∀(i:Nat) (l:List UInt8),On (l.drop i)=On l/256^i
 |0,l=>N
 |i+1,[]=>by simp[On]
 |i+1,b::l=>by
  rw[List.drop_succ_cons,packL_drop i l];have g:=b.toNat_lt;simp only[On,Ji];rw[Ka (256^i) 256,←Ku]
  congr 1
  omega
def packL_take:∀(i:Nat) (l:List UInt8),On (l.take i)=On l%256^i
 |0,l=>by simp[On,Nat.mod_one]
 |i+1,[]=>by simp[On]
 |i+1,b::l=>by
  rw[List.take_succ_cons];simp only[On];rw[packL_take i l,Ji,Ka (256^i) 256];have g:=b.toNat_lt;rw[Nat.mod_mul,Nat.add_mul_mod_self_left,In g,Nat.add_mul_div_left _ _ J,K8 g,Iq]
def zhm{l:List UInt8}{i:Nat}{b:UInt8}(h:l[i]?=some b):On l/256^i%256=b.toNat:=by
 rw[←packL_drop];have hi:=(Hm.1 h).1;rw[Jb hi,On,(Hm.1 h).2];have g:=b.toNat_lt;omega
def unpack_pack:∀l:List UInt8,Vg l.length (On l)=l.map (·.toNat)
 |[]=>rfl
 |b::l=>by
  have z:=b.toNat_lt;simp only[Ig,Vg,On,J3];have g:Nat.mod (b.toNat+256*On l) 256=b.toNat:=by show (b.toNat+256*On l)%256=_;omega
  have j:Nat.div (b.toNat+256*On l) 256=On l:=by show (b.toNat+256*On l)/256=_;omega
  rw[g,j,unpack_pack l]
def less_spec:∀a b:List UInt8,Op.bytesLess a b=m9 (a.map (·.toNat)) (b.map (·.toNat))
 |_,[]=>by simp[Op.bytesLess,m9]
 |[],_::_=>by simp[Op.bytesLess,m9]
 |x::a,y::b=>by
  simp only[Op.bytesLess,m9,J3,less_spec a b,Rp];have g:decide (x<y)=decide (x.toNat<y.toNat):=by rw[decide_eq_decide];exact UInt8.lt_iff_toNat_lt
  have j:(x==y)=Nat.beq x.toNat y.toNat:=by
   rw[Je];simp[Nat.beq_eq,UInt8.toNat_inj]
  rw[g,j]
def zeu{a b:ByteArray}:(a.toList==b.toList)=(Nat.beq a.data.toList.length b.data.toList.length&&Nat.beq (On a.data.toList) (On b.data.toList)):=by
 rw[ByteArray.toList_eq,ByteArray.toList_eq,Je];simp only[Lt,Hq,Nat.beq_eq];exact⟨λh=>by rw[h];exact⟨rfl,rfl⟩,λ⟨g,j⟩=>packL_inj g j⟩
def zvh{a b:ByteArray}:Op.bytesLess a.toList b.toList=m9 (Vg a.data.toList.length (On a.data.toList)) (Vg b.data.toList.length (On b.data.toList)):=by
 rw[ByteArray.toList_eq,ByteArray.toList_eq,less_spec,unpack_pack,unpack_pack]
def zio(a b:ByteArray):(a++b).data.toList=a.data.toList++b.data.toList:=by
 simp
def zvz(D:Program)(w:World){op:BinOp}{x y:ByteArray}{v:AV}(t:TypeId)
  (h:zwd op x.data.toList.length (On x.data.toList) y.data.toList.length (On y.data.toList)=some v) :
  ∃u,(binOp op t (.string x) (.string y)).run D w=.ok u w∧∀z,VR z v u:=by
 have A:binOp op t (.string x) (.string y)=Op.stringOp op x y∨op=.shl∨op=.shr:=by cases op<;>simp[binOp]
 rcases A with A|rfl|rfl
 ·rw[A];have he:=zeu (a:=x) (b:=y);have j:=zvh (a:=x) (b:=y);unfold Op.stringOp;cases op<;>simp only[zwd]at h
  case add =>
   split at h
   ·rename_i B;cases h;have g:=H6 B;have C:x.size+y.size≤P0:=g;refine⟨.string (x++y),?_,λz=>.str ?_ ?_⟩
    ·dsimp only;rw[Hs]
     ·rfl
     ·simp only[IntKind.max,IntKind.signed,IntKind.bits,Ky];unfold P0 at C;omega
    ·rw[zio,H4];rfl
    ·rw[zio,packL_append];rfl
   ·cases h
  case eql=>cases h;exact⟨_,rfl,λz=>by rw[←he];exact .bool _⟩
  case neq=>cases h;exact⟨_,rfl,λz=>by rw[←he];exact .bool _⟩
  case lss=>cases h;exact⟨_,rfl,λz=>by rw[←j];exact .bool _⟩
  case leq=>cases h;exact⟨_,rfl,λz=>by rw[←j,←he];exact .bool _⟩
  case gtr=>cases h;exact⟨_,rfl,λz=>by rw[←j,←he];exact .bool _⟩
  case geq=>cases h;exact⟨_,rfl,λz=>by rw[←j];exact .bool _⟩
  all_goals cases h
 ·simp[zwd]at h
 ·simp[zwd]at h
end
section
open Go.RowKit (Below)
def zzt{l r:List AV}{n:Nat}(h:Yx l g n=some r)(hv:VRs M l vR.toList)(z:∀a∈l,a.one=true) :
  VRs M r (vR.extract g (g+n)).toList∧(∀a∈r,a.one=true)∧r.length=n:=by
 unfold Yx at h;split at h
 ·rename_i A;have j:=H6 A;cases h;have e:(vR.extract g (g+n)).toList=(vR.toList.drop g).take n:=by
   rw[Array.toList_extract,List.extract_eq_take_drop,Nat.add_sub_cancel_left]
  refine⟨by rw[e];exact (hv.drop g).take n,λa B=>z a (List.mem_of_mem_drop (L5 B)),?_⟩;have C:g+n≤l.length:=j;simp;omega
 ·cases h
def zeq{w:World}{t:TypeId}{n:Nat}(A:Sm B t=some Q)(C:Ot B t=some n){l:List AV}{a:AV}(h:dh Q n l g=some a)
  (hv:VRs M l vR.toList) (D:∀a∈l,a.one=true):∃v,(part t vR g).run B w=.ok v w∧VR M a v:=by
 unfold dh at h;cases Q with
 |true =>
  simp only at h;cases j:Yx l g n with
  |none=>rw[j]at h;cases h
  |some r =>
   rw[j]at h;cases h;obtain⟨E,F,_⟩:=zzt j hv D;exact⟨_,by simp[part,z8s A,R5 C],.agg E F⟩
 |false =>
  simp only at h;obtain⟨v,G,H⟩:=hv.get h;have z:vR[g]?=some v:=Bk
  exact⟨v,by simp[part,z8s A,z],H⟩
def zbq{w:World}{t:TypeId}{l:List AV}{a:AV}(h:zvf B t l g=some a)
  (hv:VRs M l vR.toList) (j:∀a∈l,a.one=true):∃v,(part t vR g).run B w=.ok v w∧VR M a v:=by
 unfold zvf at h;split at h
 ·rename_i C n z A;exact zeq z A h hv j
 ·cases h
def zjx{t:TypeId}{g:Array Field}(h:B.underlying t=some (.struct g)):B.fieldsOf t=g:=by simp[Program.fieldsOf,h]
def zcq(d:Nat)(t:TypeId)(n:Nat)(g j:Array Value):List Nat→Sem Bool
 |[]=>pure true
 |i::l=>do
  let a ←part t g (i*n);let b ←part t j (i*n);let r ←Op.equalIn d t a b
  if (!r)=true then pure false else zcq d t n g j l
def zf7(w:World)(d:Nat){t e:TypeId}{n s:Nat}(g j:Array Value)(D:B.underlying t=some (.array n e))(E:Ot B e=some s) :
  (Op.equalIn (d+1) t (.agg g) (.agg j)).run B w=(zcq d e s g j (List.range n)).run B w:=by
 simp only[Op.equalIn,Sem.run_bind,N6 D,Result.andThen_ok,R5 E,Std.Legacy.Range.forIn_eq_forIn_range'];have:List.range' 0 n=List.range n:=List.range_eq_range'.symm;simp only[Std.Legacy.Range.size,Nat.sub_zero,Nat.add_sub_cancel,Nat.div_one,this];generalize List.range n=l
 induction l generalizing w with
 |nil=>simp[zcq]
 |cons i l F =>
  simp only[List.forIn_cons,zcq,Sem.run_bind,Sem.run_ite];generalize (part e g (i*s)).run B w=G;cases G with
  |ok a z =>
   simp only[Result.andThen_ok];generalize (part e j (i*s)).run B z=H;cases H with
   |ok b A =>
    simp only[Result.andThen_ok];generalize (Op.equalIn d e a b).run B A=I;cases I with
    |ok r C =>
     cases r
     ·simp only[Result.andThen_ok,Bool.not_false,Ky,Sem.run_pure]
     ·simp only[Result.andThen_ok,Bool.not_true,J8,Le,Sem.run_pure];exact F C
    |halt x C=>simp[Result.andThen]
   |halt x A=>simp[Result.andThen]
  |halt x z=>simp[Result.andThen]
def zi3{Q:Program}{w:World}{P:CM}{d:Nat}{f:TypeId→AV→AV→Option Bool}
  (A:∀t a b r x y,f t a b=some r→VR P a x→VR P b y→(Op.equalIn d t x y).run Q w=.ok r w)
  {B C:List AV} {H I:Array Value} (D:VRs P B H.toList) (j:∀a∈B,a.one=true) (E:VRs P C I.toList) (z:∀a∈C,a.one=true) :
  ∀{F:List Field} {r:Bool},iz Q f B C F=some r→(Op.eqFields d H I F).run Q w=.ok r w
 |[],r,h=>Br
 |fd::F,r,h=>by
  unfold iz at h;split at h
  ·rename_i G
   have g : fd.name ≠ "_" := Bk
   split at h
   ·rename_i a b R T;obtain⟨u,K,L⟩:=zbq (w:=w) R D j;obtain⟨v,M,O⟩:=zbq (w:=w) T E z;split at h
    ·rename_i he;have:=A _ _ _ _ _ _ he L O;simp only[Op.eqFields,Hv g,Sem.run_bind,K,M,this,Result.andThen_ok];simpa using zi3 A D j E z h
    ·rename_i he;have:=A _ _ _ _ _ _ he L O;cases h;simp only[Op.eqFields,Hv g,Sem.run_bind,K,M,this,Result.andThen_ok];simp
    ·cases h
   ·cases h
  ·rename_i G
   have g : fd.name = "_" := Bk
   simp only[Op.eqFields,g,ne_eq,not_true_eq_false,Le];exact zi3 A D j E z h
def znx{G:Program}{w:World}{M:CM}{d:Nat}{f:TypeId→AV→AV→Option Bool}{t:TypeId}{n:Nat}
  (B:∀t a b r x y,f t a b=some r→VR M a x→VR M b y→(Op.equalIn d t x y).run G w=.ok r w)
  {C D:List AV} {E F:Array Value} (H:VRs M C E.toList) (g:∀a∈C,a.one=true) (I:VRs M D F.toList) (j:∀a∈D,a.one=true) :
  ∀{l:List Nat} {r:Bool},uj G f t n C D l=some r→(zcq d t n E F l).run G w=.ok r w
 |[],r,h=>Br
 |i::l,r,h=>by
  unfold uj at h;split at h
  ·rename_i a b O P;obtain⟨u,Q,K⟩:=zbq (w:=w) O H g;obtain⟨v,R,L⟩:=zbq (w:=w) P I j;have z:(part t E (i*n)).run G w=.ok u w:=Q;have A:(part t F (i*n)).run G w=.ok v w:=R;split at h
   ·rename_i he;have:=B _ _ _ _ _ _ he K L;simp only[zcq,Sem.run_bind,z,A,this,Result.andThen_ok];simpa using znx B H g I j h
   ·rename_i he;have:=B _ _ _ _ _ _ he K L;cases h;simp only[zcq,Sem.run_bind,z,A,this,Result.andThen_ok];simp
   ·cases h
  ·cases h
set_option maxHeartbeats 1000000 in
def Zp{w:World}{d:Nat}{f:TypeId→AV→AV→Option Bool}
  (D:∀t a b r x y,f t a b=some r→VR M a x→VR M b y→(Op.equalIn d t x y).run B w=.ok r w)
  {t:TypeId} {a b:AV} {r:Bool} {x y:Value} (h:ie B f t a b=some r) (g:VR M a x) (j:VR M b y):(Op.equalIn (d+1) t x y).run B w=.ok r w:=by
  unfold ie at h;split at h
  case h_1 hu=>cases h;cases g;cases j;simp[Op.equalIn,N6 hu]
  case h_2 hu =>
   split at h
   ·rename_i E;cases h;cases g;cases j;have:=z7c E;subst this;simp[Op.equalIn,N6 hu,yh]
   ·cases h
  case h_3 hu =>
   cases h;cases g with
   |str F G =>
    cases j with
    |str H I =>
     subst F G H I;rw[←zeu,←beq_toListBytes];simp[Op.equalIn,N6 hu]
  case h_21 hu =>
   split at h
   ·cases h
   ·rename_i C;cases g with
    |agg g z =>
     cases j with
     |agg j A =>
      rw[run_equalIn_struct w d t _ _ (by rw[zjx hu];exact hu) Ca,zjx hu];exact zi3 D g z j A h
  case h_22 hu =>
   split at h
   ·rename_i s C;cases g with
    |agg g z =>
     cases j with
     |agg j A =>
      rw[zf7 w d _ _ hu C];exact znx D g z j A h
   ·cases h
  case h_23=>cases h
  all_goals
   rename_i hu;cases h;cases g;cases j;simp[Op.equalIn,N6 hu]
def ztu{z:Program}{w:World}{A:CM}(d:Nat):∀(n:Nat) (t:TypeId) (a b:AV) (r:Bool) (x y:Value),eqT z n t a b=some r→VR A a x→VR A b y →
  (Op.equalIn (d+n) t x y).run z w=.ok r w
 |0,_,_,_,_,_,_,h,_,_=>An
 |n+1,_,_,_,_,_,_,h,g,j=>Zp (λt a b r x y=>ztu d n t a b r x y) h g j
end
section
open Go.RowKit (Below)
def zd8{w:World}(op:BinOp)(t:TypeId)(x y:Operand){a b:Value}(g:¬(a=.nilIface∧b=.nilIface))(j:∀c d,¬(a=.agg c∧b=.agg d)) :
  (eqGuard op t x y a b).run B w=.ok () w:=by
 unfold eqGuard;split<;>first
  |rfl
  | (rw [Hs (by decide)]
     split
     ·exact absurd ⟨rfl,rfl⟩ g
     ·exact absurd ⟨rfl,rfl⟩ (j _ _)
     ·rfl)
def znt{w:World}(op:BinOp)(t:TypeId)(x y:Operand)(k g:IntKind)(a b:Int):(eqGuard op t x y (.int k a) (.int g b)).run B w=.ok () w :=
 zd8 op t x y (λh=>by cases h.1) (λ_ _ h=>by cases h.1)
def zl5{w:World}(op:BinOp)(t:TypeId)(x y:Operand){a b:AV}{u v:Value}(hu:VR M a u)(hv:VR M b v)
  (g:zlg B (Wj x || Wj y) t a b=true):(eqGuard op t x y u v).run B w=.ok () w:=by
 by_cases j:u=.nilIface∧v=.nilIface
 ·obtain⟨rfl,rfl⟩:=j;cases hu;cases hv;have A:(Wj x || Wj y)=true:=g;unfold eqGuard;split<;>first
   |rfl
   | (rw [Hs (by decide)]
      dsimp only;rw[Hv]
      ·rfl
      ·cases x<;>cases y<;>simp_all [Wj])
 ·by_cases z:∃c d,u=.agg c∧v=.agg d
  ·obtain⟨c,d,rfl,rfl⟩:=z;cases hu;cases hv;exact run_eqGuard_agg w op t x y c d (by simpa [zlg] using g)
  ·exact zd8 op t x y j (λc d h=>z ⟨c,d,h⟩)
def zxr{t:TypeId}{a b:AV}{u v:Value}(hu:VR M a u)(hv:VR M b v)(g:∀k x j y,¬(a=.int k x∧b=.int j y))(z:∀l x m y,¬(a=.str l x∧b=.str m y)) :
  binOp .eql t u v=(do pure (.bool (←Op.equal t u v)))∧binOp .neq t u v=(do pure (.bool (!(←Op.equal t u v)))):=by
 cases hu<;>cases hv<;>first
  |exact⟨rfl,rfl⟩
  |exact absurd ⟨rfl,rfl⟩ (g _ _ _ _)
  |exact absurd ⟨rfl,rfl⟩ (z _ _ _ _)
def zud{w:World}{t:TypeId}{a b:AV}{r:Bool}(h:Q9 B Q t a b=some r){u v:Value}(hu:VR M a u)(hv:VR M b v) :
  zlg B Q t a b=true∧(Op.equal t u v).run B w=.ok r w:=by
 unfold Q9 at h;split at h
 ·rename_i g;exact⟨g,ztu 9980 20 t a b r u v h hu hv⟩
 ·cases h
def zyg{w:World}{op:BinOp}{t:TypeId}(x y:Operand){a b r:AV}(h:Pa B op (Wj x || Wj y) t a b=some r){u v:Value}(hu:VR M a u)(hv:VR M b v) :
  (eqGuard op t x y u v).run B w=.ok () w∧∃z,(binOp op t u v).run B w=.ok z w∧VR M r z:=by
 unfold Pa at h;split at h
 ·cases hu;cases hv;refine⟨znt op t x y _ _ _ _,?_⟩;split at h
  ·obtain⟨z,g,j⟩:=zi6 B w (.inl rfl) t h;exact⟨z,g,j M⟩
  ·obtain⟨z,g,j⟩:=zi6 B w (.inr rfl) t h;exact⟨z,g,j M⟩
  ·split at h
   ·rename_i C;have:=z7c C;subst this;obtain⟨z,g,j⟩:=zwi B w t h;exact⟨z,g,j M⟩
   ·cases h
 ·cases hu with
  |str g j =>
   cases hv with
   |str D E =>
    subst g j D E;refine⟨zd8 op t x y (λh=>by cases h.1) (λ_ _ h=>by cases h.1),?_⟩;obtain⟨z,g,j⟩:=zvz B w t h;exact⟨z,g,j M⟩
 ·rename_i F G;have A:=zxr (t:=t) hu hv (λk x H y e=>F k x H y e.1 e.2) (λl x m y e=>G l x m y e.1 e.2);split at h
  ·cases he:Q9 B (Wj x || Wj y) t a b with
   |none=>rw[he]at h;cases h
   |some s =>
    rw[he]at h;cases h;obtain⟨g,j⟩:=zud (w:=w) he hu hv;exact⟨zl5 _ t x y hu hv g,.bool s,by rw[A.1];simp[j],.bool s⟩
  ·cases he:Q9 B (Wj x || Wj y) t a b with
   |none=>rw[he]at h;cases h
   |some s =>
    rw[he]at h;cases h;obtain⟨g,j⟩:=zud (w:=w) he hu hv;exact⟨zl5 _ t x y hu hv g,.bool (!s),by rw[A.2];simp[j],.bool (!s)⟩
  ·cases h
def yn{P:Program}{w:World}{g:Sem Next}{o:Option AV}(j:Rel K M F w)
  (h:∀a,o=some a→∃z,g.run P w=.ok (.value z) w∧VR M a z):Qt P K M w g (ret1 F o):=by
 cases o with
 |none=>exact trivial
 |some a=>obtain⟨z,A,B⟩:=h a rfl;exact Ph j B A
def zzy(F:Program)(op:BinOp)(t g:TypeId)(x y:Operand)(o:Oper)(ho:o.op=.binOp op t x y g):Nn F (Ny F (.binOp op t x y g)) (λG=>execOp G o):=by
 refine bu λH K L w G a b j z A=>yn j λr B=>?_
 obtain⟨C,I,D,E⟩:=zyg (w:=w) x y B z A;exact⟨I,by simp[execOp,ho,C,D],E⟩
def ju(D:Program)(op:UnOp)(t:TypeId)(x:Operand)(o:Oper)(ho:o.op=.unOp op t x):Nn D (Ny D (.unOp op t x)) (λA=>execOp A o):=by
 refine So λE F G w A a C g=>yn C λr j=>?_
 unfold unA at j;split at j
 ·rename_i k n;cases j;generalize z:A x=B at g;cases g;exact⟨.int k (k.wrap (0-n)),by simp[execOp,ho,z,Op.unary,Op.intArith],by rw[bg];exact .int _ _⟩
 ·rename_i k n;cases j;generalize z:A x=B at g;cases g;exact⟨.int k (k.wrap (BitVec.ofInt k.bits (if k.signed then -1 else k.max) ^^^ BitVec.ofInt k.bits n).toNat),by simp[execOp,ho,z,Op.unary,Op.intBits],.int _ _⟩
 ·rename_i b;cases j;generalize z:A x=B at g;cases g;exact⟨.bool (!b),by simp[execOp,ho,z,Op.unary],.bool _⟩
 ·cases j
def VRs.set{C:CM}:∀{l:List AV} {r:List Value},VRs C l r→∀(i:Nat) {a:AV} {v:Value},VR C a v→VRs C (l.set i a) (r.set i v)
 |_,_,.nil,_,_,_,_=>.nil
 |_,_,.cons _ es,0,_,_,h=>.cons h es
 |_,_,.cons e es,i+1,_,_,h=>.cons e (VRs.set es i h)
def tk{l:List AV}(h:∀a∈l,a.one=true){i:Nat}{a:AV}(j:a.one=true):∀b∈l.set i a,b.one=true:=by
 intro b z;rcases List.mem_or_eq_of_mem_set z with g|g
 ·exact h b g
 ·rw[g];exact j
def zog{C:CM}{off:Nat}:∀(l:List AV) (r:List Value) (g:List AV) (z:Array Value) (j:Nat),VRs C l r→(∀a∈l,a.one=true)→VRs C g z.toList→(∀a∈g,a.one=true) →
  VRs C (Tw g (off+j) l) ((r.zipIdx j).foldl (λg (c,j)=>g.setIfInBounds (off+j) c) z).toList∧(∀a∈Tw g (off+j) l,a.one=true)
 |[],_,g,z,j,.nil,_,h,A=>⟨h,A⟩
 |a::l,v::r,g,z,j,.cons e D,B,h,A=>by
  simp only[Tw,List.zipIdx_cons,List.foldl_cons];have:=zog (off:=off) l r (g.set (off+j) a) (z.setIfInBounds (off+j) v) (j+1) D (λb E=>B b Ai)
   (by rw[Array.toList_setIfInBounds];exact h.set _ e) (tk A (B a N))
  rw[show off+j+1=off+(j+1) from J];exact this
def zvc(v:Array Value)(off:Nat)(j:Array Value):v.zipIdx.foldl (λg (c,z)=>g.setIfInBounds (off+z) c) j=(v.toList.zipIdx 0).foldl (λg (c,z)=>g.setIfInBounds (off+z) c) j:=by
 rw[←Array.foldl_toList,Array.toList_zipIdx]
def z64{j:Nat→Option (Nat×Nat)}:∀{l:List (Nat×Operand)} {G:List Part},mr j l=some G →
  ∀{C:CM} {X:Tr AV} {I:Operand→Value},xk C X I→∀{z r:List AV} {A:Array Value},jd z G X=some r→VRs C z A.toList→(∀a∈z,a.one=true) →
  ∃H,Instr.fill j A (l.map λ(i,x)=>(i,I x))=some H∧VRs C r H.toList∧(∀a∈r,a.one=true)
 |[],G,h,C,X,I,K,z,r,A,g,hv,L=>by
  cases h;cases g;exact⟨A,rfl,hv,L⟩
 |(i,x)::l,G,h,C,X,I,K,z,r,A,g,hv,L=>by
  simp only[mr]at h;split at h
  ·cases h
  ·rename_i o s M;split at h
   ·cases h
   ·rename_i Y O;cases h;simp only[jd]at g;split at g
    ·cases g
    ·rename_i a Z;split at g
     ·cases g
     ·rename_i q hq;split at g
      ·rename_i D;split at g
       ·rename_i P;have B:q.length=s:=H0 D;have U:o+s≤z.length:=H6 P;obtain⟨V,k2⟩:=(K _ _ Z).cells hq;have Q:=V.length;have R:=hv.length;have T:=zog (off:=o) q _ z A 0 V k2 hv L;rw[Kr]at T;obtain⟨H,q1,q2,q3⟩:=z64 O K g T.1 T.2;refine⟨H,?_,q2,q3⟩;have e1:(I x).cells.size=s:=by rw[←B,Q];simp
        have E:¬((decide ((I x).cells.size≠s) || decide (o+(I x).cells.size>A.size))=true):=by
         intro F;simp only[ne_eq,Iy,Hz]at F;rcases F with F|F
         ·exact F e1
         ·simp at R;omega
        rw[J3];simp only[Instr.fill,M];rw[Hs E,zvc];exact q1
       ·cases g
      ·cases g
def ze8{z:Program}{w:World}:∀{l:List Field} {r:List (Nat×Nat)},zbg z l=some r →
  (l.mapM λf=>do pure (f.offset,←sizeOf f.type):Sem (List (Nat×Nat))).run z w=.ok r w
 |[],r,h=>Br
 |f::l,r,h=>by
  simp only[zbg]at h;split at h
  ·cases h
  ·rename_i s g;split at h
   ·cases h
   ·rename_i A j;cases h;simp only[List.mapM_cons,Sem.run_bind,R5 g,Result.andThen_ok,Sem.run_pure,ze8 j]
def zrq(B:Program)(t:TypeId)(g:Array (Nat×Operand)):Nn B (zp B t g) (λT=>do pure (.value (←Instr.build t (g.map λ(i,x)=>(i,T x))))):=by
 unfold zp;split
 ·exact Nz B _
 ·rename_i cs U;split
  ·rename_i j hu;split
   ·exact Nz B _
   ·rename_i pl D;split
    ·exact Nz B _
    ·rename_i X A;intro Y Z gg w gz T E F;dsimp only;split
     ·rename_i l G;obtain⟨v,i,H,I,h3,h4⟩:=ym (w:=w) U;obtain⟨K,L⟩:=Y7 (C:=Z) I;obtain⟨M,O,P,Q⟩:=z64 A F G K L;refine Ph E (.agg P Q) ?_;have hm:(j.mapM λf=>do pure (f.offset,←sizeOf f.type):Sem (Array (Nat×Nat))).run B w=.ok pl.toArray w:=by
       rw[Array.mapM_eq_mapM_toList];simp only[Sem.run_map,ze8 D,Result.andThen_ok]
      have R:Instr.fill (pl.toArray[·]?) v.cells (g.map λ(i,x)=>(i,T x)).toList=some M:=by
       rw[Jq];have:(λi:Nat=>pl.toArray[i]?)=(λi:Nat=>pl[i]?):=by funext i;simp
       rw[this];exact O
      simp only[Instr.build,Sem.run_bind,H,N6 hu,hm,Result.andThen_ok,R,Sem.run_pure]
     ·exact trivial
  ·rename_i n V hu;split
   ·exact Nz B _
   ·rename_i z hs;split
    ·exact Nz B _
    ·rename_i X A;intro Y Z gg w gz T E F;dsimp only;split
     ·rename_i l G;obtain⟨v,i,H,I,h3,h4⟩:=ym (w:=w) U;obtain⟨K,L⟩:=Y7 (C:=Z) I;obtain⟨M,O,P,Q⟩:=z64 A F G K L;refine Ph E (.agg P Q) ?_;have R:Instr.fill (λi=>some (i*z,z)) v.cells (g.map λ(i,x)=>(i,T x)).toList=some M:=by
       rw[Jq];exact O
      simp only[Instr.build,Sem.run_bind,H,N6 hu,R5 hs,Result.andThen_ok,R,Sem.run_pure]
     ·exact trivial
  ·exact Nz B _
end
section
open Go.RowKit (Below)
def z5v(l:List AV):∀n,(S8 l n).length=n*l.length
 |0=>by simp[S8]
 |n+1=>by rw[S8,H4,z5v l n,Ll];omega
def z4l{l:List AV}(h:∀a∈l,a.one=true):∀n,∀a∈S8 l n,a.one=true
 |0,a,g=>by simp[S8]at g
 |n+1,a,g=>by
  rw[S8,Ih]at g;rcases g with g|g
  ·exact h a g
  ·exact z4l h n a g
def Sx(l:List Value):Nat→List Value
 |0=>[]
 |n+1=>l++Sx l n
def z4k{C:CM}{l:List AV}{r:List Value}(h:VRs C l r):∀n,VRs C (S8 l n) (Sx r n)
 |0=>.nil
 |n+1=>h.append (z4k h n)
def ziw(l:List Value):∀n,(Sx l n).length=n*l.length
 |0=>by simp[Sx]
 |n+1=>by rw[Sx,H4,ziw l n,Ll];omega
def zu0(l:List Value):∀(n i:Nat),i<n*l.length→(Sx l n)[i]?=l[i%l.length]?
 |0,i,h=>Bn
 |n+1,i,h=>by
  rw[Ll]at h;rw[Sx];by_cases hi:i<l.length
  ·rw[Hx hi,In hi]
  ·have j:0<l.length:=by
    rcases Nat.eq_zero_or_pos l.length with g|g
    ·rw[g]at h;omega
    ·exact g
   rw[H9 J,zu0 l n _ J,Nat.mod_eq_sub_mod (J:l.length≤i)]
def zbs(g:Array Value)(n:Nat):((Array.range (n*g.size)).map λi=>g[i%g.size]!).toList=Sx g.toList n:=by
 apply Ln;intro i;rw[Jq,Jj];by_cases hi:i<n*g.size
 ·rw[zu0 _ _ _ Cn];have z:0<g.size:=by
   rcases Nat.eq_zero_or_pos g.size with j|j
   ·rw[j]at hi;omega
   ·exact j
  have hm:i%g.size<g.size:=Ix _ z;simp[hi,hm,getElem!_pos]
 ·have A:(Sx g.toList n).length≤i:=by rw[ziw];simp;omega
  rw[Jz A,Jz Cn];rfl
def w8(f:Nat→Value):(Array.range 0).map f=#[]:=N
def zcb(g:Nat):∀(q:List (Value×Nat)) (a:Array Value),(q.foldl (λj (c,z)=>j.setIfInBounds (g+z) c) a).size=a.size
 |[],_=>rfl
 |x::q,a=>by rw[List.foldl_cons,zcb g q];simp
def zjj{pl:Nat→Option (Nat×Nat)}:∀{g:List (Nat×Value)} {a b:Array Value},Instr.fill pl a g=some b→b.size=a.size
 |[],_,_,h=>Br
 |(i,v)::g,a,b,h=>by
  simp only[Instr.fill]at h;split at h
  ·cases h
  ·split at h
   ·cases h
   ·rw[zjj h,←Array.foldl_toList,zcb]
def zuo{C:CM}{w:World}(L:Rel K C F w)(t:TypeId){l:List AV}{o len esz:Nat}{cs:Array Value}(M:newObj F l=some (o,vY))
  (hv:VRs C l cs.toList) (O:∀a∈l,a.one=true) {cap:Nat} (R:cap*esz=l.length) (j:len≤cap)
  {H:Sem Next} (A:H.run B w=.ok (.value (.slice (some ⟨w.heap.size,0,none⟩) len cap)) (w.alloc (.cells cs t))):f7 B K C w H (.sl o 0 0 len esz (some cap)) vY:=by
 have g:l.length=cs.toList.length:=hv.length;have D:l.length=cs.size:=A2
 obtain⟨P,z,E,G⟩:=L.newRow M t (0,0) (vs:=cs) J (by rw[g,Ki];exact hv) O N;have I:len*esz≤cap*esz:=H8 _ j;refine⟨P,_,_,z,E,?_,.inl A⟩;have:=VR.sl (i:=0) (len:=len) (esz:=esz) (room:=some cap) (cap:=cap) G Bj Bj j (λr Q=>by cases Q;exact⟨rfl,Bj⟩) (λh=>An);simpa using this
def zgd(G:Program)(t:TypeId)(len:Nat)(j:Array (Nat×Operand)) :
  Nn G (xd G t len j) (λV=>do pure (.value (←Instr.buildSlice t len (j.map λ(i,x)=>(i,V x))))):=by
 unfold xd;split
 ·rename_i A hu;split
  ·exact Nz G _
  ·rename_i g F;split
   ·exact Nz G _
   ·rename_i gz X;split
    ·rename_i z;obtain⟨Y,P⟩:=z;split
     ·exact Nz G _
     ·rename_i ps H;intro w0 C gA w gC V Z hρ;dsimp only;split
      ·rename_i l hl;split
       ·rename_i o H' hn;obtain⟨v,i,h1,h2,h3,h4⟩:=ym (w:=w) X;obtain⟨I,k2⟩:=Y7 (C:=C) h2;have K:v.cells.size=g:=by
         have B:=I.length;unfold Ot at F;rw[h3]at F;simp at F B;omega
        have gg:gz.length=g:=by have B:=I.length;simp at B;omega
        have D:VRs C (S8 gz len) ((Array.range (len*g)).map λi=>v.cells[i%v.cells.size]!).toList:=by
         rw[←K,zbs];exact z4k I len
        obtain⟨Q,R,T,q3⟩:=z64 H hρ hl D (z4l k2 len);have L:l.length=len*g:=by
         have B:=T.length;have e3:=zjj R;simp at e3 B;omega
        refine zuo Z A hn T q3 L.symm (Hw _) ?_;have U:Instr.fill (λi=>some (i*g,g)) ((Array.range (len*g)).map λi=>v.cells[i%v.cells.size]!) (j.map λ(i,x)=>(i,V x)).toList=some Q:=by
         rw[Jq];exact R
        have E:¬(len*g>2^24):=J
        simp only[Instr.buildSlice,Sem.run_bind,N6 hu,R5 F,Result.andThen_ok,Sem.run_ite,Hs E];by_cases M:len*g=0
        ·rw[Hv M];have O:Instr.fill (λi=>some (i*g,g)) ((Array.range (len*g)).map λi=>(#[]:Array Value)[i%(#[]:Array Value).size]!) (j.map λ(i,x)=>(i,V x)).toList=some Q:=by
          rw[←U,M,w8,w8]
         simp only[Sem.run_pure,Result.andThen_ok,O,newRow,Sem.run_bind,run_newObj];rfl
        ·rw[Hs M];simp only[Sem.run_bind,h1,Sem.run_pure,Result.andThen_ok,U,newRow,run_newObj];rfl
       ·exact trivial
      ·exact trivial
    ·exact Nz G _
 ·exact Nz G _
def zm6(A:Program)(t:TypeId)(l c:Operand):Nn A (yr A t l c) (λI=>do pure (.value (←Instr.makeSlice t (I l) (I c)))):=by
 unfold yr;split
 ·rename_i g hu;split
  ·exact Nz A _
  ·rename_i i hi;split
   ·exact Nz A _
   ·rename_i gg Q;split
    ·rename_i j;obtain⟨K,B⟩:=j;refine bu λw0 C gz w I a b R L M=>?_
     split
     ·rename_i x y;split
      ·rename_i D;split
       ·rename_i T;split
        ·rename_i o H' U;have z:x≤y:=H6 D;have E:y≤1048576:=H6 T;obtain⟨v,gA,V,X,O,Y⟩:=ym (w:=w) Q;obtain⟨P,Z⟩:=Y7 (C:=C) X;rw[hi]at O;cases O;have F:v.cells.size=i.size:=by have G:=P.length;simp at G;omega
         generalize I l=pl at L;generalize I c=pc at M;cases L;cases M;refine zuo R g U (cs:=(Array.range (y*i.size)).map λk=>v.cells[k%v.cells.size]!) (by rw[←F,zbs];exact z4k P y) (z4l Z y) (by rw[z5v,Y]) z ?_;have G:IntKind.i64.wrap (Int.ofNat x)=Int.ofNat x:=As
         have e2:IntKind.i64.wrap (Int.ofNat y)=Int.ofNat y:=As
         have e3:i.bytes*y≤65536*1048576:=Jr B E;have e4:¬((decide (Int.ofNat y<0) || decide ((i.bytes:Int)*Int.ofNat y>2^48) || decide (Int.ofNat x<0) || decide (Int.ofNat x>Int.ofNat y))=true):=by
          have e5:((i.bytes:Int)*Int.ofNat y)=((i.bytes*y:Nat):Int):=N
          rw[e5];simp only[Iy,Hz,not_or];refine⟨⟨⟨N,Ab⟩,N⟩,Ab⟩
         simp only[Instr.makeSlice,Sem.run_bind,N6 hu,mz hi,asInt,asIntOf,Sem.run_pure,Result.andThen_ok,G,e2,Sem.run_ite,Hs e4,run_askRoom,R5 (show Ot A g=some i.size from E5)];have e6:(Int.ofNat y).toNat=y:=rfl;have e7:(Int.ofNat x).toNat=x:=rfl;rw[e6,e7];by_cases H:y*i.size=0
         ·rw[Hv H];simp only[Sem.run_pure,Result.andThen_ok,newRow,Sem.run_bind,run_newObj];have:((Array.range (y*i.size)).map λk=>(#[]:Array Value)[k%(#[]:Array Value).size]!)=((Array.range (y*i.size)).map λk=>v.cells[k%v.cells.size]!):=by rw[H,w8,w8]
          rw[this];rfl
         ·rw[Hs H];simp only[Sem.run_bind,V,Sem.run_pure,Result.andThen_ok,newRow,run_newObj];rfl
        ·exact trivial
       ·exact trivial
      ·exact trivial
     ·exact trivial
    ·exact Nz A _
 ·exact Nz A _
def zm4(j:Program)(t:TypeId)(x:Operand):Nn j (z98 j t x) (λB=>do pure (.value (←Instr.makeInterface t (B x)))):=by
 unfold z98;split
 ·exact Nz j _
 ·rename_i d g hu;refine So λC D E w B a z A=>Ph z (.iface A) ?_
  simp only[Instr.makeInterface,Sem.run_bind,N6 hu,Result.andThen_ok];cases d<;>first|rfl|exact absurd hu (g _)
 ·exact Nz j _
def zq0(D:Program)(f:Fn)(first cap:Array Operand)(z:∀l,f≠.yield l):Nn D (zd6 f first cap) (λg=>do pure (.value (←Instr.makeFunc f (first.map g) (cap.map g)))):=by
 intro E F G w H g A j;unfold zd6;dsimp only;split
 ·rename_i l B;split
  ·rename_i r C;refine Ph A (.fn (.same f z) (l':=first.map g) (r':=cap.map g) ?_ ?_) rfl
   ·rw[Jq];exact z77 j B
   ·rw[Jq];exact z77 j C
  ·exact trivial
 ·exact trivial
def zkt{w:World}(j:Rel K M F w){z:Sem Next}(g:z.run B w=.ok (.value (.map (some w.heap.size))) (w.alloc (.map #[] 0))) :
  Qt B K M w z (Zv F):=by
 unfold Zv;obtain⟨C,D⟩:=j.push (.map [] 0) (.map #[] 0) 0 0 (λE A=>by
  rw[CM.ext_same]at A;cases A;exact⟨j.low.size,#[],ln _ _,.nil⟩)
 exact⟨_,_,_,D,C,.map (CM.ext_same _ _ _ _),.inl g⟩
def zsa(A:Program)(t:TypeId)(r:Option Operand):Nn A (xh A t r) (λz=>do pure (.value (←Instr.makeMap t (r.map z)))):=by
 unfold xh;split
 ·intro B D E w H z g F;exact zkt g (by simp[Instr.makeMap])
 ·rename_i x;split
  ·rename_i k e hu;refine So λB D E w z a g j=>?_
   split
   ·generalize C:z x=G at j;cases j;exact zkt g (by simp[Instr.makeMap,N6 hu,C,asInt,asIntOf])
   ·exact trivial
  ·exact Nz A _
def zho(z:Program)(t:TypeId)(x:Operand)(f:Nat):Nn z (z59 z t x f) (λB=>do pure (.value (←Instr.fieldAt t (B x) f))):=by
 unfold z59;split
 ·rename_i g hu;split
  ·exact Nz z _
  ·rename_i fd C;split
   ·exact Nz z _
   ·exact Nz z _
   ·rename_i n D E;refine So λH L M w B a F A=>?_
    split
    ·rename_i o v i;generalize I:B x=K at A;cases A with
     |ptr G =>
      refine Ph F (.ptr (i:=i+fd.offset) G) ?_;have j:n≠0:=D;simp[Instr.fieldAt,N6 hu,C,Instr.sureAddr,fieldPlace,R5 E,j,uu]
    ·exact trivial
 ·exact Nz z _
def zsj(A:Program)(t:TypeId)(x:Operand)(f:Nat):Nn A (zhh A t x f) (λB=>do pure (.value (←Instr.field t (B x) f))):=by
 unfold zhh;split
 ·rename_i g hu;split
  ·exact Nz A _
  ·rename_i fd C;split
   ·rename_i P n D E;refine So λK Q R w B a F j=>?_
    split
    ·generalize L:B x=M at j;cases j with
     |agg j z =>
      refine yn F λr G=>?_
      obtain⟨O,H,I⟩:=zeq (w:=w) D E G j z;exact⟨O,by simp[Instr.field,N6 hu,C,asAgg,H],I⟩
    ·exact trivial
   ·exact Nz A _
 ·exact Nz A _
end
section
open Go.RowKit (Below)
def z7e{l c:Nat}(e:Nat)(h:l≤c):l*e+(c-l)*e=c*e:=by
 rw[←Im];congr 1;omega
def Zc(r:Option Nat)(v:Option Value):Prop:=match r with
 |none=>v=none
 |some n=>∃k,v=some (.int k (Int.ofNat n))
def Xj{g:Operand→Value}(j:xk M P g){x:Option Operand}{r:Option Nat}(h:(Px x).run P=some r):Zc r (x.map g):=by
 cases x with
 |none=>cases h;rfl
 |some x =>
  unfold Px at h;dsimp only at h;split at h
  ·rename_i k n z;cases h;have:=j _ _ z;generalize hv:g x=v at this;cases this;exact⟨k,by simp[hv]⟩
  ·cases h
def vn{w:World}(k:IntKind){n y:Nat}(c:BoundsCode)(h:n≤y):(Instr.sliceBound (.int k (Int.ofNat n)) y c).run B w=.ok n w:=by
 have:(0:Int)≤Int.ofNat n∧Int.ofNat n≤(y:Int):=⟨N,Ab⟩;simp only[Instr.sliceBound,asIntOf,Sem.run_bind,Sem.run_pure,Result.andThen_ok,Sem.run_ite,Hv this];rfl
def z3r{P:Program}{w:World}(g:Bool){len cap:Nat}{hi mx:Option Nat}{a b c:Option Value}(A:Zc vO a)(C:Zc hi b)(E:Zc mx c)
  (hm:mx.isSome=true→hi.isSome=true) (j:vO.getD 0≤hi.getD len) (z:hi.getD len≤mx.getD cap) (B:mx.getD cap≤cap) :
  (Instr.sliceBounds g len cap a b c).run P w=.ok (vO.getD 0,hi.getD len,mx.getD cap) w:=by
 cases mx with
 |none =>
  cases E;simp only[Option.getD_none]at z B;cases hi with
  |none =>
   cases C;cases vO with
   |none=>cases A;simp[Instr.sliceBounds]
   |some l =>
    obtain⟨k,rfl⟩:=A;simp only[Jg,Option.getD_none]at j;simp only[Instr.sliceBounds,Sem.run_bind,Sem.run_pure,Result.andThen_ok,vn k _ j,Option.getD]
  |some h =>
   obtain⟨k,rfl⟩:=C;simp only[Jg]at j z;cases vO with
   |none=>cases A;simp only[Instr.sliceBounds,Sem.run_bind,Sem.run_pure,Result.andThen_ok,vn k _ z,Option.getD]
   |some l =>
    obtain⟨D,rfl⟩:=A;simp only[Jg]at j;simp only[Instr.sliceBounds,Sem.run_bind,Sem.run_pure,Result.andThen_ok,vn k _ z,vn D _ j,Option.getD]
 |some m =>
  obtain⟨F,rfl⟩:=E;simp only[Jg]at z B;cases hi with
  |none=>simp at hm
  |some h =>
   obtain⟨k,rfl⟩:=C;simp only[Jg]at j z;cases vO with
   |none=>cases A;simp only[Instr.sliceBounds,Sem.run_bind,Sem.run_pure,Result.andThen_ok,vn F _ B,vn k _ z,Option.getD]
   |some l =>
    obtain⟨D,rfl⟩:=A;simp only[Jg]at j;simp only[Instr.sliceBounds,Sem.run_bind,Sem.run_pure,Result.andThen_ok,vn F _ B,vn k _ z,vn D _ j,Option.getD]
def zle{o v i l h m:Nat}{z:Loc}(B:M o v=some z)(C:l≤h)(D:h≤m)(H:i+m*g≤z.n)(I:z.d+i+m*g≤z.sz) :
  VR M (eq l h m o v i g) (.slice (some (if m=l then ⟨z.b,z.d+i,none⟩ else (⟨z.b,z.d+i,none⟩:Addr).add (l*g))) (h-l) (m-l)):=by
 unfold eq;split
 ·rename_i he;have j:l=m:=H0 he;subst j;have:h=l:=J
  subst this;rw[Hv rfl,Kt];split
  ·exact .sl B J J (Hw _) (λr A=>by cases A;exact⟨rfl,J⟩) (λe=>Aq)
  ·exact .emp
 ·rename_i he;have j:¬m=l:=λe=>by rw[e,It]at he;cases he
  rw[Hs j,uu];have K:=z7e g (Is C D);have L:=z7e g C;have O:h*g≤m*g:=H8 _ D;have E:Nat.add i (Nat.mul l g)=i+l*g:=rfl;have F:Nat.sub h l=h-l:=rfl;have G:Nat.sub m l=m-l:=rfl;rw[E,F,G];exact .sl B J J J (λr A=>by cases A;exact⟨rfl,J⟩) (λe=>Aq)
def zeg{o v i len l h cap:Nat}{room mx:Option Nat}{r:AV}{C:Loc}(H:M o v=some C)(Y:i+len*g≤C.n)(U:C.d+i+cap*g≤C.sz)(Z:len≤cap)
  (V:∀r,room=some r→cap=r∧i+r*g≤C.n) (h5:room=none→C.d+i+cap*g=C.sz) (z:yz l h (room.getD len) mx o v i g room=some r) :
  l≤h∧h≤mx.getD cap∧mx.getD cap≤cap ∧
  VR M r (.slice (some (if mx.getD cap=l then ⟨C.b,C.d+i,none⟩ else (⟨C.b,C.d+i,none⟩:Addr).add (l*g))) (h-l) (mx.getD cap-l)):=by
 unfold yz at z;split at z
 ·cases z
 ·rename_i I;have j:l≤h:=H6 I;split at z
  ·cases z
  ·rename_i K;have A:h≤room.getD len:=H6 K;have L:room.getD len≤cap∧i+room.getD len*g≤C.n:=by
    cases room with
    |none=>exact⟨Z,Y⟩
    |some r=>obtain⟨E,F⟩:=V r rfl;exact⟨Ai,F⟩
   split at z
   ·rename_i m;split at z
    ·cases z
    ·rename_i O;have D:h≤m:=H6 O;split at z
     ·cases z
     ·rename_i P;have G:m≤room.getD len:=H6 P;cases z;have E:m*g≤room.getD len*g:=H8 _ G;have F:m*g≤cap*g:=H8 _ J;exact⟨j,D,Ab,zle H j D J J⟩
   ·split at z
    ·rename_i rr;cases z;obtain⟨E,F⟩:=V rr rfl;subst E;exact⟨j,A,Hw _,zle H j A F U⟩
    ·have Q:=h5 rfl;simp only[Option.getD_none]at A ⊢;have q3:h*g≤len*g:=H8 _ A;split at z
     ·rename_i X;have R:l=0:=H0 X;subst R;cases z;refine⟨j,J,Hw _,?_⟩;have e:(if cap=0 then (⟨C.b,C.d+i,none⟩:Addr) else (⟨C.b,C.d+i,none⟩:Addr).add (0*g))=⟨C.b,C.d+i,none⟩:=by
       split
       ·rfl
       ·rw[uu];simp
      rw[e];exact .sl H J Cz J (λr T=>by cases T) (λ_=>by simpa using Q)
     ·rename_i X;split at z
      ·rename_i B;have e:l=h:=H0 B;subst e;cases z;refine⟨j,J,Hw _,?_⟩;rw[Kt];exact .emp
      ·rename_i B;have gg:¬l=h:=λe=>by rw[e,It]at B;cases B
       cases z;refine⟨j,J,Hw _,?_⟩;rw[Hs J,uu];have E:=z7e g (J:l≤cap);have F:=z7e g j;have e1:Nat.add i (Nat.mul l g)=i+l*g:=rfl;have e2:Nat.sub h l=h-l:=rfl;rw[e1,e2];exact .sl H J J J (λr T=>by cases T) (λ_=>J)
def zbj{g:Type}(f:vU→g)(x:Option vU):(x.map f).isSome=x.isSome:=by cases x<;>rfl
def Zc.isSome{r:Option Nat}{v:Option Value}(h:Zc r v):r.isSome=v.isSome:=by
 cases r with
 |none=>rw[show v=none from h];rfl
 |some n=>obtain⟨k,rfl⟩:=h;rfl
def zs9(P:Program)(t:TypeId)(x:Operand)(lo hi mx:Option Operand) :
  Nn P (ol P t x lo hi mx) (λI=>do pure (.value (←Instr.sliceAt t (I x) (lo.map I) (hi.map I) (mx.map I)))):=by
 unfold ol;split
 ·rename_i hu;split
  ·exact Nz P _
  ·intro w0 gI gK w gL I E j;dsimp only;split
   ·rename_i len n l h F G H;split
    ·rename_i h1;split
     ·rename_i h2;have Y:l.getD 0≤h.getD len:=H6 h1;have K:h.getD len≤len:=H6 h2;have hv:=j _ _ F;have z:=Xj j G;have g:=Xj j H;generalize I x=X at hv;cases hv with
      | @str _ _ s L M =>
       subst L M;have B:=z3r (P:=P) (w:=w) false (len:=s.size) (cap:=s.size) (mx:=none) (c:=none) z g rfl N Y Cw N;refine Ph E (x:=.string (s.extract (l.getD 0) (h.getD s.size))) (.str ?_ ?_) ?_
       ·rw[Lib.extract_data];have:(s.data.toList.length)=s.size:=rfl;simp;rw[this]at K;omega
       ·rw[Lib.extract_data,packL_take,packL_drop];rfl
       ·simp only[Instr.sliceAt,Sem.run_bind,N6 hu,Result.andThen_ok,Instr.slice,Option.map_none,Option.isSome_none];simp[B]
     ·exact trivial
    ·exact trivial
   ·exact trivial
 ·rename_i O hu;split
  ·exact Nz P _
  ·rename_i Z;split
   ·exact Nz P _
   ·rename_i C Q;intro w0 gI gK w gL I E j;dsimp only;split
    ·rename_i o v i len gg gG l h m F G H hm;refine yn E λr D=>?_
     have hv:=j _ _ F;have z:=Xj j G;have g:=Xj j H;have A:=Xj j hm;generalize I x=X at hv;cases hv with
     | @sl _ _ _ _ _ _ gM cap R q1 q2 q3 q4 q5 =>
      unfold U4 at D;split at D
      ·cases D
      ·rename_i gz;have T:gg=C:=H0 gz;subst T;obtain⟨k1,k2,k3,k4⟩:=zeg R q1 q2 q3 q4 q5 D;have B:=z3r (P:=P) (w:=w) true (len:=len) (cap:=cap) z g A (by
        rw[A.isSome,g.isSome,zbj,zbj];intro e;cases hi<;>simp_all) k1 k2 k3
       refine⟨_,?_,k4⟩;simp only[Instr.sliceAt,Sem.run_bind,N6 hu,Result.andThen_ok,Instr.slice,B,R5 Q,Sem.run_pure,Jt];split<;>simp_all
    ·rename_i l h F G H hm;split
     ·rename_i h0;have gA:l.getD 0+h.getD 0=0:=H0 h0;have hv:=j _ _ F;have z:=Xj j G;have g:=Xj j H;have A:=Xj j hm;generalize I x=X at hv;cases hv;have B:=z3r (P:=P) (w:=w) true (len:=0) (cap:=0) z g A N J Ab N;refine Ph E .nilSl ?_;have L:l.getD 0=0:=J
      have M:h.getD 0=0:=J
      rw[L,M]at B;simp only[Instr.sliceAt,Sem.run_bind,N6 hu,Result.andThen_ok,Instr.slice,B,R5 Q,Sem.run_pure];simp
     ·exact trivial
    ·rename_i l h F G H hm;split
     ·rename_i h0;have gA:l.getD 0+h.getD 0=0:=H0 h0;have hv:=j _ _ F;have z:=Xj j G;have g:=Xj j H;have A:=Xj j hm;generalize I x=X at hv;cases hv with
      | @emp a cap =>
       have B:=z3r (P:=P) (w:=w) true (len:=0) (cap:=cap) z g A N J Ab N;have L:l.getD 0=0:=J
       have M:h.getD 0=0:=J
       rw[L,M]at B;refine Ph E (x:=.slice (some (if cap=0 then a else a.add 0)) 0 cap) .emp ?_;simp only[Instr.sliceAt,Sem.run_bind,N6 hu,Result.andThen_ok,Instr.slice,B,R5 Q,Sem.run_pure];simp;split<;>rfl
     ·exact trivial
    ·exact trivial
 ·rename_i n O hu;split
  ·exact Nz P _
  ·rename_i Z;split
   ·exact Nz P _
   ·rename_i C Q;intro w0 gI gK w gL I E j;dsimp only;split
    ·rename_i o v i l h m F G H hm;split
     ·rename_i c U gC hg;split
      ·rename_i gD;split
       ·rename_i gE;have gH:i+n*C≤U:=H6 gE;have V:v=gC:=H0 gD;subst V;refine yn E λr D=>?_
        have hv:=j _ _ F;have z:=Xj j G;have g:=Xj j H;have A:=Xj j hm;generalize I x=X at hv;cases hv with
        | @ptr _ _ _ gM R =>
         unfold U4 at D;simp only[It]at D;have gF:=E.obj o _ (E.fresh _ _ _ R) hg;obtain⟨p1,_,p3,_⟩:=gF gM R;obtain⟨k1,k2,k3,k4⟩:=zeg (cap:=n) (len:=n) (room:=some n) R J J (Hw _) (λr D=>by cases D;exact⟨rfl,J⟩) (λe=>Aq) D;have B:=z3r (P:=P) (w:=w) false (len:=n) (cap:=n) z g A (by
          rw[A.isSome,g.isSome,zbj,zbj];intro e;cases hi<;>simp_all) k1 k2 k3
         refine⟨_,?_,k4⟩;simp only[Instr.sliceAt,Instr.sureAddr,Sem.run_bind,N6 hu,Result.andThen_ok,B,R5 Q,Sem.run_pure]
       ·exact trivial
      ·exact trivial
     ·exact trivial
    ·exact trivial
 ·exact Nz P _
end
section
open Go.RowKit (Below)
def zi0(M:Program)(t:TypeId)(x D:Operand):Nn M (z5e M t x D) (λE=>do pure (.value (←Instr.indexAt t (E x) (E D)))):=by
 unfold z5e;split
 ·rename_i j hu;split
  ·exact Nz M _
  ·rename_i g F;refine bu λP T U w E a b G z A=>?_
   split
   ·rename_i o v i len B O k n;split
    ·rename_i C;split
     ·rename_i he;have H:n<len:=by rw[Rp]at C;simpa using C
      have I:B=g:=H0 he;subst I;generalize E x=Q at z;generalize E D=R at A;cases A;cases z with
      |sl K =>
       refine Ph G (.ptr (i:=i+n*B) K) ?_;have L:(0:Int)≤Int.ofNat n∧Int.ofNat n<(len:Int):=⟨N,Ab⟩;simp only[Instr.indexAt,asIntOf,Sem.run_bind,Sem.run_pure,Result.andThen_ok,N6 hu,Sem.run_ite,Hv L,R5 F];rw[uu];rfl
     ·exact trivial
    ·exact trivial
   ·exact trivial
 ·rename_i len j hu;split
  ·exact Nz M _
  ·rename_i g F;refine bu λP T U w E a b G z A=>?_
   split
   ·rename_i o v i k n;split
    ·rename_i C;have H:n<len:=by rw[Rp]at C;simpa using C
     generalize E x=Q at z;generalize E D=R at A;cases A;cases z with
     |ptr K =>
      refine Ph G (.ptr (i:=i+n*g) K) ?_;have L:(0:Int)≤Int.ofNat n∧Int.ofNat n<(len:Int):=⟨N,Ab⟩;simp only[Instr.indexAt,asIntOf,Instr.sureAddr,Sem.run_bind,Sem.run_pure,Result.andThen_ok,N6 hu,Sem.run_ite,Hv L,R5 F];rw[uu];rfl
    ·exact trivial
   ·exact trivial
 ·exact Nz M _
def zsu(L:Program)(t:TypeId)(x D:Operand):Nn L (zjf L t x D) (λE=>do pure (.value (←Instr.index t (E x) (E D)))):=by
 unfold zjf;split
 ·rename_i hu;refine bu λO gg gz w E a b F g z=>?_
  split
  ·rename_i len n k i;split
   ·rename_i A;have j:i<len:=by rw[Rp]at A;simpa using A
    generalize E x=P at g;generalize E D=Q at z;cases z;cases g with
    | @str _ _ s G R =>
     subst G R;have hi:i<s.size:=j;have H:s.data.toList[i]?=some s[i]:=by
      rw[Ht Bg];rfl
     have T:=zhm H;refine Ph F (x:=.int .u8 s[i].toNat) ?_ ?_
     ·have:Int.ofNat (Nat.mod (Nat.div (On s.data.toList) (Nat.pow 256 i)) 256)=(s[i].toNat:Int):=by
       show ((On s.data.toList/256^i%256:Nat):Int)=_;rw[T]
      rw[this];exact .int _ _
     ·simp only[Instr.index,asIntOf,Sem.run_bind,Sem.run_pure,Result.andThen_ok,N6 hu];have U:(0:Int)≤Int.ofNat i:=N
      rw[Hv U];have:s[(Int.ofNat i).toNat]?=some s[i]:=by
       show s[i]?=some s[i];simp[hi]
      rw[this];rfl
   ·exact trivial
  ·exact trivial
 ·rename_i len B hu;split
  ·rename_i gA C H M;refine bu λO gg gz w E a b F g z=>?_
   split
   ·rename_i l k n;split
    ·rename_i A;have j:n<len:=by rw[Rp]at A;simpa using A
     generalize E x=P at g;generalize E D=Q at z;cases z;cases g with
     |agg g I =>
      refine yn F λr V=>?_
      obtain⟨Z,X,Y⟩:=zeq (w:=w) H M V g I;refine⟨Z,?_,Y⟩;have G:(0:Int)≤Int.ofNat n∧Int.ofNat n<(len:Int):=⟨N,Ab⟩;have K:(part B _ ((Int.ofNat n).toNat*C)).run L w=.ok Z w:=X;simp only[Instr.index,asIntOf,Sem.run_bind,Sem.run_pure,Result.andThen_ok,N6 hu,Sem.run_ite,Hv G,R5 M,K]
    ·exact trivial
   ·exact trivial
  ·exact Nz L _
 ·exact Nz L _
def zi7{F:CM}:∀{l:List AV} {n:Nat} {vs:List Value},Vy.bytesA l=some n→VRs F l vs→∃g:List UInt8,g.length=l.length∧On g=n∧vs=g.map (λb=>Value.int .u8 (b.toNat:Int))
 |[],n,_,h,.nil=>by cases h;exact⟨[],rfl,rfl,rfl⟩
 |a::l,n,_,h,.cons e A=>by
  unfold Vy.bytesA at h;split at h
  ·rename_i j;cases j
  ·rename_i b G j;cases j;split at h
   ·rename_i z;split at h
    ·rename_i m hm;cases h;have B:b<256:=by rw[Rp]at z;simpa using z
     cases e;obtain⟨g,C,D,E⟩:=zi7 hm A;have hu:(UInt8.ofNat b).toNat=b:=Ab
     exact⟨UInt8.ofNat b::g,Al,by rw[On,hu,D],by rw[J3,hu,E];rfl⟩
    ·cases h
   ·cases h
  ·cases h
def zin(g:List UInt8):(strOfNums (g.map λb=>(b.toNat:Int))).data.toList=g:=by
 simp[strOfNums,Function.comp_def]
def zms(w:World)(e:TypeId)(s:ByteArray):Lib.bytesWorld w e s=w.drew.alloc (.cells (Lib.bytesCells w e s) e ((Lib.bytesCells w e s).size,(Lib.bytesCells w e s).size+1)):=by
 have g:(Lib.bytesWorld w e s).heap=(w.drew.alloc (.cells (Lib.bytesCells w e s) e ((Lib.bytesCells w e s).size,(Lib.bytesCells w e s).size+1))).heap:=by
  apply Array.ext_getElem?;intro i;rcases Nat.lt_trichotomy i w.heap.size with h|h|h
  ·rw[Lib.bytesWorld_at_old w e s i h,z6x w.drew _ (show i<w.drew.heap.size from h)];rfl
  ·subst h;rw[Lib.bytesWorld_at_new];exact (ln w.drew _).symm
  ·rw[Lq (by rw[Lib.bytesWorld_size];omega),Lq (by rw[World.size_alloc];show w.heap.size+1≤i;omega)]
 show ({ heap:=(Lib.bytesWorld w e s).heap,tape:=w.tape,drawn:=w.drawn+1,os:=w.os,output:=w.output }:World)=_;rw[g];rfl
def zwh(P:Program)(z A:TypeId)(x:Operand):Nn P (Vy P z A x) (λI=>do pure (.value (←convert z A (I x)))):=by
 unfold Vy;split
 ·rename_i s k D hd;refine So λO gg gz w I a B j=>?_
  split
  ·rename_i k' n;generalize I x=K at j;cases j;refine Ph B (x:=.int k (k.wrap n)) (by rw[bg];exact .int _ _) ?_;simp only[convert,Sem.run_bind,N6 D,N6 hd,Result.andThen_ok,Conv.intToInt,Sem.run_pure]
  ·exact trivial
 ·rename_i e D hd;split
  ·rename_i he;refine So λO gg gz w I a B j=>?_
   split
   ·generalize I x=K at j;cases j;refine Ph B (x:=.string .empty) (.str rfl rfl) ?_;simp only[Sem.run_bind,run_convert_bytes_nil w z e D he 0 0 A hd,Result.andThen_ok,Sem.run_pure]
   ·rename_i o v i len Y;split
    ·rename_i l hl;split
     ·rename_i n L;generalize I x=K at j;cases j with
      | @sl _ _ _ _ _ _ gC cap hL =>
       obtain⟨vs,Z,Q,h3,h4,h5,h6⟩:=B.read P hl hL;obtain⟨M,q1,q2,q3⟩:=zi7 L Q;have H:M.length=len:=J
       refine Ph B (x:=.string (strOfNums (M.map λb=>(b.toNat:Int)))) (.str (by rw[zin,H]) (by rw[zin,q2])) ?_;have R:=run_convert_bytes_arg (P:=P) w z e D he gC.b (gC.d+i) len cap (M.map λb=>(b.toNat:Int)) A1 (λgD hj=>by
        rw[J2,h6 gD hj,q3];simp[Jj,Ht (J:gD<M.length),List.getD]) A hd
       simp only[Sem.run_bind,R,Result.andThen_ok,Sem.run_pure]
     ·exact trivial
    ·exact trivial
   ·exact trivial
  ·exact Nz P _
 ·rename_i s gA D hd;refine So λO gg gz w I a B j=>?_
  split
  ·rename_i l n;have T:=j;generalize hx:I x=K at j;cases j;refine Ph B T ?_;rw[hx];cases s<;>simp_all [convert,N6 D,N6 hd]
  ·exact trivial
 ·rename_i s e D hd;split
  ·rename_i he hz;refine So λO gg gz w I a B j=>?_
   split
   ·rename_i len n;split
    ·rename_i o H' L;generalize I x=K at j;cases j with
     | @str _ _ g Z Q =>
      subst Z Q;rw[unpack_pack]at L;have E:g.size≤grownCap w g.size 0 e:=grownCap_ge w g.size 0 e;have C:VRs gg ((g.data.toList.map (·.toNat)).map λ(b:Nat)=>AV.int .u8 (Int.ofNat b)) (g.data.toList.map λb=>Value.int .u8 (b.toNat:Int)):=by
       generalize g.data.toList=q
       induction q with
       |nil=>exact .nil
       |cons b q ih=>exact .cons (.int _ _) ih
      have F:(Lib.bytesCells w e g).size=grownCap w g.size 0 e:=by simp[Lib.bytesCells];omega
      have G:((g.data.toList.map (·.toNat)).map λ(b:Nat)=>AV.int .u8 (Int.ofNat b)).length=g.size:=N
      obtain⟨C',U,V,X⟩:=B.drew.newRow L e ((Lib.bytesCells w e g).size,(Lib.bytesCells w e g).size+1) (vs:=Lib.bytesCells w e g) (by rw[G,F];exact E)
       (by
        rw[G];have:(Lib.bytesCells w e g).toList.take g.size=g.data.toList.map λb=>Value.int .u8 (b.toNat:Int):=by
         simp only[Lib.bytesCells,La,Jq];rw[Lz N,H7 N]
        rw[this];exact C)
       (by intro a j;simp only[Mb]at j;obtain⟨b,_,rfl⟩:=j;rfl) (λi hi=>Bj)
      refine⟨C',_,.slice (some ⟨w.heap.size,0,none⟩) g.size (grownCap w g.size 0 e),U,V,?_,.inl ?_⟩
      ·have:=VR.sl (i:=0) (len:=g.size) (esz:=1) (room:=none) (cap:=grownCap w g.size 0 e) X (by rw[G];dsimp only;omega) (by rw[F];dsimp only;omega) E (λr R=>by cases R) (λ_=>by rw[F];simp);simpa using this
      ·simp only[Sem.run_bind,Lib.run_convert_string_bytes w z A e g D hd he,Result.andThen_ok,Sem.run_pure,zms]
    ·exact trivial
   ·exact trivial
  ·exact Nz P _
 ·exact Nz P _
def zml(F:Program)(x:Operand)(i:Nat):Nn F (zgt x i) (λz=>do pure (.value (←Instr.extract (z x) i))):=by
 unfold zgt;refine So λG I K w z a A g=>?_
 split
 ·generalize z x=H at g;cases g with
  | @tup _ B g =>
   refine yn A λr C=>?_
   obtain⟨v,D,E⟩:=g.get C;have j:B[i]?=some v:=Ee
   exact⟨v,by simp[Instr.extract,j],E⟩
 ·exact trivial
def znw(G:Program)(x:Operand)(K g:TypeId)(ok:Bool):Nn G (zco G x g ok) (λI=>do pure (.value (←Instr.typeAssert (I x) K g ok))):=by
 unfold zco;split
 ·exact Nz G _
 ·rename_i d j hu;split
  ·exact Nz G _
  ·rename_i Q L;refine So λO P R w I a E z=>?_
   obtain⟨H,B,F⟩:=zp5 (w:=w) L;have D:=zjy (C:=P) F;split
   ·generalize I x=M at z;cases z;cases ok with
    |false=>exact trivial
    |true =>
     refine Ph E (x:=.tuple #[H,.bool false]) (.tup (.cons D (.cons (.bool _) .nil))) ?_;simp only[Instr.typeAssert,Sem.run_bind,N6 hu,Result.andThen_ok];cases d<;>first|(simp[B];done)|exact absurd hu (j _)
   ·rename_i t v;generalize I x=M at z;cases z with
    | @iface _ _ u z =>
     split
     ·rename_i he;have A:t=g:=H0 he;subst A;cases ok with
      |false =>
       refine Ph E (x:=u) z ?_;simp only[Instr.typeAssert,Sem.run_bind,N6 hu,Result.andThen_ok];cases d<;>first|(simp;done)|exact absurd hu (j _)
      |true =>
       refine Ph E (x:=.tuple #[u,.bool true]) (.tup (.cons z (.cons (.bool _) .nil))) ?_;simp only[Instr.typeAssert,Sem.run_bind,N6 hu,Result.andThen_ok];cases d<;>first|(simp;done)|exact absurd hu (j _)
     ·rename_i he;have A:¬t=g:=λe=>by rw[e,It]at he;cases he
      cases ok with
      |false=>exact trivial
      |true =>
       refine Ph E (x:=.tuple #[H,.bool false]) (.tup (.cons D (.cons (.bool _) .nil))) ?_;simp only[Instr.typeAssert,Sem.run_bind,N6 hu,Result.andThen_ok];cases d<;>first|(simp[B,A];done)|exact absurd hu (j _)
   ·exact trivial
 ·exact Nz G _
end
section
open Go.RowKit (Below)
def zen{t:TypeId}{d:TypeDesc}(h:Uw B t=some d):B.underlying t=some d∧(d=.bool∨(∃k,d=.int k)∨d=.string):=by
 unfold Uw at h;split at h
 ·rename_i hu;cases h;exact⟨hu,.inl rfl⟩
 ·rename_i k hu;cases h;exact⟨hu,.inr (.inl ⟨k,rfl⟩)⟩
 ·rename_i hu;cases h;exact⟨hu,.inr (.inr rfl)⟩
 ·cases h
def yd{w:World}{t:TypeId}{d:TypeDesc}(h:Uw B t=some d)(e:Bool)(v:Value):(Instr.checkKey e 10000 t v).run B w=.ok () w:=by
 obtain⟨hu,hd⟩:=zen h;show (Instr.checkKey e (9999+1) t v).run B w=_;unfold Instr.checkKey;simp only[Sem.run_bind,N6 hu,Result.andThen_ok];rcases hd with rfl|⟨k,rfl⟩|rfl<;>rfl
def x7{d:TypeDesc}{a b:AV}{r:Bool}(h:uc d a b=some r){u v:Value}(hu:VR M a u)(hv:VR M b v) :
  Instr.sameNow d u v=some r∧(r=true→Instr.sameBits 10000 v u=true):=by
 unfold uc at h;split at h
 ·split at h
  ·rename_i j;have:=z7c j;subst this;cases h;cases hu;cases hv;rename_i _ E x y _;refine⟨by simp[Instr.sameNow,yh],λe=>?_⟩;rw[yh]at e;have:x=y:=Ej
   subst this;simp[Instr.sameBits]
  ·cases h
 ·cases h;cases hu with
  | @str _ _ s z A =>
   cases hv with
   | @str _ _ g B C =>
    subst z A B C;rw[←zeu,←beq_toListBytes];refine⟨by simp[Instr.sameNow],λe=>?_⟩;have:s=g:=by
     have D:s.data.toList=g.data.toList:=by rw[beq_toListBytes]at e;rw[←ByteArray.toList_eq,←ByteArray.toList_eq];simpa using e
     exact ByteArray.ext (Lv.1 D)
    subst this;simp only[Instr.sameBits];rw[beq_toListBytes];simp
 ·cases h;cases hu;cases hv;rename_i x y;refine⟨by simp[Instr.sameNow],λe=>?_⟩;have:x=y:=Ej
  subst this;simp[Instr.sameBits]
 ·cases h
def zf8{C:CM}{d:TypeDesc}{k:AV}{u:Value}(hu:VR C k u):∀{A:List (AV×AV×Nat)} {g:List MapEntry} {r:Option AV} (i:Nat),xu d k A=some r→MR C A g →
  match r with
  |none=>Instr.findNow d u g i=some none
  |some a=>∃B v,Instr.findNow d u g i=some (some (B,v))∧VR C a v
 |[],[],r,i,h,.nil=>Br
 |(F,G,b)::l,e::_,r,i,h,.cons z hv H hm=>by
  unfold xu at h;split at h
  ·rename_i j;cases h;exact⟨i,e.val,by simp[Instr.findNow,(x7 j hu z).1],hv⟩
  ·rename_i j;have:=zf8 hu (i+1) h hm;cases r with
   |none=>simpa [Instr.findNow,(x7 j hu z).1] using this
   |some a =>
    obtain⟨B,v,D,E⟩:=this;exact⟨B,v,by simpa [Instr.findNow,(x7 j hu z).1] using D,E⟩
  ·cases h
def zi{w:World}{t:TypeId}{d:TypeDesc}(hu:B.underlying t=some d){k:Value}{g:List MapEntry}{r:Option (Nat×Value)}(h:Instr.findNow d k g 0=some r) :
  (Instr.findKey t k g).run B w=.ok r w:=by
 simp[Instr.findKey,N6 hu,h]
def zqx(T:Program)(t:TypeId)(x M:Operand)(ok:Bool):Nn T (zcv T t x M ok) (λG=>do pure (.value (←Instr.lookup t (G x) (G M) ok))):=by
 unfold zcv;split
 ·rename_i gg Y hu;split
  ·rename_i d gA hd hz;refine bu λw0 C gC w G a b O P Z=>?_
   split
   ·exact trivial
   ·rename_i es j;obtain⟨A,_⟩:=zen hd;obtain⟨Q,H,U⟩:=zp5 (w:=w) hz;have I:=zjy (C:=C) U;have K:∃g:Array MapEntry,MR C es g.toList∧((G x=.map none∧g=#[])∨∃b F,G x=.map (some b)∧w.heap[b]?=some (.map g F)):=by
     unfold zzj at j;split at j
     ·cases j;generalize G x=px at P;cases P;exact⟨#[],.nil,.inl ⟨rfl,rfl⟩⟩
     ·rename_i o;split at j
      ·rename_i gz F L;cases j;generalize G x=px at P;cases P with
       |map hL =>
        obtain⟨_,g,D,R⟩:=O.obj o _ (O.fresh _ _ _ hL) L _ hL;exact⟨g,R,.inr ⟨_,_,rfl,D⟩⟩
      ·cases j
     ·cases j
    obtain⟨g,hm,B⟩:=K;split
    ·rename_i v V;obtain⟨gD,u,D,R⟩:=zf8 Z 0 V hm;have z:(Instr.lookup t (G x) (G M) ok).run T w=.ok (if ok then .tuple #[u,.bool true] else u) w:=by
      unfold Instr.lookup;rcases B with ⟨E,rfl⟩|⟨r,F,E,X⟩
      ·simp only[Sem.run_bind,N6 hu,Result.andThen_ok,E,yd hd,zi A D,Sem.run_pure]
      ·have L:(getObj r).run T w=.ok (.map g F) w:=D5
       simp only[Sem.run_bind,N6 hu,Result.andThen_ok,E,L,yd hd,zi A D,Sem.run_pure]
     refine Ph O (x:=if ok then .tuple #[u,.bool true] else u) ?_ A4;cases ok with
     |true=>exact .tup (.cons R (.cons (.bool _) .nil))
     |false=>exact R
    ·rename_i V;have D:=zf8 Z 0 V hm;have z:(Instr.lookup t (G x) (G M) ok).run T w=.ok (if ok then .tuple #[Q,.bool false] else Q) w:=by
      unfold Instr.lookup;rcases B with ⟨E,rfl⟩|⟨r,F,E,X⟩
      ·simp only[Sem.run_bind,N6 hu,Result.andThen_ok,E,yd hd,zi A D,Sem.run_pure,H]
      ·have L:(getObj r).run T w=.ok (.map g F) w:=D5
       simp only[Sem.run_bind,N6 hu,Result.andThen_ok,E,L,yd hd,zi A D,Sem.run_pure,H]
     refine Ph O (x:=if ok then .tuple #[Q,.bool false] else Q) ?_ A4;cases ok with
     |true=>exact .tup (.cons I (.cons (.bool _) .nil))
     |false=>exact I
    ·exact trivial
  ·exact Nz T _
 ·exact Nz T _
def zci(w:World){r k:Nat}(x:Obj)(h:k≠r):({ w with heap:=w.heap.setIfInBounds r x }:World).heap[k]?=w.heap[k]?:=by
 show (w.heap.setIfInBounds r x)[k]?=_;rw[Array.getElem?_setIfInBounds_ne J]
def putObj_heap_same(w:World){r:Nat}(x:Obj)(h:r<w.heap.size):({ w with heap:=w.heap.setIfInBounds r x }:World).heap[r]?=some x:=by
 show (w.heap.setIfInBounds r x)[r]?=_;simp[h]
def Rel.putObj{gD:CM}{H:Heap}{w:World}(h:Rel v9 gD H w){o v:Nat}{L:Loc}(hL:gD o v=some L)(hB:v9.heap.size≤L.b)(ob:AObj)(x:Obj)
  (gz:Pr v9.heap.size gD { w with heap:=w.heap.setIfInBounds L.b x } o ob) (gg:∀c len C ro,ob≠.cells c len C ro):Rel v9 gD (H.put o ob) { w with heap:=w.heap.setIfInBounds L.b x }:=by
 refine h.put (h.fresh _ _ _ hL) ob (h.low.trans ⟨rfl,rfl,rfl,N,λk hk=>zci w x J⟩) N ?_ gz (λc len C ro e=>absurd e (gg c len C ro));intro o' v' L' gA gC;refine zci w x (λe=>gA ?_);exact (h.excl _ _ _ _ _ _ hL gC e.symm hB).symm
def MR.length{C:CM}:∀{es:List (AV×AV×Nat)} {gg:List MapEntry},MR C es gg→es.length=gg.length
 |_,_,.nil=>rfl
 |_,_,.cons _ _ _ h=>by simp[MR.length h]
def zb4{F:CM}{d:TypeDesc}{k v:AV}{u x:Value}(hu:VR F k u)(B:VR F v x){G:Nat}:∀{H j:List (AV×AV×Nat)} {g:List MapEntry} {n:Bool} (i:Nat),yq d k v G H=some (j,n)→MR F H g →
  match n with
  |true=>Instr.findNow d u g i=some none∧MR F j (g++[{ key:=u,val:=x,born:=G }])
  |false=>∃C e y,Instr.findNow d u g i=some (some (C+i,y))∧g[C]?=some e∧Instr.sameBits 10000 e.key u=true∧MR F j (g.modify C λe=>{ e with key:=u,val:=x })
 |[],j,[],n,i,h,.nil=>by
  cases h;exact⟨rfl,.cons hu B rfl .nil⟩
 |(R,T,b)::l,j,e::r,n,i,h,.cons z hv D hm=>by
  unfold yq at h;split at h
  ·rename_i E;cases h;obtain⟨A,I⟩:=x7 E hu z;exact⟨0,e,e.val,by simp[Instr.findNow,A],rfl,I rfl,by simpa using MR.cons (e:={ e with key:=u,val:=x }) hu B D hm⟩
  ·rename_i E;obtain⟨A,_⟩:=x7 E hu z;split at h
   ·rename_i U V K;cases h;have:=zb4 hu B (i+1) K hm;cases n with
    |true=>exact⟨by simpa [Instr.findNow,A] using this.1,.cons z hv D this.2⟩
    |false =>
     obtain⟨C,L,y,M,O,P,Q⟩:=this;refine⟨C+1,L,y,?_,by simpa using O,P,by simpa using MR.cons z hv D Q⟩;rw[show C+1+i=C+(i+1) from J];simpa [Instr.findNow,A] using M
   ·cases h
  ·cases h
def za7(O:Program)(t:TypeId)(m k x:Operand):Nn O (z5d O t m k x) (λD=>do Instr.mapUpdate t (D m) (D k) (D x);pure .skip):=by
 unfold z5d;split
 ·rename_i gz X hu;split
  ·rename_i d hd;obtain⟨E,_⟩:=zen hd;intro w0 gg gD w gE D F P;dsimp only;split
   ·rename_i o ka va hm hk hx;have G:=P _ _ hm;have H:=P _ _ hk;have I:=P _ _ hx;split
    ·rename_i es L hg;generalize gA:D m=pm at G;cases G with
     |map B =>
      rename_i Y;obtain⟨M,j,Z,q2⟩:=F.obj o _ (F.fresh _ _ _ B) hg _ B;have K:=F.lt _ _ _ B;have z:(getObj Y.b).run O w=.ok (.map j L) w:=by simp[getObj,Sem.run,Z]
      have A:∀y,(setObj Y.b y).run O w=.ok () { w with heap:=w.heap.setIfInBounds Y.b y }:=by intro y;simp[setObj,Sem.run,Z]
      split
      ·rename_i Q R;obtain⟨T,U⟩:=zb4 H I 0 R q2;refine⟨gg,{ w with heap:=w.heap.setIfInBounds Y.b (.map (j.push { key:=D k,val:=D x,born:=L }) (L+1)) },undef,CM.le_refl gg,F.putObj B M _ _ ?_ (λ_ _ _ _ e=>Aq),.tup .nil,.inr ⟨?_,rfl⟩⟩
       ·intro L' g;rw[B]at g;cases g;exact⟨M,_,putObj_heap_same w _ K,by rw[Array.toList_push];exact U⟩
       ·simp only[Instr.mapUpdate,Sem.run_bind,N6 hu,Result.andThen_ok,z,yd hd,zi E T,A,Sem.run_pure]
      ·rename_i Q R;obtain⟨gC,e,y,T,U,p3,p4⟩:=zb4 H I 0 R q2;have V:j[gC]?=some e:=Cz
       refine⟨gg,{ w with heap:=w.heap.setIfInBounds Y.b (.map (j.modify gC λe=>{ e with key:=D k,val:=D x }) L) },undef,CM.le_refl gg,F.putObj B M _ _ ?_ (λ_ _ _ _ e=>Aq),.tup .nil,.inr ⟨?_,rfl⟩⟩
       ·intro L' g;rw[B]at g;cases g;exact⟨M,_,putObj_heap_same w _ K,by rw[Array.toList_modify];exact p4⟩
       ·have C:(Instr.keyThatStays e.key (D k)).run O w=.ok (D k) w:=by simp[Instr.keyThatStays,p3]
        simp only[Instr.mapUpdate,Sem.run_bind,N6 hu,Result.andThen_ok,z,yd hd,zi E T,Kr,V,Jt,Jg,C,A,Sem.run_pure]
      ·exact trivial
    ·exact trivial
   ·exact trivial
  ·exact Nz O _
 ·exact Nz O _
def zrp(A:Program)(t:TypeId)(x:Operand):Nn A (rangeF A t x) (λB=>do pure (.value (←Instr.range t (B x)))):=by
 unfold rangeF;split
 ·rename_i hu;refine So λG H I w B a g j=>?_
  split
  ·rename_i len n;generalize B x=K at j;cases j with
   | @str _ _ s C D =>
    obtain⟨E,F⟩:=g.push (.iter len n 0) (.stringIter s 0) 0 0 (λL z=>by
     rw[CM.ext_same]at z;cases z;exact⟨g.low.size,rfl,s,ln _ _,C,D⟩)
    refine⟨_,_,.pointer (some ⟨w.heap.size,0,none⟩),F,E,by simpa using VR.ptr (i:=0) (CM.ext_same H I.next 0 ⟨w.heap.size,0,0,0⟩),.inl ?_⟩;simp only[Instr.range,Sem.run_bind,N6 hu,Sem.run_pure,Result.andThen_ok,run_newObj];rfl
  ·exact trivial
 ·exact Nz A _
def zwg(gg:Program)(x:Operand)(j:Bool)(ty:TypeId):Nn gg (zyo x j) (λρ=>do pure (.value (←Instr.next (ρ x) j ty))):=by
 unfold zyo;split
 ·rename_i hs;subst hs;refine So λw0 gz gA w ρ a C U=>?_
  split
  ·rename_i o;split
   ·rename_i len n g hg;generalize ρ x=px at U;cases U with
    | @ptr _ _ _ M D =>
     obtain⟨V,E,s,X,Y,Z⟩:=C.obj o _ (C.fresh _ _ _ D) hg _ D;have O:=C.lt _ _ _ D;have A:(getObj M.b).run gg w=.ok (.stringIter s g) w:=D5
     have F:∀y,(setObj M.b y).run gg w=.ok () { w with heap:=w.heap.setIfInBounds M.b y }:=by intro y;simp[setObj,Sem.run,X]
     have B:(⟨M.b,M.d+0,none⟩:Addr)=⟨M.b,0,none⟩:=by rw[E]
     rw[B];split
     ·rename_i G;have H:g<len:=by rw[Rp]at G;simpa using G
      have z:g<s.size:=Ed
      split
      ·rename_i P;have Q:s.data.toList[g]?=some s[g]:=by
        rw[Ht (by rw[Y];exact H)];rfl
       have I:=zhm Q;rw[Z]at I;have R:Nat.mod (Nat.div n (Nat.pow 256 g)) 256=s[g].toNat:=I;rw[R]at P ⊢;have T:s[g].toNat<128:=by rw[Rp]at P;simpa using P
       have K:=decode_ascii s g z T;refine⟨gz,{ w with heap:=w.heap.setIfInBounds M.b (.stringIter s (g+1)) },.tuple #[.bool true,goInt g,.int .i32 (s[g].toNat:Int)],CM.le_refl gz,
        C.putObj D V _ _ ?_ (λ_ _ _ _ e=>Aq),.tup (.cons (.bool _) (.cons (.int _ _) (.cons (.int _ _) .nil))),.inl ?_⟩
       ·intro L' L;rw[D]at L;cases L;exact⟨V,E,s,putObj_heap_same w _ O,Y,Z⟩
       ·simp only[Instr.next,Sem.run_bind,A,Result.andThen_ok,Hv z,K,F,Sem.run_pure]
      ·exact trivial
     ·rename_i G;have H:¬g<len:=by rw[Rp]at G;simpa using G
      have z:¬g<s.size:=Ed
      refine Ph C (x:=.tuple #[.bool false]) (.tup (.cons (.bool _) .nil)) ?_;simp only[Instr.next,Sem.run_bind,A,Result.andThen_ok,Hs z,Sem.run_pure]
   ·exact trivial
  ·exact trivial
 ·exact Nz gg _
end
section
open Go.RowKit (Below)
def Rel.bump{C:CM}{H:Heap}{w w':World}(h:Rel v9 C H w){o len:Nat}{c:Tr AV}(ho:o<H.next)(gF:∃v L,C o v=some L)(hg:H.get o=some (.cells c len j false))(L':Loc)(c':Tr AV)(gA:Nat)
  (gD:Below v9.heap.size v9 w') (gG:w.heap.size≤w'.heap.size) (gH:L'.b<w'.heap.size) (hex:∀o' v L,C o' v=some L→L.b=L'.b→o'=o)
  (gI:∀o' v L,o'≠o→C o' v=some L→w'.heap[L.b]?=w.heap[L.b]?) (gK:Pr v9.heap.size (C.ext o (j+1) L') w' o (.cells c' gA (j+1) false)) :
  Rel v9 (C.ext o (j+1) L') (H.put o (.cells c' gA (j+1) false)) w'∧C.le (C.ext o (j+1) L'):=by
 have gC:C o (j+1)=none:=by
  cases e:C o (j+1) with
  |none=>rfl
  |some L=>have:=h.top _ _ _ _ _ ho hg _ _ e;omega
 have hle:C.le (C.ext o (j+1) L'):=CM.le_ext _ gC (.inl gF);refine⟨⟨by show max C.nx (o+1)=H.next;rw[h.nx];exact Nat.max_eq_left ho,gD,?_,?_,?_,?_,?_⟩,hle⟩
 ·intro o' v L hL;by_cases e:o'=o∧v=j+1
  ·rw[e.1];exact ho
  ·rw[CM.ext_ne _ _ e]at hL;exact h.fresh _ _ _ hL
 ·intro o' v L hL;by_cases e:o'=o∧v=j+1
  ·obtain⟨rfl,rfl⟩:=e;rw[CM.ext_same]at hL;cases hL;exact gH
  ·rw[CM.ext_ne _ _ e]at hL;exact Il (h.lt _ _ _ hL) gG
 ·intro o1 v1 L1 o2 v2 L2 h1 h2 hb hB;by_cases e1:o1=o∧v1=j+1<;>by_cases e2:o2=o∧v2=j+1
  ·rw[e1.1,e2.1]
  ·obtain⟨rfl,rfl⟩:=e1;rw[CM.ext_same]at h1;cases h1;rw[CM.ext_ne _ _ e2]at h2;exact (hex _ _ _ h2 hb.symm).symm
  ·obtain⟨rfl,rfl⟩:=e2;rw[CM.ext_same]at h2;cases h2;rw[CM.ext_ne _ _ e1]at h1;exact hex _ _ _ h1 hb
  ·rw[CM.ext_ne _ _ e1]at h1;rw[CM.ext_ne _ _ e2]at h2;exact h.excl _ _ _ _ _ _ h1 h2 hb hB
 ·intro o' ob gz gg;by_cases e:o'=o
  ·subst e;rw[Heap.get_put_same]at gg;cases gg;exact gK
  ·have gE:o'<H.next:=gz;rw[Heap.get_put_ne H _ e]at gg;exact (h.obj _ _ gz gg).frame hle (λv L hL=>by rwa [CM.ext_ne _ _ (λq=>e q.1)]at hL) (λv L hL=>gI _ _ _ e hL)
 ·intro o' c1 gL gM gO gz gg v L hL;by_cases e:o'=o
  ·subst e;rw[Heap.get_put_same]at gg;cases gg;by_cases e2:v=j+1
   ·omega
   ·rw[CM.ext_ne _ _ J]at hL;have:=h.top _ _ _ _ _ ho hg _ _ hL;omega
  ·have gE:o'<H.next:=gz;rw[Heap.get_put_ne H _ e]at gg;rw[CM.ext_ne _ _ (λq=>e q.1)]at hL;exact h.top _ _ _ _ _ gz gg _ _ hL
structure AppX (P:Program) (w:World) (elem:TypeId) (size:Nat) (xt:TypeId) (x:Value) (n:Nat) (news:Array Value):Prop where
 und:∃d,P.underlying xt=some d∧((d=.string∨∃e,d=.slice e)∧(Builtin.lenOf x).run P w=.ok n w∧(∀w',w'.heap=w.heap→(Builtin.firstCells size n x).run P w'=.ok news w')
  ∨ (∃k,d=.int k)∧x=.int .i64 (Int.ofNat n)∧n≤1048576∧0<size∧∃zv,(∀w',(zeroValue elem).run P w'=.ok zv w')∧(∃i,P.info? elem=some i∧i.bytes≤65536)∧news=Builtin.zeroCells zv.cells n∧zv.cells.size=size)
def zdu(g:Array Value):Builtin.zeroCells g 0=#[]:=by simp[Builtin.zeroCells]
def z2e{w w':World}{st elem ty:TypeId}{n len cap:Nat}{base:Option Addr}{x:Value}(hu:B.underlying st=some (.slice elem))(H:Ot B elem=some g)
  (K:AppX B w elem g Z x n vR) (A:len+n≤cap)
  (j:match base with
   |none=>w'=w
   |some a=>(storeCells (a.add (len*g)) vR.toList).run B w=.ok () w') :
  (Builtin.append_ #[st,Z] ty #[.slice base len cap,x]).run B w=.ok (.slice base (len+n) cap) w':=by
 obtain⟨d,hd,z⟩:=K.und;unfold Builtin.append_;rcases z with ⟨D,C,L⟩|⟨⟨k,rfl⟩,rfl,M,I,V,O,⟨i,hi,E⟩,rfl,P⟩
 ·rcases D with rfl|⟨e,rfl⟩
  all_goals
   simp only[Jf,Ii,Ib,Sem.run_bind,N6 hu,N6 hd,R5 H,Result.andThen_ok,Sem.run_pure,J8,Le,C,Sem.run_ite,Hv A,Bool.not_false,Ky,L w rfl];cases base with
   |none=>subst j;rfl
   |some a=>simp only[Sem.run_bind,j,Result.andThen_ok,Sem.run_pure]
 ·have Q:IntKind.i64.wrap (Int.ofNat n)=Int.ofNat n:=As
  have R:¬(Int.ofNat n<0):=N
  have T:¬(Int.ofNat n*(i.bytes:Int)>2^48):=by
   have:(Int.ofNat n*(i.bytes:Int))=((n*i.bytes:Nat):Int):=N
   rw[this];have:n*i.bytes≤1048576*65536:=Jr M E;omega
  simp only[Jf,Ii,Ib,Sem.run_bind,N6 hu,N6 hd,R5 H,Result.andThen_ok,Sem.run_pure,Ky,asInt,asIntOf,Q,Sem.run_ite,Hs R,mz hi,Hs T,Bool.not_true,J8,Le];have U:(Int.ofNat n).toNat=n:=rfl;rw[U,Hv A];by_cases F:n*g=0
  ·have G:n=0:=by
    rcases Nat.mul_eq_zero.1 F with h|h
    ·exact h
    ·omega
   subst G;rw[zdu]at j;rw[Hv F];simp only[Result.andThen_ok];cases base with
   |none=>subst j;rfl
   |some a=>simp only[Sem.run_bind,j,Result.andThen_ok,Sem.run_pure]
  ·rw[Hs F];simp only[O,Result.andThen_ok];cases base with
   |none=>subst j;rfl
   |some a=>simp only[Sem.run_bind,j,Result.andThen_ok,Sem.run_pure]
def z6d{w:World}{st elem ty:TypeId}{i:TypeInfo}{n len cap:Nat}{base:Option Addr}{x:Value}{olds:Array Value}(hu:B.underlying st=some (.slice elem))(hi:B.info? elem=some i)
  (U:AppX B w elem i.size Z x n vR) (K:cap<len+n) (G:i.bytes≤65536) (E:len+n≤2000000000) (L:∀w',(zeroValue elem).run B w'=.ok vM w')
  (z:(Builtin.firstCells i.size len (.slice base len cap)).run B w.drew=.ok olds w.drew) :
  (Builtin.append_ #[st,Z] ty #[.slice base len cap,x]).run B w =
   .ok (.slice (some ⟨w.heap.size,0,none⟩) (len+n) (grownCap w (len+n) cap elem)) (w.drew.alloc (.cells (olds++vR++Builtin.zeroCells vM.cells (grownCap w (len+n) cap elem-(len+n))) elem)):=by
 have R:Ot B elem=some i.size:=E5
 obtain⟨d,hd,F⟩:=U.und;have A:¬(len+n≤cap):=J
 have C:¬(Builtin.nextslicecap (len+n) cap*i.bytes>2^48):=by
  have h1:(len+n)*i.bytes≤2000000000*65536:=Jr E G;have:=growslice_fits (bytes:=i.bytes) K J;omega
 have D:¬(((len+n:Nat):Int)>IntKind.i64.max):=by
  simp only[IntKind.max,IntKind.signed,IntKind.bits,Ky];omega
 have g:(Question.appendCap (len+n) cap elem).forced=false:=rfl;unfold Builtin.append_;rcases F with ⟨M,H,V⟩|⟨⟨k,rfl⟩,rfl,X,T,O,I,⟨gg,hj,_⟩,rfl,Y⟩
 ·have j:(Builtin.firstCells i.size len (.slice base len cap)).run B { w with drawn:=w.drawn+1 }=.ok olds { w with drawn:=w.drawn+1 }:=z;rcases M with rfl|⟨e,rfl⟩
  all_goals
   simp only[Jf,Ii,Ib,Sem.run_bind,N6 hu,N6 hd,R5 R,Result.andThen_ok,Sem.run_pure,J8,Le,H,Sem.run_ite,Hs A,mz hi,D,false_and,Hs C,run_choose,g,run_askRoom];simp only[j,Result.andThen_ok,Bool.not_false,Ky,V { w with drawn:=w.drawn+1 } rfl,L,newRow,Sem.run_bind,run_newObj,Sem.run_pure];rfl
 ·obtain rfl:O=vM:=by have a:=I w;rw[L w]at a;cases a;rfl
  have e1:IntKind.i64.wrap (Int.ofNat n)=Int.ofNat n:=As
  have e2:¬(Int.ofNat n<0):=N
  have e3:¬(Int.ofNat n*(i.bytes:Int)>2^48):=by
   have:(Int.ofNat n*(i.bytes:Int))=((n*i.bytes:Nat):Int):=N
   rw[this];have:n*i.bytes≤1048576*65536:=Jr X G;omega
  simp only[Jf,Ii,Ib,Sem.run_bind,N6 hu,N6 hd,R5 R,Result.andThen_ok,Sem.run_pure,Ky,asInt,asIntOf,e1,Sem.run_ite,Hs e2,mz hi,Hs e3,Bool.not_true,J8,Le];have e4:(Int.ofNat n).toNat=n:=rfl;rw[e4,Hs A];simp only[D,false_and,Le,Result.andThen_ok,Hs C,run_choose,g,J8,run_askRoom];have j:(Builtin.firstCells i.size len (.slice base len cap)).run B { w with drawn:=w.drawn+1 }=.ok olds { w with drawn:=w.drawn+1 }:=z;simp only[j,Result.andThen_ok];by_cases P:n*i.size=0
  ·have Q:n=0:=by
    rcases Nat.mul_eq_zero.1 P with h|h
    ·exact h
    ·omega
   subst Q;rw[Hv P];simp only[Sem.run_pure,Result.andThen_ok,zdu,L,newRow,Sem.run_bind,run_newObj];rfl
  ·rw[Hs P];simp only[Sem.run_bind,I,Sem.run_pure,Result.andThen_ok,newRow,run_newObj];rfl
def zey{P:Program}{t:TypeId}{l:List AV}(h:R6 P t=some l):∃v i,(∀w',(zeroValue t).run P w'=.ok v w')∧T4 v.cells.toList=some l∧P.info? t=some i∧l.length=i.size:=by
 unfold R6 at h;cases hi:P.info? t with
 |none=>simp[hi]at h
 |some i =>
  simp only[hi]at h;cases g:i.zero with
  |none=>simp[g]at h
  |some v =>
   simp only[g]at h;cases j:T4 v.cells.toList with
   |none=>simp[j]at h
   |some r =>
    simp only[j]at h;split at h
    ·cases h;rename_i z;exact⟨v,i,λw'=>Dt,j,rfl,z⟩
    ·cases h
def z9x{l r:List Value}{n:Nat}(h:l.length=n):(l++r).take n=l:=by rw[←h];simp
def zyr{C:CM}{w:World}(G:Rel K C F w){elem:TypeId}{i:TypeInfo}{n:Nat}{l:List AV}{cs:Array Value}{cap:Nat}(g:n≤cap)
  (P:l.length=n*i.size) (H:cs.size=cap*i.size) (hv:VRs C l (cs.toList.take l.length)) (I:∀a∈l,a.one=true) {E:Sem Next}
  (j:E.run B w=.ok (.value (.slice (some ⟨w.heap.size,0,none⟩) n cap)) (w.drew.alloc (.cells cs elem))):Qt B K C w E (ag F n i.size l):=by
 unfold ag;cases L:newObj F l with
 |none=>exact trivial
 |some r =>
  obtain⟨o,Q⟩:=r;have hm:n*i.size≤cap*i.size:=H8 _ g;obtain⟨M,z,A,D⟩:=G.drew.newRow L elem (0,0) (vs:=cs) J hv I N;refine⟨M,_,_,z,A,?_,.inl j⟩;have:=VR.sl (i:=0) (len:=n) (esz:=i.size) (room:=none) (cap:=cap) D Aw Aw g (λr O=>by cases O) (λ_=>Aw);simpa using this
def zqu{P:Program}{C:CM}{w:World}(H:Rel K C F w){st elem ty:TypeId}{i:TypeInfo}(hu:P.underlying st=some (.slice elem))(hi:P.info? elem=some i)(gU:0<i.size)
  (gG:i.bytes≤65536) (hz:R6 P elem=some T) {s:AV} {x:Value} (hs:VR C s vM) {n:Nat} {j:List AV} {news:Array Value} (hx:AppX P w elem i.size Z x n news) (hn:n≤1048576)
  (D:VRs C j news.toList) (I:∀a∈j,a.one=true) (gA:j.length=n*i.size) :
  Qt P K C w (do pure (.value (←Builtin.append_ #[st,Z] ty #[vM,x]))) (V5 F i.size s n j):=by
 have Q:Ot P elem=some i.size:=E5
 obtain⟨zv,gT,gH,jF,gV,jY⟩:=zey hz;rw[hi]at gV;cases gV;have gI:zv.cells.size=i.size:=by
  have:=(Y7 (C:=C) jF).1.length;simp at this;omega
 have M:news.size=n*i.size:=by have:=D.length;simp at this;omega
 unfold V5;split
 ·rename_i h0;have gY:n=0:=H0 h0;subst gY;have gZ:news=#[]:=J9 J;subst gZ;split
  ·cases hs;have z:=z2e (ty:=ty) (base:=none) (len:=0) (cap:=0) (w':=w) hu Q hx J rfl;exact Ph H .nilSl A4
  ·cases hs with
   | @emp a cap =>
    have z:=z2e (ty:=ty) (base:=some a) (len:=0) (cap:=cap) (w':=w) hu Q hx J rfl;exact Ph H (x:=.slice (some a) 0 cap) .emp A4
  ·rename_i o v k len g8 gC;have jG:=hs;cases hs with
   | @sl _ _ _ _ _ _ L cap O q1 q2 q3 =>
    have z:=z2e (ty:=ty) (base:=some ⟨L.b,L.d+k,none⟩) (len:=len) (cap:=cap) (w':=w) hu Q hx J rfl;exact Ph H jG (by simp only[Sem.run_bind,z,Result.andThen_ok,Sem.run_pure];rfl)
  ·exact trivial
 ·rename_i h0;have gY:n≠0:=λe=>by rw[e]at h0;cases h0
  split
  ·cases hs;have U:=grownCap_ge w (0+n) 0 elem;refine zyr H (elem:=elem) (cap:=grownCap w (0+n) 0 elem) (cs:=#[]++news++Builtin.zeroCells zv.cells (grownCap w (0+n) 0 elem-(0+n))) J gA ?_ ?_ I ?_
   ·rw[Ke,Ke,size_zeroCells,gI,M];have:=z7e i.size (show 0+n≤grownCap w (0+n) 0 elem from U);simp at this ⊢;omega
   ·rw[La,La,z9x Ab];simpa using D
   ·have:=z6d (ty:=ty) (base:=none) (len:=0) (cap:=0) (olds:=#[]) hu hi hx J gG J gH (by simp[Builtin.firstCells]);simp only[Sem.run_bind,this,Result.andThen_ok,Sem.run_pure,Iq]
  ·rename_i o v k len g8 gC;split
   ·exact trivial
   ·rename_i he;rw[Hq]at he;have gD:len≤P0:=H6 he.2;have jH:g8=i.size:=H0 he.1;subst jH;cases hs with
    | @sl _ _ _ _ _ _ L cap O q1 q2 q3 q4 q5 =>
     have V:(⟨L.b,L.d+k,none⟩:Addr).add (len*i.size)=⟨L.b,L.d+(k+len*i.size),none⟩:=uu _ _ _ _;have g9:(len+n)*i.size=len*i.size+n*i.size:=Im _ _ _;have gE:∀G,Qi F o v k (len*i.size)=some G→∃A:Array Value,(Builtin.firstCells i.size len (.slice (some ⟨L.b,L.d+k,none⟩) len cap)).run P w.drew=.ok A w.drew∧VRs C G A.toList∧(∀a∈G,a.one=true)∧G.length=len*i.size:=by
      intro G z;obtain⟨vs,p1,X,p3,p4,_,_⟩:=H.drew.read P z O;exact⟨vs.toArray,by simpa [Builtin.firstCells] using p1,by simpa using X,p3,p4⟩
     split
     ·rename_i r;obtain⟨jg,gK⟩:=q4 r rfl;subst jg;split
      ·rename_i R;have E:len+n≤cap:=H6 R;split
       ·rename_i H' hw;have gL:Vc F o v (k+len*i.size) j=some H':=hw;obtain⟨Y,p1,X⟩:=H.write P gL O D I;have jI:(len+n)*i.size≤cap*i.size:=H8 _ E;refine⟨C,Y,.slice (some ⟨L.b,L.d+k,none⟩) (len+n) cap,CM.le_refl C,X,.sl O (J:k+(len+n)*i.size≤L.n) q2 E (λr z=>by cases z;exact⟨rfl,gK⟩) (λe=>Aq),.inl ?_⟩;simp only[Sem.run_bind,z2e (w':=Y) (base:=some ⟨L.b,L.d+k,none⟩) hu Q hx E (by dsimp only;rw[V];exact p1),Result.andThen_ok,Sem.run_pure]
       ·exact trivial
      ·rename_i R;have jK:cap<len+n:=by
        rcases Kb cap (len+n) with h|h
        ·exact h
        ·rw[show Nat.ble (Nat.add len n) cap=true from Hy h]at R;cases R
       split
       ·rename_i G z;obtain⟨A,p1,X,p3,p4⟩:=gE G z;have gg:A.size=len*i.size:=by have:=X.length;simp at this;omega
        have U:=grownCap_ge w (len+n) cap elem;refine zyr H (elem:=elem) (cap:=grownCap w (len+n) cap elem) (cs:=A++news++Builtin.zeroCells zv.cells (grownCap w (len+n) cap elem-(len+n))) U ?_ ?_ ?_ ?_ ?_
        ·rw[H4,p4,gA];exact g9.symm
        ·rw[Ke,Ke,size_zeroCells,gI,M,gg];have:=z7e i.size U;omega
        ·rw[La,La,z9x Ab];exact X.append D
        ·intro a ha;rcases Ih.1 ha with h|h
         ·exact p3 a h
         ·exact I a h
        ·have:=z6d (ty:=ty) (base:=some ⟨L.b,L.d+k,none⟩) hu hi hx jK gG (by unfold P0 at gD;omega) gH p1;simp only[Sem.run_bind,this,Result.andThen_ok,Sem.run_pure]
       ·exact trivial
     ·have gM:=q5 rfl;split
      ·rename_i c g jL U;split
       ·exact trivial
       ·rename_i hv;have jM:v=jL:=H0 hv;subst jM;have ho:=H.fresh _ _ _ O;have jO:=H.obj o _ ho U;obtain⟨p1,X,p3,vs,e,lo,jz,p4,p5,p6,p7⟩:=jO L O;split
        ·rename_i R;have E:k+(len+n)*i.size≤g:=H6 R;have gF:len+n≤cap:=by
          have:(len+n)*i.size≤cap*i.size:=J
          exact Mc this gU
         split
         ·rename_i H' hw;have gL:Vc F o v (k+len*i.size) j=some H':=hw;obtain⟨Y,r1,r2⟩:=H.write P gL O D I;refine⟨C,Y,.slice (some ⟨L.b,L.d+k,none⟩) (len+n) cap,CM.le_refl C,r2,.sl O (J:k+(len+n)*i.size≤L.n) q2 gF (λr z=>by cases z) (λ_=>gM),.inl ?_⟩;simp only[Sem.run_bind,z2e (w':=Y) (base:=some ⟨L.b,L.d+k,none⟩) hu Q hx gF (by dsimp only;rw[V];exact r1),Result.andThen_ok,Sem.run_pure]
         ·exact trivial
        ·rename_i jV;split
         ·exact trivial
         ·rename_i hk;have jP:k=0:=H0 hk;subst jP;split
          ·exact trivial
          ·rename_i jA;have gO:len*i.size=g:=H0 jA;by_cases hc:len+n≤cap
           ·
            have jI:(len+n)*i.size≤cap*i.size:=H8 _ hc;obtain⟨Y,jQ,r1,r2,r3,r4,r5,r6,r7,r8,r9⟩:=z89 P ⟨L.b,L.d+(0+len*i.size),none⟩ news.toList 0 w vs e lo jz rfl p4 (D.one I) Ab
             (λgT hj gz=>by simp at hj gz;exact p6 gT J J)
            obtain⟨gQ,E⟩:=H.bump ho ⟨_,_,O⟩ U ⟨L.b,L.d,g+j.length,L.sz⟩ (Qz j g c) (g+j.length) (w':=Y)
             (H.low.trans ⟨r6,r7,r8,J,λgT hj=>r4 gT (by dsimp only;have:=X rfl;omega)⟩) J (show L.b<Y.heap.size by rw[r5];exact H.lt _ _ _ O)
             (λo' v' L' B hb=>(H.excl _ _ _ _ _ _ O B hb.symm (X rfl)).symm)
             (λo' v' L' jR B=>r4 _ (λe'=>jR (H.excl _ _ _ _ _ _ O B e'.symm (X rfl)).symm))
             (by
              intro L' B;rw[CM.ext_same]at B;cases B;refine⟨rfl,λ_=>X rfl,Aw,jQ,e,lo,jz,r2,Aw,p6,?_⟩;refine az.mono (CM.le_ext _ ?_ (.inl ⟨_,_,O⟩)) (p7.lay D I (Hw _) (Hw _) (.inr rfl) (λgT=>?_))
              ·cases e':C o (v+1) with
               |none=>rfl
               |some jT=>have:=H.top _ _ _ _ _ ho U _ _ e';omega
              ·rw[r9 gT];have:L.d+(0+len*i.size)+0=L.d+g:=J
               simp only[this])
            refine⟨_,Y,.slice (some ⟨L.b,L.d+0,none⟩) (len+n) cap,E,gQ,?_,.inl ?_⟩
            ·exact VR.sl (L:=⟨L.b,L.d,g+j.length,L.sz⟩) (i:=0) (len:=len+n) (esz:=i.size) (room:=none) (cap:=cap) (CM.ext_same C o (v+1) ⟨L.b,L.d,g+j.length,L.sz⟩)
              Aw Aw hc (λr z=>by cases z) (λ_=>Aw)
            ·simp only[Sem.run_bind,z2e (w':=Y) (base:=some ⟨L.b,L.d+0,none⟩) hu Q hx hc (by dsimp only;rw[V];exact r1),Result.andThen_ok,Sem.run_pure]
           ·
            have z:∃G,Qi F o v 0 (len*i.size)=some G:=by
             unfold Qi;rw[U];have hb:Nat.ble (Nat.add 0 (len*i.size)) g=true:=Hy (by show 0+len*i.size≤g;omega);simp only[It,hb];have:∀m a,a+m≤g→∃l,R8 c a m=some l:=by
              intro m
              induction m with
              |zero=>intro a _;exact⟨[],rfl⟩
              |succ m ih =>
               intro a ha;obtain⟨x1,y1,_⟩:=p7 a J;obtain⟨l1,y2⟩:=ih (a+1) J;exact⟨x1::l1,by simp only[R8,y1,y2]⟩
             exact this _ 0 J
            obtain⟨G,z⟩:=z;obtain⟨A,s1,s2,s3,s4⟩:=gE G z;have gg:A.size=len*i.size:=by have:=s2.length;simp at this;omega
            have jB:=grownCap_ge w (len+n) cap elem;have jC:=z6d (ty:=ty) (base:=some ⟨L.b,L.d+0,none⟩) hu hi hx J gG (by unfold P0 at gD;omega) gH s1;have j4:=z7e i.size jB;have jD:(A++news++Builtin.zeroCells zv.cells (grownCap w (len+n) cap elem-(len+n))).size=grownCap w (len+n) cap elem*i.size:=by
             rw[Ke,Ke,size_zeroCells,gI,M,gg];omega
            obtain⟨gQ,E⟩:=H.bump ho ⟨_,_,O⟩ U ⟨w.heap.size,0,g+j.length,grownCap w (len+n) cap elem*i.size⟩ (Qz j g c) (g+j.length)
             (w':=w.drew.alloc (.cells (A++news++Builtin.zeroCells zv.cells (grownCap w (len+n) cap elem-(len+n))) elem))
             (H.low.drew.alloc H.low.size _) (by rw[World.size_alloc,World.size_drew];omega) (by rw[World.size_alloc,World.size_drew];dsimp only;omega)
             (λo' v' L' B hb=>by have:=H.lt _ _ _ B;dsimp only at hb;omega)
             (λo' v' L' _ B=>z6x w.drew _ (H.lt _ _ _ B))
             (by
              intro L' B;rw[CM.ext_same]at B;cases B;refine⟨rfl,λ_=>H.low.size,Aw,_,elem,0,0,ln w.drew _,by rw[jD];exact Hw _,λ_ _ _=>J,?_⟩;have gR:C o (v+1)=none:=by
               cases e':C o (v+1) with
               |none=>rfl
               |some jT=>have:=H.top _ _ _ _ _ ho U _ _ e';omega
              refine az.mono (CM.le_ext _ gR (.inl ⟨_,_,O⟩)) ?_;obtain⟨g1,g2⟩:=nr (show R8 c 0 (len*i.size)=some G by
               unfold Qi at z;rw[U]at z;dsimp only at z;split at z
               ·split at z
                ·exact z
                ·cases z
               ·cases z)
              intro gT hj;rw[get_ofList j g c gT,Iq];by_cases gz:g≤gT∧gT<g+j.length
              ·rw[Hv gz];obtain⟨a,x1,y1,y2,y3⟩:=D.get' (i:=gT-g) J;refine⟨a,y1,I a (Ia y1),x1,?_,y3⟩;rw[Kk (by rw[Ke];omega),Array.getElem?_append_right J,gg,gO];simpa using y2
              ·rw[Hs gz];have jU:gT<len*i.size:=J
               have:=g2 gT jU;rw[Iq]at this;obtain⟨a,x1,y1,y2,y3⟩:=s2.get' (i:=gT) J;rw[y1]at this;refine⟨a,this,s3 a (Ia y1),x1,?_,y3⟩;rw[Kk (by rw[Ke];omega),Kk J];simpa using y2)
            refine⟨_,_,.slice (some ⟨w.heap.size,0,none⟩) (len+n) (grownCap w (len+n) cap elem),E,gQ,?_,.inl ?_⟩
            ·have:=VR.sl (i:=0) (len:=len+n) (esz:=i.size) (room:=none) (cap:=grownCap w (len+n) cap elem) (CM.ext_same C o (v+1) ⟨w.heap.size,0,g+j.length,grownCap w (len+n) cap elem*i.size⟩)
              Aw Aw jB (λr z=>by cases z) (λ_=>Aw)
             simpa using this
            ·simp only[Sem.run_bind,jC,Result.andThen_ok,Sem.run_pure]
      ·exact trivial
  ·exact trivial
end
section
open Go.RowKit (Below)
def zqe{w:World}(h:K.heap=w.heap)(a:Addr):K.cell? a=w.cell? a:=by simp[World.cell?,h]
def zl7{P:Program}{C:CM}{w:World}(R:Rel K C F w){b:AV}{x:Value}(D:VR C b x){n:Nat}{l:List AV}(h:i3 F g b=some (n,l)) :
  ∃A:List Value,VRs C l A∧(∀a∈l,a.one=true)∧l.length=n*g∧(Builtin.lenOf x).run P w=.ok n w ∧
   ∀m,m≤n→∀z,z.heap=w.heap→(Builtin.firstCells g m x).run P z=.ok (A.take (m*g)).toArray z:=by
 unfold i3 at h;split at h
 ·cases h;cases D;exact⟨[],.nil,N,N,rfl,λm hm z _=>by simp[Builtin.firstCells]⟩
 ·cases h;cases D with
  | @emp a cap =>
   refine⟨[],.nil,N,N,rfl,λm hm z _=>?_⟩;have:m=0:=J
   subst this;simp only[Builtin.firstCells,Kh];rw[z9q P z a 0 [] rfl (λQ I=>J)];rfl
 ·rename_i o v i len j L;split at h
  ·rename_i he;have G:j=g:=H0 he;subst G;split at h
   ·rename_i l' T;cases h;cases D with
    | @sl _ _ _ _ _ _ gg cap U =>
     obtain⟨A,_,E,V,M,_,X⟩:=R.read P T U;refine⟨A,E,V,M,rfl,λm hm z hw=>?_⟩;have Y:m*j≤n*j:=H8 _ hm;have Z:A.length=n*j:=by have e1:=E.length;have e2:l.length=n*j:=M;omega
     simp only[Builtin.firstCells];refine z9q P z _ _ _ Ab (λQ I=>?_);rw[uu,zqe hw,X Q (show Q<Nat.mul n j by show Q<n*j;omega),Jc I]
   ·cases h
  ·cases h
 ·rename_i len n';split at h
  ·rename_i H;cases h;have B:g=1:=H0 H;subst B;cases D with
   | @str _ _ s h1 E =>
    subst h1 E;rw[unpack_pack];refine⟨s.data.toList.map λb=>Value.int .u8 (b.toNat:Int),?_,?_,N,rfl,λm hm z _=>?_⟩
    ·generalize s.data.toList=q
     induction q with
     |nil=>exact .nil
     |cons b q ih=>exact .cons (.int _ _) ih
    ·intro a O;simp only[Mb]at O;obtain⟨b,_,rfl⟩:=O;rfl
    ·simp only[Builtin.firstCells,Sem.run_pure]
     congr 1
     apply Lv.1;rw[Jq,Lib.extract_data];simp
  ·cases h
 ·cases h
def Nn.congr{P:Program}{f:OpF}{nx C:(Operand→Value)→Sem Next}(h:∀ρ,nx ρ=C ρ)(s:Nn P f nx):Nn P f C:=λw0 gg H w E ρ hR hρ=>by rw[←h ρ];exact s w0 gg H w E ρ hR hρ
def Zx{a:Array vU}{x y:vU}(h:a.toList=[x,y]):a=#[x,y]:=Lv.1 h
def Y1{a:Array vU}{x:vU}(h:a.toList=[x]):a=#[x]:=Lv.1 h
def zpi(P:Program)(ts:Array TypeId)(D:Array Operand)(R:TypeId):Nn P (zj3 P ts D) (λG=>do pure (.value (←Builtin.append_ ts R (D.map G)))):=by
 unfold zj3;split
 ·rename_i st T s x U E;have V:=Zx U;have F:=Zx E;subst V F;refine Nn.congr (nx:=λG=>do pure (.value (←Builtin.append_ #[st,T] R #[G s,G x]))) (λG=>N) ?_;have H:∀g,P.underlying st=some (.slice g)→∀d,P.underlying T=some d→(d=.string∨∃e,d=.slice e)→Nn P (yk P g s x) (λG=>do pure (.value (←Builtin.append_ #[st,T] R #[G s,G x]))):=by
   intro g hu d hd X;unfold yk;split
   ·rename_i i gE hi L;split
    ·rename_i Y;obtain⟨j,z⟩:=Y;refine bu λw0 C gF w G a b M Z O=>?_
     split
     ·rename_i n l ht;split
      ·rename_i hn;have A:n≤1048576:=H6 hn;obtain⟨vs,h1,h2,h3,h4,h5⟩:=zl7 (P:=P) M O ht;have gD:vs.length=n*i.size:=by have:=h1.length;omega
       refine zqu M hu hi j z L Z (news:=vs.toArray) ⟨d,hd,.inl ⟨X,h4,λw' hw=>?_⟩⟩ A (by simpa using h1) h2 h3;rw[h5 n (Hw _) w' hw,H7 J]
      ·exact trivial
     ·exact trivial
    ·exact Nz P _
   ·exact Nz P _
  split
  ·rename_i g k hu I;unfold zn2;split
   ·rename_i i gE hi L;split
    ·rename_i Y;obtain⟨j,z⟩:=Y;refine bu λw0 C gF w G a b M Z O=>?_
     split
     ·rename_i n;split
      ·rename_i hn;have A:n≤1048576:=H6 hn;obtain⟨Q,gG,gg,gz,K,gA⟩:=zey L;rw[hi]at K;cases K;obtain⟨k1,k2⟩:=Y7 (C:=C) gz;have gC:Q.cells.size=i.size:=by have:=k1.length;simp at this;omega
       have B:VRs C (S8 gE n) (Builtin.zeroCells Q.cells n).toList:=by
        unfold Builtin.zeroCells;rw[zbs];exact z4k k1 n
       generalize G x=px at O;cases O;exact zqu M hu hi j z L Z (news:=Builtin.zeroCells Q.cells n) ⟨_,I,.inr ⟨⟨_,rfl⟩,rfl,A,j,Q,gg,⟨i,hi,z⟩,rfl,gC⟩⟩ A B (z4l k2 n) (by rw[z5v,gA])
      ·exact trivial
     ·exact trivial
    ·exact Nz P _
   ·exact Nz P _
  ·rename_i g e hu I;exact H g hu _ I (.inr ⟨e,rfl⟩)
  ·rename_i g hu I;exact H g hu _ I (.inl rfl)
  ·exact Nz P _
 ·exact Nz P _
def zvj(P:Program)(R:Array TypeId)(g:Array Operand)(T:TypeId):Nn P (zyh P R g) (λE=>do pure (.value (←Builtin.copy_ R T (g.map E)))):=by
 unfold zyh;split
 ·rename_i st xt s x G A;have H:=Zx G;have B:=Zx A;subst H B;refine Nn.congr (nx:=λE=>do pure (.value (←Builtin.copy_ #[st,xt] T #[E s,E x]))) (λE=>N) ?_;split
  ·rename_i U hu;split
   ·exact Nz P _
   ·rename_i j I;split
    ·rename_i V;refine bu λw0 gA gD w E a b F z hb=>?_
     split
     ·rename_i n l ht;obtain⟨X,Y,h2,h3,K,L⟩:=zl7 (P:=P) F hb ht;have gz:X.length=n*j:=by have:=Y.length;omega
      split
      ·generalize E s=Z at z;cases z;refine Ph F (x:=.int .i64 0) (.int _ _) ?_;have C:=L 0 (Kn _) w rfl;have M:Nat.min n 0=0:=Nat.min_zero n;unfold Builtin.copy_;simp only[Jf,Ii,Ib,Sem.run_bind,N6 hu,Result.andThen_ok,K,R5 I,M,C,Sem.run_pure];rfl
      ·generalize E s=Z at z;cases z with
       | @emp ad cap =>
        refine Ph F (x:=.int .i64 0) (.int _ _) ?_;have C:=L 0 (Kn _) w rfl;have M:Nat.min n 0=0:=Nat.min_zero n;unfold Builtin.copy_;simp only[Jf,Ii,Ib,Sem.run_bind,N6 hu,Result.andThen_ok,K,R5 I,M,C,Sem.run_pure];simp[storeCells,goInt]
      ·rename_i o v i len D gg;split
       ·rename_i he;have O:D=j:=H0 he;subst O;split
        ·rename_i H' hw;generalize E s=Z at z;cases z with
         | @sl _ _ _ _ _ _ gC cap hL q1 q2 q3 =>
          have hm:Py n len=Nat.min n len:=zhv n len;have C:=L (Nat.min n len) (Nat.min_le_left _ _) w rfl;obtain⟨w',r1,r2⟩:=F.write P hw hL (Y.take _) (λa z=>h2 a (L5 z));rw[hm]at r1 ⊢;refine⟨gA,w',.int .i64 (Int.ofNat (Nat.min n len)),CM.le_refl gA,r2,.int _ _,.inl ?_⟩;unfold Builtin.copy_;have Q:(storeCells ⟨gC.b,gC.d+i,none⟩ (X.take (Nat.min n len*D))).run P w=.ok () w':=r1;simp only[Jf,Ii,Ib,Sem.run_bind,N6 hu,Result.andThen_ok,K,R5 I,C,Sem.run_pure,Q];rfl
        ·exact trivial
       ·exact trivial
      ·exact trivial
     ·exact trivial
    ·exact Nz P _
  ·exact Nz P _
 ·exact Nz P _
def zs0(D:Program)(U:Array TypeId)(g:Array Operand)(V:TypeId):Nn D (zo6 D U g) (λE=>do pure (.value (←Builtin.clear_ U V (g.map E)))):=by
 unfold zo6;split
 ·rename_i st x F j;have G:=Y1 F;have z:=Y1 j;subst G z;refine Nn.congr (nx:=λE=>do pure (.value (←Builtin.clear_ #[st] V #[E x]))) (λE=>N) ?_;split
  ·rename_i X hu;split
   ·rename_i B gE hs hz;split
    ·rename_i Y;refine So λw0 Z gF w E a H A=>?_
     split
     ·generalize E x=px at A;cases A;refine Ph H (x:=.tuple #[]) (.tup .nil) ?_;simp[Builtin.clear_,N6 hu]
     ·generalize E x=px at A;cases A with
      | @emp ad cap =>
       refine Ph H (x:=.tuple #[]) (.tup .nil) ?_;simp[Builtin.clear_,N6 hu]
     ·rename_i o v i len I gg;split
      ·rename_i he;have K:I=B:=H0 he;subst K;split
       ·rename_i H' hw;generalize E x=px at A;cases A with
        | @sl _ _ _ _ _ _ gD cap hL q1 q2 q3 =>
         obtain⟨L,gG,M,O,gA,gC⟩:=zey hz;obtain⟨k1,k2⟩:=Y7 (C:=Z) O;obtain⟨P,Q,r2⟩:=H.write D hw hL (z4k k1 len) (z4l k2 len);by_cases R:len=0
         ·subst R;have:P=w:=by
           have:(storeCells ⟨gD.b,gD.d+i,none⟩ (Sx L.cells.toList 0)).run D w=.ok () w:=rfl;rw[this]at Q;cases Q;rfl
          subst this;exact⟨Z,P,.tuple #[],CM.le_refl Z,r2,.tup .nil,.inl (by simp[Builtin.clear_,N6 hu])⟩
         ·refine⟨Z,P,.tuple #[],CM.le_refl Z,r2,.tup .nil,.inl ?_⟩;unfold Builtin.clear_;have T:(Builtin.zeroCells L.cells len).toList=Sx L.cells.toList len:=by unfold Builtin.zeroCells;exact zbs _ _
          obtain⟨gz,rfl⟩:∃k,len=k+1:=⟨len-1,J⟩;simp only[Jf,Ii,Sem.run_bind,N6 hu,Result.andThen_ok,M,Sem.run_pure,T,Q]
       ·exact trivial
      ·exact trivial
     ·exact trivial
    ·exact Nz D _
   ·exact Nz D _
  ·exact Nz D _
 ·exact Nz D _
def zyl(I:Program)(t K:TypeId)(x:Operand):Nn I (Uj I t x) (λz=>do pure (.value (←Builtin.len_ #[t] K #[z x]))):=by
 unfold Uj;split
 ·rename_i hu;refine So λE L M w z a j g=>?_
  split
  ·generalize z x=A at g;cases g with
   | @str _ _ s O P =>
    subst O P;exact Ph j (x:=.int .i64 (Int.ofNat s.size)) (.int _ _) A7
  ·exact trivial
 ·rename_i e hu;refine So λE L M w z a j g=>?_
  split
  ·rename_i o v i len Q F;generalize z x=A at g;cases g with
   |sl=>exact Ph j (x:=.int .i64 (Int.ofNat len)) (.int _ _) A7
  ·generalize z x=A at g;cases g;exact Ph j (x:=.int .i64 0) (.int _ _) A7
  ·generalize z x=A at g;cases g;exact Ph j (x:=.int .i64 0) (.int _ _) A7
  ·exact trivial
 ·rename_i k e hu;refine So λE L M w z a j g=>?_
  split
  ·generalize z x=A at g;cases g;exact Ph j (x:=.int .i64 0) (.int _ _) A7
  ·rename_i o;split
   ·rename_i G R T;generalize z x=A at g;cases g with
    | @map _ X H =>
     obtain⟨_,B,U,V⟩:=j.obj o _ (j.fresh _ _ _ H) T _ H;have C:G.length=B.size:=by have:=V.length;simpa using this
     have D:(getObj X.b).run I w=.ok (.map B R) w:=by simp[getObj,Sem.run,U]
     exact Ph j (x:=.int .i64 (Int.ofNat G.length)) (.int _ _) (by simp[Builtin.len_,N6 hu,D,goInt,C])
   ·exact trivial
  ·exact trivial
 ·rename_i n e hu;refine So λE L M w z a j g=>?_
  exact Ph j (x:=.int .i64 (Int.ofNat n)) (.int _ _) A7
 ·exact Nz I _
def zya(A:Program)(t B:TypeId)(x:Operand):Nn A (Wn A t x) (λz=>do pure (.value (←Builtin.cap_ #[t] B #[z x]))):=by
 unfold Wn;split
 ·rename_i e hu;refine So λF G H w z a j g=>?_
  split
  ·generalize z x=C at g;cases g;exact Ph j (x:=.int .i64 0) (.int _ _) (by simp[Builtin.cap_,N6 hu,goInt])
  ·rename_i r;generalize z x=C at g;cases g with
   |sl _ _ _ _ D =>
    obtain⟨E,_⟩:=D r rfl;subst E;exact Ph j (.int .i64 _) (by simp[Builtin.cap_,N6 hu,goInt])
  ·exact trivial
 ·exact Nz A _
def zxa{P:Program}{w:World}{a b r:AV}(h:Wp Q a b=some r){u v:Value}(hu:VR M a u)(hv:VR M b v) :
  ∃z,(if Q then Builtin.max2 u v else Builtin.min2 u v).run P w=.ok z w∧VR M r z:=by
 unfold Wp at h;split at h
 ·rename_i k x A y;split at h
  ·rename_i j;have:=z7c j;subst this;cases hu;cases hv;split at h
   ·split at h
    ·rename_i g;rw[vd]at g;cases h;refine⟨.int k y,?_,.int _ _⟩;have:y>x:=A2
     simp[Builtin.max2,this]
    ·rename_i g;rw[vd]at g;cases h;refine⟨.int k x,?_,.int _ _⟩;have:¬y>x:=A2
     simp[Builtin.max2,this]
   ·split at h
    ·rename_i g;rw[vd]at g;cases h;refine⟨.int k y,?_,.int _ _⟩;have:y<x:=A2
     simp[Builtin.min2,this]
    ·rename_i g;rw[vd]at g;cases h;refine⟨.int k x,?_,.int _ _⟩;have:¬y<x:=A2
     simp[Builtin.min2,this]
  ·cases h
 ·cases h
def zg7{P:Program}{w:World}{B:CM}{g:Bool}:∀{l:List AV} {a r:AV},bj g a l=some r→∀{u:Value} {j:List Value},VR B a u→VRs B l j →
  ∃A,(j.foldlM (if g then Builtin.max2 else Builtin.min2) u).run P w=.ok A w∧VR B r A
 |[],a,r,h,u,[],hu,.nil=>by cases h;exact⟨u,N,hu⟩
 |b::l,a,r,h,u,v::j,hu,.cons e C=>by
  unfold bj at h;split at h
  ·rename_i c D;obtain⟨A,E,F⟩:=zxa (P:=P) (w:=w) D hu e;obtain⟨G,H,I⟩:=zg7 (P:=P) (w:=w) h F C;refine⟨G,?_,I⟩;have z:((if g then Builtin.max2 else Builtin.min2) u v).run P w=.ok A w:=by cases g<;>simpa using E
   simp only[List.foldlM_cons,Sem.run_bind,z,Result.andThen_ok,H]
  ·cases h
def zqd(P:Program)(A:Bool)(g:Array Operand)(C:Array TypeId)(D:TypeId) :
  Nn P (Tp A g.toList) (λB=>do pure (.value (←if A then Builtin.max_ C D (g.map B) else Builtin.min_ C D (g.map B)))):=by
 intro M T U w O B E F;unfold Tp;dsimp only;cases G:(opds g.toList).run O with
 |none=>exact trivial
 |some H =>
  cases H with
  |nil=>exact trivial
  |cons a l =>
   cases a with
   |int k n =>
    refine yn E λr I=>?_
    have hv:=z77 F G;have j:(g.map B).toList=g.toList.map B:=Jq ..;generalize Q:g.toList.map B=V at hv j;cases hv with
    |cons e K =>
     obtain⟨R,z,L⟩:=zg7 (P:=P) (w:=w) I e K;refine⟨R,?_,L⟩;cases A
     ·simp only[J8,Le,Builtin.min_,j]at z ⊢;simp only[Sem.run_bind,z,Result.andThen_ok,Sem.run_pure]
     ·simp only[Ky,Builtin.max_,j]at z ⊢;simp only[Sem.run_bind,z,Result.andThen_ok,Sem.run_pure]
   |_=>exact trivial
def zfv{G:CM}{d:TypeDesc}{k:AV}{u:Value}(hu:VR G k u):∀{E j:List (AV×AV×Nat)} {g:List MapEntry} (i:Nat),zhf d k E=some j→MR G E g →
  (Instr.findNow d u g i=some none∧MR G j g)∨(∃B y,Instr.findNow d u g i=some (some (B+i,y))∧B<g.length∧MR G j (g.eraseIdx B))
 |[],j,[],i,h,.nil=>by cases h;exact .inl ⟨rfl,.nil⟩
 |(K,L,b)::l,j,e::r,i,h,.cons z hv F hm=>by
  unfold zhf at h;split at h
  ·rename_i A;cases h;exact .inr ⟨0,e.val,by simp[Instr.findNow,(x7 A hu z).1],N,D3⟩
  ·rename_i A;split at h
   ·rename_i M H;cases h;rcases zfv hu (i+1) H hm with ⟨C,D⟩|⟨B,y,C,D,I⟩
    ·exact .inl ⟨by simpa [Instr.findNow,(x7 A hu z).1] using C,.cons z hv F D⟩
    ·refine .inr ⟨B+1,y,?_,Ee,.cons z hv F I⟩;rw[show B+1+i=B+(i+1) from J];simpa [Instr.findNow,(x7 A hu z).1] using C
   ·cases h
  ·cases h
def zqn(K:Program)(T:Array TypeId)(z:Array Operand)(U:TypeId):Nn K (ziu K T z) (λL=>do pure (.value (←Builtin.delete_ T U (z.map L)))):=by
 unfold ziu;split
 ·rename_i st xt s x M C;have O:=Zx M;have D:=Zx C;subst O D;refine Nn.congr (nx:=λL=>do pure (.value (←Builtin.delete_ #[st,xt] U #[L s,L x]))) (λL=>N) ?_;split
  ·rename_i gz e hu;split
   ·rename_i d hd;obtain⟨F,_⟩:=zen hd;refine bu λw0 Z gC w L a b G V hb=>?_
    split
    ·rename_i o;split
     ·rename_i es P hg;split
      ·rename_i gA hs;generalize L s=ps at V;cases V with
       | @map _ X E =>
        obtain⟨I,g,Y,q2⟩:=G.obj o _ (G.fresh _ _ _ E) hg _ E;have H:=G.lt _ _ _ E;have A:(getObj X.b).run K w=.ok (.map g P) w:=by simp[getObj,Sem.run,Y]
        have B:∀y,(setObj X.b y).run K w=.ok () { w with heap:=w.heap.setIfInBounds X.b y }:=by intro y;simp[setObj,Sem.run,Y]
        rcases zfv hb 0 hs q2 with ⟨Q,R⟩|⟨gg,y,Q,R,p3⟩
        ·refine⟨Z,{ w with heap:=w.heap.setIfInBounds X.b (.map g P) },.tuple #[],CM.le_refl Z,G.putObj E I _ _ ?_ (λ_ _ _ _ e=>Aq),.tup .nil,.inl ?_⟩
         ·intro L' j;rw[E]at j;cases j;exact⟨I,_,putObj_heap_same w _ H,R⟩
         ·unfold Builtin.delete_;simp only[Jf,Ii,Ib,Sem.run_bind,N6 hu,Result.andThen_ok,A,yd hd,zi F Q,B,Sem.run_pure]
        ·refine⟨Z,{ w with heap:=w.heap.setIfInBounds X.b (.map (g.eraseIdxIfInBounds gg) P) },.tuple #[],CM.le_refl Z,G.putObj E I _ _ ?_ (λ_ _ _ _ e=>Aq),.tup .nil,.inl ?_⟩
         ·intro L' j;rw[E]at j;cases j;refine⟨I,_,putObj_heap_same w _ H,?_⟩;have hj:gg<g.size:=by simpa using R
          have:(g.eraseIdxIfInBounds gg).toList=g.toList.eraseIdx gg:=by
           simp[Array.eraseIdxIfInBounds,hj]
          rw[this];exact p3
         ·unfold Builtin.delete_;simp only[Jf,Ii,Ib,Sem.run_bind,N6 hu,Result.andThen_ok,A,yd hd,zi F Q,Kr,B,Sem.run_pure]
      ·exact trivial
     ·exact trivial
    ·exact trivial
   ·exact Nz K _
  ·exact Nz K _
 ·exact Nz K _
end
section
open Go.RowKit (Below)
def zay{w:World}{f:Nat}(h:uk B f=true)(args:Array Value):(callFunc f args).run B w=.ok (.enter f args) w:=by
 unfold uk at h;cases g:B.funcs[f]? with
 |none=>rw[g]at h;cases h
 |some fn =>
  rw[g]at h;simp only[Hq,bne_iff_ne,ne_eq]at h;obtain⟨A,z⟩:=h;have j:fn.body≠none:=by intro e;rw[e]at z;cases z
  simp[callFunc,g,A,j]
def zxu{w:World}{gv:Value}(E:VR M I gv){vs:Array Value}(hv:VRs M T vs.toList){F:Sem Next}
  (g:∀fn first cap,gv=.func fn first cap→F.run B w=(invoke (.fn fn cap) (first++vs)).run B w):Qt B K M w F (na B I T):=by
 unfold na;split
 ·rename_i f first cap
  split
  ·rename_i H;cases E with
   | @fn _ L _ _ j z A C G =>
    cases A with
    |same =>
     refine⟨j.toList++vs.toList++z.toList,(C.append hv).append G,.inl ⟨f,rfl,?_⟩⟩;rw[g _ _ _ rfl];have:(j++vs++z)=(j.toList++vs.toList++z.toList).toArray:=N
     rw[←this];exact zay H _
  ·exact trivial
 ·rename_i l cap;cases E with
  | @fn _ L _ _ j z A C G =>
   cases A with
   |same _ h=>exact absurd rfl (h l)
   | @yield _ P O =>
    have D:j=#[]:=by
     have:=C.length;exact J9 (by simpa using this.symm)
    subst D;refine⟨vs.toList,hv,.inr ⟨l,P,rfl,O,?_⟩⟩;rw[g _ _ _ rfl];simp[invoke]
 ·exact trivial
theorem zvw {fn : Func} (g : fn.name = "maps.clone") (j : fn.origin = "") : Extern.findNext fn = none ∧ Extern.find fn = some Extern.MapsClone.clone := by
 have z : Extern.allNextRows.lookup "maps.clone" = none := Aa
 have A : Extern.allNextRows.lookup "" = none := Aa
 have B : Extern.allGenericRows.lookup "maps.clone" = none := Aa
 have C : Extern.allTypedRows.lookup "maps.clone" = none := Aa
 have D : Extern.allRows.lookup "maps.clone" = some Extern.MapsClone.clone := Aa
 refine⟨?_,?_⟩
 ·unfold Extern.findNext;dsimp only;rw[g,j,z,A];rfl
 ·unfold Extern.find;dsimp only;rw[g,B,C,D];rfl
def Zs{P:Program}{w:World}{r:Nat}{z:Array MapEntry}(t:TypeId)(A:w.heap[r]?=some (.map z g)) :
  (Extern.MapsClone.clone #[.iface t (.map (some r))]).run P w=.ok (.iface t (.map (some w.heap.size))) (w.alloc (.map z g)):=by
 have e:Extern.MapsClone.clone #[.iface t (.map (some r))]=(getObj r >>= λo=>match o with
   |.map j g=>(_root_.Go.newObj (.map j g) >>= λn=>pure (.iface t (.map (some n))))
   | _ => stuck "maps.clone: a map expected") := rfl
 rw[e];simp[MapKept.run_getObj_map A,Result.andThen,go_sem]
def l7{P:Program}{w:World}(g:Rel K M F w){f:Nat}(j:zez P f=true){vs:Array Value}(hv:VRs M T vs.toList) :
  Qt P K M w (callFunc f vs) (zuh F T):=by
 unfold zez at j;split at j
 ·rename_i fn D;simp only[Hq,Lt]at j;obtain⟨⟨H,O⟩,Q⟩:=j;obtain⟨R,U⟩:=zvw H O;have z:=run_callFunc_extern (P:=P) D (by rw[H];decide) Q R U vs w;unfold zuh;split
  ·rename_i t o;split
   ·rename_i V I X
    ·generalize E:vs.toList=l at hv;cases hv with
     |cons G Y =>
      cases Y;cases G with
      |iface G =>
       cases G with
       | @map _ gg L =>
        have A:vs=#[.iface t (.map (some gg.b))]:=Lv.1 E;obtain⟨q1,B,Z,q3⟩:=g.obj _ _ (g.fresh _ _ _ L) X gg L;obtain⟨p1,p2⟩:=g.push (.map V I) (.map B I) 0 0 (λL' C=>by
         rw[CM.ext_same]at C;cases C;exact⟨g.low.size,B,ln _ _,q3.mono (CM.le_ext _ (g.next_none 0) (.inr (Kq g.nx)))⟩)
        refine⟨_,_,.iface t (.map (some w.heap.size)),p2,p1,.iface (.map (CM.ext_same _ _ _ _)),.inl ?_⟩;rw[z,A,Zs t Z];rfl
   ·exact trivial
  ·exact trivial
 ·cases j
def zo8{w:World}{t:TypeId}{g:String}{f:Nat}(h:zhs B t g=some f)(v:Value):(method (B.types.size+Made.depth) t v g).run B w=.ok (f,v) w:=by
 unfold zhs at h;have hd:B.types.size+Made.depth=(B.types.size+99)+1:=rfl;rw[hd];cases hi:B.info? t with
 |none=>rw[hi]at h;cases h
 |some i =>
  rw[hi]at h;dsimp only at h;cases hm:i.methods.find? (·.name==g) with
  |none=>rw[hm]at h;cases h
  |some m =>
   rw[hm]at h;dsimp only at h;split at h
   ·rename_i C;have j:m.path=#[]:=Array.isEmpty_iff.1 C;unfold method;simp only[Sem.run_bind,mz hi,Result.andThen_ok,hm,j,follow,Sem.run_pure];split at h
    ·rename_i D e z hu;cases h;simp only[z,Sem.run_bind,receiverAt,N6 hu,Result.andThen_ok,Place.get,Sem.run_pure]
    ·cases h
    ·rename_i D d A z hu;cases h;simp only[z,Sem.run_bind,receiverAt,N6 hu,Result.andThen_ok];cases d<;>first|rfl|exact absurd hu (A _)
    ·cases h
   ·cases h
def zve(z:Program)(c:Call)(o:Oper)(ho:o.op=.call c):Nn z (fj z c) (λj=>execOp j o):=by
 have F:∀j,execOp j o=(do let d ←resolve j c o.type;invoke d.target d.args):=λj=>Ah
 refine Nn.congr (λj=>(F j).symm) ?_;unfold fj;split
 ·rename_i b hb;have G:∀j,(do let d ←resolve j c o.type;invoke d.target d.args:Sem Next)=builtin b c.argTypes o.type (c.args.map fun | .const _=>true|_=>false) (c.args.map j):=by
   intro j;simp only[resolve,hb];rfl
  refine Nn.congr (λj=>(G j).symm) ?_;split
  ·split
   ·rename_i t x H I;have K:=Y1 H;have L:=Y1 I;exact Nn.congr (λj=>by rw[K,L];simp[builtin]) (zyl z t o.type x)
   ·exact Nz z _
  ·split
   ·rename_i t x H I;have K:=Y1 H;have L:=Y1 I;exact Nn.congr (λj=>by rw[K,L];simp[builtin]) (zya z t o.type x)
   ·exact Nz z _
  ·exact Nn.congr (λj=>Cd) (zqd z true c.args c.argTypes o.type)
  ·exact Nn.congr (λj=>Cd) (zqd z false c.args c.argTypes o.type)
  ·exact Nn.congr (λj=>Cd) (zpi z c.argTypes c.args o.type)
  ·exact Nn.congr (λj=>Cd) (zvj z c.argTypes c.args o.type)
  ·exact Nn.congr (λj=>Cd) (zs0 z c.argTypes c.args o.type)
  ·exact Nn.congr (λj=>Cd) (zqn z c.argTypes c.args o.type)
  ·exact Nz z _
 ·rename_i f Y;intro Z gA gC w gD j hR A;dsimp only;split
  ·rename_i gE hg;split
   ·rename_i l E;have B:Qt z Z gA w (do let d ←resolve j c o.type;invoke d.target d.args) (na z gE l):=by
     refine zxu (A _ _ hg) (vs:=c.args.map j) (by rw[Jq];exact z77 A E) (λfn first cap hv=>?_);simp only[resolve,Y,hv,Deferred.ofValue,Sem.run_bind,Sem.run_pure,Result.andThen_ok]
    unfold zj2;split
    ·rename_i f';split
     ·rename_i M;have O:=l7 hR M (vs:=c.args.map j) (by rw[Jq];exact z77 A E);have hv:=A _ _ hg;generalize P:j f=gv at hv;cases hv with
      | @fn _ g' _ _ l' r' Q R T =>
       cases Q with
       |same =>
        have U:l'=#[]:=J9 (by simpa using R.length.symm);have V:r'=#[]:=J9 (by simpa using T.length.symm);subst U V;have C:(do let d ←resolve j c o.type;invoke d.target d.args:Sem Next).run z w=(callFunc f' (c.args.map j)).run z w:=by
         simp only[resolve,Y,P,Deferred.ofValue,Sem.run_bind,Sem.run_pure,Result.andThen_ok,invoke];simp
        unfold Qt at O ⊢;split at O
        ·exact trivial
        ·obtain⟨C',w',x,a1,a2,a3,a4⟩:=O;exact⟨C',w',x,a1,a2,a3,by rw[C];exact a4⟩
        ·rename_i t gg g;unfold zuh at g;split at g
         ·split at g<;>cases g
         ·cases g
     ·exact B
    ·exact B
   ·exact trivial
  ·exact trivial
 ·rename_i r gz hr;intro Z gA gC w gD j hR A;dsimp only;split
  ·rename_i t v hv;split
   ·rename_i f hm;split
    ·rename_i l E;split
     ·rename_i hc;have D:=A _ _ hv;generalize X:j r=pv at D;cases D with
      | @iface _ _ u hu =>
       refine⟨u::c.args.toList.map j,.cons hu (z77 A E),.inl ⟨f,rfl,?_⟩⟩;have U:(#[Value.iface t u]++c.args.map j)[0]?=some (Value.iface t u):=by rw[Kk N];rfl
       have V:(#[Value.iface t u]++c.args.map j).extract 1 (#[Value.iface t u]++c.args.map j).size=c.args.map j:=N
       have e3:(#[u]++c.args.map j)=(u::c.args.toList.map j).toArray:=N
       simp only[resolve,hr,X,Sem.run_bind,Sem.run_pure,Result.andThen_ok,invoke,U,V,callMethod,run_program,zo8 hm u,e3];exact zay hc _
     ·exact trivial
    ·exact trivial
   ·exact trivial
  ·exact trivial
def cf(P:Program)(o:Oper):Nn P (Ny P o.op) (λg=>execOp g o):=by
 generalize ho:o.op=op;cases op with
 |move x=>exact Nn.congr (λg=>Ah) (zl3 P x)
 |assign x=>exact Nn.congr (λg=>Ah) (zl3 P x)
 |pick c a b=>exact Nn.congr (λg=>Ah) (zvl P c a b)
 |alloc t=>exact Nn.congr (λg=>by simp only[execOp,ho]) (zsv P t)
 |box t x=>exact Nn.congr (λg=>Ah) (zxf P t x)
 |build t j=>exact Nn.congr (λg=>Ah) (zrq P t j)
 |buildSlice t n j=>exact Nn.congr (λg=>Ah) (zgd P t n j)
 |load t a=>exact Nn.congr (λg=>Ah) (zvv P t a)
 |store t a x=>exact Nn.congr (λg=>Ah) (zrs P t a x)
 |nilCheck x=>exact zk5 P x o ho
 |binOp op t x y z=>exact zzy P op t z x y o ho
 |unOp op t x=>exact ju P op t x o ho
 |convert s d x=>exact Nn.congr (λg=>Ah) (zwh P s d x)
 |makeInterface t x=>exact Nn.congr (λg=>Ah) (zm4 P t x)
 |makeFunc f a b =>
  cases f with
  |yield l=>exact Nz P _
  |_=>exact Nn.congr (λg=>Ah) (zq0 P _ a b (λl e=>Aq))
 |makeMap t r=>exact Nn.congr (λg=>Ah) (zsa P t r)
 |makeSlice t l c=>exact Nn.congr (λg=>Ah) (zm6 P t l c)
 |slice t x a b c=>exact Nn.congr (λg=>Ah) (zs9 P t x a b c)
 |fieldAddr t x f=>exact Nn.congr (λg=>Ah) (zho P t x f)
 |field t x f=>exact Nn.congr (λg=>Ah) (zsj P t x f)
 |indexAddr t x i=>exact Nn.congr (λg=>Ah) (zi0 P t x i)
 |index t x i=>exact Nn.congr (λg=>Ah) (zsu P t x i)
 |lookup t x i ok=>exact Nn.congr (λg=>Ah) (zqx P t x i ok)
 |mapUpdate t m k x=>exact Nn.congr (λg=>Ah) (za7 P t m k x)
 |insert t m k x=>exact Nn.congr (λg=>Ah) (za7 P t m k x)
 |range t x=>exact Nn.congr (λg=>Ah) (zrp P t x)
 |next A s=>exact Nn.congr (λg=>Ah) (zwg P A s o.type)
 |typeAssert x t a ok=>exact Nn.congr (λg=>Ah) (znw P x t a ok)
 |extract t i=>exact Nn.congr (λg=>Ah) (zml P t i)
 |call c=>exact zve P c o ho
 |_=>exact Nz P _
end
section
open Go.RowKit (Below)
def znv(P:Program)(A:World)(F:CM)(w:World)(t:Tgt)(B:List Value)(v:AV)(C:Heap):Prop :=
 match t with
 |.fn f=>∀cs,∃g w' j z,F.le g∧Rel A g C w'∧VR g v j∧Steps P (lone (Frame.enter P f B.toArray .normal) cs w) (lone z cs w')∧z.fn=f∧z.leaving P w' (.returned j)
 |.yield l=>∀E,F l 0=some E→∀c cs,∃g w' j f D a b,F.le g∧Rel A g C w'∧VR g v j∧(Instr.yield E.b B.toArray).run P w=.ok (.round E.b f D a b) w ∧
   Steps P (lone (Frame.round E.b f D a b .normal) (c::cs) w) (lone (c.finish j) cs w')
def cg(P:Program)(c:Qe):Prop :=
 ∀j B C w t g z v A,Rel j B C w→VRs B g z→c t g C=.ok v A→znv P j B w t z v A
def zxy(P:Program):cg P noO:=λ_ _ _ _ _ _ _ _ _ _ _ h=>An
noncomputable def Oo(d:Option Tmp)(a:AV)(E:Tr AV):Tr AV:=match d with
 |none=>E
 |some d=>Oh a (M9 d) E
def zb5{n:Nat}{d:Option Tmp}{p:PutF}(h:Qk n d=some p):(∀a E,p.run a E=Oo d a E)∧∀t,d=some t→t<n:=by
 unfold Qk at h;split at h
 ·cases h;exact⟨λ_ _=>rfl,λt e=>Aq⟩
 ·split at h
  ·rename_i hd;cases h;exact⟨λ_ _=>rfl,λt e=>by cases e;exact hd⟩
  ·cases h
def ER.put{n:Nat}{gz:CM}{E:Tr AV}{a:Act}(h:ER n gz E a.tmps){d:Option Tmp}(hd:∀t,d=some t→t<n){C:AV}{x:Value}(hv:VR gz C x):ER n gz (Oo d C E) (a.put d x).tmps:=by
 obtain⟨h1,h2,h3⟩:=h;cases d with
 |none=>exact⟨h1,h2,h3⟩
 |some d =>
  have gg:(d:Nat)<n:=hd d rfl;refine⟨by show (a.tmps.setIfInBounds d x).size=n;simpa using h1,h2,λt ht=>?_⟩;show OVR gz (Mt (M9 t) (Oh C (M9 d) E)) ((a.tmps.setIfInBounds d x).getD t undef);rw[zjh];by_cases e:t=d
  ·subst e;rw[Hv rfl];have:(a.tmps.setIfInBounds t x).getD t undef=x:=by
    rw[Iu,Array.getElem?_setIfInBounds_self_of_lt (show t<a.tmps.size by rw[h1];exact gg)];rfl
   rw[this];exact hv
  ·rw[Hs e];have:(a.tmps.setIfInBounds d x).getD t undef=a.tmps.getD t undef:=by
    rw[Iu,Array.getElem?_setIfInBounds_ne (λq=>e q.symm),←Iu]
   rw[this];exact h3 t ht
def zi1{n:Nat}{E:Tr AV}(h:ER n M E vR)(ops:Array Oper)(o:Oper):(R3 ops o).run E=Region.wanted o (yielded ops vR):=by
 obtain⟨H,I,K⟩:=h;unfold R3 Region.wanted;cases O:o.guard with
 |none=>rfl
 |some L =>
  obtain⟨Q,A⟩:=L;dsimp only;unfold yielded;cases hd:(ops[Q]?).bind (·.dst) with
  |none=>rfl
  |some d =>
   dsimp only[Option.bind];split
   ·rename_i j;dsimp only;have g:=K d j;by_cases B:d<vR.size
    ·have z:vR[d]?=some vR[d]:=Jn B;have D:vR.getD d undef=vR[d]:=by rw[Iu,z];rfl
     rw[D]at g;rw[z];generalize vR[d]=v at g;cases C:Mt (M9 d) E with
     |none =>
      rw[C]at g;have:v=undef:=g;subst this;rfl
     |some F =>
      rw[C]at g;have G:VR M F v:=g;cases G with
      |bool b=>cases b<;>cases A<;>rfl
      |_=>rfl
    ·have z:vR[d]?=none:=Lq (Nat.le_of_not_lt B);have D:vR.getD d undef=undef:=by rw[Iu,z];rfl
     rw[D]at g;rw[z];cases C:Mt (M9 d) E with
     |none=>rfl
     |some F =>
      rw[C]at g;have G:VR M F undef:=g;cases G;rfl
   ·rename_i j;have z:vR[d]?=none:=Lq (by rw[H];exact Is I (Ma (Nat.lt_of_not_le j)));rw[z];rfl
section steps
variable {P : Program} {b : Frame} {a : Act} {k : List Item} {cs : List Frame} {w w' : World} {ops : Array Oper}
def zul{i:Nat}{rest:List Nat}{o:Oper}(ho:ops[i]?=some o)(v:Value):(b.atR a (.inRegion ops (i::rest)::k)).finish v=b.atR (a.put o.dst v) (.inRegion ops rest::k):=by
 rw[Frame.finish_atR,ho];rfl
def ztj{i:Nat}{rest:List Nat}{o:Oper}{x:Value}(ho:ops[i]?=some o)(hw:Region.wanted o (yielded ops a.tmps)=true)(hd:∀c,o.op≠.defer c)
  (g:(execOp a.eval o).run P w=.ok (.value x) w') :
  step P (lone (b.atR a (.inRegion ops (i::rest)::k)) cs w)=.next (lone (b.atR (a.put o.dst x) (.inRegion ops rest::k)) cs w'):=by
 refine step_lone_go ?_;rw[stepGR_op (b:=b) (k:=k) (cs:=cs) ho hw,Oper.semAt_eq _ _ _ hd,←zul ho];simp[stepG.apply,Sem.runT_eq,g]
def c8{i:Nat}{rest:List Nat}{o:Oper}(ho:ops[i]?=some o)(hw:Region.wanted o (yielded ops a.tmps)=true)(hd:∀c,o.op≠.defer c)
  (g:(execOp a.eval o).run P w=.ok .skip w') :
  step P (lone (b.atR a (.inRegion ops (i::rest)::k)) cs w)=.next (lone (b.atR (a.put o.dst undef) (.inRegion ops rest::k)) cs w'):=by
 refine step_lone_go ?_;rw[stepGR_op (b:=b) (k:=k) (cs:=cs) ho hw,Oper.semAt_eq _ _ _ hd,←zul ho];simp[stepG.apply,Sem.runT_eq,g]
def zwa{i:Nat}{rest:List Nat}{o:Oper}{f:Nat}(ho:ops[i]?=some o)(hw:Region.wanted o (yielded ops a.tmps)=true)(hd:∀c,o.op≠.defer c)
  (g:(execOp a.eval o).run P w=.ok (.enter f vR) w') :
  step P (lone (b.atR a (.inRegion ops (i::rest)::k)) cs w)=.next (lone (Frame.enter P f vR .normal) (b.atR a (.inRegion ops (i::rest)::k)::cs) w'):=by
 refine step_lone_go ?_;rw[stepGR_op (b:=b) (k:=k) (cs:=cs) ho hw,Oper.semAt_eq _ _ _ hd];simp[stepG.apply,Sem.runT_eq,g,Frame.atR]
def e9{i:Nat}{rest:List Nat}{o:Oper}{l f:Nat}{x y:Code}(ho:ops[i]?=some o)(hw:Region.wanted o (yielded ops a.tmps)=true)(hd:∀c,o.op≠.defer c)
  (g:(execOp a.eval o).run P w=.ok (.round l f vR x y) w') :
  step P (lone (b.atR a (.inRegion ops (i::rest)::k)) cs w)=.next (lone (Frame.round l f vR x y .normal) (b.atR a (.inRegion ops (i::rest)::k)::cs) w'):=by
 refine step_lone_go ?_;rw[stepGR_op (b:=b) (k:=k) (cs:=cs) ho hw,Oper.semAt_eq _ _ _ hd];simp[stepG.apply,Sem.runT_eq,g]
end steps
def zis{P:Program}{o:Oper}{E:Tr AV}{H:Heap}(h:(Ny P o.op).run E H≠.no):∀c,o.op≠.defer c:=by
 intro c e;rw[e]at h;exact h rfl
def zie{P:Program}{c:Qe}(hc:cg P c){n:Nat}{ops:Array Oper}{i:Nat}{o:Oper}(ho:ops[i]?=some o){H:Heap}{w:World}{E:Tr AV}{a:Act}
  (Y:Rel K M H w) (hE:ER n M E a.tmps) (h:(Qj P n ops o).run c E H=.ok vG F) (b:Frame) (rest:List Nat) (k:List Item) (cs:List Frame) :
  ∃C w' x av,M.le C∧Rel K C F w'∧VR C av x∧vG=Oo o.dst av E∧(∀t,o.dst=some t→t<n) ∧
   Steps P (lone (b.atR a (.inRegion ops (i::rest)::k)) cs w) (lone (b.atR (a.put o.dst x) (.inRegion ops rest::k)) cs w'):=by
 unfold Qj at h;cases Z:Qk n o.dst with
 |none=>rw[Z]at h;cases h
 |some p =>
  rw[Z]at h;dsimp only at h;obtain⟨g,z⟩:=zb5 Z;have V:=zi1 hE ops o;cases R:(R3 ops o).run E with
  |false =>
   rw[R]at h V;cases h;refine⟨M,w,undef,Rh,CM.le_refl M,Y,.tup .nil,g _ _,z,.one ?_⟩;have:=stepR_op_skip (P:=P) (b:=b) (a:=a) (k:=k) (cs:=cs) (w:=w) (ops:=ops) (i:=i) (rest:=rest) (by rw[ho];simpa using V.symm);rw[this,ho];rfl
  |true =>
   rw[R]at h V;dsimp only at h;have hw:Region.wanted o (yielded ops a.tmps)=true:=V.symm;have X:=cf P o K M H w E a.eval Y (z9h hE);cases T:(Ny P o.op).run E H with
   |no=>rw[T]at h;cases h
   |val v H2 =>
    rw[T]at h X;cases h;have A:=zis (P:=P) (o:=o) (E:=E) (H:=H) (by rw[T];intro e;cases e);obtain⟨C,w',x,L,O,Q,D⟩:=X;rcases D with D|⟨D,rfl⟩
    ·exact⟨C,w',x,v,L,O,Q,g _ _,z,.one (ztj ho hw A D)⟩
    ·exact⟨C,w',undef,v,L,O,Q,g _ _,z,.one (c8 ho hw A D)⟩
   |call t U =>
    rw[T]at h X;dsimp only at h;have A:=zis (P:=P) (o:=o) (E:=E) (H:=H) (by rw[T];intro e;cases e);cases G:c t U H with
    |no=>rw[G]at h;cases h
    |ok v H2 =>
     rw[G]at h;cases h;obtain⟨vs,hv,I⟩:=X;have B:=hc _ _ _ _ _ _ _ _ _ Y hv G;rcases I with ⟨f,rfl,j⟩|⟨l,gg,rfl,hL,j⟩
     ·obtain⟨C,w',v',fr,L,O,Q,D,h5,h6⟩:=B (b.atR a (.inRegion ops (i::rest)::k)::cs);refine⟨C,w',v',v,L,O,Q,g _ _,z,.head (zwa ho hw A j) (Steps.trans D (.one ?_))⟩;rw[step_leave_returned h6,zul ho]
     ·obtain⟨C,w',v',f,tm,x,y,L,O,Q,D,h5⟩:=B gg hL (b.atR a (.inRegion ops (i::rest)::k)) cs;rw[D]at j;refine⟨C,w',v',v,L,O,Q,g _ _,z,.head (e9 ho hw A j) ?_⟩;rw[←zul ho];exact h5
def zpn{P:Program}{c:Qe}(K:cg P c){n:Nat}{ops:Array Oper}(b:Frame)(k:List Item)(cs:List Frame):∀(l:List Oper) (i:Nat),ops.toList.drop i=l →
  ∀{j:World} {C:CM} {L z:Heap} {w:World} {M A:Tr AV} {a:Act},Rel j C L w→ER n C M a.tmps→(mw P n ops l).run c M L=.ok A z →
  ∃D w' E,C.le D∧Rel j D z w'∧ER n D A E.tmps∧E.defers=a.defers ∧
   Steps P (lone (b.atR a (.inRegion ops (List.range' i l.length)::k)) cs w) (lone (b.atR E (.inRegion ops []::k)) cs w')
 |[],i,g,j,C,L,z,w,M,A,a,F,B,h=>by
  cases h;exact⟨C,w,a,CM.le_refl C,F,B,rfl,.refl _ _⟩
 |o::l,i,g,j,C,L,z,w,M,A,a,F,B,h=>by
  have hi:i<ops.toList.length:=by
   rcases Kb i ops.toList.length with G|G
   ·exact G
   ·rw[List.drop_eq_nil_of_le G]at g;cases g
  rw[Jb hi]at g;injection g with ho g
  have H:ops[i]?=some o:=by rw[←ho];simp at hi ⊢
  unfold mw at h;dsimp only at h;cases I:(Qj P n ops o).run c M L with
  |no=>rw[I]at h;cases h
  |ok E1 H1 =>
   rw[I]at h;dsimp only at h;obtain⟨C1,w1,x,av,O,Q,R,T,U,V⟩:=zie K H F B I b (List.range' (i+1) l.length) k cs;subst T;obtain⟨X,Y,Z,r1,r2,r3,r4,r5⟩:=zpn K b k cs l (i+1) g (a:=a.put o.dst x) Q ((B.mono O).put U R) h;refine⟨X,Y,Z,CM.le_trans O r1,r2,r3,?_,?_⟩
   ·rw[r4];cases o.dst<;>rfl
   ·rw[show (o::l).length=l.length+1 from rfl,List.range'_succ];exact Steps.trans V r5
end
section
def Ri(g:List Nat)(E' E:Tr AV):Prop:=∀t∈g,t≤P0→Mt (M9 t) E'=Mt (M9 t) E
def gc{x:Operand}{E E':Tr AV}(h:Ri (xp [x]) E' E):(Na x).run E'=(Na x).run E:=by
 cases x with
 |tmp t =>
  unfold Na;dsimp only;split
  ·rename_i g;dsimp only;rw[h t (by simp[xp]) (H6 g)]
  ·rfl
 |const v=>unfold Na;dsimp only;split<;>rfl
 |func f=>rfl
 |global j=>rfl
def Ri.opds:∀{l:List Operand} {E E':Tr AV},Ri (xp l) E' E→∀x∈l,(Na x).run E'=(Na x).run E
 |[],_,_,_,x,hx=>by cases hx
 |y::l,E,E',h,x,hx=>by
  rcases H5.1 hx with rfl|hx
  ·refine gc (λt ht=>h t ?_);cases x<;>simp_all [xp]
  ·refine Ri.opds (l:=l) (λt ht=>h t ?_) x hx;cases y<;>simp_all [xp]
section cong
variable {E E' : Tr AV} {H : Heap}
def opds_cong:∀{l:List Operand},(∀x∈l,(Na x).run E'=(Na x).run E)→(opds l).run E'=(opds l).run E
 |[],_=>rfl
 |x::l,h=>by
  simp only[opds];rw[h x N,opds_cong (λy g=>h y At)]
def Tl{x:Operand}{f:Heap→AV→OR}(h:(Na x).run E'=(Na x).run E):(Ps x f).run E' H=(Ps x f).run E H:=by
 simp only[Ps];rw[h]
def Z4{x y:Operand}{f:Heap→AV→AV→OR}(h:(Na x).run E'=(Na x).run E)(k:(Na y).run E'=(Na y).run E):(S9 x y f).run E' H=(S9 x y f).run E H:=by
 simp only[S9];rw[h,k]
def zik{x:Option Operand}(h:∀y,x=some y→(Na y).run E'=(Na y).run E):(Px x).run E'=(Px x).run E:=by
 cases x with
 |none=>rfl
 |some y=>simp only[Px];rw[h y rfl]
def fillA_cong:∀{g:List Part} {j:List AV},(∀p∈g,p.v.run E'=p.v.run E)→jd j g E'=jd j g E
 |[],_,_=>rfl
 |p::g,j,h=>by
  simp only[jd];rw[h p N];split
  ·rfl
  ·split
   ·rfl
   ·split
    ·split
     ·exact fillA_cong (λq z=>h q Ae)
     ·rfl
    ·rfl
def z7u{g:Nat→Option (Nat×Nat)}:∀{l:List (Nat×Operand)} {z:List Part},mr g l=some z→(∀x∈l.map (·.2),(Na x).run E'=(Na x).run E)→∀p∈z,p.v.run E'=p.v.run E
 |[],z,h,_,p,j=>by cases h;cases j
 |(i,x)::l,z,h,A,p,j=>by
  simp only[mr]at h;split at h
  ·cases h
  ·split at h
   ·cases h
   ·rename_i r C;cases h;rcases H5.1 j with rfl|j
    ·exact A x N
    ·exact z7u C (λy B=>A y (by simp at B ⊢;exact .inr B)) p j
end cong
def zw0{c:Call}{E E':Tr AV}{H:Heap}(h:∀x∈c.operands.toList,(Na x).run E'=(Na x).run E):(fj B c).run E' H=(fj B c).run E H:=by
 have g:∀x∈c.args.toList,(Na x).run E'=(Na x).run E:=λx z=>h x (by simp[Call.operands]at z ⊢;exact .inr z)
 unfold fj;split
 ·split
  ·split
   ·rename_i q;rw[q]at g;unfold Uj;split<;>first|rfl|exact Tl (g _ N)
   ·rfl
  ·split
   ·rename_i q;rw[q]at g;unfold Wn;split<;>first|rfl|exact Tl (g _ N)
   ·rfl
  ·simp only[Tp];rw[opds_cong g]
  ·simp only[Tp];rw[opds_cong g]
  ·unfold zj3;split
   ·rename_i q;rw[q]at g;split
    ·unfold zn2;split
     ·split
      ·exact Z4 (g _ N) (g _ N)
      ·rfl
     ·rfl
    ·unfold yk;split
     ·split
      ·exact Z4 (g _ N) (g _ N)
      ·rfl
     ·rfl
    ·unfold yk;split
     ·split
      ·exact Z4 (g _ N) (g _ N)
      ·rfl
     ·rfl
    ·rfl
   ·rfl
  ·unfold zyh;split
   ·rename_i q;rw[q]at g;split
    ·split
     ·rfl
     ·split
      ·exact Z4 (g _ N) (g _ N)
      ·rfl
    ·rfl
   ·rfl
  ·unfold zo6;split
   ·rename_i q;rw[q]at g;split
    ·split
     ·split
      ·exact Tl (g _ N)
      ·rfl
     ·rfl
    ·rfl
   ·rfl
  ·unfold ziu;split
   ·rename_i q;rw[q]at g;split
    ·split
     ·exact Z4 (g _ N) (g _ N)
     ·rfl
    ·rfl
   ·rfl
  ·rfl
 ·rename_i f q;have j:(Na f).run E'=(Na f).run E:=h f (by simp[Call.operands,q]);dsimp only;rw[j,opds_cong g]
 ·rename_i r A q;have j:(Na r).run E'=(Na r).run E:=h r (by simp[Call.operands,q]);dsimp only;rw[j,opds_cong g]
def zjt{o:Op}{E E':Tr AV}{H:Heap}(h:∀x∈o.operands.toList,(Na x).run E'=(Na x).run E):(Ny B o).run E' H=(Ny B o).run E H:=by
 unfold Ny;split
 ·exact Tl (h _ Ac)
 ·exact Tl (h _ Ac)
 ·rename_i c a b;dsimp only;rw[h c Ac,h a Ac,h b Ac]
 ·split<;>rfl
 ·exact Tl (h _ Ac)
 ·rename_i t g;have z:∀x∈g.toList.map (·.2),(Na x).run E'=(Na x).run E:=λx j=>h x Cy
  unfold zp;split
  ·rfl
  ·split
   ·split
    ·rfl
    ·split
     ·rfl
     ·rename_i q;dsimp only;rw[fillA_cong (z7u q z)]
   ·split
    ·rfl
    ·split
     ·rfl
     ·rename_i q;dsimp only;rw[fillA_cong (z7u q z)]
   ·rfl
 ·rename_i t len g;have z:∀x∈g.toList.map (·.2),(Na x).run E'=(Na x).run E:=λx j=>h x Cy
  unfold xd;split
  ·split
   ·rfl
   ·split
    ·rfl
    ·split
     ·split
      ·rfl
      ·rename_i q;dsimp only;rw[fillA_cong (z7u q z)]
     ·rfl
  ·rfl
 ·unfold zsh;split<;>first|rfl|exact Tl (h _ Ac)
 ·unfold zqy;split<;>first|rfl|exact Z4 (h _ Ac) (h _ Ac)
 ·exact Tl (h _ Ac)
 ·exact Z4 (h _ Ac) (h _ Ac)
 ·exact Tl (h _ Ac)
 ·unfold Vy;split
  ·exact Tl (h _ Ac)
  ·split<;>first|rfl|exact Tl (h _ Ac)
  ·exact Tl (h _ Ac)
  ·split<;>first|rfl|exact Tl (h _ Ac)
  ·rfl
 ·unfold z98;split<;>first|rfl|exact Tl (h _ Ac)
 ·rename_i f first cap
  split
  ·rfl
  ·simp only[zd6];rw[opds_cong (l:=first.toList) (λx j=>h x (by simp[Op.operands]at j ⊢;exact .inl j)),opds_cong (l:=cap.toList) (λx j=>h x (by simp[Op.operands]at j ⊢;exact .inr j))]
 ·unfold xh;split
  ·rfl
  ·split<;>first|rfl|exact Tl (h _ Ac)
 ·unfold yr;split
  ·split
   ·rfl
   ·split
    ·rfl
    ·split
     ·exact Z4 (h _ Ac) (h _ Ac)
     ·rfl
  ·rfl
 ·rename_i t x F hi G;have A:=h x Ac;have C:(Px F).run E'=(Px F).run E:=zik (λy e=>h y Eh);have D:(Px hi).run E'=(Px hi).run E:=zik (λy e=>h y Eh);have I:(Px G).run E'=(Px G).run E:=zik (λy e=>h y Eh);unfold ol;split
  ·split
   ·rfl
   ·dsimp only;rw[A,C,D]
  ·split
   ·rfl
   ·split
    ·rfl
    ·dsimp only;rw[A,C,D,I]
  ·split
   ·rfl
   ·split
    ·rfl
    ·dsimp only;rw[A,C,D,I]
  ·rfl
 ·unfold z59;split
  ·split
   ·rfl
   ·split<;>first|rfl|exact Tl (h _ Ac)
  ·rfl
 ·unfold zhh;split
  ·split
   ·rfl
   ·split<;>first|rfl|exact Tl (h _ Ac)
  ·rfl
 ·unfold z5e;split
  ·split
   ·rfl
   ·exact Z4 (h _ Ac) (h _ Ac)
  ·split
   ·rfl
   ·exact Z4 (h _ Ac) (h _ Ac)
  ·rfl
 ·unfold zjf;split
  ·exact Z4 (h _ Ac) (h _ Ac)
  ·split
   ·exact Z4 (h _ Ac) (h _ Ac)
   ·rfl
  ·rfl
 ·unfold zcv;split
  ·split
   ·exact Z4 (h _ Ac) (h _ Ac)
   ·rfl
  ·rfl
 ·rename_i t m k x;unfold z5d;split
  ·split
   ·dsimp only;rw[h m Ac,h k Ac,h x Ac]
   ·rfl
  ·rfl
 ·rename_i t m k x;unfold z5d;split
  ·split
   ·dsimp only;rw[h m Ac,h k Ac,h x Ac]
   ·rfl
  ·rfl
 ·unfold rangeF;split<;>first|rfl|exact Tl (h _ Ac)
 ·unfold zyo;split<;>first|rfl|exact Tl (h _ Ac)
 ·unfold zco;split
  ·rfl
  ·split
   ·rfl
   ·exact Tl (h _ Ac)
  ·rfl
 ·exact Tl (h _ Ac)
 ·exact zw0 (λx j=>h x Cy)
 ·rfl
def xq{ops:Array Oper}{o:Oper}{E E':Tr AV}(h:Ri (Ue ops o) E' E):(R3 ops o).run E'=(R3 ops o).run E:=by
 unfold R3;split
 ·rfl
 ·rename_i A j z;split
  ·rfl
  ·rename_i d hd;split
   ·rename_i g;dsimp only;rw[h d (by simp[Ue,z,hd]) g]
   ·rfl
end
inductive QR (H H2:Heap):OR→OR→Prop where
 |no:QR H H2 .no .no
 |val (v:AV):QR H H2 (.val v H) (.val v H2)
def S6(j:OpF):Prop:=∀z A g,QR A g (j.run z A) (j.run z g)
inductive RR (H:Heap):OR→Prop where
 |no:RR H .no
 |val (v:AV):RR H (.val v H)
def Yk(j:OpF):Prop:=∀z g,RR g (j.run z g)
def S6.reads{F:OpF}(h:S6 F):Yk F:=λE H=>by
 have:=h E H H;generalize F.run E H=r at this;cases this with
 |no=>exact .no
 |val v=>exact .val v
def quiet_stuck:S6 Np:=λ_ _ _=>.no
def reads_stuck:Yk Np:=λ_ _=>.no
def QR.ret1{H H2:Heap}(o:Option AV):QR H H2 (ret1 H o) (Sv.ret1 H2 o):=by cases o<;>constructor
def RR.ret1{H:Heap}(o:Option AV):RR H (Sv.ret1 H o):=by cases o<;>constructor
def Wo{x:Operand}{f:Heap→AV→OR}(h:∀a j g,QR j g (f j a) (f g a)):S6 (Ps x f):=λz j g=>by
 simp only[Ps];cases (Na x).run z with
 |none=>exact .no
 |some a=>exact h a j g
def z62{x y:Operand}{f:Heap→AV→AV→OR}(h:∀a b j g,QR j g (f j a b) (f g a b)):S6 (S9 x y f):=λz j g=>by
 simp only[S9];cases (Na x).run z with
 |none=>exact .no
 |some a =>
  cases (Na y).run z with
  |none=>exact .no
  |some b=>exact h a b j g
def z5a{x:Operand}{f:Heap→AV→OR}(h:∀a g,RR g (f g a)):Yk (Ps x f):=λj g=>by
 simp only[Ps];cases (Na x).run j with
 |none=>exact .no
 |some a=>exact h a g
def zq1{x y:Operand}{f:Heap→AV→AV→OR}(h:∀a b g,RR g (f g a b)):Yk (S9 x y f):=λj g=>by
 simp only[S9];cases (Na x).run j with
 |none=>exact .no
 |some a =>
  cases (Na y).run j with
  |none=>exact .no
  |some b=>exact h a b g
def zra(z:Program)(t:TypeId)(g:Array (Nat×Operand)):S6 (zp z t g):=by
 unfold zp;split
 ·exact quiet_stuck
 ·split
  ·split
   ·exact quiet_stuck
   ·split
    ·exact quiet_stuck
    ·intro A B j;dsimp only;split
     ·exact .val _
     ·exact .no
  ·split
   ·exact quiet_stuck
   ·split
    ·exact quiet_stuck
    ·intro A B j;dsimp only;split
     ·exact .val _
     ·exact .no
  ·exact quiet_stuck
def zkn(j g:Heap)(a:AV):QR j g (z7d j a) (z7d g a):=by
 unfold z7d;split<;>constructor
def zn0(g:Program)(t:TypeId)(x:Operand):S6 (z98 g t x):=by
 unfold z98;split
 ·exact quiet_stuck
 ·exact Wo λa z j=>.val _
 ·exact quiet_stuck
def zp4(f:Fn)(x y:Array Operand):S6 (zd6 f x y):=λj z g=>by
 simp only[zd6];split
 ·split<;>constructor
 ·exact .no
def zhi(g:Program)(s:TypeId)(x:Operand)(f:Nat):S6 (z59 g s x f):=by
 unfold z59;split
 ·split
  ·exact quiet_stuck
  ·split
   ·exact quiet_stuck
   ·exact quiet_stuck
   ·exact Wo λa z j=>Bb
 ·exact quiet_stuck
def zsy(g:Program)(s:TypeId)(x:Operand)(f:Nat):S6 (zhh g s x f):=by
 unfold zhh;split
 ·split
  ·exact quiet_stuck
  ·split
   ·exact Wo λa z j=>by
     split
     ·exact .ret1 _
     ·exact .no
   ·exact quiet_stuck
 ·exact quiet_stuck
def zia(A:Program)(t:TypeId)(x g:Operand):S6 (z5e A t x g):=by
 unfold z5e;split
 ·split
  ·exact quiet_stuck
  ·refine z62 λa b B j=>?_
   split
   ·rename_i len z _ _ n;cases Nat.blt n len
    ·exact .no
    ·dsimp only;split<;>constructor
   ·exact .no
 ·split
  ·exact quiet_stuck
  ·refine z62 λa b B j=>?_
   split
   ·split<;>constructor
   ·exact .no
 ·exact quiet_stuck
def zs6(z:Program)(t:TypeId)(x g:Operand):S6 (zjf z t x g):=by
 unfold zjf;split
 ·refine z62 λa b A j=>?_
  split
  ·split<;>constructor
  ·exact .no
 ·split
  ·refine z62 λa b A j=>?_
   split
   ·split
    ·exact .ret1 _
    ·exact .no
   ·exact .no
  ·exact quiet_stuck
 ·exact quiet_stuck
def zoc(g:Program)(x:Operand)(t:TypeId)(ok:Bool):S6 (zco g x t ok):=by
 unfold zco;split
 ·exact quiet_stuck
 ·split
  ·exact quiet_stuck
  ·refine Wo λa z j=>?_
   split
   ·cases ok<;>constructor
   ·split
    ·constructor
    ·cases ok<;>constructor
   ·exact .no
 ·exact quiet_stuck
def zm8(x:Operand)(i:Nat):S6 (zgt x i):=Wo λa j g=>by
 split
 ·exact .ret1 _
 ·exact .no
def ziq{t:TypeId}{x:Operand}{g hi j:Option Operand}(h:zow B t=false):S6 (ol B t x g hi j):=by
 unfold ol;split
 ·split
  ·exact quiet_stuck
  ·intro A C z;dsimp only;split
   ·split
    ·split<;>constructor
    ·exact .no
   ·exact .no
 ·split
  ·exact quiet_stuck
  ·split
   ·exact quiet_stuck
   ·intro A C z;dsimp only;split
    ·exact .ret1 _
    ·split<;>constructor
    ·split<;>constructor
    ·exact .no
 ·rename_i q;simp[zow,q]at h
 ·exact quiet_stuck
def zsr(A:Program)(t:TypeId)(x:Operand)(j hi z:Option Operand):Yk (ol A t x j hi z):=by
 cases g:zow A t
 ·exact (ziq g).reads
 ·unfold zow at g;unfold ol;split at g
  ·rename_i q;rw[q];dsimp only;split
   ·exact reads_stuck
   ·split
    ·exact reads_stuck
    ·intro B C;dsimp only;split
     ·split
      ·split
       ·split
        ·exact .ret1 _
        ·exact .no
       ·exact .no
      ·exact .no
     ·exact .no
  ·cases g
def zvs{s d:TypeId}{x:Operand}(hd:wy B d=false)(g:wy B s=false):S6 (Vy B s d x):=by
 unfold Vy;split
 ·exact Wo λa z j=>Bb
 ·rename_i q _;simp[wy,q]at g
 ·exact Wo λa z j=>Bb
 ·rename_i q;simp[wy,q]at hd
 ·exact quiet_stuck
def zw6{s d:TypeId}{x:Operand}(hd:wy B d=false):Yk (Vy B s d x):=by
 unfold Vy;split
 ·exact z5a λa g=>Bb
 ·split
  ·refine z5a λa g=>?_
   split
   ·exact .val _
   ·split
    ·split<;>constructor
    ·exact .no
   ·exact .no
  ·exact reads_stuck
 ·exact z5a λa g=>Bb
 ·rename_i q;simp[wy,q]at hd
 ·exact reads_stuck
def zvp(g:Program)(t:TypeId)(x:Operand):Yk (zsh g t x):=by
 unfold zsh;split
 ·exact z5a λa j=>by
   split
   ·split<;>constructor
   ·exact .no
 ·exact z5a λa j=>by
   split
   ·split<;>constructor
   ·exact .no
 ·exact reads_stuck
def zof(j:Program)(t:TypeId)(x g:Operand)(ok:Bool):Yk (zcv j t x g ok):=by
 unfold zcv;split
 ·split
  ·refine zq1 λa b z=>?_
   split
   ·exact .no
   ·split<;>constructor
  ·exact reads_stuck
 ·exact reads_stuck
def zpy{t:TypeId}{x:Operand}(h:zq2 B t=false):S6 (Uj B t x):=by
 unfold Uj;split
 ·exact Wo λa j g=>Bb
 ·exact Wo λa j g=>Bb
 ·rename_i q;simp[zq2,q]at h
 ·exact Wo λa j g=>.val _
 ·exact quiet_stuck
def zxl(j:Program)(t:TypeId)(x:Operand):Yk (Uj j t x):=by
 cases g:zq2 j t
 ·exact (zpy g).reads
 ·unfold zq2 at g;unfold Uj;split at g
  ·rename_i q;rw[q];refine z5a λa z=>?_
   split
   ·exact .val _
   ·split<;>constructor
   ·exact .no
  ·cases g
def Zo(g:Program)(t:TypeId)(x:Operand):S6 (Wn g t x):=by
 unfold Wn;split
 ·exact Wo λa z j=>Bb
 ·exact quiet_stuck
def zqm(g:Bool)(l:List Operand):S6 (Tp g l):=λz A j=>by
 simp only[Tp];split
 ·exact .ret1 _
 ·exact .no
def zo5{c:Call}:(zff B c=.quiet→S6 (fj B c))∧(zff B c=.rd→Yk (fj B c)):=by
 unfold zff fj;split
 ·rename_i q;rw[q];dsimp only;split
  ·rename_i t g;rw[g];split
   ·rename_i hm;exact⟨λh=>An,λ_=>by
     split
     ·exact zxl _ _ _
     ·exact reads_stuck⟩
   ·rename_i hm;refine⟨λ_=>?_,λh=>An⟩;split
    ·rename_i e _ ;cases e;exact zpy D3
    ·exact quiet_stuck
  ·exact⟨λh=>An,λh=>An⟩
 ·rename_i q;rw[q];refine⟨λ_=>?_,λh=>An⟩;dsimp only;split
  ·exact Zo _ _ _
  ·exact quiet_stuck
 ·rename_i q;rw[q];exact⟨λ_=>zqm _ _,λh=>An⟩
 ·rename_i q;rw[q];exact⟨λ_=>zqm _ _,λh=>An⟩
 ·exact⟨λh=>An,λh=>An⟩
def zbt{P:Program}{o:Op}:(cls P o=.quiet→S6 (Ny P o))∧(cls P o=.rd→Yk (Ny P o)):=by
 unfold cls;split
 ·exact⟨λ_=>Wo λa j g=>.val _,λh=>An⟩
 ·exact⟨λ_=>Wo λa j g=>.val _,λh=>An⟩
 ·refine⟨λ_ A j g=>?_,λh=>An⟩;simp only[Ny];split
  ·exact .ret1 _
  ·exact .ret1 _
  ·exact .no
 ·exact⟨λ_=>zra _ _ _,λh=>An⟩
 ·exact⟨λ_=>Wo λa j g=>zkn _ _ _,λh=>An⟩
 ·exact⟨λ_=>z62 λa b j g=>.ret1 _,λh=>An⟩
 ·exact⟨λ_=>Wo λa j g=>.ret1 _,λh=>An⟩
 ·exact⟨λ_=>zn0 _ _ _,λh=>An⟩
 ·rename_i f x y;refine⟨λ_=>?_,λh=>An⟩;simp only[Ny];split
  ·exact quiet_stuck
  ·exact zp4 _ _ _
 ·exact⟨λ_=>zhi _ _ _ _,λh=>An⟩
 ·exact⟨λ_=>zsy _ _ _ _,λh=>An⟩
 ·exact⟨λ_=>zia _ _ _ _,λh=>An⟩
 ·exact⟨λ_=>zs6 _ _ _ _,λh=>An⟩
 ·exact⟨λ_=>zoc _ _ _ _,λh=>An⟩
 ·exact⟨λ_=>zm8 _ _,λh=>An⟩
 ·split
  ·exact⟨λh=>An,λ_=>zsr _ _ _ _ _ _⟩
  ·rename_i h;exact⟨λ_=>ziq Av,λh=>An⟩
 ·split
  ·exact⟨λh=>An,λh=>An⟩
  ·rename_i hd;split
   ·exact⟨λh=>An,λ_=>zw6 (by simpa using hd)⟩
   ·rename_i z;exact⟨λ_=>zvs (by simpa using hd) B7,λh=>An⟩
 ·exact⟨λh=>An,λ_=>zvp _ _ _⟩
 ·exact⟨λh=>An,λ_=>zof _ _ _ _ _⟩
 ·exact zo5
 all_goals exact⟨λh=>An,λh=>An⟩
def z5x{P:Program}{n:Nat}{ops:Array Oper}{o:Oper}{k:Qe}{I:Tr AV}(h:(Qj P n ops o).run k vG F=.ok I vY) :
  ∃v,I=Oo o.dst v vG∧(∀d,o.dst=some d→d<n)∧∀j,Ri (Ue ops o) j vG→(Qj P n ops o).run k j F=.ok (Oo o.dst v j) vY:=by
 unfold Qj at h ⊢;cases G:Qk n o.dst with
 |none=>rw[G]at h;cases h
 |some p =>
  rw[G]at h;dsimp only at h ⊢;obtain⟨g,A⟩:=zb5 G;have B:∀j,Ri (Ue ops o) j vG→(Ny P o.op).run j F=(Ny P o.op).run vG F:=λj z =>
   zjt (Ri.opds (λt K=>z t (by simp[Ue,K])))
  cases C:(R3 ops o).run vG with
  |false =>
   rw[C]at h;cases h;refine⟨Rh,g _ _,A,λj z=>?_⟩;rw[xq z,C];dsimp only;rw[g]
  |true =>
   rw[C]at h;dsimp only at h;cases D:(Ny P o.op).run vG F with
   |no=>rw[D]at h;cases h
   |val v L =>
    rw[D]at h;cases h;refine⟨v,g _ _,A,λj z=>?_⟩;rw[xq z,C,B j z,D];dsimp only;rw[g]
   |call t E =>
    rw[D]at h;dsimp only at h;cases H:k t E F with
    |no=>rw[H]at h;cases h
    |ok v L =>
     rw[H]at h;cases h;refine⟨v,g _ _,A,λj z=>?_⟩;rw[xq z,C,B j z,D];dsimp only;rw[H];dsimp only;rw[g]
def z5s{P:Program}{n:Nat}{ops:Array Oper}{o:Oper}{k:Qe}{A:Tr AV}(B:Yk (Ny P o.op))(h:(Qj P n ops o).run k vG F=.ok A vY):vY=F:=by
 unfold Qj at h;cases g:Qk n o.dst with
 |none=>rw[g]at h;cases h
 |some p =>
  rw[g]at h;dsimp only at h;cases j:(R3 ops o).run vG with
  |false=>rw[j]at h;cases h;rfl
  |true =>
   rw[j]at h;dsimp only at h;have z:=B vG F;generalize (Ny P o.op).run vG F=r at h z;cases z with
   |no=>cases h
   |val v=>cases h;rfl
def zkm{P:Program}{n:Nat}{ops:Array Oper}{o:Oper}{k:Qe}{z:Tr AV}(C:S6 (Ny P o.op))(h:(Qj P n ops o).run k vG F=.ok z vY)(g:Heap) :
  (Qj P n ops o).run k vG g=.ok z g:=by
 unfold Qj at h ⊢;cases A:Qk n o.dst with
 |none=>rw[A]at h;cases h
 |some p =>
  rw[A]at h;dsimp only at h ⊢;cases B:(R3 ops o).run vG with
  |false=>rw[B]at h;cases h;rfl
  |true =>
   rw[B]at h;dsimp only at h ⊢;have j:=C vG F g;generalize (Ny P o.op).run vG F=r at h j;generalize (Ny P o.op).run vG g=D at j ⊢;cases j with
   |no=>cases h
   |val v=>cases h;rfl
end Go.Sv
