/- Texts of the evaluator, of the logic over it, of plain arithmetic. -/
import Derived.AtR
import Derived.Laws.Sem
import Derived.Laws.World
import Derived.KernelRfl
import Derived.Below
import Derived.Laws.Strings
import Derived.Laws.StructEq
import Derived.Lib.Strings
import Derived.Lib.ConvBytes
import Derived.Laws.BytesArg
import Derived.Laws.RangeString
import Derived.MapKept
import Derived.Laws.Append
import Derived.Laws.AppendOwn
import Derived.Laws.Externs
import Derived.RangeFuncIn
import Derived.RangeFuncRecord
set_option linter.unusedSimpArgs false
set_option linter.defProp false
namespace Go.Sv
variable{g j C:Nat}{p:Program}{B:World}{I:Bool}{O:TypeId}{T:Option Nat}{X:Array Value}{Y:Value}{v9:Type}
noncomputable section
abbrev Hf:=@List.getElem?_eq_some_iff
abbrev Hg:=@List.getElem?_set_ne
abbrev Hh:=@Bool.and_eq_true
abbrev Hi:=@List.getElem?_set_self
abbrev Hj:=@List.getElem?_eq_getElem
abbrev Hk:=@List.getElem?_append_left
abbrev Hm:=@Nat.le_refl
abbrev Hn:=@Nat.eq_of_beq_eq_true
abbrev Ho:=@Nat.ble_eq_true_of_le
abbrev Hq:=@if_neg
abbrev Hr:=@List.getD_eq_getElem?_getD
abbrev Hs:=@if_pos
abbrev Ht:=@decide_eq_true_eq
abbrev Hu:=@List.mem_cons
abbrev Hv:=@List.length_append
abbrev Hw:=@Nat.le_of_ble_eq_true
abbrev Hx:=@Int.eq_ofNat_of_zero_le
abbrev Hy:=@Nat.mul_le_mul_right
abbrev Hz:=@List.take_of_length_le
abbrev H4:=@List.length_take
abbrev H5:=@List.getElem?_append_right
abbrev H6:=@List.getElem?_cons_zero
abbrev H7:=@List.append_assoc
abbrev H8:=@List.getElem?_cons_succ
abbrev H9:=@List.take_append_drop
abbrev Ia:=@Int.ofNat_eq_natCast
abbrev Ib:=@List.mem_append
abbrev Ic:=@List.mem_iff_getElem?
abbrev Ie:=@List.length_cons
abbrev If:=@List.drop_eq_getElem_cons
abbrev Ig:=@List.eq_nil_of_length_eq_zero
abbrev Ih:=@Nat.add_mul
abbrev Ii:=@Nat.beq_refl
abbrev Ij:=@List.getElem?_take_of_lt
abbrev Ik:=@Nat.lt_of_lt_of_le
abbrev Il:=@List.drop_of_length_le
abbrev Im:=@List.mem_of_getElem?
abbrev In:=@List.mem_cons_of_mem
abbrev Io:=@Int.toNat_natCast
abbrev Ip:=@List.append_nil
abbrev Iq:=@List.getElem?_concat_length
abbrev Ir:=@Array.getD_eq_getD_getElem?
abbrev Is:=@Nat.zero_add
abbrev It:=@List.map_set
abbrev Iu:=@Nat.add_assoc
abbrev Iv:=@Nat.lt_succ_self
abbrev Iw:=@List.length_drop
abbrev Ix:=@Nat.le_trans
abbrev Iy:=@Array.getElem?_eq_getElem
abbrev Iz:=@List.map_append
abbrev I0:=@List.getElem?_toArray
abbrev I1:=@Bool.eq_iff_iff
abbrev I2:=@Nat.min_eq_left
abbrev I3:=@Array.size_append
abbrev I4:=@Int.natCast_nonneg
abbrev I5:=@List.set_eq_take_append_cons_drop
abbrev I6:=@List.cons_append
abbrev I7:=@List.all_eq_true
abbrev I8:=@List.take_succ_eq_append_getElem
abbrev I9:=@List.mem_range
abbrev Ja:=@List.pairwise_cons
abbrev Jb:=@List.set_append_right
abbrev Jc:=@List.perm_middle
abbrev Jd:=@List.drop_zero
abbrev Je:=@Array.getElem?_append_left
abbrev Jf:=@List.mem_cons_self
abbrev Jg:=@Option.map_some
abbrev Jh:=@List.any_eq_true
abbrev Ji:=@Array.toList_map
abbrev Jj:=@List.length_eq_zero_iff
abbrev Jk:=@List.mem_of_mem_drop
abbrev Jl:=@Int.le_refl
abbrev Jm:=@List.not_mem_nil
abbrev Jn:=@UInt64.toNat_ofNat'
abbrev Jo:=@List.replicate_succ
abbrev Jp:=@List.getElem?_map
abbrev Jq:=@Int.emod_eq_of_lt
abbrev Jr:=@List.mem_append_right
abbrev Js:=@List.length_set
abbrev Jt:=@Option.getD_some
abbrev Ju:=@Nat.mod_eq_of_lt
abbrev Jv:=@List.mem_iff_getElem
abbrev Jw:=@List.mem_append_left
abbrev Jx:=@List.all_cons
abbrev Jy:=@List.flatMap_cons
abbrev Jz:=@List.all_eq_false
abbrev J0:=@Nat.le_max_left
abbrev J1:=@List.take_left'
abbrev J2:=@List.nil_append
abbrev J3:=@Bool.or_eq_true
abbrev J4:=@List.pairwise_iff_getElem
abbrev J5:=@List.set_getElem_self
abbrev J6:=@decide_eq_decide
abbrev J7:=@UInt64.toNat_inj
abbrev J8:=@List.mem_singleton
abbrev J9:=@List.getElem?_drop
abbrev Ka:=@Bool.false_eq_true
abbrev Kb:=@Array.eq_empty_of_size_eq_zero
abbrev Kc:=@Nat.zero_mul
abbrev Kd:=@List.map_cons
abbrev Ke:=@decide_eq_true
abbrev Kf:=@List.pairwise_append
abbrev Kg:=@List.drop_drop
abbrev Kh:=@if_true
abbrev Ki:=@Bool.not_eq_true'
abbrev Kj:=@Nat.lt_or_ge
abbrev Kk:=@Nat.mul_one
abbrev Kl:=@Nat.mul_le_mul
abbrev Km:=@List.take_take
abbrev Kn:=@Nat.zero_le
abbrev Kq:=@Nat.add_zero
abbrev Kr:=@List.mem_of_mem_take
abbrev Ks:=@List.getElem?_set
abbrev Kt:=@List.replicate_append_replicate
abbrev Ku:=@List.drop_succ_cons
abbrev Kw:=@decide_eq_false_iff_not
abbrev Kx:=@Nat.le_max_right
abbrev Ky:=@List.getElem_mem
abbrev Kz:=@Nat.le_succ
abbrev K0:=@List.take_append_of_le_length
abbrev K3:=@Nat.le_of_eq
abbrev K4:=@List.drop_eq_nil_of_le
abbrev K5:=@BitVec.toNat_ofNat
abbrev K6:=@Array.getElem?_eq_none
abbrev K7:=@Bool.true_and
abbrev K8:=@List.getElem?_eq_none
abbrev K9:=@of_decide_eq_true
abbrev La:=@Nat.one_mul
abbrev Lb:=@Nat.le_of_mul_le_mul_right
abbrev Le:=@Array.getElem?_eq_some_iff
abbrev Lf:=@Nat.sub_self
abbrev Lh:=@List.set_set
abbrev Li:=@List.mem_map
abbrev Lj:=@Array.toList_append
abbrev Lk:=@Array.size_setIfInBounds
abbrev Ll:=@List.sum_append
abbrev Lm:=@List.set_cons_zero
abbrev Ln:=@or_false
abbrev Lp:=@UInt64.lt_iff_toNat_lt
abbrev Lq:=@List.take_add_one
abbrev Lr:=@Int.le_trans
abbrev Ls:=@Bool.not_false
abbrev Lt:=@List.length_filter_le
abbrev Lu:=@beq_iff_eq
abbrev Lv:=@List.take_length
abbrev Lw:=@Array.toList_inj
abbrev Ly:=@decide_eq_false
abbrev Lz:=@Nat.not_lt_zero
abbrev L0:=@List.mem_filter
abbrev L3:=@Array.getElem?_setIfInBounds
abbrev L4:=@List.take_set_of_le
abbrev L5:=@List.length_reverse
abbrev L6:=@Nat.le_of_lt
abbrev L7:=@List.map_nil
abbrev L8:=@Array.getElem?_append_right
abbrev L9:=@if_false
abbrev Ma:=@Nat.add_sub_cancel
abbrev Mb:=@List.take_zero
abbrev Mc:=@List.reverse_cons
abbrev Md:=@List.any_eq_false
abbrev Me:=@List.map_take
abbrev Mf:=@List.getElem_append_left
def J{p:Prop}(h:p:=by omega):p:=h
def U{p:Prop}(h:p:=by simp):p:=h
def Aa{p:Prop}(h:p:=by kernel_rfl):p:=h
def Ab{p:Prop}(h:p:=by simp;omega):p:=h
def Ac{p:Prop}(h:p:=by simp[Op.operands]):p:=h
def Ad{p:Prop}(h:p:=by simp[B]):p:=h
def Ae{p:Prop}(h:p:=by simp[p]):p:=h
def Af{p:Prop}(h:p:=by simp[A]):p:=h
def Ah{p:Prop}(h:p:=by simp[F]):p:=h
def Ai{p:Prop}(h:p:=by simp[D]):p:=h
def Ak{p:Prop}(h:p:=by simp[z]):p:=h
def Al{p:Prop}(h:p:=by cases h):p:=h
def Am{p:Prop}(h:p:=by simp[execOp,g]):p:=h
def An{p:Prop}(h:p:=by decide):p:=h
def Ao{p:Prop}(h:p:=by simp[Mg,dats,LV.dat,On,Sk]):p:=h
def Aq{p:Prop}(h:p:=by dsimp only;omega):p:=h
def Ar{p:Prop}(h:p:=by cases e):p:=h
def As{p:Prop}(h:p:=by simp[j]):p:=h
def At{p:Prop}(h:p:=by simp[H]):p:=h
def Au{p:Prop}(h:p:=by simp[C]):p:=h
def Av{p:Prop}(h:p:=by simp[E]):p:=h
def Aw{p:Prop}(h:p:=by simp only[IntKind.wrap,IntKind.bits,IntKind.signed];simp;omega):p:=h
def Ax{p:Prop}(h:p:=by simp[I]):p:=h
def Ay{p:Prop}(h:p:=by simpa using h):p:=h
def A0{p:Prop}(h:p:=by simp[M]):p:=h
def A1{p:Prop}(h:p:=by simp[L]):p:=h
def A2{p:Prop}(h:p:=by simp[g]):p:=h
def A3{p:Prop}(h:p:=by simp[G]):p:=h
def A4{p:Prop}(h:p:=by simpa using z):p:=h
def A5{p:Prop}(h:p:=by rw[IntKind.wrap_i64];omega):p:=h
def A6{p:Prop}(h:p:=by simp[Z]):p:=h
def A7{p:Prop}(h:p:=by simp only[Sem.run_bind,p,Result.andThen_ok,Sem.run_pure]):p:=h
def A8{p:Prop}(h:p:=by simp[K]):p:=h
def A9{p:Prop}(h:p:=by simp[Q]):p:=h
def Ba{p:Prop}(h:p:=by simp[P]):p:=h
def Bb{p:Prop}(h:p:=by rw[H4];omega):p:=h
def Bc{p:Prop}(h:p:=by simp[O]):p:=h
def Bd{p:Prop}(h:p:=by simpa using j):p:=h
def Be{p:Prop}(h:p:=by simp[Builtin.len_,Nm hu,goInt]):p:=h
def Bg{p:Prop}(h:p:=by simp[dats,LV.dat,On]):p:=h
def Bh{p:Prop}(h:p:=by simp[Y]):p:=h
def Bi{p:Prop}(h:p:=by split<;>constructor):p:=h
def Bj{p:Prop}(h:p:=by have:o<H.next+1:=ho;omega):p:=h
def Bk{p:Prop}(h:p:=by simp[h6]):p:=h
def Bl{p:Prop}(h:p:=by simp[dats,LV.dat,Wu,ki]):p:=h
def Bm{p:Prop}(h:p:=by simp only[Ie];omega):p:=h
def Bn{p:Prop}(h:p:=by simp[T]):p:=h
def Bo{p:Prop}(h:p:=by simp[Act.eval,Act.put]):p:=h
def Bp{p:Prop}(h:p:=by simp[h2]):p:=h
def Bq{p:Prop}(h:p:=by rw[Hv,h2,hx,Ih];omega):p:=h
def Br{p:Prop}(h:p:=by dsimp;omega):p:=h
def Bs{p:Prop}(h:p:=by simp[Qj]):p:=h
def Bt{p:Prop}(h:p:=by simp at e):p:=h
def Bu{p:Prop}(h:p:=by rw[←q',R]at e;exact ho _ _ _ _ (Option.some.inj e).symm):p:=h
def Bv{p:Prop}(h:p:=by simp[Mg]):p:=h
def Bw{p:Prop}(h:p:=by cases h;rfl):p:=h
def Bx{p:Prop}(h:p:=by rw[Mj O];exact L):p:=h
def By{p:Prop}(h:p:=by simp[p,L,V,z]):p:=h
def Bz{p:Prop}(h:p:=by simp only[Ia];omega):p:=h
def B0{p:Prop}(h:p:=by simpa using g):p:=h
def B1{p:Prop}(h:p:=by simp[LV.dat,dats]):p:=h
def B2{p:Prop}(h:p:=by rw[j,C]):p:=h
def B3{p:Prop}(h:p:=by simp[h5]):p:=h
def B4{p:Prop}(h:p:=by simpa using D):p:=h
def B5{p:Prop}(h:p:=by simpa using p):p:=h
def B6{p:Prop}(h:p:=by simpa using O):p:=h
def B7{p:Prop}(h:p:=by simp only[Nd];unfold Mp;rw[p]):p:=h
def B8{p:Prop}(h:p:=by simp at h):p:=h
def B9{p:Prop}(h:p:=by rw[Mj C];exact z):p:=h
def Ca{p:Prop}(h:p:=by rw[B,N];exact E):p:=h
def Cb{p:Prop}(h:p:=by simp[h1]):p:=h
def Cc{p:Prop}(h:p:=by cases op<;>rfl):p:=h
def Cd{p:Prop}(h:p:=by simp[h7]):p:=h
def Ce{p:Prop}(h:p:=by rw[Hk (Hf.1 e).1];exact e):p:=h
def Cf{p:Prop}(h:p:=by rw[N];exact R):p:=h
def Cg{p:Prop}(h:p:=by simp[Q2];omega):p:=h
def Ch{p:Prop}(h:p:=by simp[dats,LV.dat,On,p]):p:=h
def Ci{p:Prop}(h:p:=by rw[Mj B];exact O):p:=h
def Cj{p:Prop}(h:p:=by simpa using K):p:=h
def Ck{p:Prop}(h:p:=by rw[hl];simp;omega):p:=h
def Cl{p:Prop}(h:p:=by simpa using F):p:=h
def Cm{p:Prop}(h:p:=by simp[builtin]):p:=h
def Cn{p:Prop}(h:p:=by simpa [binOp] using j):p:=h
def Co{p:Prop}(h:p:=by rw[hg o rfl];exact r2):p:=h
def Cp{p:Prop}(h:p:=by rw[Ww];exact .int k _):p:=h
def Cq{p:Prop}(h:p:=by simp[h]):p:=h
def Cr{p:Prop}(h:p:=by simp[e]):p:=h
def Cs{p:Prop}(h:p:=by simp[h0]):p:=h
def Ct{p:Prop}(h:p:=by show Int.ofNat (a.toNat ||| b.toNat)<_;simp only[Ia];omega):p:=h
def Cu{p:Prop}(h:p:=by show Int.ofNat (a.toNat &&& b.toNat)<_;simp only[Ia];omega):p:=h
def Cv{p:Prop}(h:p:=by cases q):p:=h
def Cw{p:Prop}(h:p:=by simp[gg]):p:=h
def Cy{p:Prop}(h:p:=by rw[Hv,H4,R];show min (len*j) l.length+n*j=(len+n)*j;omega):p:=h
def Cz{p:Prop}(h:p:=by have:=List.findIdx_le_length (p:=p) (xs:=l);omega):p:=h
def C3{p:Prop}(h:p:=by simpa [Op.operands] using j):p:=h
def C4{p:Prop}(h:p:=by simpa using C):p:=h
def C5{p:Prop}(h:p:=by rw[Ih];omega):p:=h
def C6{p:Prop}(h:p:=by simpa using hb):p:=h
def C7{p:Prop}(h:p:=by simp[R]):p:=h
def C8{p:Prop}(h:p:=by simpa using e):p:=h
def C9{p:Prop}(h:p:=by simp[binOp,Op.intArith];rfl):p:=h
def Da{p:Prop}(h:p:=by simp[execOp,z,p]):p:=h
def Db{p:Prop}(h:p:=by simp[N]):p:=h
def Dc{p:Prop}(h:p:=by simp only[H6,Option.some.injEq]at h;subst h;exact⟨_,rfl,e⟩):p:=h
def Dd{p:Prop}(h:p:=by rw[Mj A];exact K):p:=h
def De{p:Prop}(h:p:=by intro jA m k st h;cases h):p:=h
def Df{p:Prop}(h:p:=by simp[h4]):p:=h
def Dg{p:Prop}(h:p:=by show (0:Int)≤1000000;decide):p:=h
def Dh{p:Prop}(h:p:=by rw[←h3];exact gg):p:=h
def Di{p:Prop}(h:p:=by simp[binOp,Op.intCmp];rfl):p:=h
def Dj{p:Prop}(h:p:=by rw[Js];exact hb):p:=h
def Dk{p:Prop}(h:p:=by rw[j,C,E]):p:=h
def Dl{p:Prop}(h:p:=by rw[e]):p:=h
def Dm{p:Prop}(h:p:=by simpa using r1):p:=h
def Dn{p:Prop}(h:p:=by have:=congrArg List.length hd;simp at this;omega):p:=h
def Do{p:Prop}(h:p:=by cases g):p:=h
def Dp{p:Prop}(h:p:=by rw[gB];simp):p:=h
def Dq{p:Prop}(h:p:=by simpa using hm):p:=h
def Dr{p:Prop}(h:p:=by rw[hvl];simp only[Nat.min_def];split<;>omega):p:=h
def Ds{p:Prop}(h:p:=by rw[hdl];simp only[Nat.min_def];split<;>omega):p:=h
def Dt{p:Prop}(h:p:=by rw[Mj I,jC Q];exact S):p:=h
def Du{p:Prop}(h:p:=by simpa using A):p:=h
def Dv{p:Prop}(h:p:=by simp[zeroValue,aj g,j]):p:=h
def Dw{p:Prop}(h:p:=by simp[getObj,Sem.run,T]):p:=h
def Dx{p:Prop}(h:p:=by rw[←r6.length];exact r1):p:=h
def Dy{p:Prop}(h:p:=by rw[Ii,show Nat.ble len M1=true from Ho C];rfl):p:=h
def Dz{p:Prop}(h:p:=by simp[P9,hb,Q2];omega):p:=h
def D0{p:Prop}(h:p:=by rw[q];rfl):p:=h
def D4{p:Prop}(h:p:=by simpa using H):p:=h
def D6{p:Prop}(h:p:=by simpa using B):p:=h
def D8{p:Prop}(h:p:=by simp[binOp,Op.intCmp]):p:=h
def D9{p:Prop}(h:p:=by rw[hb _ _ C];exact h2):p:=h
def Ea{p:Prop}(h:p:=by have:s.data.toList.length=s.size:=rfl;omega):p:=h
def Eb{p:Prop}(h:p:=by simp[dats,LV.dat,Q]):p:=h
def Ec{p:Prop}(h:p:=by simp[P9,T,Q2];omega):p:=h
def Ed{p:Prop}(h:p:=by simp[Op.operands,e]):p:=h
def Ee{p:Prop}(h:p:=by rw[h]):p:=h
def Eg{p:Prop}(h:p:=by rw[A];rfl):p:=h
def Eh{p:Prop}(h:p:=by unfold Pe;split<;>(try split)<;>simp_all):p:=h
def Ei{p:Prop}(h:p:=by simp[gH]):p:=h
def Ej{p:Prop}(h:p:=by rw[Mj gg];exact hx):p:=h
def Ek{p:Prop}(h:p:=by simp[p,V,z]):p:=h
def El{p:Prop}(h:p:=by simp only[Ii,Ho he,Bool.and_self]):p:=h
def Em{p:Prop}(h:p:=by rw[e,Q]at p;cases p):p:=h
def En{p:Prop}(h:p:=by rw[e,Q]at M;cases M):p:=h
def Eo{p:Prop}(h:p:=by simp[hs.len]):p:=h
def Ep{p:Prop}(h:p:=by simp[h9]):p:=h
def Er{p:Prop}(h:p:=by simp[gE]):p:=h
def Es{p:Prop}(h:p:=by have:=u.toNat_lt;simp only[Ia];omega):p:=h
def Et{p:Prop}(h:p:=by simp[hd,T]):p:=h
def Eu{p:Prop}(h:p:=by simp[Rj,h]):p:=h
def Ev{p:Prop}(h:p:=by simp[Qj,T]):p:=h
def Ew{p:Prop}(h:p:=by simp only[Ia];exact Int.ofNat_lt.2 E):p:=h
def Ey{p:Prop}(h:p:=by show y+1≤2*9223372036854775808;omega):p:=h
def Ez{p:Prop}(h:p:=by show x+1≤2*9223372036854775808;omega):p:=h
def E4{p:Prop}(h:p:=by rw[Mj Q];exact G):p:=h
def E5{p:Prop}(h:p:=by simp[Pn]):p:=h
def E6{p:Prop}(h:p:=by simp[Oc,Qw,E,X,b3,b4,b5,gC,m1,hs]):p:=h
def E7{p:Prop}(h:p:=by simp[Mu]):p:=h
def E8{p:Prop}(h:p:=by simp[stepG,stepG.exec,Frame.atR]):p:=h
def E9{p:Prop}(h:p:=by simp[LV.dat,ul]):p:=h
def Fa{p:Prop}(h:p:=by rw[Iw,hcl];omega):p:=h
def Fb{p:Prop}(h:p:=by have:=Sy Ko.f_len ho (j:=0) J;simpa [M6,Ko.f] using this):p:=h
def Fe{p:Prop}(h:p:=by have:=Sy Ko.f_len F (j:=0) J;simpa [M6,Ko.f] using this):p:=h
def Ff{p:Prop}(h:p:=by rw[←Q];exact ((wideG_keep _ g).2.2.2 J).symm):p:=h
def Fg{p:Prop}(h:p:=by rw[p P J (C P S),o2 P J];exact ho P S gD):p:=h
def Fh{p:Prop}(h:p:=by rw[hm j hj];exact congrArg some (J6.2 J)):p:=h
def Fi{p:Prop}(h:p:=by rw[hx];exact List.mem_flatMap.2 ⟨_,U,Y⟩):p:=h
def Fj{p:Prop}(h:p:=by rw[p pl J (C pl O),o2 pl H];exact E):p:=h
inductive Tr (α:Type) where
 |e
 |n (v:Option α) (l r:Tr α)
structure GetF (α:Type) where run:Tr α→Option α
structure SetF (α:Type) where run:α→Tr α→Tr α
def qn{j:Type}:List Bool→GetF j
 |[]=>⟨λt=>Tr.rec none (λv _ _ _ _=>v) t⟩
 |b::g=>match b with
  |true=>⟨λt=>Tr.rec none (λ_ l _ _ _=>(qn g).run l) t⟩
  |false=>⟨λt=>Tr.rec none (λ_ _ r _ _=>(qn g).run r) t⟩
def X5{j:Type}:List Bool→SetF j
 |[]=>⟨λa t=>Tr.rec (.n (some a) .e .e) (λ_ l r _ _=>.n (some a) l r) t⟩
 |b::g=>match b with
  |true=>⟨λa t=>Tr.rec (.n none ((X5 g).run a .e) .e) (λv l r _ _=>.n v ((X5 g).run a l) r) t⟩
  |false=>⟨λa t=>Tr.rec (.n none .e ((X5 g).run a .e)) (λv l r _ _=>.n v l ((X5 g).run a r)) t⟩
def Mm(g:List Bool)(t:Tr v9):Option v9:=(qn g).run t
def Nv(a:v9)(g:List Bool)(t:Tr v9):Tr v9:=(X5 g).run a t
def pd:Nat→Nat→List Bool
 |0,_=>[]
 |f+1,k=>match k with
  |0=>[]
  |k+1=>Nat.beq (Nat.mod k 2) 0::pd f (Nat.div k 2)
def Mx(k:Nat):List Bool:=pd (Nat.succ k) k
def M1:Nat:=1000000000
def Ou{g:Type}:List g→Nat→Tr g→Tr g
 |[],_,t=>t
 |a::l,i,t=>Ou l (i+1) (Nv a (Mx i) t)
inductive AV where
 |bool (b:Bool)
 |int (k:IntKind) (n:Int)
 |str (len n:Nat)
 |nilPtr
 |ptr (o v i:Nat)
 |nilSl
 |sl (o v i len esz:Nat) (room:Option Nat)
 |emp
 |nilMap
 |map (o:Nat)
 |nilFn
 |fn (f:Fn) (first cap:List AV)
 |nilIf
 |iface (t:TypeId) (v:AV)
 |agg (cs:List AV)
 |tup (vs:List AV)
 deriving Inhabited
def AV.cells:AV→Option (List AV)
 |.agg cs=>some cs
 |.tup _=>none
 |v=>some [v]
def N8:List UInt8→Nat
 |[]=>0
 |b::l=>b.toNat+256*N8 l
def dg:Value→Option AV
 |.bool b=>some (.bool b)
 |.int k n=>some (.int k n)
 |.string s=>some (.str s.data.toList.length (N8 s.data.toList))
 |.pointer none=>some .nilPtr
 |.slice none 0 0=>some .nilSl
 |.map none=>some .nilMap
 |.nilFunc=>some .nilFn
 |.nilIface=>some .nilIf
 |_=>none
def Sf:List Value→Option (List AV)
 |[]=>some []
 |v::l=>match dg v with
  |none=>none
  |some a=>match Sf l with
   |none=>none
   |some r=>some (a::r)
def Uy:Value→Option AV
 |.agg g=>(Sf g.toList).map .agg
 |.tuple j=>if j.size=0 then some (.tup []) else none
 |v=>dg v
inductive AObj where
 |cells (c:Tr AV) (len ver:Nat) (ro:Bool)
 |map (es:List (AV×AV×Nat)) (clock:Nat)
 |iter (len n pos:Nat)
 |loop (st:LoopState) (pend:Option Code) (f nt:Nat) (env:Tr AV) (ps:Array Tmp) (assign body:Code) (defers:Nat)
 |defd (isOpen:Bool)
structure Heap where
 t:Tr AObj
 next:Nat
def Heap.get(H:Heap)(o:Nat):Option AObj:=Mm (Mx o) H.t
def Heap.put(H:Heap)(o:Nat)(x:AObj):Heap:=⟨Nv x (Mx o) H.t,H.next⟩
def Heap.push(H:Heap)(x:AObj):Heap:=⟨Nv x (Mx H.next) H.t,H.next+1⟩
def Rm(c:Tr AV):Nat→Nat→Option (List AV)
 |_,0=>some []
 |i,n+1=>match Mm (Mx i) c with
  |none=>none
  |some a=>match Rm c (i+1) n with
   |none=>none
   |some l=>some (a::l)
def Pa(j:Heap)(o v i n:Nat):Option (List AV) :=
 match j.get o with
 |some (.cells c len g _)=>match Nat.beq v g with
  |true=>match Nat.ble (Nat.add i n) len with
   |true=>Rm c i n
   |false=>none
  |false=>none
 |_=>none
def Ty(j:Heap)(o v i:Nat)(l:List AV):Option Heap :=
 match j.get o with
 |some (.cells c len g false)=>match Nat.beq v g with
  |true=>match Nat.ble (Nat.add i l.length) len with
   |true=>some (j.put o (.cells (Ou l i c) len g false))
   |false=>none
  |false=>none
 |_=>none
def newObj(g:Heap)(l:List AV):Option (Nat×Heap):=some (g.next,g.push (.cells (Ou l 0 .e) l.length 0 false))
inductive Tgt where
 |fn (f:Nat)
 |yield (l:Nat)
inductive OR where
 |no
 |val (v:AV) (H:Heap)
 |call (t:Tgt) (args:List AV)
structure OpdF where run:Tr AV→Option AV
structure OpF where run:Tr AV→Heap→OR
def Qv:AV:=.tup []
def M0(x:Operand):OpdF :=
 match x with
 |.tmp t=>match Nat.ble t M1 with
  |true=>⟨λg=>Option.rec (some Qv) (λv=>some v) (Mm (Mx t) g)⟩
  |false=>⟨λ_=>none⟩
 |.const v=>match Uy v with
  |some a=>⟨λ_=>some a⟩
  |none=>⟨λ_=>none⟩
 |.func f=>⟨λ_=>some (.fn (.func f) [] [])⟩
 |.global _=>⟨λ_=>none⟩
structure OpdsF where run:Tr AV→Option (List AV)
def opds:List Operand→OpdsF
 |[]=>⟨λ_=>some []⟩
 |x::l=>⟨λg=>match (M0 x).run g with
  |none=>none
  |some a=>match (opds l).run g with
   |none=>none
   |some r=>some (a::r)⟩
def Nc:OpF:=⟨λ_ _=>.no⟩
def ret1(g:Heap)(o:Option AV):OR:=match o with
 |some v=>.val v g
 |none=>.no
def Oy(x:Operand)(f:Heap→AV→OR):OpF:=⟨λg j=>Option.rec .no (λa=>f j a) ((M0 x).run g)⟩
def R5(x y:Operand)(f:Heap→AV→AV→OR):OpF:=⟨λg j=>Option.rec .no (λa=>Option.rec .no (λb=>f j a b) ((M0 y).run g)) ((M0 x).run g)⟩
def N7(g:Program)(t:TypeId):Option Nat:=(g.info? t).map (·.size)
def Ro(g:Program)(t:TypeId):Option Bool:=match g.underlying t with
 |some (.struct _)|some (.array _ _)=>some true
 |some _=>some false
 |none=>none
def Rn(g:Program)(t:TypeId):Option (List AV):=match g.info? t with
 |some i=>match i.zero with
  |some v=>match Sf v.cells.toList with
   |some l=>if l.length=i.size then some l else none
   |none=>none
  |none=>none
 |none=>none
def oc(g:Program)(t:TypeId):Option AV:=match g.info? t with
 |some i=>match i.zero with
  |some v=>Uy v
  |none=>none
 |none=>none
def Us(j:Heap)(l:List AV):OR:=match newObj j l with
 |some (o,g)=>.val (.ptr o 0 0) g
 |none=>.no
def W9:IntKind→Nat
 |.i8=>0 |.i16=>1 |.i32=>2 |.i64=>3 |.u8=>4 |.u16=>5 |.u32=>6 |.u64=>7
def Vj(k g:IntKind):Bool:=Nat.beq (W9 k) (W9 g)
def e9(a b:Int):Bool:=match a,b with
 |.ofNat x,.ofNat y=>Nat.beq x y
 |.negSucc x,.negSucc y=>Nat.beq x y
 |_,_=>false
def jl(a b:Int):Bool:=match a,b with
 |.ofNat x,.ofNat y=>Nat.blt x y
 |.negSucc x,.negSucc y=>Nat.blt y x
 |.negSucc _,.ofNat _=>true
 |.ofNat _,.negSucc _=>false
def U0:IntKind→Nat
 |.i8=>128 |.u8=>128 |.i16=>32768 |.u16=>32768 |.i32=>2147483648 |.u32=>2147483648
 |.i64=>9223372036854775808 |.u64=>9223372036854775808
def To(k:IntKind)(n:Int):Int:=match n with
 |.ofNat m=>match Nat.blt m (U0 k) with
  |true=>.ofNat m
  |false=>k.wrap (.ofNat m)
 |.negSucc m=>k.wrap (.negSucc m)
def Ta(k:IntKind):Nat:=Nat.mul 2 (U0 k)
def Wc(f:Nat→Nat→Nat)(k:IntKind)(a b:Int):Option AV:=match a,b with
 |.ofNat x,.ofNat y=>match Nat.blt x (Ta k) with
  |true=>match Nat.blt y (Ta k) with
   |true=>some (.int k (To k (.ofNat (f x y))))
   |false=>none
  |false=>none
 |_,_=>none
def W8(b:Int):Bool:=match b with
 |.ofNat n=>Nat.beq n 0
 |_=>false
def qt(op:BinOp)(k:IntKind)(a b:Int):Option AV :=
 match op with
 |.add=>some (.int k (To k (Int.add a b)))
 |.sub=>some (.int k (To k (Int.sub a b)))
 |.mul=>some (.int k (To k (Int.mul a b)))
 |.quo=>match W8 b with
  |true=>none
  |false=>some (.int k (To k (Int.tdiv a b)))
 |.rem=>match W8 b with
  |true=>none
  |false=>some (.int k (Int.tmod a b))
 |.and=>Wc Nat.land k a b
 |.or=>Wc Nat.lor k a b
 |.xor=>Wc Nat.xor k a b
 |.andNot=>Wc (λx y=>Nat.xor x (Nat.land x y)) k a b
 |.eql=>some (.bool (e9 a b))
 |.neq=>some (.bool (!(e9 a b)))
 |.lss=>some (.bool (jl a b))
 |.leq=>some (.bool (!(jl b a)))
 |.gtr=>some (.bool (jl b a))
 |.geq=>some (.bool (!(jl a b)))
 |_=>none
def O0(a b:Nat):Nat:=match Nat.ble a b with
 |true=>a
 |false=>b
def xi(op:BinOp)(k:IntKind)(a:Int)(y:Int):Option AV :=
 match a,y with
 |.ofNat x,.ofNat y=>match op with
  |.shl=>some (.int k (To k (.ofNat (Nat.mul x (Nat.pow 2 (O0 y k.bits))))))
  |.shr=>some (.int k (.ofNat (Nat.div x (Nat.pow 2 (O0 y k.bits)))))
  |_=>none
 |_,_=>none
def T5:Nat→Nat→List Nat
 |0,_=>[]
 |len+1,n=>Nat.mod n 256::T5 len (Nat.div n 256)
def bh:List Nat→List Nat→Bool
 |_,[]=>false
 |[],_::_=>true
 |a::x,b::y=>Nat.blt a b || (Nat.beq a b&&bh x y)
def uv(op:BinOp)(g a j b:Nat):Option AV :=
 match op with
 |.add=>match Nat.ble (Nat.add g j) M1 with
  |true=>some (.str (Nat.add g j) (Nat.add a (Nat.mul b (Nat.pow 256 g))))
  |false=>none
 |.eql=>some (.bool (Nat.beq g j&&Nat.beq a b))
 |.neq=>some (.bool (!(Nat.beq g j&&Nat.beq a b)))
 |.lss=>some (.bool (bh (T5 g a) (T5 j b)))
 |.gtr=>some (.bool (!(bh (T5 g a) (T5 j b) || (Nat.beq g j&&Nat.beq a b))))
 |.leq=>some (.bool (bh (T5 g a) (T5 j b) || (Nat.beq g j&&Nat.beq a b)))
 |.geq=>some (.bool (!(bh (T5 g a) (T5 j b))))
 |_=>none
def V6(l:List AV)(g n:Nat):Option (List AV):=match Nat.ble (Nat.add g n) l.length with
 |true=>some ((l.drop g).take n)
 |false=>none
def W5(p:Bool)(g:Nat)(l:List AV)(j:Nat):Option AV :=
 match p with
 |true=>match V6 l j g with
  |some r=>some (.agg r)
  |none=>none
 |false=>l[j]?
def sw(j:Program)(t:TypeId)(l:List AV)(g:Nat):Option AV :=
 match Ro j t,N7 j t with
 |some p,some n=>W5 p n l g
 |_,_=>none
def Xm(p:Program)(f:TypeId→AV→AV→Option Bool)(g j:List AV):List Field→Option Bool
 |[]=>some true
 | fd :: l => match fd.name != "_" with
  |true=>match sw p fd.type g fd.offset,sw p fd.type j fd.offset with
   |some a,some b=>match f fd.type a b with
    |some true=>Xm p f g j l
    |some false=>some false
    |none=>none
   |_,_=>none
  |false=>Xm p f g j l
def dv(p:Program)(f:TypeId→AV→AV→Option Bool)(t:TypeId)(n:Nat)(g j:List AV):List Nat→Option Bool
 |[]=>some true
 |i::l=>match sw p t g (Nat.mul i n),sw p t j (Nat.mul i n) with
  |some a,some b=>match f t a b with
   |some true=>dv p f t n g j l
   |some false=>some false
   |none=>none
  |_,_=>none
def Yh(p:Program)(f:TypeId→AV→AV→Option Bool)(t:TypeId)(a b:AV):Option Bool:=match p.underlying t,a,b with
  |some .bool,.bool x,.bool y=>some (x==y)
  |some (.int _),.int k x,.int z y=>match Vj k z with
   |true=>some (e9 x y)
   |false=>none
  |some .string,.str A x,.str B y=>some (Nat.beq A B&&Nat.beq x y)
  |some (.pointer _),.nilPtr,.nilPtr=>some true
  |some (.pointer _),.nilPtr,.ptr _ _ _=>some false
  |some (.pointer _),.ptr _ _ _,.nilPtr=>some false
  |some (.interface _),.nilIf,.nilIf=>some true
  |some (.interface _),.nilIf,.iface _ _=>some false
  |some (.interface _),.iface _ _,.nilIf=>some false
  |some (.slice _),.nilSl,.nilSl=>some true
  |some (.slice _),.nilSl,.sl _ _ _ _ _ _=>some false
  |some (.slice _),.sl _ _ _ _ _ _,.nilSl=>some false
  |some (.slice _),.nilSl,.emp=>some false
  |some (.slice _),.emp,.nilSl=>some false
  |some (.map _ _),.nilMap,.nilMap=>some true
  |some (.map _ _),.nilMap,.map _=>some false
  |some (.map _ _),.map _,.nilMap=>some false
  |some (.func _ _ _),.nilFn,.nilFn=>some true
  |some (.func _ _ _),.nilFn,.fn _ _ _=>some false
  |some (.func _ _ _),.fn _ _ _,.nilFn=>some false
  |some (.struct C),.agg g,.agg j=>match p.stoodInHeld t with
   |true=>none
   |false=>Xm p f g j C.toList
  |some (.array n e),.agg g,.agg j=>match N7 p e with
   |some s=>dv p f e s g j (List.range n)
   |none=>none
  |_,_,_=>none
def wn(g:Program):Nat→TypeId→AV→AV→Option Bool
 |0=>λ_ _ _=>none
 |d+1=>Yh g (wn g d)
def uk(g:Program)(j:Bool)(t:TypeId)(a b:AV):Bool:=match a,b with
 |.nilIf,.nilIf=>j
 |.agg _,.agg _=>!(g.eqGuardType g.depth t)
 |_,_=>true
def Qn(g:Program)(j:Bool)(t:TypeId)(a b:AV):Option Bool:=match uk g j t a b with
 |true=>wn g 20 t a b
 |false=>none
def pi:Option Bool→Option AV
 |some b=>some (.bool (!b))
 |none=>none
def mc:Option Bool→Option AV
 |some b=>some (.bool b)
 |none=>none
def Uv:Operand→Bool
 |.const _=>true
 |_=>false
def Oh(z:Program)(op:BinOp)(A:Bool)(t:TypeId)(a b:AV):Option AV :=
 match a,b with
 |.int k x,.int g y=>match op with
  |.shl=>xi .shl k x y
  |.shr=>xi .shr k x y
  |op=>match Vj k g with
   |true=>qt op k x y
   |false=>none
 |.str j x,.str p y=>uv op j x p y
 |a,b=>match op with
  |.eql=>mc (Qn z A t a b)
  |.neq=>pi (Qn z A t a b)
  |_=>none
def unA(op:UnOp)(a:AV):Option AV :=
 match op,a with
 |.neg,.int k n=>some (.int k (To k (Int.sub 0 n)))
 |.xor,.int k n=>some (.int k (k.wrap (BitVec.ofInt k.bits (if k.signed then -1 else k.max) ^^^ BitVec.ofInt k.bits n).toNat))
 |.not,.bool b=>some (.bool (!b))
 |_,_=>none
def Sx:List AV→Nat→List AV→List AV
 |g,_,[]=>g
 |g,i,a::l=>Sx (g.set i a) (i+1) l
structure Part where
 off:Nat
 size:Nat
 v:OpdF
def Ym(cs:List AV):List Part→Tr AV→Option (List AV)
 |[],_=>some cs
 |g::j,p=>match g.v.run p with
  |none=>none
  |some a=>match a.cells with
   |none=>none
   |some l=>match Nat.beq l.length g.size with
    |true=>match Nat.ble (Nat.add g.off g.size) cs.length with
     |true=>Ym (Sx cs g.off l) j p
     |false=>none
    |false=>none
def bj(g:Nat→Option (Nat×Nat)):List (Nat×Operand)→Option (List Part)
 |[]=>some []
 |(i,x)::l=>match g i with
  |none=>none
  |some (o,s)=>match bj g l with
   |none=>none
   |some r=>some (⟨o,s,M0 x⟩::r)
def td(g:Program):List Field→Option (List (Nat×Nat))
 |[]=>some []
 |f::l=>match N7 g f.type with
  |none=>none
  |some s=>match td g l with
   |none=>none
   |some r=>some ((f.offset,s)::r)
def oi(C:Program)(t:TypeId)(g:Array (Nat×Operand)):OpF :=
 match Rn C t with
 |none=>Nc
 |some B=>match C.underlying t with
  |some (.struct j)=>match td C j.toList with
   |none=>Nc
   |some D=>match bj (D[·]?) g.toList with
    |none=>Nc
    |some A=>⟨λE F=>match Ym B A E with
     |some l=>.val (.agg l) F
     |none=>.no⟩
  |some (.array _ z)=>match N7 C z with
   |none=>Nc
   |some p=>match bj (λi=>some (i*p,p)) g.toList with
    |none=>Nc
    |some A=>⟨λE F=>match Ym B A E with
     |some l=>.val (.agg l) F
     |none=>.no⟩
  |_=>Nc
def R4(l:List AV):Nat→List AV
 |0=>[]
 |n+1=>l++R4 l n
def lh(z:Program)(t:TypeId)(len:Nat)(p:Array (Nat×Operand)):OpF :=
 match z.underlying t with
 |some (.slice j)=>match N7 z j with
  |none=>Nc
  |some g=>match Rn z j with
   |none=>Nc
   |some C=>if len*g≤2^20∧0<g then
     match bj (λi=>some (i*g,g)) p.toList with
     |none=>Nc
     |some A=>⟨λD E=>match Ym (R4 C len) A D with
      |some l=>match newObj E l with
       |some (o,B)=>.val (.sl o 0 0 len g (some len)) B
       |none=>.no
      |none=>.no⟩
    else Nc
 |_=>Nc
def nq(j:Program)(t:TypeId)(x:Operand):OpF :=
 match Ro j t,N7 j t with
 |some true,some n=>Oy x λg a=>match a with
  |.ptr o v i=>match Pa g o v i n with
   |some l=>.val (.agg l) g
   |none=>.no
  |_=>.no
 |some false,some _=>Oy x λg a=>match a with
  |.ptr o v i=>match Pa g o v i 1 with
   |some [c]=>.val c g
   |_=>.no
  |_=>.no
 |_,_=>Nc
def wd(j:Program)(t:TypeId)(x y:Operand):OpF :=
 match N7 j t with
 |some n=>R5 x y λp a b=>match a with
  |.ptr o v i=>match b.cells with
   |some l=>match Nat.beq l.length n with
    |true=>match Ty p o v i l with
     |some g=>.val Qv g
     |none=>.no
    |false=>.no
   |none=>.no
  |_=>.no
 |none=>Nc
def ol(g:Heap)(a:AV):OR:=match a with
 |.ptr o v i=>.val (.ptr o v i) g
 |.iface t v=>.val (.iface t v) g
 |.fn (.func f) l c=>.val (.fn (.func f) l c) g
 |.map o=>.val (.map o) g
 |_=>.no
def T7(P:Program)(src dst:TypeId)(x:Operand):OpF :=
 match P.underlying src,P.underlying dst with
 |some _,some (.int k)=>Oy x λH a=>match a with
  |.int _ n=>.val (.int k (To k n)) H
  |_=>.no
 |some (.slice e),some .string=>match P.underlying e with
  |some (.int .u8)=>Oy x λH a=>match a with
   |.nilSl=>.val (.str 0 0) H
   |.sl o v i len 1 _=>match Pa H o v i len with
    |some l=>match bytesA l with
     |some n=>.val (.str len n) H
     |none=>.no
    |none=>.no
   |_=>.no
  |_=>Nc
 |some _,some .string=>Oy x λH a=>match a with
  |.str l n=>.val (.str l n) H
  |_=>.no
 |some _,some (.slice e)=>match P.underlying e,N7 P e with
  |some (.int .u8),some 1=>Oy x λH a=>match a with
   |.str len n=>match newObj H ((T5 len n).map λ(b:Nat)=>AV.int .u8 (Int.ofNat b)) with
    |some (o,H')=>.val (.sl o 0 0 len 1 none) H'
    |none=>.no
   |_=>.no
  |_,_=>Nc
 |_,_=>Nc
where
 bytesA:List AV→Option Nat
  |[]=>some 0
  |.int .u8 (.ofNat b)::l=>if Nat.blt b 256 then match bytesA l with
   |some n=>some (b+256*n)
   |none=>none
   else none
  |_=>none
def mi(g:Program)(t:TypeId)(x:Operand):OpF :=
 match g.underlying t with
 |some (.interface _)=>Nc
 |some _=>Oy x λj a=>.val (.iface t a) j
 |none=>Nc
def py(f:Fn)(first cap:Array Operand):OpF :=
 ⟨λg j=>match (opds first.toList).run g with
  |some l=>match (opds cap.toList).run g with
   |some r=>.val (.fn f l r) j
   |none=>.no
  |none=>.no⟩
def V2(g:Heap):OR:=.val (.map g.next) (g.push (.map [] 0))
def jo(j:Program)(t:TypeId)(r:Option Operand):OpF :=
 match r with
 |none=>⟨λ_ g=>V2 g⟩
 |some x=>match j.underlying t with
  |some (.map _ _)=>Oy x λg a=>match a with
   |.int _ _=>V2 g
   |_=>.no
  |_=>Nc
def ir(j:Program)(t:TypeId)(l c:Operand):OpF :=
 match j.underlying t with
 |some (.slice g)=>match j.info? g with
  |none=>Nc
  |some i=>match Rn j g with
   |none=>Nc
   |some z=>if 0<i.size∧i.bytes≤2^16 then R5 l c λA a b=>match a,b with
    |.int .i64 (.ofNat l),.int .i64 (.ofNat c)=>match Nat.ble l c with
     |true=>match Nat.ble c 1048576 with
      |true=>match newObj A (R4 z c) with
       |some (o,p)=>.val (.sl o 0 0 l i.size (some c)) p
       |none=>.no
      |false=>.no
     |false=>.no
    |_,_=>.no
    else Nc
 |_=>Nc
structure OptF where run:Tr AV→Option (Option Nat)
def O2:Option Operand→OptF
 |none=>⟨λ_=>some none⟩
 |some x=>⟨λg=>match (M0 x).run g with
  |some (.int _ (.ofNat n))=>some (some n)
  |_=>none⟩
def Xq(l h m o v i g:Nat):AV :=
 match Nat.beq l m with
 |true=>match Nat.beq l 0 with
  |true=>.sl o v i 0 g (some 0)
  |false=>.emp
 |false=>.sl o v (Nat.add i (Nat.mul l g)) (Nat.sub h l) g (some (Nat.sub m l))
def im(l h j:Nat)(z:Option Nat)(o v i g:Nat)(p:Option Nat):Option AV :=
 match Nat.ble l h with
 |false=>none
 |true=>match Nat.ble h j with
  |false=>none
  |true=>match z with
   |some m=>match Nat.ble h m with
    |false=>none
    |true=>match Nat.ble m j with
     |false=>none
     |true=>some (Xq l h m o v i g)
   |none=>match p with
    |some r=>some (Xq l h r o v i g)
    |none=>match Nat.beq l 0 with
     |true=>some (.sl o v i h g none)
     |false=>match Nat.beq l h with
      |true=>some .emp
      |false=>some (.sl o v (Nat.add i (Nat.mul l g)) (Nat.sub h l) g none)
def Tu(g:Nat)(p z mx:Option Nat)(o v i len j:Nat)(room:Option Nat):Option AV :=
 match Nat.beq j g with
 |false=>none
 |true=>im (p.getD 0) (z.getD len) (room.getD len) mx o v i j room
def ic(P:Program)(t:TypeId)(x:Operand)(p j mx:Option Operand):OpF :=
 match P.underlying t with
 |some .string=>match mx with
  |some _=>Nc
  |none=>⟨λA D=>match (M0 x).run A,(O2 p).run A,(O2 j).run A with
   |some (.str len n),some p,some j =>
    let l:=p.getD 0;let h:=j.getD len
    match Nat.ble l h with
    |true=>match Nat.ble h len with
     |true=>.val (.str (Nat.sub h l) (Nat.mod (Nat.div n (Nat.pow 256 l)) (Nat.pow 256 (Nat.sub h l)))) D
     |false=>.no
    |false=>.no
   |_,_,_=>.no⟩
 |some (.slice z)=>if mx.isSome&&j.isNone then Nc else match N7 P z with
  |none=>Nc
  |some g=>⟨λA D=>match (M0 x).run A,(O2 p).run A,(O2 j).run A,(O2 mx).run A with
   |some (.sl o v i len E B),some p,some j,some mx=>ret1 D (Tu g p j mx o v i len E B)
   |some .nilSl,some p,some j,some none=>match Nat.beq (Nat.add (p.getD 0) (j.getD 0)) 0 with
    |true=>.val .nilSl D
    |false=>.no
   |some .emp,some p,some j,some none=>match Nat.beq (Nat.add (p.getD 0) (j.getD 0)) 0 with
    |true=>.val .emp D
    |false=>.no
   |_,_,_,_=>.no⟩
 |some (.array n z)=>if mx.isSome&&j.isNone then Nc else match N7 P z with
  |none=>Nc
  |some g=>⟨λA D=>match (M0 x).run A,(O2 p).run A,(O2 j).run A,(O2 mx).run A with
   |some (.ptr o v i),some p,some j,some mx=>match D.get o with
    |some (.cells _ C F false)=>match Nat.beq v F with
     |true=>match Nat.ble (Nat.add i (Nat.mul n g)) C with
      |true=>ret1 D (Tu g p j mx o v i n g (some n))
      |false=>.no
     |false=>.no
    |_=>.no
   |_,_,_,_=>.no⟩
 |_=>Nc
def qj(p:Program)(s:TypeId)(x:Operand)(f:Nat):OpF :=
 match p.underlying s with
 |some (.struct g)=>match g[f]? with
  |none=>Nc
  |some fd=>match N7 p fd.type with
   |none=>Nc
   |some 0=>Nc
   |some _=>let j:=fd.offset;Oy x λz a=>match a with
    |.ptr o v i=>.val (.ptr o v (Nat.add i j)) z
    |_=>.no
 |_=>Nc
def na(p:Program)(t:TypeId)(x:Operand)(f:Nat):OpF :=
 match p.underlying t with
 |some (.struct g)=>match g[f]? with
  |none=>Nc
  |some fd=>match Ro p fd.type,N7 p fd.type with
   |some z,some n=>let j:=fd.offset;Oy x λA a=>match a with
    |.agg l=>ret1 A (W5 z n l j)
    |_=>.no
   |_,_=>Nc
 |_=>Nc
def mu(A:Program)(t:TypeId)(x z:Operand):OpF :=
 match A.underlying t with
 |some (.slice g)=>match N7 A g with
  |none=>Nc
  |some j=>R5 x z λB a b=>match a,b with
   |.sl o v i len p _,.int _ (.ofNat n)=>match Nat.blt n len with
    |true=>match Nat.beq p j with
     |true=>.val (.ptr o v (Nat.add i (Nat.mul n p))) B
     |false=>.no
    |false=>.no
   |_,_=>.no
 |some (.array len g)=>match N7 A g with
  |none=>Nc
  |some j=>R5 x z λB a b=>match a,b with
   |.ptr o v i,.int _ (.ofNat n)=>match Nat.blt n len with
    |true=>.val (.ptr o v (Nat.add i (Nat.mul n j))) B
    |false=>.no
   |_,_=>.no
 |_=>Nc
def qh(z:Program)(t:TypeId)(x p:Operand):OpF :=
 match z.underlying t with
 |some .string=>R5 x p λA a b=>match a,b with
  |.str len n,.int _ (.ofNat i)=>match Nat.blt i len with
   |true=>.val (.int .u8 (Int.ofNat (Nat.mod (Nat.div n (Nat.pow 256 i)) 256))) A
   |false=>.no
  |_,_=>.no
 |some (.array len g)=>match Ro z g,N7 z g with
  |some B,some j=>R5 x p λA a b=>match a,b with
   |.agg l,.int _ (.ofNat n)=>match Nat.blt n len with
    |true=>ret1 A (W5 B j l (Nat.mul n j))
    |false=>.no
   |_,_=>.no
  |_,_=>Nc
 |_=>Nc
def cu(d:TypeDesc)(a b:AV):Option Bool:=match d,a,b with
 |.int _,.int k a,.int g b=>match Vj k g with
  |true=>some (e9 a b)
  |false=>none
 |.string,.str j a,.str p b=>some (Nat.beq j p&&Nat.beq a b)
 |.bool,.bool a,.bool b=>some (a==b)
 |_,_,_=>none
def Ti(g:Program)(t:TypeId):Option TypeDesc:=match g.underlying t with
 |some .bool=>some .bool
 |some (.int k)=>some (.int k)
 |some .string=>some .string
 |_=>none
def ju(d:TypeDesc)(k:AV):List (AV×AV×Nat)→Option (Option AV)
 |[]=>some none
 |(g,v,_)::l=>match cu d k g with
  |some true=>some (some v)
  |some false=>ju d k l
  |none=>none
def lr(d:TypeDesc)(k v:AV)(g:Nat):List (AV×AV×Nat)→Option (List (AV×AV×Nat)×Bool)
 |[]=>some ([(k,v,g)],true)
 |(j,p,b)::l=>match cu d k j with
  |some true=>some ((k,v,b)::l,false)
  |some false=>match lr d k v g l with
   |some (r,n)=>some ((j,p,b)::r,n)
   |none=>none
  |none=>none
def zl(d:TypeDesc)(k:AV):List (AV×AV×Nat)→Option (List (AV×AV×Nat))
 |[]=>some []
 |(g,j,b)::l=>match cu d k g with
  |some true=>some l
  |some false=>match zl d k l with
   |some r=>some ((g,j,b)::r)
   |none=>none
  |none=>none
def vy(j:Heap)(a:AV):Option (List (AV×AV×Nat)):=match a with
 |.nilMap=>some []
 |.map o=>match j.get o with
  |some (.map g _)=>some g
  |_=>none
 |_=>none
def nv(p:Program)(t:TypeId)(x z:Operand)(ok:Bool):OpF :=
 match p.underlying t with
 |some (.map j g)=>match Ti p j,oc p g with
  |some d,some C=>R5 x z λA a b=>match vy A a with
   |none=>.no
   |some B=>match ju d b B with
    |some (some v)=>.val (if ok then .tup [v,.bool true] else v) A
    |some none=>.val (if ok then .tup [C,.bool false] else C) A
    |none=>.no
  |_,_=>Nc
 |_=>Nc
def rv(C:Program)(t:TypeId)(m k x:Operand):OpF :=
 match C.underlying t with
 |some (.map p _)=>match Ti C p with
  |some d=>⟨λz A=>match (M0 m).run z,(M0 k).run z,(M0 x).run z with
   |some (.map o),some k,some v=>match A.get o with
    |some (.map B g)=>match lr d k v g B with
     |some (j,true)=>.val Qv (A.put o (.map j (Nat.add g 1)))
     |some (j,false)=>.val Qv (A.put o (.map j g))
     |none=>.no
    |_=>.no
   |_,_,_=>.no⟩
  |none=>Nc
 |_=>Nc
def rangeF(j:Program)(t:TypeId)(x:Operand):OpF :=
 match j.underlying t with
 |some .string=>Oy x λg a=>match a with
  |.str len n=>.val (.ptr g.next 0 0) (g.push (.iter len n 0))
  |_=>.no
 |_=>Nc
def vd(x:Operand)(g:Bool):OpF :=
 if g then Oy x λp a=>match a with
  |.ptr o 0 0=>match p.get o with
   |some (.iter len n j)=>match Nat.blt j len with
    |true=>match Nat.blt (Nat.mod (Nat.div n (Nat.pow 256 j)) 256) 128 with
     |true=>.val (.tup [.bool true,.int .i64 (Int.ofNat j),.int .i32 (Int.ofNat (Nat.mod (Nat.div n (Nat.pow 256 j)) 256))]) (p.put o (.iter len n (Nat.add j 1)))
     |false=>.no
    |false=>.val (.tup [.bool false]) p
   |_=>.no
  |_=>.no
 else Nc
def nm(p:Program)(x:Operand)(g:TypeId)(ok:Bool):OpF :=
 match p.underlying g with
 |some (.interface _)=>Nc
 |some _=>match oc p g with
  |none=>Nc
  |some z=>Oy x λj a=>match a with
   |.nilIf=>if ok then .val (.tup [z,.bool false]) j else .no
   |.iface t v=>match Nat.beq t g with
    |true=>.val (if ok then .tup [v,.bool true] else v) j
    |false=>if ok then .val (.tup [z,.bool false]) j else .no
   |_=>.no
 |none=>Nc
def zf9(x:Operand)(i:Nat):OpF:=Oy x λg a=>match a with
 |.tup l=>ret1 g l[i]?
 |_=>.no
def Tl(p:Program)(t:TypeId)(x:Operand):OpF :=
 match p.underlying t with
 |some .string=>Oy x λg a=>match a with
  |.str l _=>.val (.int .i64 (Int.ofNat l)) g
  |_=>.no
 |some (.slice _)=>Oy x λg a=>match a with
  |.sl _ _ _ len _ _=>.val (.int .i64 (Int.ofNat len)) g
  |.nilSl=>.val (.int .i64 0) g
  |.emp=>.val (.int .i64 0) g
  |_=>.no
 |some (.map _ _)=>Oy x λg a=>match a with
  |.nilMap=>.val (.int .i64 0) g
  |.map o=>match g.get o with
   |some (.map j _)=>.val (.int .i64 (Int.ofNat j.length)) g
   |_=>.no
  |_=>.no
 |some (.array n _)=>Oy x λg _=>.val (.int .i64 (Int.ofNat n)) g
 |_=>Nc
def Uq(j:Program)(t:TypeId)(x:Operand):OpF :=
 match j.underlying t with
 |some (.slice _)=>Oy x λg a=>match a with
  |.nilSl=>.val (.int .i64 0) g
  |.sl _ _ _ _ _ (some r)=>.val (.int .i64 (Int.ofNat r)) g
  |_=>.no
 |_=>Nc
def Uz(g:Bool):AV→AV→Option AV
 |.int k x,.int j y=>match Vj k j with
  |true=>match g with
   |true=>match jl x y with
    |true=>some (.int k y)
    |false=>some (.int k x)
   |false=>match jl y x with
    |true=>some (.int k y)
    |false=>some (.int k x)
  |false=>none
 |_,_=>none
def Wj(g:Bool):AV→List AV→Option AV
 |a,[]=>some a
 |a,b::l=>match Uz g a b with
  |some c=>Wj g c l
  |none=>none
def Si(j:Bool)(g:List Operand):OpF:=⟨λp z=>match (opds g).run p with
 |some (.int k n::l)=>ret1 z (Wj j (.int k n) l)
 |_=>.no⟩
def W6(p:Heap)(g:Nat):AV→Option (Nat×List AV)
 |.nilSl=>some (0,[])
 |.emp=>some (0,[])
 |.sl o v i len j _=>match Nat.beq j g with
  |true=>match Pa p o v i (Nat.mul len g) with
   |some l=>some (len,l)
   |none=>none
  |false=>none
 |.str len n=>if Nat.beq g 1 then some (len,(T5 len n).map λ(b:Nat)=>AV.int .u8 (Int.ofNat b)) else none
 |_=>none
def Wp(p:Heap)(n g:Nat)(l:List AV):OR :=
 match newObj p l with
 |some (o,j)=>.val (.sl o 0 0 n g none) j
 |none=>.no
def Ub(C:Heap)(j:Nat)(s:AV)(n:Nat)(z:List AV):OR :=
 match Nat.beq n 0 with
 |true=>match s with
  |.nilSl=>.val .nilSl C
  |.emp=>.val .emp C
  |.sl o v i len g A=>.val (.sl o v i len g A) C
  |_=>.no
 |false=>match s with
  |.nilSl=>Wp C n j z
  |.sl o v i len g A=>match Nat.beq g j&&Nat.ble len M1 with
   |false=>.no
   |true=>match A with
    |some r=>match Nat.ble (Nat.add len n) r with
     |true=>match Ty C o v (Nat.add i (Nat.mul len g)) z with
      |some D=>.val (.sl o v i (Nat.add len n) g (some r)) D
      |none=>.no
     |false=>match Pa C o v i (Nat.mul len j) with
      |some E=>Wp C (Nat.add len n) j (E++z)
      |none=>.no
    |none=>match C.get o with
     |some (.cells c p B false)=>match Nat.beq v B with
      |false=>.no
      |true=>match Nat.ble (Nat.add i (Nat.mul (Nat.add len n) g)) p with
       |true=>match Ty C o v (Nat.add i (Nat.mul len g)) z with
        |some D=>.val (.sl o v i (Nat.add len n) g none) D
        |none=>.no
       |false=>match Nat.beq i 0 with
        |false=>.no
        |true=>match Nat.beq (Nat.mul len g) p with
         |false=>.no
         |true=>.val (.sl o (Nat.add B 1) 0 (Nat.add len n) g none) (C.put o (.cells (Ou z p c) (Nat.add p z.length) (Nat.add B 1) false))
     |_=>.no
  |_=>.no
def zr(P:Program)(g:TypeId)(s x:Operand):OpF :=
 match P.info? g,Rn P g with
 |some i,some j=>if 0<i.size∧i.bytes≤65536 then R5 s x λp a b=>match b with
   |.int .i64 (.ofNat n)=>match Nat.ble n 1048576 with
    |true=>Ub p i.size a n (R4 j n)
    |false=>.no
   |_=>.no
  else Nc
 |_,_=>Nc
def ku(P:Program)(g:TypeId)(s x:Operand):OpF :=
 match P.info? g,Rn P g with
 |some i,some _=>if 0<i.size∧i.bytes≤65536 then R5 s x λj a b=>match W6 j i.size b with
   |some (n,l)=>match Nat.ble n 1048576 with
    |true=>Ub j i.size a n l
    |false=>.no
   |none=>.no
  else Nc
 |_,_=>Nc
def wo(P:Program)(p:Array TypeId)(j:Array Operand):OpF :=
 match p.toList,j.toList with
 |[st,z],[s,x]=>match P.underlying st,P.underlying z with
  |some (.slice g),some (.int _)=>zr P g s x
  |some (.slice g),some (.slice _)=>ku P g s x
  |some (.slice g),some .string=>ku P g s x
  |_,_=>Nc
 |_,_=>Nc
def vx(P:Program)(B:Array TypeId)(j:Array Operand):OpF :=
 match B.toList,j.toList with
 |[st,_],[d,x]=>match P.underlying st with
  |some (.slice p)=>match N7 P p with
   |none=>Nc
   |some g=>if 0<g then R5 d x λA a b=>match W6 A g b with
    |some (n,l)=>match a with
     |.nilSl=>.val (.int .i64 0) A
     |.emp=>.val (.int .i64 0) A
     |.sl o v i len z _=>match Nat.beq z g with
      |true=>match Ty A o v i (l.take (Nat.mul (O0 n len) g)) with
       |some C=>.val (.int .i64 (Int.ofNat (O0 n len))) C
       |none=>.no
      |false=>.no
     |_=>.no
    |none=>.no
    else Nc
  |_=>Nc
 |_,_=>Nc
def yq(A:Program)(B:Array TypeId)(p:Array Operand):OpF :=
 match B.toList,p.toList with
 |[st],[x]=>match A.underlying st with
  |some (.slice g)=>match N7 A g,Rn A g with
   |some j,some E=>if 0<j then Oy x λC a=>match a with
    |.nilSl=>.val Qv C
    |.emp=>.val Qv C
    |.sl o v i len z _=>match Nat.beq z j with
     |true=>match Ty C o v i (R4 E len) with
      |some D=>.val Qv D
      |none=>.no
     |false=>.no
    |_=>.no
    else Nc
   |_,_=>Nc
  |_=>Nc
 |_,_=>Nc
def yp(C:Program)(A:Array TypeId)(j:Array Operand):OpF :=
 match A.toList,j.toList with
 |[mt,_],[m,k]=>match C.underlying mt with
  |some (.map p _)=>match Ti C p with
   |some d=>R5 m k λD a b=>match a with
    |.map o=>match D.get o with
     |some (.map B g)=>match zl d b B with
      |some z=>.val Qv (D.put o (.map z g))
      |none=>.no
     |_=>.no
    |_=>.no
   |none=>Nc
  |_=>Nc
 |_,_=>Nc
def gt(g:Program)(f:Nat):Bool:=match g.funcs[f]? with
 | some fn => fn.name != "runtime.NumGoroutine" && fn.body.isSome
 |none=>false
def x7(j:Program)(t:TypeId)(g:String):Option Nat:=match j.info? t with
 |some i=>match i.methods.find? (·.name==g) with
  |some m=>if m.path.isEmpty then match m.func,j.underlying t with
   |some (f,true),some (.pointer _)=>some f
   |some (_,false),some (.pointer _)=>none
   |some (f,false),some _=>some f
   |_,_=>none
   else none
  |none=>none
 |none=>none
def bk(g:Program)(f:AV)(args:List AV):OR:=match f with
 |.fn (.func f) first cap=>if gt g f then .call (.fn f) (first++args++cap) else .no
 |.fn (.yield l) [] _=>.call (.yield l) args
 |_=>.no
def s9(P:Program)(f:Nat):Bool:=match P.funcs[f]? with
 | some fn => fn.name == "maps.clone" && fn.origin == "" && fn.body.isNone
 |none=>false
def zqk(g:Heap):List AV→OR
 |[.iface t (.map o)]=>match g.get o with
  |some (.map j p)=>.val (.iface t (.map g.next)) (g.push (.map j p))
  |_=>.no
 |_=>.no
def wm(j:Program)(z:Heap)(p:AV)(g:List AV):OR:=match p with
 |.fn (.func f) [] []=>match s9 j f with
  |true=>zqk z g
  |false=>bk j p g
 |_=>bk j p g
def Za(j:Program)(c:Call):OpF :=
 match c.callee with
 |.builtin b=>match b with
  |.len=>match c.argTypes.toList,c.args.toList with
   |[t],[x]=>Tl j t x
   |_,_=>Nc
  |.cap=>match c.argTypes.toList,c.args.toList with
   |[t],[x]=>Uq j t x
   |_,_=>Nc
  |.max=>Si true c.args.toList
  |.min=>Si false c.args.toList
  |.append=>wo j c.argTypes c.args
  |.copy=>vx j c.argTypes c.args
  |.clear=>yq j c.argTypes c.args
  |.delete=>yp j c.argTypes c.args
  |_=>Nc
 |.value f=>⟨λp z=>match (M0 f).run p with
  |some A=>match (opds c.args.toList).run p with
   |some l=>wm j z A l
   |none=>.no
  |none=>.no⟩
 |.invoke r g=>⟨λp _=>match (M0 r).run p with
  |some (.iface t v)=>match x7 j t g with
   |some f=>match (opds c.args.toList).run p with
    |some l=>if gt j f then .call (.fn f) (v::l) else .no
    |none=>.no
   |none=>.no
  |_=>.no⟩
def Nj(P:Program)(o:Op):OpF :=
 match o with
 |.move x |.assign x=>Oy x λj a=>.val a j
 |.pick c a b=>⟨λp j=>match (M0 c).run p with
  |some (.bool true)=>ret1 j ((M0 a).run p)
  |some (.bool false)=>ret1 j ((M0 b).run p)
  |_=>.no⟩
 |.alloc t=>match Rn P t with
  |some l=>⟨λ_ j=>Us j l⟩
  |none=>Nc
 |.box _ x=>Oy x λj a=>match a.cells with
  |some l=>Us j l
  |none=>.no
 |.build t g=>oi P t g
 |.buildSlice t len g=>lh P t len g
 |.load t a=>nq P t a
 |.store t a x=>wd P t a x
 |.nilCheck x=>Oy x ol
 |.binOp op t x y _=>let D:=Uv x || Uv y;R5 x y λj a b=>ret1 j (Oh P op D t a b)
 |.unOp op _ x=>Oy x λj a=>ret1 j (unA op a)
 |.convert s d x=>T7 P s d x
 |.makeInterface t x=>mi P t x
 |.makeFunc f first cap=>match f with
  |.yield _=>Nc
  |f=>py f first cap
 |.makeMap t r=>jo P t r
 |.makeSlice t l c=>ir P t l c
 |.slice t x z A B=>ic P t x z A B
 |.fieldAddr s x f=>qj P s x f
 |.field t x f=>na P t x f
 |.indexAddr t x i=>mu P t x i
 |.index t x i=>qh P t x i
 |.lookup t x i ok=>nv P t x i ok
 |.mapUpdate t m k x |.insert t m k x=>rv P t m k x
 |.range t x=>rangeF P t x
 |.next C s=>vd C s
 |.typeAssert x _ t ok=>nm P x t ok
 |.extract t i=>zf9 t i
 |.call c=>Za P c
 |_=>Nc
inductive RV where
 |no
 |ok (v:AV) (H:Heap)
abbrev Pw:=Tgt→List AV→Heap→RV
inductive OE where
 |no
 |ok (E:Tr AV) (H:Heap)
structure SeqF where run:Pw→Tr AV→Heap→OE
structure PutF where run:AV→Tr AV→Tr AV
def P7(n:Nat)(d:Option Tmp):Option PutF :=
 match d with
 |none=>some ⟨λ_ g=>g⟩
 |some d=>if d<n then some ⟨λa g=>Nv a (Mx d) g⟩ else none
structure GuardF where run:Tr AV→Bool
def Rh(ops:Array Oper)(o:Oper):GuardF :=
 match o.guard with
 |none=>⟨λ_=>true⟩
 |some (j,g)=>match (ops[j]?).bind (·.dst) with
  |none=>⟨λ_=>false⟩
  |some d=>if d≤M1 then ⟨λp=>match Mm (Mx d) p with
   |some (.bool b)=>match b with
    |true=>g
    |false=>!g
   |_=>false⟩ else ⟨λ_=>false⟩
def Py(P:Program)(n:Nat)(ops:Array Oper)(o:Oper):SeqF :=
 match P7 n o.dst with
 |none=>⟨λ_ _ _=>.no⟩
 |some z=>⟨λc p A=>Bool.rec (.ok (z.run Qv p) A)
   (OR.rec .no (λv j=>.ok (z.run v p) j) (λt g=>RV.rec .no (λv j=>.ok (z.run v p) j) (c t g A)) ((Nj P o.op).run p A))
   ((Rh ops o).run p)⟩
def ac(A:Program)(n:Nat)(ops:Array Oper):List Oper→SeqF
 |[]=>⟨λ_ g j=>.ok g j⟩
 |o::l=>⟨λc g j=>OE.rec .no (λp z=>(ac A n ops l).run c p z) ((Py A n ops o).run c g j)⟩
inductive Cls where
 |quiet|rd|ch|al
def vz(g:Program)(t:TypeId):Bool:=match g.underlying t with
 |some (.map _ _)=>true
 |_=>false
def x6(g:Program)(t:TypeId):Bool:=match g.underlying t with
 |some (.array _ _)=>true
 |_=>false
def kh(g:Program)(t:TypeId):Bool:=match g.underlying t with
 |some (.slice _)=>true
 |_=>false
def tz(g:Program)(c:Call):Cls:=match c.callee with
 |.builtin .len=>match c.argTypes.toList with
  |[t]=>if vz g t then .rd else .quiet
  |_=>.ch
 |.builtin .cap |.builtin .max |.builtin .min=>.quiet
 |_=>.ch
def cls(g:Program)(o:Op):Cls :=
 match o with
 |.move _ |.assign _ |.pick _ _ _ |.build _ _ |.nilCheck _ |.binOp _ _ _ _ _ |.unOp _ _ _ |.makeInterface _ _ |.makeFunc _ _ _ |.fieldAddr _ _ _
 |.field _ _ _ |.indexAddr _ _ _ |.index _ _ _ |.typeAssert _ _ _ _ |.extract _ _=>.quiet
 |.slice t _ _ _ _=>if x6 g t then .rd else .quiet
 |.convert s d _=>if kh g d then .ch else if kh g s then .rd else .quiet
 |.load _ _ |.lookup _ _ _ _=>.rd
 |.call c=>tz g c
 |.alloc _ |.box _ _ |.buildSlice _ _ _ |.makeSlice _ _ _ |.makeMap _ _=>.al
 |_=>.ch
def jn(g:List Nat):List Edge→Nat
 |[]=>0
 |e::l=>match Region.binds .any e with
  |true=>Nat.lor (Nat.lor (2^e.on) (g.getD e.on 0)) (jn g l)
  |false=>jn g l
def vg:List Nat→Nat
 |[]=>0
 |t::l=>Nat.lor (2^t) (vg l)
def kx:List Operand→List Nat
 |[]=>[]
 |.tmp t::l=>t::kx l
 |_::l=>kx l
def S8(ops:Array Oper)(o:Oper):List Nat :=
 kx o.op.operands.toList++(match o.guard with
  |some (g,_)=>((ops[g]?).bind (·.dst)).toList
  |none=>[])
structure DOp where
 o:Oper
 i:Nat
 m:Nat
 lm:Nat
 c:Cls
def Pl(j:Program)(ops:Array Oper):List Oper→List Nat→Nat→List DOp
 |[],_,_=>[]
 |o::l,g,i=>⟨o,i,jn g o.after.toList,vg (S8 ops o),cls j o.op⟩::Pl j ops l (g++[jn g o.after.toList]) (i+1)
def Mp(x:DOp):Bool:=match x.c with
 |.ch=>true
 |_=>false
def Sn(x:DOp):Bool:=match x.c with
 |.rd=>true
 |.al=>true
 |_=>false
def zo1(x:DOp):Bool:=match x.c with
 |.quiet=>true
 |_=>false
def zpb(x y:DOp):Bool:=match y.o.dst with
 |none=>true
 |some d=>match Nat.testBit x.lm d with
  |false=>true
  |true=>match Nat.beq x.i y.i with
   |true=>!(Sn x)
   |false=>match Nat.testBit x.m y.i with
    |true=>true
    |false=>match Nat.testBit y.m x.i with
     |true=>!(Sn x)
     |false=>false
def Tz{g:Type}(f:g→Bool):List g→Bool
 |[]=>true
 |a::l=>match f a with
  |true=>Tz f l
  |false=>false
def fj(g:List DOp):Bool:=Tz (λx=>Tz (zpb x) g) g
def xa:List DOp→Nat→Bool
 |[],_=>true
 |x::l,seen=>match x.o.dst with
  |none=>xa l seen
  |some d=>match Nat.testBit seen d with
   |true=>false
   |false=>xa l (Nat.lor (2^d) seen)
def Of:List DOp→Nat→Nat→Option Nat
 |[],seen,_=>some seen
 |x::l,seen,g=>match Nat.beq (Nat.land x.m seen) x.m with
  |false=>none
  |true=>match Nat.testBit seen x.i with
   |true=>none
   |false=>match zo1 x with
    |true=>Of l (Nat.lor (2^x.i) seen) g
    |false=>match Nat.beq (Nat.land g x.m) g with
     |false=>none
     |true=>match Mp x with
      |true=>Of l (Nat.lor (2^x.i) seen) (Nat.lor (2^x.i) g)
      |false=>Of l (Nat.lor (2^x.i) seen) g
def Nd{g:Type}(f:g→Bool):List g→List g
 |[]=>[]
 |a::l=>match f a with
  |true=>a::Nd f l
  |false=>Nd f l
def ot(x:DOp):List DOp→Nat
 |[]=>0
 |c::l=>match Nat.testBit x.m c.i with
  |true=>Nat.succ (ot x l)
  |false=>ot x l
def Xv(j g:List DOp)(p:Nat):List DOp:=Nd (λx=>match Mp x with
 |true=>false
 |false=>Nat.beq (ot x g) p) j
def zkg(p g:List DOp):List DOp→Nat→List DOp
 |[],_=>[]
 |c::j,z=>c::(Xv p g z++zkg p g j (z+1))
def vm(j g:List DOp):List DOp:=Xv j g 0++zkg j g g 1
def Wq{g:Type}(f:g→g→Bool):List g→List g→Bool
 |[],[]=>true
 |a::l,b::r=>match f a b with
  |true=>Wq f l r
  |false=>false
 |_,_=>false
def Qf:Nat→AV→AV→Bool
 |0,_,_=>false
 |n+1,a,b=>match a,b with
  |.bool x,.bool y=>x==y
  |.int k x,.int B y=>Vj k B&&e9 x y
  |.str l x,.str m y=>Nat.beq l m&&Nat.beq x y
  |.nilPtr,.nilPtr=>true
  |.ptr o v i,.ptr g j p=>Nat.beq o g&&Nat.beq v j&&Nat.beq i p
  |.nilSl,.nilSl=>true
  |.sl o v i l e r,.sl g j p C D E=>Nat.beq o g&&Nat.beq v j&&Nat.beq i p&&Nat.beq l C&&Nat.beq e D&&r==E
  |.emp,.emp=>true
  |.nilMap,.nilMap=>true
  |.map o,.map g=>Nat.beq o g
  |.nilFn,.nilFn=>true
  |.fn (.func f) x y,.fn (.func F) z A=>Nat.beq f F&&Wq (Qf n) x z&&Wq (Qf n) y A
  |.fn (.yield f) x y,.fn (.yield F) z A=>Nat.beq f F&&Wq (Qf n) x z&&Wq (Qf n) y A
  |.nilIf,.nilIf=>true
  |.iface t v,.iface G j=>Nat.beq t G&&Qf n v j
  |.agg x,.agg y=>Wq (Qf n) x y
  |.tup x,.tup y=>Wq (Qf n) x y
  |_,_=>false
def Nf:AV→Option Nat
 |.ptr o _ _=>some o
 |.sl o _ _ _ _ _=>some o
 |.map o=>some o
 |_=>none
def Ph(id:Nat):AV→AV
 |.ptr _ v i=>.ptr id v i
 |.sl _ v i l e r=>.sl id v i l e r
 |.map _=>.map id
 |v=>v
def zo5(c g:Tr AV)(len:Nat):Bool:=match Rm c 0 len,Rm g 0 len with
 |some l,some j=>Wq (Qf 30) l j
 |_,_=>false
def eqObj:AObj→AObj→Bool
 |.cells c len p A,.cells B g j z=>Nat.beq len g&&Nat.beq p j&&A==z&&zo5 c B len
 |.map [] k,.map [] C=>Nat.beq k C
 |_,_=>false
def U2(b:Bool)(x y:v9):Bool:=match b with
 |true=>true
 |false=>@decide (x=y) (Classical.propDecidable _)
def ztd(v g:AV)(p j:Heap):Bool:=match Nf v with
 |none=>false
 |some id=>match U2 (Qf 30 v (Ph id g)) v (Ph id g) with
  |false=>false
  |true=>match p.get id,j.get p.next with
   |some a,some b=>U2 (eqObj a b) a b
   |_,_=>false
structure ChkF where run:Tr AV→Heap→Bool
def Wy(P:Program)(ops:Array Oper)(x:DOp):ChkF :=
 match x.o.dst with
 |none=>⟨λ_ _=>false⟩
 |some d=>⟨λj z=>match (Rh ops x.o).run j with
  |false=>true
  |true=>match Mm (Mx d) j with
   |none=>false
   |some v=>match (Nj P x.o.op).run j z with
    |.val g p=>match x.c with
     |.al=>ztd v g z p
     |_=>U2 (Qf 30 v g) v g
    |_=>false⟩
def gr(g:Program)(ops:Array Oper):List DOp→ChkF
 |[]=>⟨λ_ _=>true⟩
 |x::l=>⟨λj p=>match (Wy g ops x).run j p with
  |true=>(gr g ops l).run j p
  |false=>false⟩
def Tc(P:Program)(n:Nat)(ops:Array Oper):List DOp→List DOp→SeqF
 |[],_=>⟨λ_ A B=>.ok A B⟩
 |x::l,g=>match x.c with
  |.quiet=>⟨λk A B=>OE.rec .no (λp z=>(Tc P n ops l g).run k p z) ((Py P n ops x.o).run k A B)⟩
  |.rd=>⟨λk A B=>OE.rec .no (λp z=>(Tc P n ops l (x::g)).run k p z) ((Py P n ops x.o).run k A B)⟩
  |.al=>⟨λk A B=>OE.rec .no (λp z=>Bool.rec .no ((Tc P n ops l (x::g)).run k p z) ((gr P ops (x::g)).run p z)) ((Py P n ops x.o).run k A B)⟩
  |.ch =>
   let j:=Nd (λy=>!(Nat.testBit x.m y.i)) g
   ⟨λk A B=>OE.rec .no (λp z=>Bool.rec .no ((Tc P n ops l j).run k p z) ((gr P ops j).run p z)) ((Py P n ops x.o).run k A B)⟩
def zt4(n:Nat)(j g:List DOp):Bool:=match Of g 0 0 with
 |none=>false
 |some s=>match Nat.beq s (Nat.sub (2^n) 1) with
  |false=>false
  |true=>match xa j 0 with
   |false=>false
   |true=>fj j
def n9(z:Program)(n:Nat)(ops:Array Oper):SeqF :=
 let p:=Pl z ops ops.toList [] 0;let g:=Nd Mp p;let j:=vm p g
 match zt4 ops.size p j with
 |true=>Tc z n ops j []
 |false=>⟨λ_ _ _=>.no⟩
inductive Ex where
 |normal
 |exit (id:Nat)
 |ret
inductive Res where
 |no
 |ok (x:Ex) (E:Tr AV) (D:List Nat) (H:Heap)
structure CodeF where run:Pw→Nat→Option Nat→Tr AV→List Nat→Heap→Res
def m9:CodeF:=⟨λ_ _ _ _ _ _=>.no⟩
def Xx(f:Tr AV→List Nat→Heap→Res):Nat→Tr AV→List Nat→Heap→Res
 |0,_,_,_=>.no
 |m+1,z,A,B=>match f z A B with
  |.no=>.no
  |.ok x g j p=>match x with
   |.normal=>Xx f m g j p
   |x=>.ok x g j p
def ze2(f n:Nat)(j:Array Tmp)(assign body:Code)(p:Option Nat)(z:Tr AV)(A:List Nat)(g:Heap):Option (Nat×List Nat×Heap) :=
 match p with
 |none=>some (Nat.add g.next 1,g.next::A,(g.push (.defd true)).push (.loop .ready none f n z j assign body g.next))
 |some l=>match g.get l with
  |some (.loop _ _ _ _ _ _ _ _ d)=>some (g.next,A,g.push (.loop .ready none f n z j assign body d))
  |_=>none
def zf:Code→Option Ex
 |.ret=>some .ret
 |.exit id=>some (.exit id)
 |_=>none
def zko(l:Nat)(p:Heap):Option (Option Code×Heap):=match p.get l with
 |some (.loop st g f n z j a b d)=>match st with
  |.busy=>none
  |_=>some (g,p.put l (.loop .exhausted g f n z j a b d))
 |_=>none
def Ot(P:Program)(f n:Nat):Code→CodeF
 |.skip=>⟨λ_ _ _ j z A=>.ok .normal j z A⟩
 |.region _ ops draw =>
  let s:=match draw with
   |true=>n9 P n ops
   |false=>ac P n ops ops.toList
  ⟨λk _ _ j z A=>match s.run k j A with
   |.no=>.no
   |.ok C p=>.ok .normal C z p⟩
 |.seq a b=>⟨λk m g j z A=>Res.rec .no (λx C B p=>Ex.rec ((Ot P f n b).run k m g C B p) (λid=>.ok (.exit id) C B p) (.ok .ret C B p) x)
   ((Ot P f n a).run k m g j z A)⟩
 |.cond c a b=>⟨λk m g j z A=>match (M0 c).run j with
  |some (.bool t)=>match t with
   |true=>(Ot P f n a).run k m g j z A
   |false=>(Ot P f n b).run k m g j z A
  |_=>.no⟩
 |.block id c=>⟨λk m g j z A=>match (Ot P f n c).run k m g j z A with
  |.no=>.no
  |.ok x C B p=>match x with
   |.exit D=>match Nat.beq D id with
    |true=>.ok .normal C B p
    |false=>.ok (.exit D) C B p
   |x=>.ok x C B p⟩
 |.loop c=>⟨λk m g j z A=>Xx ((Ot P f n c).run k m g) m j z A⟩
 |.rangeFunc G H a b=>⟨λk _ g j z A=>match (M0 G).run j with
  |none=>.no
  |some gv=>match ze2 f n H a b g j z A with
   |none=>.no
   |some (l,B,p)=>match bk P gv [.fn (.yield l) [] []] with
    |.call (.fn G) E=>match k (.fn G) E p with
     |.no=>.no
     |.ok _ I=>match zko l I with
      |none=>.no
      |some (none,F)=>.ok .normal j B F
      |some (some c,F)=>match zf c with
       |none=>.no
       |some x=>.ok x j B F
    |_=>.no⟩
 |.exit id=>⟨λ_ _ _ j z A=>.ok (.exit id) j z A⟩
 |.scope c=>⟨λk m g j z A=>(Ot P f n c).run k m g j z A⟩
 |.label _=>⟨λ_ _ _ j z A=>.ok .normal j z A⟩
 |.ret=>⟨λ_ _ _ j z A=>.ok .ret j z A⟩
 |_=>m9
structure ResF where run:Tr AV→Heap→Option AV
def resF(p:Program)(r:ResultVar):ResF :=
 match r with
 |.tmp t=>⟨λg _=>(M0 (.tmp t)).run g⟩
 |.cell a t=>match Ro p t,N7 p t with
  |some true,some n=>⟨λg j=>match (M0 (.tmp a)).run g with
   |some (.ptr o v i)=>match Pa j o v i n with
    |some l=>some (.agg l)
    |none=>none
   |_=>none⟩
  |some false,some _=>⟨λg j=>match (M0 (.tmp a)).run g with
   |some (.ptr o v i)=>match Pa j o v i 1 with
    |some [c]=>some c
    |_=>none
   |_=>none⟩
  |_,_=>⟨λ_ _=>none⟩
structure RessF where run:Tr AV→Heap→Option (List AV)
def kg(g:Program):List ResultVar→RessF
 |[]=>⟨λ_ _=>some []⟩
 |r::l=>⟨λj p=>match (resF g r).run j p with
  |none=>none
  |some a=>match (kg g l).run j p with
   |none=>none
   |some b=>some (a::b)⟩
def sa:List Nat→Heap→Option Heap
 |[],g=>some g
 |d::l,g=>match g.get d with
  |some (.defd true)=>sa l (g.put d (.defd false))
  |_=>none
structure FunF where run:Pw→Nat→List AV→Heap→RV
def o9(z:Program)(f:Nat):FunF :=
 match z.funcs[f]? with
 |none=>⟨λ_ _ _ _=>.no⟩
 |some fn=>match fn.body with
  |none=>⟨λ_ _ _ _=>.no⟩
  |some j=>if fn.ntmps≤M1 then
   ⟨λk m g B=>match Nat.ble g.length fn.ntmps with
    |false=>.no
    |true=>match (Ot z f fn.ntmps j).run k m none (Ou g 0 .e) [] B with
     |.no=>.no
     |.ok x C D A=>match x with
      |.exit _=>.no
      |_=>match sa D A with
       |none=>.no
       |some p=>match (kg z fn.results.toList).run C p with
        |some [v]=>.ok v p
        |some l=>.ok (.tup l) p
        |none=>.no⟩
   else ⟨λ_ _ _ _=>.no⟩
def wh:List Tmp→List AV→Nat→Tr AV→Option (Tr AV)
 |[],[],_,g=>some g
 |p::j,a::as,n,g=>match Nat.blt p n with
  |true=>wh j as n (Nv a (Mx p) g)
  |false=>none
 |_,_,_,_=>none
def zq0(l:Nat)(p:Heap):Option Heap:=match p.get l with
 |some (.loop .ready g f n z j a b d)=>some (p.put l (.loop .busy g f n z j a b d))
 |_=>none
def zgj(l:Nat)(x:Ex)(j:Heap):RV:=match j.get l with
 |some (.loop _ _ f n p g a b d)=>match x with
  |.normal=>.ok (.bool true) (j.put l (.loop .ready none f n p g a b d))
  |.ret=>.ok (.bool false) (j.put l (.loop .done (some .ret) f n p g a b d))
  |.exit id=>.ok (.bool false) (j.put l (.loop .done (some (.exit id)) f n p g a b d))
 |_=>.no
def Qt(P:Program)(O:Pw):Nat→Pw
 |0=>λ_ _ _=>.no
 |m+1=>λt g p=>match t with
  |.fn f=>match O (.fn f) g p with
   |.ok v z=>.ok v z
   |.no=>(o9 P f).run (Qt P O m) m g p
  |.yield l=>match p.get l with
   |some (.loop .ready none f n F A a b _)=>match wh A.toList g n F with
    |none=>.no
    |some B=>match (Ot P f n a).run (Qt P O m) m (some l) B [] p with
     |.ok .normal C [] D=>match zq0 l D with
      |none=>.no
      |some j=>match (Ot P f n b).run (Qt P O m) m (some l) C [] j with
       |.no=>.no
       |.ok x _ G E=>match G with
        |[]=>zgj l x E
        |_=>.no
     |_=>.no
   |_=>.no
def noO:Pw:=λ_ _ _=>.no
def rg(g:Program)(j:Pw)(m f:Nat):Bool:=match Qt g j m (.fn f) [] ⟨.e,0⟩ with
 |.ok (.bool true) _=>true
 |_=>false
end
variable{A S:Heap}{D:AV}{F vY:Tr AV}{H:List AV}
section
open Go.RowKit (Below)
section tries
variable {α : Type}
def Vf(g:List Bool):Mm g (Tr.e:Tr α)=none:=by
 cases g with
 |nil=>rfl
 |cons b g=>cases b<;>rfl
def me(g:List Bool)(v:Option α)(l r:Tr α):Mm (true::g) (.n v l r)=Mm g l:=rfl
def pt(g:List Bool)(v:Option α)(l r:Tr α):Mm (false::g) (.n v l r)=Mm g r:=rfl
def zis(a:α):Nv a [] .e=.n (some a) .e .e:=rfl
def zjz(a:α)(g:List Bool):Nv a (true::g) .e=.n none (Nv a g .e) .e:=rfl
def zjs(a:α)(g:List Bool):Nv a (false::g) .e=.n none .e (Nv a g .e):=rfl
def zqv(a:α)(g:List Bool)(v:Option α)(l r:Tr α):Nv a (true::g) (.n v l r)=.n v (Nv a g l) r:=rfl
def zpj(a:α)(g:List Bool)(v:Option α)(l r:Tr α):Nv a (false::g) (.n v l r)=.n v l (Nv a g r):=rfl
def tg(a:α):∀(g:List Bool) (t:Tr α),Mm g (Nv a g t)=some a
 |[],.e=>rfl
 |[],.n _ _ _=>rfl
 |true::g,.e=>by rw[zjz,me];exact tg a g _
 |false::g,.e=>by rw[zjs,pt];exact tg a g _
 |true::g,.n v l r=>by rw[zqv,me];exact tg a g _
 |false::g,.n v l r=>by rw[zpj,pt];exact tg a g _
def xm(a:α):∀(g q:List Bool) (t:Tr α),g≠q→Mm q (Nv a g t)=Mm q t
 |[],[],_,h=>absurd rfl h
 |[],true::q,.e,_=>by rw[zis,me,Vf,Vf]
 |[],false::q,.e,_=>by rw[zis,pt,Vf,Vf]
 |[],true::q,.n _ _ _,_=>rfl
 |[],false::q,.n _ _ _,_=>rfl
 |true::g,[],.e,_=>rfl
 |false::g,[],.e,_=>rfl
 |true::g,[],.n _ _ _,_=>rfl
 |false::g,[],.n _ _ _,_=>rfl
 |true::g,true::q,.e,h=>by rw[zjz,me,xm a g q _ (λe=>h Dl),Vf,Vf]
 |true::g,false::q,.e,_=>by rw[zjz,pt,Vf,Vf]
 |false::g,true::q,.e,_=>by rw[zjs,me,Vf,Vf]
 |false::g,false::q,.e,h=>by rw[zjs,pt,xm a g q _ (λe=>h Dl),Vf,Vf]
 |true::g,true::q,.n _ l _,h=>by rw[zqv,me,me];exact xm a g q l (λe=>h Dl)
 |true::g,false::q,.n _ _ _,_=>rfl
 |false::g,true::q,.n _ _ _,_=>rfl
 |false::g,false::q,.n _ _ r,h=>by rw[zpj,pt,pt];exact xm a g q r (λe=>h Dl)
def pathF_inj:∀(f j g k:Nat),g<f→k<j→pd f g=pd j k→g=k
 |0,_,g,k,A,_,_=>J
 |_,0,g,k,_,B,_=>J
 |f+1,j+1,0,0,_,_,_=>rfl
 |f+1,j+1,0,k+1,_,_,h=>by simp[pd]at h
 |f+1,j+1,g+1,0,_,_,h=>by simp[pd]at h
 |f+1,j+1,g+1,k+1,A,B,h=>by
  simp only[pd,List.cons.injEq]at h;obtain⟨p,z⟩:=h;have C:Nat.div g 2=g/2:=rfl;have D:Nat.div k 2=k/2:=rfl;have E:Nat.mod g 2=g%2:=rfl;have F:Nat.mod k 2=k%2:=rfl;rw[C,D]at z;rw[E,F]at p;have:=pathF_inj f j (g/2) (k/2) J J z;have q:∀x:Nat,Nat.beq x 0=true↔x=0:=λx=>by cases x<;>simp[Nat.beq]
  have G:(g%2=0↔k%2=0):=by
   rw[←q,←q,p]
  omega
def zs3{k:Nat}(h:Mx g=Mx k):g=k :=
 pathF_inj _ _ g k (Iv _) (Iv _) h
def x5{k:Nat}(a:α)(t:Tr α) :
  Mm (Mx k) (Nv a (Mx g) t)=if k=g then some a else Mm (Mx k) t:=by
 by_cases h:k=g
 ·subst h;rw[Hs rfl];exact tg a _ t
 ·rw[Hq h];exact xm a _ _ t (λe=>h (zs3 e.symm))
def z9l(g:Nat)(a:α)(t:Tr α):Mm (Mx g) (Nv a (Mx g) t)=some a:=tg a _ t
def ou{k:Nat}(h:k≠g)(a:α)(t:Tr α) :
  Mm (Mx k) (Nv a (Mx g) t)=Mm (Mx k) t:=by rw[x5,Hq h]
def get_ofList:∀(l:List α) (i:Nat) (t:Tr α) (k:Nat),
  Mm (Mx k) (Ou l i t)=if i≤k∧k<i+l.length then l[k-i]? else Mm (Mx k) t
 |[],i,t,k=>by simp only[Ou,List.length_nil];rw[Hq J]
 |a::l,i,t,k=>by
  simp only[Ie];rw[Ou,get_ofList l (i+1) _ k];by_cases g:i+1≤k∧k<i+1+l.length
  ·rw[Hs g,Hs J];have:k-i=(k-(i+1))+1:=J
   rw[this,H8]
  ·rw[Hq g,x5];by_cases j:k=i
   ·subst j;rw[Hs rfl,Hs J];simp
   ·rw[Hq j,Hq J]
end tries
def aq{c:Tr AV}:∀{n i:Nat} {l:List AV},Rm c i n=some l→l.length=n∧∀g,g<n→Mm (Mx (i+g)) c=l[g]?
 |0,i,l,h=>by
  simp only[Rm,Option.some.injEq]at h;subst h;exact⟨rfl,λg j=>J⟩
 |n+1,i,l,h=>by
  simp only[Rm]at h;split at h
  ·cases h
  ·rename_i a p;split at h
   ·cases h
   ·rename_i r z;cases h;obtain⟨A,B⟩:=aq z;refine⟨Af,λg j=>?_⟩;cases g with
    |zero=>simpa using p
    |succ g=>have:=B g J;rw[H8,←this];congr 2;omega
structure Loc where
 b:Nat
 d:Nat
 n:Nat
 sz:Nat
structure CM where
 f:Nat→Nat→Option Loc
 nx:Nat
instance:CoeFun CM (λ_=>Nat→Nat→Option Loc):=⟨CM.f⟩
def CM.keep(gg C:CM):Prop:=∀o v L,gg o v=some L→C o v=some L
structure CM.le (C C':CM):Prop where
 keep:C.keep C'
 nx:C.nx≤C'.nx
 new:∀o v L,C' o v=some L→(∃v' L',C o v'=some L')∨C.nx≤o
def CM.le_refl(C:CM):C.le C:=⟨λ_ _ _ h=>h,Hm _,λ_ v L h=>.inl ⟨v,L,h⟩⟩
def CM.le_trans{A B C:CM}(h:A.le B)(k:B.le C):A.le C:=by
 refine⟨λo v L e=>k.keep o v L (h.keep o v L e),Ix h.nx k.nx,λo v L e=>?_⟩;rcases k.new o v L e with ⟨v',L',e'⟩|e'
 ·exact h.new o v' L' e'
 ·exact .inr (Ix h.nx e')
inductive FR (C:CM):Fn→Fn→Prop where
 |same (f:Fn) (h:∀l,f≠.yield l):FR C f f
 |yield {l:Nat} {L:Loc} (h:C l 0=some L):FR C (.yield l) (.yield L.b)
def FR.mono{C C':CM}(h:C.keep C'){f g:Fn}:FR C f g→FR C' f g
 |.same f hf=>.same f hf
 |.yield e=>.yield (h _ _ _ e)
def AV.one:AV→Bool
 |.agg _=>false
 |.tup _=>false
 |_=>true
mutual
inductive VR (C:CM):AV→Value→Prop where
 |bool (b:Bool):VR C (.bool b) (.bool b)
 |int (k:IntKind) (n:Int):VR C (.int k n) (.int k n)
 |str {len n:Nat} {s:ByteArray} (h1:s.data.toList.length=len) (h2:N8 s.data.toList=n):VR C (.str len n) (.string s)
 |nilPtr:VR C .nilPtr (.pointer none)
 |ptr {o v i:Nat} {L:Loc} (h:C o v=some L):VR C (.ptr o v i) (.pointer (some ⟨L.b,L.d+i,none⟩))
 |nilSl:VR C .nilSl (.slice none 0 0)
 |sl {o v i len esz:Nat} {room:Option Nat} {L:Loc} {cap:Nat} (h:C o v=some L) (h1:i+len*esz≤L.n) (h2:L.d+i+cap*esz≤L.sz) (h3:len≤cap)
   (h4:∀r,room=some r→cap=r∧i+r*esz≤L.n) (h5:room=none→L.d+i+cap*esz=L.sz) :
   VR C (.sl o v i len esz room) (.slice (some ⟨L.b,L.d+i,none⟩) len cap)
 |emp {a:Addr} {cap:Nat}:VR C .emp (.slice (some a) 0 cap)
 |nilMap:VR C .nilMap (.map none)
 |map {o:Nat} {L:Loc} (h:C o 0=some L):VR C (.map o) (.map (some L.b))
 |nilFn:VR C .nilFn .nilFunc
 |fn {f g:Fn} {l r:List AV} {l' r':Array Value} (h:FR C f g) (hl:VRs C l l'.toList) (hr:VRs C r r'.toList):VR C (.fn f l r) (.func g l' r')
 |nilIf:VR C .nilIf .nilIface
 |iface {t:TypeId} {a:AV} {v:Value} (h:VR C a v):VR C (.iface t a) (.iface t v)
 |agg {l:List AV} {vs:Array Value} (h:VRs C l vs.toList) (h1:∀a∈l,a.one=true):VR C (.agg l) (.agg vs)
 |tup {l:List AV} {vs:Array Value} (h:VRs C l vs.toList):VR C (.tup l) (.tuple vs)
inductive VRs (C:CM):List AV→List Value→Prop where
 |nil:VRs C [] []
 |cons {a:AV} {v:Value} {l:List AV} {r:List Value} (h:VR C a v) (hs:VRs C l r):VRs C (a::l) (v::r)
end
mutual
def VR.mono'{gg C:CM}(h:gg.keep C):∀{a:AV} {v:Value},VR gg a v→VR C a v
 |_,_,.bool b=>.bool b
 |_,_,.int k n=>.int k n
 |_,_,.str h1 h2=>.str h1 h2
 |_,_,.nilPtr=>.nilPtr
 |_,_,.ptr e=>.ptr (h _ _ _ e)
 |_,_,.nilSl=>.nilSl
 |_,_,.sl e h1 h2 h3 h4 h5=>.sl (h _ _ _ e) h1 h2 h3 h4 h5
 |_,_,.emp=>.emp
 |_,_,.nilMap=>.nilMap
 |_,_,.map e=>.map (h _ _ _ e)
 |_,_,.nilFn=>.nilFn
 |_,_,.fn hf hl hr=>.fn (hf.mono h) (VRs.mono' h hl) (VRs.mono' h hr)
 |_,_,.nilIf=>.nilIf
 |_,_,.iface e=>.iface (VR.mono' h e)
 |_,_,.agg e h1=>.agg (VRs.mono' h e) h1
 |_,_,.tup e=>.tup (VRs.mono' h e)
def VRs.mono'{gg C:CM}(h:gg.keep C):∀{l:List AV} {r:List Value},VRs gg l r→VRs C l r
 |_,_,.nil=>.nil
 |_,_,.cons e es=>.cons (VR.mono' h e) (VRs.mono' h es)
end
def VR.mono{C C':CM}(h:C.le C'){a:AV}{v:Value}(k:VR C a v):VR C' a v:=k.mono' h.keep
def VRs.mono{C C':CM}(h:C.le C'){a:List AV}{v:List Value}(k:VRs C a v):VRs C' a v:=k.mono' h.keep
def VRs.length{C:CM}:∀{l:List AV} {r:List Value},VRs C l r→l.length=r.length
 |_,_,.nil=>rfl
 |_,_,.cons _ es=>by simp[VRs.length es]
def VRs.get{C:CM}:∀{l:List AV} {r:List Value},VRs C l r→∀{i:Nat} {a:AV},l[i]?=some a→∃v,r[i]?=some v∧VR C a v
 |_,_,.nil,i,a,h=>B8
 |_,_,.cons e es,0,a,h=>Dc
 |_,_,.cons e es,i+1,a,h=>by simp only[H8]at h ⊢;exact VRs.get es h
def VRs.mk{gg:CM}:∀{l:List AV} {r:List Value},l.length=r.length→(∀(i:Nat) (a:AV),l[i]?=some a→∃v,r[i]?=some v∧VR gg a v)→VRs gg l r
 |[],[],_,_=>.nil
 |[],_::_,h,_=>B8
 |_::_,[],h,_=>B8
 |a::l,v::r,h,k=>by
  obtain⟨v',C,hr⟩:=k 0 a rfl;simp only[H6,Option.some.injEq]at C;subst C;exact .cons hr (VRs.mk Ay (λi a hi=>by have:=k (i+1) a (by simpa using hi);simpa using this))
def VRs.append{C:CM}:∀{l:List AV} {r:List Value} {l':List AV} {r':List Value},VRs C l r→VRs C l' r'→VRs C (l++l') (r++r')
 |_,_,_,_,.nil,k=>k
 |_,_,_,_,.cons e es,k=>.cons e (VRs.append es k)
def VRs.drop{C:CM}:∀{l:List AV} {r:List Value},VRs C l r→∀n,VRs C (l.drop n) (r.drop n)
 |_,_,h,0=>h
 |_,_,.nil,_+1=>.nil
 |_,_,.cons _ es,n+1=>VRs.drop es n
def VRs.take{C:CM}:∀{l:List AV} {r:List Value},VRs C l r→∀n,VRs C (l.take n) (r.take n)
 |_,_,_,0=>.nil
 |_,_,.nil,_+1=>.nil
 |_,_,.cons e es,n+1=>.cons e (VRs.take es n)
def VR.one{C:CM}{a:AV}{v:Value}(h:VR C a v):v.oneCell'=a.one:=by cases h<;>rfl
def zn5{C:CM}{v:Value}{a:AV}(h:dg v=some a):VR C a v∧a.one=true:=by
 unfold dg at h;split at h<;>first
  |(cases h;done)
  |(cases h;exact⟨by constructor<;>rfl,rfl⟩)
  |(cases h;exact⟨by constructor,rfl⟩)
def V5{C:CM}:∀{l:List Value} {r:List AV},Sf l=some r→VRs C r l∧∀a∈r,a.one=true
 |[],r,h=>by cases h;exact⟨.nil,U⟩
 |v::l,r,h=>by
  simp only[Sf]at h;split at h
  ·cases h
  ·rename_i a g;split at h
   ·cases h
   ·rename_i D j;cases h;obtain⟨p,z⟩:=V5 (C:=C) j;obtain⟨A,B⟩:=zn5 (C:=C) g;exact⟨.cons A p,by simpa using ⟨B,z⟩⟩
def zft{C:CM}{v:Value}{a:AV}(h:Uy v=some a):VR C a v:=by
 unfold Uy at h;split at h
 ·rename_i j;cases g:Sf j.toList with
  |none=>simp[g]at h
  |some r =>
   simp only[g,Jg,Option.some.injEq]at h;subst h;obtain⟨p,z⟩:=V5 (C:=C) g;exact .agg p z
 ·rename_i A;split at h
  ·rename_i B;cases h;have:A=#[]:=Kb B;subst this;exact .tup .nil
  ·cases h
 ·exact (zn5 h).1
def VR.cells{C:CM}{a:AV}{v:Value}(h:VR C a v){l:List AV}(hl:a.cells=some l):VRs C l v.cells.toList∧∀x∈l,x.one=true:=by
 cases h with
 |agg h h1=>simp only[AV.cells,Option.some.injEq]at hl;subst hl;exact⟨by simpa [Value.cells] using h,h1⟩
 |tup h=>simp[AV.cells]at hl
 |_=>simp only[AV.cells,Option.some.injEq]at hl;subst hl;exact⟨by simp only[Value.cells];exact .cons (by constructor<;>assumption) .nil,by simp[AV.one]⟩
def Wk(C:CM)(c:Tr AV)(len:Nat)(g:Array Value)(d:Nat):Prop :=
 ∀i,i<len→∃a,Mm (Mx i) c=some a∧a.one=true∧∃v,g[d+i]?=some v∧VR C a v
inductive MR (C:CM):List (AV×AV×Nat)→List MapEntry→Prop where
 |nil:MR C [] []
 |cons {k v:AV} {b:Nat} {e:MapEntry} {l:List (AV×AV×Nat)} {r:List MapEntry} (hk:VR C k e.key) (hv:VR C v e.val) (hb:e.born=b) (h:MR C l r):MR C ((k,v,b)::l) (e::r)
def yj(g:CM)(a:Option AV)(v:Value):Prop:=match a with
 |some a=>VR g a v
 |none=>v=undef
def ER(n:Nat)(j:CM)(E:Tr AV)(g:Array Value):Prop :=
 g.size=n∧n≤M1∧∀t,t≤M1→yj j (Mm (Mx t) E) (g.getD t undef)
def Oq(D:Nat)(z:CM)(w:World)(o:Nat):AObj→Prop
 |.cells c len A I=>∀g,z o A=some g→g.n=len∧(I=false→D≤g.b)∧g.d+len≤g.sz∧∃B e E F,w.heap[g.b]?=some (.cells B e (E,F))∧g.sz≤B.size ∧
   (∀i,g.d≤i→i<g.sz→¬(E≤i∧i<F))∧Wk z c len B g.d
 |.map K L=>∀g,z o 0=some g→D≤g.b∧∃j:Array MapEntry,w.heap[g.b]?=some (.map j L)∧MR z K j.toList
 |.iter len n C=>∀g,z o 0=some g→D≤g.b∧g.d=0∧∃s:ByteArray,w.heap[g.b]?=some (.stringIter s C)∧s.data.toList.length=len∧N8 s.data.toList=n
 |.loop st p f n N M a b d=>∀g,z o 0=some g→D≤g.b∧∃G H,z d 0=some H∧w.heap[g.b]?=some (.loop { state:=st,pending:=p,fn:=f,tmps:=G,params:=M,assign:=a,body:=b,defers:=H.b })∧ER n z N G
 |.defd op=>∀g,z o 0=some g→D≤g.b∧w.heap[g.b]?=some (.deferred (if op then some [] else none))
structure Rel (w0:World) (C:CM) (H:Heap) (w:World):Prop where
 nx:C.nx=H.next
 low:Below w0.heap.size w0 w
 fresh:∀o v L,C o v=some L→o<H.next
 lt:∀o v L,C o v=some L→L.b<w.heap.size
 excl:∀o v L o' v' L',C o v=some L→C o' v'=some L'→L.b=L'.b→w0.heap.size≤L.b→o=o'
 obj:∀o ob,o<H.next→H.get o=some ob→Oq w0.heap.size C w o ob
 top:∀o c len ver ro,o<H.next→H.get o=some (.cells c len ver ro)→∀v L,C o v=some L→v≤ver
end
variable{E:CM}
section
open Go.RowKit (Below)
def CM.ext(gg:CM)(o v:Nat)(L:Loc):CM:=⟨λC v'=>if C=o∧v'=v then some L else gg C v',max gg.nx (o+1)⟩
def CM.ext_same(C:CM)(o v:Nat)(L:Loc):C.ext o v L o v=some L:=by simp[CM.ext]
def CM.ext_ne(gg:CM){o v:Nat}(L:Loc)(h:¬(j=o∧C=v)):gg.ext o v L j C=gg j C:=by simp only[CM.ext];rw[Hq h]
def CM.le_ext{C:CM}{o v:Nat}(L:Loc)(h:C o v=none)(hn:(∃v' L',C o v'=some L')∨C.nx≤o):C.le (C.ext o v L):=by
 refine⟨λo' v' L' h'=>?_,J0 _ _,λo' v' L' h'=>?_⟩
 ·by_cases e:o'=o∧v'=v
  ·obtain⟨rfl,rfl⟩:=e;rw[h]at h';cases h'
  ·rw[CM.ext_ne C L e];exact h'
 ·by_cases e:o'=o∧v'=v
  ·obtain⟨rfl,rfl⟩:=e;exact hn
  ·rw[CM.ext_ne C L e]at h';exact .inl ⟨v',L',h'⟩
def MR.mono'{gg C:CM}(h:gg.keep C):∀{l:List (AV×AV×Nat)} {r:List MapEntry},MR gg l r→MR C l r
 |_,_,.nil=>.nil
 |_,_,.cons hk hv hb hs=>.cons (hk.mono' h) (hv.mono' h) hb (MR.mono' h hs)
def yj.mono'{gg C:CM}(h:gg.keep C){a:Option AV}{v:Value}(k:yj gg a v):yj C a v:=by
 cases a with
 |none=>exact k
 |some a=>exact VR.mono' h k
def ER.mono'{gg C:CM}(h:gg.keep C){n:Nat}{E:Tr AV}{tm:Array Value}(k:ER n gg E tm):ER n C E tm :=
 ⟨k.1,k.2.1,λt ht=>(k.2.2 t ht).mono' h⟩
def Wk.mono'{gg C:CM}(h:gg.keep C){c:Tr AV}{len:Nat}{vs:Array Value}{d:Nat}(k:Wk gg c len vs d):Wk C c len vs d :=
 λi hi=>let ⟨a,h1,h2,v,h3,h4⟩:=k i hi;⟨a,h1,h2,v,h3,h4.mono' h⟩
def MR.mono{C C':CM}(h:C.le C'){l:List (AV×AV×Nat)}{r:List MapEntry}(k:MR C l r):MR C' l r:=k.mono' h.keep
def ER.mono{C C':CM}(h:C.le C'){n:Nat}{E:Tr AV}{tm:Array Value}(k:ER n C E tm):ER n C' E tm:=k.mono' h.keep
def Wk.mono{C C':CM}(h:C.le C'){c:Tr AV}{len:Nat}{vs:Array Value}{d:Nat}(k:Wk C c len vs d):Wk C' c len vs d:=k.mono' h.keep
def Oq.frame'{B:Nat}{gA C':CM}{w w':World}{o:Nat}{ob:AObj}(h:Oq B gA w o ob)(hc:gA.keep C')(hn:∀v L,C' o v=some L→gA o v=some L)
  (hb:∀v L,gA o v=some L→w'.heap[L.b]?=w.heap[L.b]?):Oq B C' w' o ob:=by
 cases ob with
 |cells c len gB ro =>
  intro L hL;have C:=hn _ _ hL;obtain⟨h1,h2,h3,vs,e,lo,hi,h4,h5,h6,h7⟩:=h L C;exact⟨h1,h2,h3,vs,e,lo,hi,by rw[hb _ _ C];exact h4,h5,h6,h7.mono' hc⟩
 |map es ck =>
  intro L hL;have C:=hn _ _ hL;obtain⟨h1,gg,h2,h3⟩:=h L C;exact⟨h1,gg,D9,h3.mono' hc⟩
 |iter len n pos =>
  intro L hL;have C:=hn _ _ hL;obtain⟨h1,h0,s,h2,h3⟩:=h L C;exact⟨h1,h0,s,D9,h3⟩
 |loop st pend f n E ps a b d =>
  intro L hL;have C:=hn _ _ hL;obtain⟨h1,tm,Ld,h2,h3,h4⟩:=h L C;exact⟨h1,tm,Ld,hc _ _ _ h2,by rw[hb _ _ C];exact h3,h4.mono' hc⟩
 |defd op =>
  intro L hL;have C:=hn _ _ hL;obtain⟨h1,h2⟩:=h L C;exact⟨h1,D9⟩
def Oq.frame{B:Nat}{gg C:CM}{w w':World}{o:Nat}{ob:AObj}(h:Oq B gg w o ob)(hc:gg.le C)(hn:∀v L,C o v=some L→gg o v=some L)
  (hb:∀v L,gg o v=some L→w'.heap[L.b]?=w.heap[L.b]?):Oq B C w' o ob:=h.frame' hc.keep hn hb
def Heap.get_push_same(H:Heap)(x:AObj):(H.push x).get H.next=some x:=z9l _ _ _
def Heap.get_push_ne(H:Heap)(x:AObj){o:Nat}(ho:o<H.next):(H.push x).get o=H.get o :=
 ou J _ _
def Heap.get_put_same(H:Heap)(o:Nat)(x:AObj):(H.put o x).get o=some x:=z9l _ _ _
def Heap.get_put_ne(H:Heap){o:Nat}(x:AObj)(gg:j≠o):(H.put o x).get j=H.get j:=ou gg _ _
def xp(w:World)(x:Obj){k:Nat}(h:k<w.heap.size):(w.alloc x).heap[k]?=w.heap[k]?:=Below.heap_alloc w x k h
def Wi(w:World)(x:Obj):(w.alloc x).heap[w.heap.size]?=some x:=by
 show (w.heap.push x)[w.heap.size]?=some x;simp
def Rel.next_none{C:World}{gg:CM}{H:Heap}{w:World}(h:Rel C gg H w)(v:Nat):gg H.next v=none:=by
 cases e:gg H.next v with
 |none=>rfl
 |some L=>have:=h.fresh _ _ _ e;omega
def Rel.push{w0:World}{gB:CM}{H:Heap}{w:World}(h:Rel w0 gB H w)(ob:AObj)(x:Obj)(n sz:Nat)
  (gC:Oq w0.heap.size (gB.ext H.next 0 ⟨w.heap.size,0,n,sz⟩) (w.alloc x) H.next ob) :
  Rel w0 (gB.ext H.next 0 ⟨w.heap.size,0,n,sz⟩) (H.push ob) (w.alloc x)∧gB.le (gB.ext H.next 0 ⟨w.heap.size,0,n,sz⟩):=by
 have hle:gB.le (gB.ext H.next 0 ⟨w.heap.size,0,n,sz⟩):=CM.le_ext _ (h.next_none 0) (.inr (K3 h.nx));refine⟨⟨by show max gB.nx (H.next+1)=H.next+1;rw[h.nx];exact Nat.max_eq_right (Kz _),h.low.alloc h.low.size x,?_,?_,?_,?_,?_⟩,hle⟩
 ·intro o v L C;show o<H.next+1;by_cases e:o=H.next∧v=0
  ·omega
  ·rw[CM.ext_ne _ _ e]at C;have:=h.fresh _ _ _ C;omega
 ·intro o v L C;rw[World.size_alloc];by_cases e:o=H.next∧v=0
  ·obtain⟨rfl,rfl⟩:=e;rw[CM.ext_same]at C;cases C;exact Iv _
  ·rw[CM.ext_ne _ _ e]at C;have:=h.lt _ _ _ C;omega
 ·intro o v L o' v' L' C gg hb hB;by_cases e:o=H.next∧v=0<;>by_cases e':o'=H.next∧v'=0
  ·omega
  ·obtain⟨rfl,rfl⟩:=e;rw[CM.ext_same]at C;cases C;rw[CM.ext_ne _ _ e']at gg;have:=h.lt _ _ _ gg;dsimp at hb;omega
  ·obtain⟨rfl,rfl⟩:=e';rw[CM.ext_same]at gg;cases gg;rw[CM.ext_ne _ _ e]at C;have:=h.lt _ _ _ C;dsimp at hb;omega
  ·rw[CM.ext_ne _ _ e]at C;rw[CM.ext_ne _ _ e']at gg;exact h.excl _ _ _ _ _ _ C gg hb hB
 ·intro o gD ho hg;by_cases e:o=H.next
  ·subst e;rw[Heap.get_push_same]at hg;cases hg;exact gC
  ·have gA:o<H.next:=Bj
   rw[Heap.get_push_ne _ _ gA]at hg;refine (h.obj _ _ gA hg).frame hle (λv L C=>?_) (λv L C=>xp _ _ (h.lt _ _ _ C))
   rwa [CM.ext_ne _ _ J]at C
 ·intro o c len gE ro ho hg v L C;by_cases e:o=H.next
  ·subst e;by_cases ev:v=0
   ·omega
   ·rw[CM.ext_ne _ _ J]at C;have:=h.fresh _ _ _ C;omega
  ·have gA:o<H.next:=Bj
   rw[Heap.get_push_ne _ _ gA]at hg;rw[CM.ext_ne _ _ J]at C;exact h.top _ _ _ _ _ gA hg _ _ C
def Rel.put{w0:World}{gG:CM}{H:Heap}{w w':World}(h:Rel w0 gG H w){o:Nat}(ho:o<H.next)(ob:AObj)(gA:Below w0.heap.size w0 w')
  (gD:w.heap.size≤w'.heap.size) (gE:∀o' v L,o'≠o→gG o' v=some L→w'.heap[L.b]?=w.heap[L.b]?) (gF:Oq w0.heap.size gG w' o ob)
  (gB:∀c len gg ro,ob=.cells c len gg ro→∀v L,gG o v=some L→v≤gg):Rel w0 gG (H.put o ob) w':=by
 refine⟨h.nx,gA,h.fresh,λo v L hL=>Ik (h.lt o v L hL) gD,h.excl,?_,?_⟩
 ·intro o' gH C hg;by_cases e:o'=o
  ·subst e;rw[Heap.get_put_same]at hg;cases hg;exact gF
  ·have gC:o'<H.next:=C;rw[Heap.get_put_ne H ob e]at hg;exact (h.obj _ _ C hg).frame (CM.le_refl gG) (λv L hL=>hL) (λv L hL=>gE _ _ _ e hL)
 ·intro o' c len gg ro C hg v L hL;by_cases e:o'=o
  ·subst e;rw[Heap.get_put_same]at hg;cases hg;exact gB _ _ _ _ rfl v L hL
  ·have gC:o'<H.next:=C;rw[Heap.get_put_ne H ob e]at hg;exact h.top _ _ _ _ _ C hg _ _ hL
def Rel.drew{w0:World}{C:CM}{H:Heap}{w:World}(h:Rel w0 C H w):Rel w0 C H w.drew :=
 ⟨h.nx,h.low.drew,h.fresh,h.lt,h.excl,λo ob ho hg=>(h.obj o ob ho hg).frame (CM.le_refl C) (λ_ _ hL=>hL) (λ_ _ _=>rfl),h.top⟩
def z7x(A:Program)(w:World)(a:Addr):∀(n i:Nat) (g:Array Value) (r:List Value),r.length=n→(∀p,p<n→w.cell? (a.add (i+p))=r[p]?) →
  (loadCellsFrom a i n g).run A w=.ok (g++r.toArray) w
 |0,i,g,r,j,_=>by
  have:r=[]:=Ig j;subst this;simp[loadCellsFrom]
 |n+1,i,g,r,j,h=>by
  cases r with
  |nil=>simp at j
  |cons v r =>
   have z:w.cell? (a.add i)=some v:=by simpa using h 0 J
   simp only[loadCellsFrom,Sem.run_bind,run_load,z,Result.andThen_ok];rw[z7x A w a n (i+1) (g.push v) r Bd (λp B=>by
    have:=h (p+1) J;rw[show i+1+p=i+(p+1) from J,this,H8])]
   simp
def z8j(z:Program)(w:World)(a:Addr)(n:Nat)(r:List Value)(j:r.length=n)(h:∀g,g<n→w.cell? (a.add g)=r[g]?) :
  (loadCells a n).run z w=.ok r.toArray w:=by
 unfold loadCells;rw[z7x z w a n 0 #[] r j (λg p=>by rw[Is];exact h g p)];simp
def d6(b d i g:Nat):(⟨b,d+i,none⟩:Addr).add g=⟨b,d+(i+g),none⟩:=by
 unfold Addr.add;by_cases h:g=0
 ·subst h;simp
 ·rw[Hq h];simp[Iu]
def fy{w:World}{b i:Nat}{vs:Array Value}{e:TypeId}{g:Nat×Nat}(h:w.heap[b]?=some (.cells vs e g)):w.cell? ⟨b,i,none⟩=vs[i]?:=by
 simp[World.cell?,h]
def Rel.read{w0:World}{C:CM}{H:Heap}{w:World}(h:Rel w0 C H w)(P:Program){o v i n:Nat}{l:List AV}(hr:Pa H o v i n=some l){L:Loc}(hL:C o v=some L) :
  ∃vs:List Value,(loadCells ⟨L.b,L.d+i,none⟩ n).run P w=.ok vs.toArray w∧VRs C l vs∧(∀a∈l,a.one=true)∧l.length=n∧i+n≤L.n ∧
   (∀j,j<n→w.cell? ⟨L.b,L.d+(i+j),none⟩=vs[j]?):=by
 unfold Pa at hr;split at hr
 ·rename_i c len gF ro hg;split at hr
  ·rename_i hv;have gB:=Hn hv;subst gB;split at hr
   ·rename_i hle;have gE:i+n≤len:=Hw hle;have gC:=h.obj o _ (h.fresh _ _ _ hL) hg;obtain⟨h1,_,h3,vs,e,lo,hi,h4,h5,h6,h7⟩:=gC L hL;obtain⟨k1,k2⟩:=aq hr;have hex:∀j,j<n→∃a,l[j]?=some a∧a.one=true∧∃x,vs[L.d+(i+j)]?=some x∧VR C a x:=by
     intro j hj;obtain⟨a,q1,q2,x,q3,q4⟩:=h7 (i+j) J;exact⟨a,by rw[←k2 j hj];exact q1,q2,x,q3,q4⟩
    have gG:L.d+(i+n)≤vs.size:=J
    let r:List Value:=(List.range n).map λj=>vs.getD (L.d+(i+j)) undef
    have gD:r.length=n:=by simp[r]
    have gg:∀j,j<n→vs[L.d+(i+j)]?=r[j]?:=by
     intro j hj;simp only[r,Jp,List.getElem?_range hj,Jg];rw[Iy J,Ir,Iy J];rfl
    refine⟨r,?_,?_,?_,k1,J,?_⟩
    ·exact z8j P w _ n r gD (λj hj=>by rw[d6,fy h4];exact gg j hj)
    ·refine VRs.mk J (λj a hj=>?_);have gA:j<n:=by have:=(Hf.1 hj).1;omega
     obtain⟨a',q1,_,x,q3,q4⟩:=hex j gA;rw[hj]at q1;cases q1;exact⟨x,by rw[←gg j gA];exact q3,q4⟩
    ·intro a ha;obtain⟨j,hj,rfl⟩:=List.getElem_of_mem ha;obtain⟨a',q1,q2,_⟩:=hex j J;rw[Hj hj]at q1;cases q1;exact q2
    ·intro j hj;rw[fy h4];exact gg j hj
   ·cases hr
  ·cases hr
 ·cases hr
def z7n(O:Program)(a:Addr):∀(r:List Value) (i:Nat) (w:World) (z:Array Value) (e:TypeId) (A B:Nat),a.spot=none→w.heap[a.block]?=some (.cells z e (A,B)) →
  (∀v∈r,v.oneCell'=true)→a.off+i+r.length≤z.size→(∀p,a.off+i≤p→p<a.off+i+r.length→¬(A≤p∧p<B)) →
  ∃w' j,(storeCells a r i).run O w=.ok () w'∧w'.heap[a.block]?=some (.cells j e (A,B))∧j.size=z.size∧(∀k,k≠a.block→w'.heap[k]?=w.heap[k]?) ∧
   w'.heap.size=w.heap.size∧w'.os=w.os∧w'.tape=w.tape∧w'.output=w.output∧(∀p,j[p]?=if a.off+i≤p∧p<a.off+i+r.length then r[p-(a.off+i)]? else z[p]?)
 |[],i,w,z,e,A,B,_,E,_,_,_=>by
  refine⟨w,z,rfl,E,rfl,λ_ _=>rfl,rfl,rfl,rfl,rfl,λp=>?_⟩;rw[Hq U]
 |v::r,i,w,z,e,A,B,P,E,M,H,I=>by
  simp only[Ie]at H I;have g:a.add i=⟨a.block,a.off+i,none⟩:=by
   unfold Addr.add;by_cases h:i=0
   ·subst h;simp;cases a;simp_all
   ·rw[Hq h]
  have C : w.cell? (a.add i) = some (z[a.off + i]' J) := by
   rw[g,fy E,Iy]
  have K:w.frozen? (a.add i)=false:=by
   rw[g];simp only[World.frozen?,E];have:=I (a.off+i) J J;simp only[Bool.and_eq_false_iff,Kw];omega
  have F:(store (a.add i) v).run O w=.ok () (w.setCell (a.add i) v):=by
   rw[run_store O w _ v .plain (M v U),C];simp[K]
  have G:(w.setCell (a.add i) v).heap[a.block]?=some (.cells (z.setIfInBounds (a.off+i) v) e (A,B)):=by
   rw[g];simp only[World.setCell,Array.getElem?_modify,Kh,E,Jg];simp
  obtain⟨w',j,Q,R,S,T,V,X,Y,Z,h9⟩:=z7n O a r (i+1) (w.setCell (a.add i) v) _ e A B P G (λx hx=>M x (by simp[hx]))
   (by rw[Lk];omega) (λp L D=>I p J J)
  refine⟨w',j,?_,R,by rw[S,Lk],?_,?_,X,Y,Z,?_⟩
  ·simp only[storeCells,Sem.run_bind,F,Result.andThen_ok];exact Q
  ·intro k N;rw[T k N];exact Below.heap_setCell w (a.add i) v k (by rw[g];exact N)
  ·rw[V,World.size_setCell]
  ·intro p;rw[h9 p];by_cases L:a.off+(i+1)≤p∧p<a.off+(i+1)+r.length
   ·rw[Hs L,Hs Bm];have:p-(a.off+i)=(p-(a.off+(i+1)))+1:=J
    rw[this,H8]
   ·rw[Hq L,L3];by_cases D:a.off+i=p
    ·subst D;rw[Hs rfl,Hs J,Hs Bm];simp
    ·rw[Hq D,Hq Bm]
def VRs.get'{C:CM}{l:List AV}{r:List Value}(h:VRs C l r){i:Nat}(hi:i<l.length):∃a v,l[i]?=some a∧r[i]?=some v∧VR C a v:=by
 obtain⟨v,h1,h2⟩:=h.get (Hj hi);exact⟨_,v,Hj hi,h1,h2⟩
def VRs.one{C:CM}:∀{l:List AV} {r:List Value},VRs C l r→(∀a∈l,a.one=true)→∀v∈r,v.oneCell'=true
 |_,_,.nil,_,v,hv=>by simp at hv
 |_,_,.cons e es,h,v,hv=>by
  rcases Hu.1 hv with rfl|hv
  ·rw[e.one];exact h _ U
  ·exact VRs.one es (λa ha=>h a (by simp[ha])) v hv
def Wk.lay{C:CM}{c:Tr AV}{len:Nat}{vs gg:Array Value}{d i:Nat}{l:List AV}{r:List Value}(h:Wk C c len vs d)(hv:VRs C l r)(h1:∀a∈l,a.one=true)
  (hi:i≤len) (_hle:i+l.length≤j) (gC:j≤len∨j=i+l.length)
  (gB:∀gD,gg[gD]?=if d+i≤gD∧gD<d+i+r.length then r[gD-(d+i)]? else vs[gD]?):Wk C (Ou l i c) j gg d:=by
 intro k hk;rw[get_ofList l i c k];have hlen:=hv.length;rw[gB];by_cases gA:i≤k∧k<i+l.length
 ·rw[Hs gA,Hs J];obtain⟨a,v,q1,q2,q3⟩:=hv.get' (i:=k-i) J;refine⟨a,q1,h1 a (Im q1),v,?_,q3⟩;rw[show d+k-(d+i)=k-i from J];exact q2
 ·rw[Hq gA,Hq J];exact h k J
def Rel.write{w0:World}{C:CM}{H H':Heap}{w:World}(h:Rel w0 C H w)(P:Program){o v i:Nat}{l:List AV}(hw:Ty H o v i l=some H'){L:Loc}(hL:C o v=some L)
  {r:List Value} (hr:VRs C l r) (h1:∀a∈l,a.one=true):∃w',(storeCells ⟨L.b,L.d+i,none⟩ r).run P w=.ok () w'∧Rel w0 C H' w':=by
 unfold Ty at hw;split at hw
 ·rename_i c len gH hg;split at hw
  ·rename_i hv;have gA:=Hn hv;subst gA;split at hw
   ·rename_i hle;have gg:i+l.length≤len:=Hw hle;cases hw;have ho:=h.fresh _ _ _ hL;have gB:=h.obj o _ ho hg;obtain⟨q1,q2,q3,vs,e,lo,hi,q4,q5,q6,q7⟩:=gB L hL;have gI:=hr.length;obtain⟨w',gC,k1,k2,k3,k4,k5,k6,k7,k8,k9⟩:=z7n P ⟨L.b,L.d+i,none⟩ r 0 w vs e lo hi rfl q4 (hr.one h1) Br (λgK hj gD=>by dsimp at hj gD;exact q6 gK J J);refine⟨w',k1,h.put ho _ ?_ J ?_ ?_ ?_⟩
    ·exact h.low.trans ⟨k6,k7,k8,J,λk hk=>k4 k (by dsimp;have:=q2 rfl;omega)⟩
    ·intro o' v' L' gE j;refine k4 _ (λe'=>gE ?_);exact (h.excl _ _ _ _ _ _ hL j e'.symm (q2 rfl)).symm
    ·intro L' j;rw[hL]at j;cases j;refine⟨q1,q2,q3,gC,e,lo,hi,k2,J,q6,q7.lay hr h1 J gg (.inl (Hm _)) (λgK=>?_)⟩;rw[k9 gK];rfl
    ·intro c' gF gG gL he v' L' j;cases he;exact h.top _ _ _ _ _ ho hg _ _ j
   ·cases hw
  ·cases hw
 ·cases hw
def Rel.newRow{w0:World}{C:CM}{H H':Heap}{w:World}(h:Rel w0 C H w){l:List AV}{o:Nat}(hn:newObj H l=some (o,H'))(e:TypeId)(fz:Nat×Nat){vs:Array Value}
  (hle:l.length≤vs.size) (hv:VRs C l (vs.toList.take l.length)) (h1:∀a∈l,a.one=true) (gA:∀i,i<vs.size→¬(fz.1≤i∧i<fz.2)) :
  ∃C',C.le C'∧Rel w0 C' H' (w.alloc (.cells vs e fz))∧C' o 0=some ⟨w.heap.size,0,l.length,vs.size⟩:=by
 unfold Sv.newObj at hn;cases hn;have gg:C.le (C.ext H.next 0 ⟨w.heap.size,0,l.length,vs.size⟩):=CM.le_ext _ (h.next_none 0) (.inr (K3 h.nx));refine⟨C.ext H.next 0 ⟨w.heap.size,0,l.length,vs.size⟩,gg,(h.push _ _ l.length vs.size ?_).1,CM.ext_same _ _ _ _⟩;intro L hL;rw[CM.ext_same]at hL;cases hL;refine⟨rfl,λ_=>h.low.size,Br,vs,e,fz.1,fz.2,Wi _ _,Hm _,λi _ hi=>gA i hi,?_⟩;intro k hk;rw[get_ofList l 0 .e k,Hs J];obtain⟨a,v,q1,q2,q3⟩:=hv.get' (i:=k) hk;refine⟨a,by simpa using q1,h1 a (Im q1),v,?_,q3.mono gg⟩;rw[Ij hk]at q2;simpa using q2
end
section
open Go.RowKit (Below)
section sem
variable {P : Program} {w : World}
def Nm{t:TypeId}{d:TypeDesc}(h:P.underlying t=some d):(underlying t).run P w=.ok d w:=by
 simp[underlying,h]
def aj{t:TypeId}{i:TypeInfo}(h:P.info? t=some i):(typeInfo t).run P w=.ok i w:=by
 simp[typeInfo,h]
def Ri{t:TypeId}{n:Nat}(h:N7 P t=some n):(sizeOf t).run P w=.ok n w:=by
 unfold N7 at h;cases g:P.info? t with
 |none=>simp[g]at h
 |some i=>simp only[g,Jg,Option.some.injEq]at h;simp[sizeOf,aj g,h]
def t8{t:TypeId}{b:Bool}(h:Ro P t=some b):(isAgg t).run P w=.ok b w:=by
 unfold Ro at h;cases hu:P.underlying t with
 |none=>simp[hu]at h
 |some d=>cases d<;>simp[hu]at h<;>subst h<;>simp[isAgg,Nm hu]
def jc{t:TypeId}{l:List AV}(h:Rn P t=some l):∃v i,(zeroValue t).run P w=.ok v w∧Sf v.cells.toList=some l∧P.info? t=some i∧l.length=i.size:=by
 unfold Rn at h;cases g:P.info? t with
 |none=>simp[g]at h
 |some i =>
  simp only[g]at h;cases j:i.zero with
  |none=>simp[j]at h
  |some v =>
   simp only[j]at h;cases p:Sf v.cells.toList with
   |none=>simp[p]at h
   |some r =>
    simp only[p]at h;split at h
    ·cases h;rename_i z;exact⟨v,i,Dv,p,rfl,z⟩
    ·cases h
def zl5{t:TypeId}{a:AV}(h:oc P t=some a):∃v,(zeroValue t).run P w=.ok v w∧Uy v=some a:=by
 unfold oc at h;cases g:P.info? t with
 |none=>simp[g]at h
 |some i =>
  simp only[g]at h;cases j:i.zero with
  |none=>simp[j]at h
  |some v=>simp only[j]at h;exact⟨v,Dv,h⟩
end sem
def km(g:CM)(j:Tr AV)(p:Operand→Value):Prop:=∀x a,(M0 x).run j=some a→VR g a (p x)
def ov{n:Nat}{z:CM}{E:Tr AV}{a:Act}(h:ER n z E a.tmps):km z E a.eval:=by
 intro x A g;cases x with
 |tmp t =>
  unfold M0 at g;dsimp only at g;split at g
  ·rename_i j;have:=h.2.2 t (Hw j);dsimp only at g;show VR z A (a.tmps.getD t undef);cases p:Mm (Mx t) E with
   |none=>rw[p]at g this;cases g;rw[show a.tmps.getD t undef=undef from this];exact .tup .nil
   |some b=>rw[p]at g this;cases g;exact this
  ·cases g
 |const v =>
  unfold M0 at g;dsimp only at g;split at g
  ·rename_i b j;cases g;exact zft j
  ·cases g
 |global B=>cases g
 |func f=>cases g;exact .fn (.same _ (λl e=>Ar)) .nil .nil
def ma{A:CM}{B:Tr AV}{C:Operand→Value}(h:km A B C):∀{j:List Operand} {l:List AV},(opds j).run B=some l→VRs A l (j.map C)
 |[],l,g=>by cases g;exact .nil
 |x::j,l,g=>by
  unfold opds at g;dsimp only at g;split at g
  ·cases g
  ·rename_i a p;split at g
   ·cases g
   ·rename_i r z;cases g;exact .cons (h _ _ p) (ma h z)
def Yq(P:Program)(z:World)(B:CM)(w:World)(p:Sem Next)(v:AV)(A:Heap):Prop :=
 ∃g j x,B.le g∧Rel z g A j∧VR g v x∧(p.run P w=.ok (.value x) j∨(p.run P w=.ok .skip j∧x=undef))
def sh(P:Program)(z:CM)(w:World)(p:Sem Next)(t:Tgt)(g:List AV):Prop :=
 ∃j:List Value,VRs z g j∧((∃f,t=.fn f∧p.run P w=.ok (.enter f j.toArray) w)∨(∃l A,t=.yield l∧z l 0=some A∧p.run P w=(Instr.yield A.b j.toArray).run P w))
def Qh(P:Program)(p:World)(C:CM)(w:World)(j:Sem Next):OR→Prop
 |.no=>True
 |.val v z=>Yq P p C w j v z
 |.call t g=>sh P C w j t g
def M9(P:Program)(f:OpF)(nx:(Operand→Value)→Sem Next):Prop :=
 ∀g j p w z A,Rel g j p w→km j z A→Qh P g j w (nx A) (f.run z p)
def Nk(P:Program)(nx:(Operand→Value)→Sem Next):M9 P Nc nx:=λ_ _ _ _ _ _ _ _=>trivial
def Rt{P:Program}{x:Operand}{f:Heap→AV→OR}{nx:(Operand→Value)→Sem Next}
  (h:∀g C j w p a,Rel g C j w→VR C a (p x)→Qh P g C w (nx p) (f j a)):M9 P (Oy x f) nx:=by
 intro g C j w D p z A;show Qh P g C w (nx p) (Option.rec OR.no (λa=>f j a) ((M0 x).run D));cases B:(M0 x).run D with
 |none=>exact trivial
 |some a=>exact h _ _ _ _ _ _ z (A _ _ B)
def Wl{P:Program}{x y:Operand}{f:Heap→AV→AV→OR}{nx:(Operand→Value)→Sem Next}
  (h:∀g C z w j a b,Rel g C z w→VR C a (j x)→VR C b (j y)→Qh P g C w (nx j) (f z a b)):M9 P (R5 x y f) nx:=by
 intro g C z w A j B p;show Qh P g C w (nx j) (Option.rec OR.no (λa=>Option.rec OR.no (λb=>f z a b) ((M0 y).run A)) ((M0 x).run A));cases D:(M0 x).run A with
 |none=>exact trivial
 |some a =>
  cases E:(M0 y).run A with
  |none=>exact trivial
  |some b=>exact h _ _ _ _ _ _ _ B (p _ _ D) (p _ _ E)
def Ol{P:Program}{C:CM}{w:World}{nx:Sem Next}{v:AV}{x:Value}(j:Rel B C A w)(p:VR C v x)(g:nx.run P w=.ok (.value x) w) :
  Yq P B C w nx v A:=⟨C,w,x,CM.le_refl C,j,p,.inl g⟩
def zi9(P:Program)(x:Operand):M9 P (Oy x λp a=>.val a p) (λz=>pure (.value (z x))) :=
 Rt λ_ _ _ _ _ _ g j=>Ol g j rfl
def zr8(P:Program)(c a b:Operand):M9 P (Nj P (.pick c a b)) (λB=>do pure (.value (if ←asBool (B c) then B a else B b))):=by
 intro E I H w C B D p;show Qh P E I w _ (match (M0 c).run C with
  |some (.bool true)=>ret1 H ((M0 a).run C)
  |some (.bool false)=>ret1 H ((M0 b).run C)
  |_=>.no)
 split
 ·rename_i z;have g:=p _ _ z;cases F:(M0 a).run C with
  |none=>exact trivial
  |some v =>
   have A:=p _ _ F;refine Ol D A ?_;cases j:B c<;>rw[j]at g<;>cases g;simp[asBool,j]
 ·rename_i z;have g:=p _ _ z;cases G:(M0 b).run C with
  |none=>exact trivial
  |some v =>
   have A:=p _ _ G;refine Ol D A ?_;cases j:B c<;>rw[j]at g<;>cases g;simp[asBool,j]
 ·exact trivial
def zmg{P:Program}{C:CM}{w:World}(H:Rel B C A w)(t:TypeId){l:List AV}(F:VRs C l X.toList)(I:∀a∈l,a.one=true)
  {G:Sem Next} (j:G.run P w=.ok (.value (.pointer (some ⟨w.heap.size,0,none⟩))) (w.alloc (.cells X t))):Qh P B C w G (Us A l):=by
 unfold Us;cases K:newObj A l with
 |none=>exact trivial
 |some r =>
  obtain⟨o,M⟩:=r;have g:l.length=X.toList.length:=F.length;have p:l.length=X.size:=B0
  obtain⟨L,z,D,E⟩:=H.newRow K t (0,0) (vs:=X) J (by rw[g,Lv];exact F) I U;exact⟨L,_,_,z,D,by simpa using VR.ptr (i:=0) E,.inl j⟩
def zoh(P:Program)(t:TypeId):M9 P (Nj P (.alloc t)) (λ_=>do pure (.value (←Instr.alloc t true (.tuple #[])))):=by
 intro g F j w G L p H;show Qh P g F w _ (OpF.run (match Rn P t with
  |some l=>⟨λ_ j=>Us j l⟩
  |none=>Nc) G j)
 cases z:Rn P t with
 |none=>exact trivial
 |some l =>
  obtain⟨v,i,A,B,I,K⟩:=jc (w:=w) z;obtain⟨D,E⟩:=V5 (C:=F) B;refine zmg p t D E ?_;simp[Instr.alloc,A,newVar,newRow]
def zst(P:Program)(t:TypeId)(x:Operand):M9 P (Nj P (.box t x)) (λB=>do pure (.value (←Instr.box t (B x)))):=by
 refine Rt λC D E w B a g j=>?_
 cases p:a.cells with
 |none=>exact trivial
 |some l =>
  obtain⟨z,A⟩:=j.cells p;exact zmg g t z A (by simp[Instr.box,newVar,newRow])
def zs0(P:Program)(t:TypeId)(x:Operand):M9 P (nq P t x) (λE=>do pure (.value (←Instr.loadAt t (E x)))):=by
 unfold nq;split
 ·rename_i n z F;refine Rt λI O Q w E a g j=>?_
  split
  ·rename_i o v i;split
   ·rename_i l A;generalize K:E x=L at j;cases j with
    |ptr B =>
     obtain⟨C,G,D,H,M,_⟩:=g.read P A B;refine Ol g (.agg (vs:=C.toArray) B4 H) ?_;simp[Instr.loadAt,Instr.sureAddr,loadVar,t8 z,Ri F,G]
   ·exact trivial
  ·exact trivial
 ·rename_i n z F;refine Rt λI O Q w E a g j=>?_
  split
  ·rename_i o v i;split
   ·rename_i c A;generalize K:E x=L at j;cases j with
    |ptr B =>
     obtain⟨C,G,D,H,M,R,N⟩:=g.read P A B;have p:=N 0 J
     match C,D with
     |[u],.cons hu .nil =>
      refine Ol g hu ?_;simp only[Kq,H6]at p;simp[Instr.loadAt,Instr.sureAddr,loadVar,t8 z,p]
   ·exact trivial
  ·exact trivial
 ·exact Nk P _
def zo3(P:Program)(t:TypeId)(x y:Operand):M9 P (wd P t x y) (λj=>do Instr.storeAt t (j x) (j y);pure .skip):=by
 unfold wd;split
 ·rename_i n A;refine Wl λM L R w j a b B p C=>?_
  split
  ·rename_i o v i;split
   ·rename_i l D;split
    ·rename_i E;split
     ·rename_i N hw;generalize O:j x=Q at p;cases p with
      |ptr F =>
       obtain⟨z,G⟩:=C.cells D;obtain⟨H,I,K⟩:=B.write P hw F z G;refine⟨L,H,undef,CM.le_refl L,K,.tup .nil,.inr ⟨?_,rfl⟩⟩;have g:(j y).cells.size=n:=by have:=z.length;have:=Hn E;simp at *;omega
       simp[Instr.storeAt,Instr.sureAddr,storeVar,Ri A,g,I]
     ·exact trivial
    ·exact trivial
   ·exact trivial
  ·exact trivial
 ·exact Nk P _
def zhs(P:Program)(x:Operand)(o:Oper)(z:o.op=.nilCheck x):M9 P (Oy x ol) (λC=>execOp C o):=by
 refine Rt λE F G w C a A j=>?_
 unfold ol;split
 ·generalize p:C x=B at j;have g:=j;cases j with
  |ptr D=>exact Ol A g Da
 ·generalize p:C x=B at j;have g:=j;cases j with
  |iface h=>exact Ol A g Da
 ·generalize p:C x=B at j;have g:=j;cases j with
  |fn h=>cases h with
   |same=>exact Ol A g Da
 ·generalize p:C x=B at j;have g:=j;cases j with
  |map D=>exact Ol A g Da
 ·exact trivial
end
section
open Go.RowKit (Below)
def wz{k g:IntKind}(h:Vj k g=true):k=g:=by
 cases k<;>cases g<;>first|rfl|(exact absurd h An)
def jh(a b:Int):e9 a b=(a==b):=by
 cases a<;>cases b
 ·rename_i x y;show Nat.beq x y=_;rw[I1];simp[Nat.beq_eq];omega
 ·show false=_;symm;rw[beq_eq_false_iff_ne];intro h;cases h
 ·show false=_;symm;rw[beq_eq_false_iff_ne];intro h;cases h
 ·rename_i x y;show Nat.beq x y=_;rw[I1];simp[Nat.beq_eq]
def Q7{a b:Nat}:Nat.blt a b=decide (a<b):=by
 rw[I1];simp[Nat.blt,Nat.ble_eq];omega
def gl(a b:Int):jl a b=decide (a<b):=by
 cases a<;>cases b
 ·rename_i x y;show Nat.blt x y=_;rw[Q7,J6];simp
 ·rename_i x y;show false=_;symm;rw[Kw];have:=Int.negSucc_lt_zero y;simp;omega
 ·rename_i x y;show true=_;symm;rw[decide_eq_true_iff];have:=Int.negSucc_lt_zero x;simp;omega
 ·rename_i x y;show Nat.blt y x=_;rw[Q7,J6];omega
def z78(k:IntKind):2^k.bits=Ta k:=by cases k<;>rfl
def Ww(k:IntKind)(n:Int):To k n=k.wrap n:=by
 cases n with
 |negSucc m=>rfl
 |ofNat m =>
  unfold To;dsimp only;split
  ·rename_i h;have g:m<U0 k:=by rw[Q7]at h;simpa using h
   cases k<;>simp only[U0]at g<;>simp only[IntKind.wrap,IntKind.bits,IntKind.signed]<;>simp<;>omega
  ·rfl
def zq5(b:Int):W8 b=true↔b=0:=by
 cases b with
 |ofNat n=>simp[W8,Nat.beq_eq]
 |negSucc n=>simp[W8]
section bits
variable {k : IntKind} {x y : Nat}
def jq(w x:Nat):BitVec.ofInt w (Int.ofNat x)=BitVec.ofNat w x:=by
 show BitVec.ofInt w ((x:Nat):Int)=_;exact BitVec.ofInt_natCast w x
def Zv(g:x<Ta k)(j:y<Ta k):(BitVec.ofInt k.bits (Int.ofNat x) &&& BitVec.ofInt k.bits (Int.ofNat y)).toNat=Nat.land x y:=by
 rw[←z78]at g j;rw[jq,jq,BitVec.toNat_and,K5,K5,Ju g,Ju j];rfl
def c7(g:x<Ta k)(j:y<Ta k):(BitVec.ofInt k.bits (Int.ofNat x) ||| BitVec.ofInt k.bits (Int.ofNat y)).toNat=Nat.lor x y:=by
 rw[←z78]at g j;rw[jq,jq,BitVec.toNat_or,K5,K5,Ju g,Ju j];rfl
def Yb(g:x<Ta k)(j:y<Ta k):(BitVec.ofInt k.bits (Int.ofNat x) ^^^ BitVec.ofInt k.bits (Int.ofNat y)).toNat=Nat.xor x y:=by
 rw[←z78]at g j;rw[jq,jq,BitVec.toNat_xor,K5,K5,Ju g,Ju j];rfl
def zp1(g:x<Ta k)(_hy:y<Ta k) :
  (BitVec.ofInt k.bits (Int.ofNat x) &&& ~~~(BitVec.ofInt k.bits (Int.ofNat y))).toNat=Nat.xor x (Nat.land x y):=by
 rw[←z78]at g;rw[jq,jq];apply Nat.eq_of_testBit_eq;intro i;rw[BitVec.testBit_toNat,BitVec.getLsbD_and,BitVec.getLsbD_not,BitVec.getLsbD_ofNat,BitVec.getLsbD_ofNat];show _=(x ^^^ (x &&& y)).testBit i;rw[Nat.testBit_xor,Nat.testBit_and];by_cases j:i<k.bits
 ·simp only[j,decide_true,K7];cases x.testBit i<;>cases y.testBit i<;>rfl
 ·have:x.testBit i=false:=Nat.testBit_lt_two_pow (Ik g (Nat.pow_le_pow_right J J));simp[this,j]
end bits
def zga(a b:Nat):O0 a b=min a b:=by
 unfold O0;split
 ·rename_i h;have:=Hw h;omega
 ·rename_i h;have:¬a≤b:=λg=>by rw[Ho g]at h;cases h
  omega
def zb2{P:Program}{w:World}{f:Nat→Nat→Nat}{op:BinOp}{k:IntKind}{a b:Int}{v:AV}(h:Wc f k a b=some v)
  (p:∀x y:Nat,x<Ta k→y<Ta k→(Op.intBits op k (Int.ofNat x) (Int.ofNat y)).run P w=.ok (.int k (k.wrap (Int.ofNat (f x y)))) w) :
  ∃n,v=.int k n∧(Op.intBits op k a b).run P w=.ok (.int k n) w:=by
 unfold Wc at h;split at h
 ·rename_i x y;split at h
  ·rename_i g;split at h
   ·rename_i j;cases h;rw[Q7]at g j;exact⟨_,rfl,by rw[p x y B0 Bd,Ww]⟩
   ·cases h
  ·cases h
 ·cases h
def zso(P:Program)(w:World){op:BinOp}{k:IntKind}{a b:Int}{v:AV}(t:TypeId)(h:qt op k a b=some v) :
  ∃x,(binOp op t (.int k a) (.int k b)).run P w=.ok x w∧∀g,VR g v x:=by
 cases op<;>simp only[qt]at h
 case add=>cases h;exact⟨_,C9,λg=>Cp⟩
 case sub=>cases h;exact⟨_,C9,λg=>Cp⟩
 case mul=>cases h;exact⟨_,C9,λg=>Cp⟩
 case quo =>
  split at h
  ·cases h
  ·rename_i A;cases h;have B:b≠0:=λe=>by rw[(zq5 b).2 e]at A;cases A
   exact⟨.int k (k.wrap (a.tdiv b)),by simp[binOp,Op.intDiv,B],λg=>Cp⟩
 case rem =>
  split at h
  ·cases h
  ·rename_i A;cases h;have B:b≠0:=λe=>by rw[(zq5 b).2 e]at A;cases A
   exact⟨.int k (a.tmod b),by simp[binOp,Op.intDiv,B],λg=>.int k _⟩
 case and =>
  obtain⟨n,rfl,j⟩:=zb2 (P:=P) (w:=w) (op:=.and) h (λx y p z=>by simp only[Op.intBits,Zv p z];rfl);exact⟨_,Cn,λg=>.int k n⟩
 case or =>
  obtain⟨n,rfl,j⟩:=zb2 (P:=P) (w:=w) (op:=.or) h (λx y p z=>by simp only[Op.intBits,c7 p z];rfl);exact⟨_,Cn,λg=>.int k n⟩
 case xor =>
  obtain⟨n,rfl,j⟩:=zb2 (P:=P) (w:=w) (op:=.xor) h (λx y p z=>by simp only[Op.intBits,Yb p z];rfl);exact⟨_,Cn,λg=>.int k n⟩
 case andNot =>
  obtain⟨n,rfl,j⟩:=zb2 (P:=P) (w:=w) (op:=.andNot) h (λx y p z=>by simp only[Op.intBits,zp1 p z];rfl);exact⟨_,Cn,λg=>.int k n⟩
 case eql=>cases h;exact⟨_,Di,λg=>by rw[jh];exact .bool _⟩
 case neq=>cases h;exact⟨.bool (a != b),D8,λg=>by rw[jh];exact .bool _⟩
 case lss=>cases h;exact⟨_,Di,λg=>by rw[gl];exact .bool _⟩
 case gtr=>cases h;exact⟨_,Di,λg=>by rw[gl];exact .bool _⟩
 case leq =>
  cases h;refine⟨.bool (decide (a≤b)),D8,λg=>?_⟩;rw[gl,show (!decide (b<a))=decide (a≤b) from by rw[I1];simp];exact .bool _
 case geq =>
  cases h;refine⟨.bool (decide (a ≥ b)),D8,λg=>?_⟩;rw[gl,show (!decide (a<b))=decide (a ≥ b) from by rw[I1];simp];exact .bool _
 all_goals cases h
def zg0(z:Program)(w:World){op:BinOp}(g:op=.shl∨op=.shr){k j:IntKind}{a b:Int}{v:AV}(t:TypeId)(h:xi op k a b=some v) :
  ∃x,(binOp op t (.int k a) (.int j b)).run z w=.ok x w∧∀p,VR p v x:=by
 unfold xi at h;split at h
 ·rename_i x y;rcases g with rfl|rfl
  ·simp only[Option.some.injEq]at h;subst h;refine⟨.int k (k.wrap (Int.ofNat x*2^(min y k.bits))),?_,λp=>?_⟩
   ·have:¬((Int.ofNat y)<0):=U
    simp only[binOp,Op.shift];rw[Hq this];rfl
   ·rw[Ww,zga];have:Int.ofNat (x.mul (Nat.pow 2 (min y k.bits)))=Int.ofNat x*2^(min y k.bits):=by
     show ((x*2^(min y k.bits):Nat):Int)=_;simp
    rw[this];exact .int k _
  ·simp only[Option.some.injEq]at h;subst h;refine⟨.int k ((Int.ofNat x).fdiv (2^(min y k.bits))),?_,λp=>?_⟩
   ·have:¬((Int.ofNat y)<0):=U
    simp only[binOp,Op.shift];rw[Hq this];rfl
   ·rw[zga];have:Int.ofNat (x.div (Nat.pow 2 (min y k.bits)))=(Int.ofNat x).fdiv (2^(min y k.bits)):=by
     show ((x/2^(min y k.bits):Nat):Int)=((x:Nat):Int).fdiv (2^(min y k.bits));have e:((2:Int)^(min y k.bits))=((2^(min y k.bits):Nat):Int):=U
     rw[e,Int.fdiv_eq_ediv_of_nonneg _ (I4 _)];rfl
    rw[this];exact .int k _
 ·cases h
end
section
open Go.RowKit (Below)
def packL_append:∀a b:List UInt8,N8 (a++b)=N8 a+N8 b*256^a.length
 |[],b=>by simp[N8]
 |x::a,b=>by
  simp only[I6,N8,packL_append a b,Ie,Nat.pow_succ];rw[Nat.mul_add,Iu,Nat.mul_comm (256^a.length) 256,Nat.mul_left_comm 256]
def packL_inj:∀{a b:List UInt8},a.length=b.length→N8 a=N8 b→a=b
 |[],[],_,_=>rfl
 |[],_::_,h,_=>B8
 |_::_,[],h,_=>B8
 |x::a,y::b,h,k=>by
  simp only[N8]at k;have p:=x.toNat_lt;have z:=y.toNat_lt;have g:x.toNat=y.toNat:=J
  have j:N8 a=N8 b:=J
  rw[packL_inj Ay j,UInt8.toNat_inj.1 g]
def packL_drop:∀(i:Nat) (l:List UInt8),N8 (l.drop i)=N8 l/256^i
 |0,l=>U
 |i+1,[]=>by simp[N8]
 |i+1,b::l=>by
  rw[Ku,packL_drop i l];have g:=b.toNat_lt;simp only[N8,Nat.pow_succ];rw[Nat.mul_comm (256^i) 256,←Nat.div_div_eq_div_mul]
  congr 1
  omega
def packL_take:∀(i:Nat) (l:List UInt8),N8 (l.take i)=N8 l%256^i
 |0,l=>by simp[N8,Nat.mod_one]
 |i+1,[]=>by simp[N8]
 |i+1,b::l=>by
  rw[List.take_succ_cons];simp only[N8];rw[packL_take i l,Nat.pow_succ,Nat.mul_comm (256^i) 256];have g:=b.toNat_lt;rw[Nat.mod_mul,Nat.add_mul_mod_self_left,Ju g,Nat.add_mul_div_left _ _ J,Nat.div_eq_of_lt g,Is]
def zg4{l:List UInt8}{i:Nat}{b:UInt8}(h:l[i]?=some b):N8 l/256^i%256=b.toNat:=by
 rw[←packL_drop];have g:=(Hf.1 h).1;rw[If g,N8,(Hf.1 h).2];have j:=b.toNat_lt;omega
def unpack_pack:∀l:List UInt8,T5 l.length (N8 l)=l.map (·.toNat)
 |[]=>rfl
 |b::l=>by
  have p:=b.toNat_lt;simp only[Ie,T5,N8,Kd];have g:Nat.mod (b.toNat+256*N8 l) 256=b.toNat:=by show (b.toNat+256*N8 l)%256=_;omega
  have j:Nat.div (b.toNat+256*N8 l) 256=N8 l:=by show (b.toNat+256*N8 l)/256=_;omega
  rw[g,j,unpack_pack l]
def less_spec:∀a b:List UInt8,Op.bytesLess a b=bh (a.map (·.toNat)) (b.map (·.toNat))
 |_,[]=>by simp[Op.bytesLess,bh]
 |[],_::_=>by simp[Op.bytesLess,bh]
 |x::a,y::b=>by
  simp only[Op.bytesLess,bh,Kd,less_spec a b,Q7];have g:decide (x<y)=decide (x.toNat<y.toNat):=by rw[J6];exact UInt8.lt_iff_toNat_lt
  have j:(x==y)=Nat.beq x.toNat y.toNat:=by
   rw[I1];simp[Nat.beq_eq,UInt8.toNat_inj]
  rw[g,j]
def ze3{a b:ByteArray}:(a.toList==b.toList)=(Nat.beq a.data.toList.length b.data.toList.length&&Nat.beq (N8 a.data.toList) (N8 b.data.toList)):=by
 rw[ByteArray.toList_eq,ByteArray.toList_eq,I1];simp only[Lu,Hh,Nat.beq_eq];exact⟨λh=>by rw[h];exact⟨rfl,rfl⟩,λ⟨g,j⟩=>packL_inj g j⟩
def zr4{a b:ByteArray}:Op.bytesLess a.toList b.toList=bh (T5 a.data.toList.length (N8 a.data.toList)) (T5 b.data.toList.length (N8 b.data.toList)):=by
 rw[ByteArray.toList_eq,ByteArray.toList_eq,less_spec,unpack_pack,unpack_pack]
def zgf(a b:ByteArray):(a++b).data.toList=a.data.toList++b.data.toList:=by
 simp
def zrb(D:Program)(w:World){op:BinOp}{x y:ByteArray}{v:AV}(t:TypeId)
  (h:uv op x.data.toList.length (N8 x.data.toList) y.data.toList.length (N8 y.data.toList)=some v) :
  ∃u,(binOp op t (.string x) (.string y)).run D w=.ok u w∧∀z,VR z v u:=by
 have A:binOp op t (.string x) (.string y)=Op.stringOp op x y∨op=.shl∨op=.shr:=by cases op<;>simp[binOp]
 rcases A with A|rfl|rfl
 ·rw[A];have j:=ze3 (a:=x) (b:=y);have p:=zr4 (a:=x) (b:=y);unfold Op.stringOp;cases op<;>simp only[uv]at h
  case add =>
   split at h
   ·rename_i B;cases h;have g:=Hw B;have C:x.size+y.size≤M1:=g;refine⟨.string (x++y),?_,λz=>.str ?_ ?_⟩
    ·dsimp only;rw[Hq]
     ·rfl
     ·simp only[IntKind.max,IntKind.signed,IntKind.bits,Kh];unfold M1 at C;omega
    ·rw[zgf,Hv];rfl
    ·rw[zgf,packL_append];rfl
   ·cases h
  case eql=>cases h;exact⟨_,rfl,λz=>by rw[←j];exact .bool _⟩
  case neq=>cases h;exact⟨_,rfl,λz=>by rw[←j];exact .bool _⟩
  case lss=>cases h;exact⟨_,rfl,λz=>by rw[←p];exact .bool _⟩
  case leq=>cases h;exact⟨_,rfl,λz=>by rw[←p,←j];exact .bool _⟩
  case gtr=>cases h;exact⟨_,rfl,λz=>by rw[←p,←j];exact .bool _⟩
  case geq=>cases h;exact⟨_,rfl,λz=>by rw[←p];exact .bool _⟩
  all_goals cases h
 ·simp[uv]at h
 ·simp[uv]at h
end
section
open Go.RowKit (Below)
def zu7{l r:List AV}{n:Nat}(h:V6 l g n=some r)(p:VRs E l X.toList)(z:∀a∈l,a.one=true) :
  VRs E r (X.extract g (g+n)).toList∧(∀a∈r,a.one=true)∧r.length=n:=by
 unfold V6 at h;split at h
 ·rename_i A;have j:=Hw A;cases h;have e:(X.extract g (g+n)).toList=(X.toList.drop g).take n:=by
   rw[Array.toList_extract,List.extract_eq_take_drop,Nat.add_sub_cancel_left]
  refine⟨by rw[e];exact (p.drop g).take n,λa B=>z a (Jk (Kr B)),?_⟩;have C:g+n≤l.length:=j;simp;omega
 ·cases h
def zdo{w:World}{t:TypeId}{n:Nat}(A:Ro p t=some I)(C:N7 p t=some n){l:List AV}{a:AV}(h:W5 I n l g=some a)
  (B:VRs E l X.toList) (D:∀a∈l,a.one=true):∃v,(part t X g).run p w=.ok v w∧VR E a v:=by
 unfold W5 at h;cases I with
 |true =>
  simp only at h;cases j:V6 l g n with
  |none=>rw[j]at h;cases h
  |some r =>
   rw[j]at h;cases h;obtain⟨F,G,_⟩:=zu7 j B D;exact⟨_,by simp[part,t8 A,Ri C],.agg F G⟩
 |false =>
  simp only at h;obtain⟨v,H,K⟩:=B.get h;have z:X[g]?=some v:=D4
  exact⟨v,by simp[part,t8 A,z],K⟩
def zb1{w:World}{t:TypeId}{l:List AV}{a:AV}(h:sw p t l g=some a)
  (j:VRs E l X.toList) (z:∀a∈l,a.one=true):∃v,(part t X g).run p w=.ok v w∧VR E a v:=by
 unfold sw at h;split at h
 ·rename_i C n A B;exact zdo A B h j z
 ·cases h
def zfw{t:TypeId}{g:Array Field}(h:p.underlying t=some (.struct g)):p.fieldsOf t=g:=by simp[Program.fieldsOf,h]
def qi(d:Nat)(t:TypeId)(n:Nat)(g j:Array Value):List Nat→Sem Bool
 |[]=>pure true
 |i::l=>do
  let a ←part t g (i*n);let b ←part t j (i*n);let r ←Op.equalIn d t a b
  if (!r)=true then pure false else qi d t n g j l
def zdl(w:World)(d:Nat){t e:TypeId}{n s:Nat}(g j:Array Value)(C:p.underlying t=some (.array n e))(D:N7 p e=some s) :
  (Op.equalIn (d+1) t (.agg g) (.agg j)).run p w=(qi d e s g j (List.range n)).run p w:=by
 simp only[Op.equalIn,Sem.run_bind,Nm C,Result.andThen_ok,Ri D,Std.Legacy.Range.forIn_eq_forIn_range'];have:List.range' 0 n=List.range n:=List.range_eq_range'.symm;simp only[Std.Legacy.Range.size,Nat.sub_zero,Ma,Nat.div_one,this];generalize List.range n=l
 induction l generalizing w with
 |nil=>simp[qi]
 |cons i l E =>
  simp only[List.forIn_cons,qi,Sem.run_bind,Sem.run_ite];generalize (part e g (i*s)).run p w=F;cases F with
  |ok a z =>
   simp only[Result.andThen_ok];generalize (part e j (i*s)).run p z=G;cases G with
   |ok b A =>
    simp only[Result.andThen_ok];generalize (Op.equalIn d e a b).run p A=H;cases H with
    |ok r B =>
     cases r
     ·simp only[Result.andThen_ok,Ls,Kh,Sem.run_pure]
     ·simp only[Result.andThen_ok,Bool.not_true,Ka,L9,Sem.run_pure];exact E B
    |halt x B=>simp[Result.andThen]
   |halt x A=>simp[Result.andThen]
  |halt x z=>simp[Result.andThen]
def zg9{P:Program}{w:World}{O:CM}{d:Nat}{f:TypeId→AV→AV→Option Bool}
  (z:∀t a b r x y,f t a b=some r→VR O a x→VR O b y→(Op.equalIn d t x y).run P w=.ok r w)
  {A B:List AV} {H I:Array Value} (C:VRs O A H.toList) (j:∀a∈A,a.one=true) (D:VRs O B I.toList) (p:∀a∈B,a.one=true) :
  ∀{E:List Field} {r:Bool},Xm P f A B E=some r→(Op.eqFields d H I E).run P w=.ok r w
 |[],r,h=>Bw
 |fd::E,r,h=>by
  unfold Xm at h;split at h
  ·rename_i F
   have g : fd.name ≠ "_" := Cl
   split at h
   ·rename_i a b Q R;obtain⟨u,K,L⟩:=zb1 (w:=w) Q C j;obtain⟨v,M,N⟩:=zb1 (w:=w) R D p;split at h
    ·rename_i G;have:=z _ _ _ _ _ _ G L N;simp only[Op.eqFields,Hs g,Sem.run_bind,K,M,this,Result.andThen_ok];simpa using zg9 z C j D p h
    ·rename_i G;have:=z _ _ _ _ _ _ G L N;cases h;simp only[Op.eqFields,Hs g,Sem.run_bind,K,M,this,Result.andThen_ok];simp
    ·cases h
   ·cases h
  ·rename_i F
   have g : fd.name = "_" := Cl
   simp only[Op.eqFields,g,ne_eq,not_true_eq_false,L9];exact zg9 z C j D p h
def zlq{G:Program}{w:World}{M:CM}{d:Nat}{f:TypeId→AV→AV→Option Bool}{t:TypeId}{n:Nat}
  (A:∀t a b r x y,f t a b=some r→VR M a x→VR M b y→(Op.equalIn d t x y).run G w=.ok r w)
  {B C:List AV} {D E:Array Value} (H:VRs M B D.toList) (g:∀a∈B,a.one=true) (I:VRs M C E.toList) (j:∀a∈C,a.one=true) :
  ∀{l:List Nat} {r:Bool},dv G f t n B C l=some r→(qi d t n D E l).run G w=.ok r w
 |[],r,h=>Bw
 |i::l,r,h=>by
  unfold dv at h;split at h
  ·rename_i a b N O;obtain⟨u,P,K⟩:=zb1 (w:=w) N H g;obtain⟨v,Q,L⟩:=zb1 (w:=w) O I j;have p:(part t D (i*n)).run G w=.ok u w:=P;have z:(part t E (i*n)).run G w=.ok v w:=Q;split at h
   ·rename_i F;have:=A _ _ _ _ _ _ F K L;simp only[qi,Sem.run_bind,p,z,this,Result.andThen_ok];simpa using zlq A H g I j h
   ·rename_i F;have:=A _ _ _ _ _ _ F K L;cases h;simp only[qi,Sem.run_bind,p,z,this,Result.andThen_ok];simp
   ·cases h
  ·cases h
set_option maxHeartbeats 1000000 in
def zw8{w:World}{d:Nat}{f:TypeId→AV→AV→Option Bool}
  (C:∀t a b r x y,f t a b=some r→VR E a x→VR E b y→(Op.equalIn d t x y).run p w=.ok r w)
  {t:TypeId} {a b:AV} {r:Bool} {x y:Value} (h:Yh p f t a b=some r) (g:VR E a x) (j:VR E b y):(Op.equalIn (d+1) t x y).run p w=.ok r w:=by
  unfold Yh at h;split at h
  case h_1 hu=>cases h;cases g;cases j;simp[Op.equalIn,Nm hu]
  case h_2 hu =>
   split at h
   ·rename_i D;cases h;cases g;cases j;have:=wz D;subst this;simp[Op.equalIn,Nm hu,jh]
   ·cases h
  case h_3 hu =>
   cases h;cases g with
   |str F G =>
    cases j with
    |str H I =>
     subst F G H I;rw[←ze3,←beq_toListBytes];simp[Op.equalIn,Nm hu]
  case h_21 hu =>
   split at h
   ·cases h
   ·rename_i B;cases g with
    |agg g z =>
     cases j with
     |agg j A =>
      rw[run_equalIn_struct w d t _ _ (by rw[zfw hu];exact hu) D6,zfw hu];exact zg9 C g z j A h
  case h_22 hu =>
   split at h
   ·rename_i s B;cases g with
    |agg g z =>
     cases j with
     |agg j A =>
      rw[zdl w d _ _ hu B];exact zlq C g z j A h
   ·cases h
  case h_23=>cases h
  all_goals
   rename_i hu;cases h;cases g;cases j;simp[Op.equalIn,Nm hu]
def zpq{p:Program}{w:World}{z:CM}(d:Nat):∀(n:Nat) (t:TypeId) (a b:AV) (r:Bool) (x y:Value),wn p n t a b=some r→VR z a x→VR z b y →
  (Op.equalIn (d+n) t x y).run p w=.ok r w
 |0,_,_,_,_,_,_,h,_,_=>Al
 |n+1,_,_,_,_,_,_,h,g,j=>zw8 (λt a b r x y=>zpq d n t a b r x y) h g j
end
section
open Go.RowKit (Below)
def zbz{w:World}(op:BinOp)(t:TypeId)(x y:Operand){a b:Value}(g:¬(a=.nilIface∧b=.nilIface))(j:∀c d,¬(a=.agg c∧b=.agg d)) :
  (eqGuard op t x y a b).run p w=.ok () w:=by
 unfold eqGuard;split<;>first
  |rfl
  | (rw [Hq (by decide)]
     split
     ·exact absurd ⟨rfl,rfl⟩ g
     ·exact absurd ⟨rfl,rfl⟩ (j _ _)
     ·rfl)
def zl9{w:World}(op:BinOp)(t:TypeId)(x y:Operand)(k g:IntKind)(a b:Int):(eqGuard op t x y (.int k a) (.int g b)).run p w=.ok () w :=
 zbz op t x y (λh=>by cases h.1) (λ_ _ h=>by cases h.1)
def ziv{w:World}(op:BinOp)(t:TypeId)(x y:Operand){a b:AV}{u v:Value}(hu:VR E a u)(g:VR E b v)
  (j:uk p (Uv x || Uv y) t a b=true):(eqGuard op t x y u v).run p w=.ok () w:=by
 by_cases z:u=.nilIface∧v=.nilIface
 ·obtain⟨rfl,rfl⟩:=z;cases hu;cases g;have B:(Uv x || Uv y)=true:=j;unfold eqGuard;split<;>first
   |rfl
   | (rw [Hq (by decide)]
      dsimp only;rw[Hs]
      ·rfl
      ·cases x<;>cases y<;>simp_all [Uv])
 ·by_cases A:∃c d,u=.agg c∧v=.agg d
  ·obtain⟨c,d,rfl,rfl⟩:=A;cases hu;cases g;exact run_eqGuard_agg w op t x y c d (by simpa [uk] using j)
  ·exact zbz op t x y z (λc d h=>A ⟨c,d,h⟩)
def zwe{t:TypeId}{a b:AV}{u v:Value}(hu:VR E a u)(g:VR E b v)(j:∀k x p y,¬(a=.int k x∧b=.int p y))(z:∀l x m y,¬(a=.str l x∧b=.str m y)) :
  binOp .eql t u v=(do pure (.bool (←Op.equal t u v)))∧binOp .neq t u v=(do pure (.bool (!(←Op.equal t u v)))):=by
 cases hu<;>cases g<;>first
  |exact⟨rfl,rfl⟩
  |exact absurd ⟨rfl,rfl⟩ (j _ _ _ _)
  |exact absurd ⟨rfl,rfl⟩ (z _ _ _ _)
def zpa{w:World}{t:TypeId}{a b:AV}{r:Bool}(h:Qn p I t a b=some r){u v:Value}(hu:VR E a u)(g:VR E b v) :
  uk p I t a b=true∧(Op.equal t u v).run p w=.ok r w:=by
 unfold Qn at h;split at h
 ·rename_i j;exact⟨j,zpq 9980 20 t a b r u v h hu g⟩
 ·cases h
def zuz{w:World}{op:BinOp}{t:TypeId}(x y:Operand){a b r:AV}(h:Oh p op (Uv x || Uv y) t a b=some r){u v:Value}(hu:VR E a u)(z:VR E b v) :
  (eqGuard op t x y u v).run p w=.ok () w∧∃B,(binOp op t u v).run p w=.ok B w∧VR E r B:=by
 unfold Oh at h;split at h
 ·cases hu;cases z;refine⟨zl9 op t x y _ _ _ _,?_⟩;split at h
  ·obtain⟨B,g,j⟩:=zg0 p w (.inl rfl) t h;exact⟨B,g,j E⟩
  ·obtain⟨B,g,j⟩:=zg0 p w (.inr rfl) t h;exact⟨B,g,j E⟩
  ·split at h
   ·rename_i D;have:=wz D;subst this;obtain⟨B,g,j⟩:=zso p w t h;exact⟨B,g,j E⟩
   ·cases h
 ·cases hu with
  |str g j =>
   cases z with
   |str F G =>
    subst g j F G;refine⟨zbz op t x y (λh=>by cases h.1) (λ_ _ h=>by cases h.1),?_⟩;obtain⟨B,g,j⟩:=zrb p w t h;exact⟨B,g,j E⟩
 ·rename_i H I;have C:=zwe (t:=t) hu z (λk x K y e=>H k x K y e.1 e.2) (λl x m y e=>I l x m y e.1 e.2);split at h
  ·cases A:Qn p (Uv x || Uv y) t a b with
   |none=>rw[A]at h;cases h
   |some s =>
    rw[A]at h;cases h;obtain⟨g,j⟩:=zpa (w:=w) A hu z;exact⟨ziv _ t x y hu z g,.bool s,by rw[C.1];simp[j],.bool s⟩
  ·cases A:Qn p (Uv x || Uv y) t a b with
   |none=>rw[A]at h;cases h
   |some s =>
    rw[A]at h;cases h;obtain⟨g,j⟩:=zpa (w:=w) A hu z;exact⟨ziv _ t x y hu z g,.bool (!s),by rw[C.2];simp[j],.bool (!s)⟩
  ·cases h
def jb{P:Program}{w:World}{g:Sem Next}{o:Option AV}(j:Rel B E A w)
  (h:∀a,o=some a→∃p,g.run P w=.ok (.value p) w∧VR E a p):Qh P B E w g (ret1 A o):=by
 cases o with
 |none=>exact trivial
 |some a=>obtain⟨p,z,C⟩:=h a rfl;exact Ol j C z
def zvk(F:Program)(op:BinOp)(t g:TypeId)(x y:Operand)(o:Oper)(j:o.op=.binOp op t x y g):M9 F (Nj F (.binOp op t x y g)) (λG=>execOp G o):=by
 refine Wl λH K L w G a b p z A=>jb p λr B=>?_
 obtain⟨C,I,D,E⟩:=zuz (w:=w) x y B z A;exact⟨I,by simp[execOp,j,C,D],E⟩
def W2(D:Program)(op:UnOp)(t:TypeId)(x:Operand)(o:Oper)(z:o.op=.unOp op t x):M9 D (Nj D (.unOp op t x)) (λA=>execOp A o):=by
 refine Rt λE F G w A a C g=>jb C λr j=>?_
 unfold unA at j;split at j
 ·rename_i k n;cases j;generalize p:A x=B at g;cases g;exact⟨.int k (k.wrap (0-n)),by simp[execOp,z,p,Op.unary,Op.intArith],by rw[Ww];exact .int _ _⟩
 ·rename_i k n;cases j;generalize p:A x=B at g;cases g;exact⟨.int k (k.wrap (BitVec.ofInt k.bits (if k.signed then -1 else k.max) ^^^ BitVec.ofInt k.bits n).toNat),by simp[execOp,z,p,Op.unary,Op.intBits],.int _ _⟩
 ·rename_i b;cases j;generalize p:A x=B at g;cases g;exact⟨.bool (!b),by simp[execOp,z,p,Op.unary],.bool _⟩
 ·cases j
def VRs.set{C:CM}:∀{l:List AV} {r:List Value},VRs C l r→∀(i:Nat) {a:AV} {v:Value},VR C a v→VRs C (l.set i a) (r.set i v)
 |_,_,.nil,_,_,_,_=>.nil
 |_,_,.cons _ es,0,_,_,h=>.cons h es
 |_,_,.cons e es,i+1,_,_,h=>.cons e (VRs.set es i h)
def et{l:List AV}(h:∀a∈l,a.one=true){i:Nat}{a:AV}(j:a.one=true):∀b∈l.set i a,b.one=true:=by
 intro b p;rcases List.mem_or_eq_of_mem_set p with g|g
 ·exact h b g
 ·rw[g];exact j
def zm5{B:CM}{off:Nat}:∀(l:List AV) (r:List Value) (g:List AV) (p:Array Value) (j:Nat),VRs B l r→(∀a∈l,a.one=true)→VRs B g p.toList→(∀a∈g,a.one=true) →
  VRs B (Sx g (off+j) l) ((r.zipIdx j).foldl (λg (c,j)=>g.setIfInBounds (off+j) c) p).toList∧(∀a∈Sx g (off+j) l,a.one=true)
 |[],_,g,p,j,.nil,_,h,z=>⟨h,z⟩
 |a::l,v::r,g,p,j,.cons e C,A,h,z=>by
  simp only[Sx,List.zipIdx_cons,List.foldl_cons];have:=zm5 (off:=off) l r (g.set (off+j) a) (p.setIfInBounds (off+j) v) (j+1) C (λb D=>A b Ai)
   (by rw[Array.toList_setIfInBounds];exact h.set _ e) (et z (A a U))
  rw[show off+j+1=off+(j+1) from J];exact this
def zsf(v:Array Value)(off:Nat)(j:Array Value):v.zipIdx.foldl (λg (c,p)=>g.setIfInBounds (off+p) c) j=(v.toList.zipIdx 0).foldl (λg (c,p)=>g.setIfInBounds (off+p) c) j:=by
 rw[←Array.foldl_toList,Array.toList_zipIdx]
def xl{j:Nat→Option (Nat×Nat)}:∀{l:List (Nat×Operand)} {F:List Part},bj j l=some F →
  ∀{C:CM} {V:Tr AV} {I:Operand→Value},km C V I→∀{p r:List AV} {z:Array Value},Ym p F V=some r→VRs C p z.toList→(∀a∈p,a.one=true) →
  ∃G,Instr.fill j z (l.map λ(i,x)=>(i,I x))=some G∧VRs C r G.toList∧(∀a∈r,a.one=true)
 |[],F,h,C,V,I,K,p,r,z,g,H,L=>by
  cases h;cases g;exact⟨z,rfl,H,L⟩
 |(i,x)::l,F,h,C,V,I,K,p,r,z,g,H,L=>by
  simp only[bj]at h;split at h
  ·cases h
  ·rename_i o s M;split at h
   ·cases h
   ·rename_i X N;cases h;simp only[Ym]at g;split at g
    ·cases g
    ·rename_i a Y;split at g
     ·cases g
     ·rename_i q Z;split at g
      ·rename_i B;split at g
       ·rename_i O;have A:q.length=s:=Hn B;have S:o+s≤p.length:=Hw O;obtain⟨T,k2⟩:=(K _ _ Y).cells Z;have P:=T.length;have Q:=H.length;have R:=zm5 (off:=o) q _ p z 0 T k2 H L;rw[Kq]at R;obtain⟨G,q1,q2,q3⟩:=xl N K g R.1 R.2;refine⟨G,?_,q2,q3⟩;have e1:(I x).cells.size=s:=by rw[←A,P];simp
        have D:¬((decide ((I x).cells.size≠s) || decide (o+(I x).cells.size>z.size))=true):=by
         intro E;simp only[ne_eq,J3,Ht]at E;rcases E with E|E
         ·exact E e1
         ·simp at Q;omega
        rw[Kd];simp only[Instr.fill,M];rw[Hq D,zsf];exact q1
       ·cases g
      ·cases g
def zcz{p:Program}{w:World}:∀{l:List Field} {r:List (Nat×Nat)},td p l=some r →
  (l.mapM λf=>do pure (f.offset,←sizeOf f.type):Sem (List (Nat×Nat))).run p w=.ok r w
 |[],r,h=>Bw
 |f::l,r,h=>by
  simp only[td]at h;split at h
  ·cases h
  ·rename_i s g;split at h
   ·cases h
   ·rename_i z j;cases h;simp only[List.mapM_cons,Sem.run_bind,Ri g,Result.andThen_ok,Sem.run_pure,zcz j]
def zot(A:Program)(t:TypeId)(g:Array (Nat×Operand)):M9 A (oi A t g) (λR=>do pure (.value (←Instr.build t (g.map λ(i,x)=>(i,R x))))):=by
 unfold oi;split
 ·exact Nk A _
 ·rename_i cs S;split
  ·rename_i j hu;split
   ·exact Nk A _
   ·rename_i B D;split
    ·exact Nk A _
    ·rename_i V z;intro X Y gg w gA R E F;dsimp only;split
     ·rename_i l G;obtain⟨v,i,H,I,Z,h4⟩:=jc (w:=w) S;obtain⟨K,L⟩:=V5 (C:=Y) I;obtain⟨M,N,O,P⟩:=xl z F G K L;refine Ol E (.agg O P) ?_;have hm:(j.mapM λf=>do pure (f.offset,←sizeOf f.type):Sem (Array (Nat×Nat))).run A w=.ok B.toArray w:=by
       rw[Array.mapM_eq_mapM_toList];simp only[Sem.run_map,zcz D,Result.andThen_ok]
      have Q:Instr.fill (B.toArray[·]?) v.cells (g.map λ(i,x)=>(i,R x)).toList=some M:=by
       rw[Ji];have:(λi:Nat=>B.toArray[i]?)=(λi:Nat=>B[i]?):=by funext i;simp
       rw[this];exact N
      simp only[Instr.build,Sem.run_bind,H,Nm hu,hm,Result.andThen_ok,Q,Sem.run_pure]
     ·exact trivial
  ·rename_i n T hu;split
   ·exact Nk A _
   ·rename_i p hs;split
    ·exact Nk A _
    ·rename_i V z;intro X Y gg w gA R E F;dsimp only;split
     ·rename_i l G;obtain⟨v,i,H,I,Z,h4⟩:=jc (w:=w) S;obtain⟨K,L⟩:=V5 (C:=Y) I;obtain⟨M,N,O,P⟩:=xl z F G K L;refine Ol E (.agg O P) ?_;have Q:Instr.fill (λi=>some (i*p,p)) v.cells (g.map λ(i,x)=>(i,R x)).toList=some M:=by
       rw[Ji];exact N
      simp only[Instr.build,Sem.run_bind,H,Nm hu,Ri hs,Result.andThen_ok,Q,Sem.run_pure]
     ·exact trivial
  ·exact Nk A _
end
section
open Go.RowKit (Below)
def z5r(l:List AV):∀n,(R4 l n).length=n*l.length
 |0=>by simp[R4]
 |n+1=>by rw[R4,Hv,z5r l n,Nat.succ_mul];omega
def oj{l:List AV}(h:∀a∈l,a.one=true):∀n,∀a∈R4 l n,a.one=true
 |0,a,g=>by simp[R4]at g
 |n+1,a,g=>by
  rw[R4,Ib]at g;rcases g with g|g
  ·exact h a g
  ·exact oj h n a g
def Rz(l:List Value):Nat→List Value
 |0=>[]
 |n+1=>l++Rz l n
def l9{C:CM}{l:List AV}{r:List Value}(h:VRs C l r):∀n,VRs C (R4 l n) (Rz r n)
 |0=>.nil
 |n+1=>h.append (l9 h n)
def zh4(l:List Value):∀n,(Rz l n).length=n*l.length
 |0=>by simp[Rz]
 |n+1=>by rw[Rz,Hv,zh4 l n,Nat.succ_mul];omega
def zpo(l:List Value):∀(n i:Nat),i<n*l.length→(Rz l n)[i]?=l[i%l.length]?
 |0,i,h=>B8
 |n+1,i,h=>by
  rw[Nat.succ_mul]at h;rw[Rz];by_cases j:i<l.length
  ·rw[Hk j,Ju j]
  ·have p:0<l.length:=by
    rcases Nat.eq_zero_or_pos l.length with g|g
    ·rw[g]at h;omega
    ·exact g
   rw[H5 J,zpo l n _ J,Nat.mod_eq_sub_mod (J:l.length≤i)]
def tx(g:Array Value)(n:Nat):((Array.range (n*g.size)).map λi=>g[i%g.size]!).toList=Rz g.toList n:=by
 apply List.ext_getElem?;intro i;rw[Ji,Jp];by_cases j:i<n*g.size
 ·rw[zpo _ _ _ Bd];have z:0<g.size:=by
   rcases Nat.eq_zero_or_pos g.size with p|p
   ·rw[p]at j;omega
   ·exact p
  have hm:i%g.size<g.size:=Nat.mod_lt _ z;simp[j,hm,getElem!_pos]
 ·have A:(Rz g.toList n).length≤i:=by rw[zh4];simp;omega
  rw[K8 A,K8 Bd];rfl
def ke(f:Nat→Value):(Array.range 0).map f=#[]:=U
def zby(g:Nat):∀(q:List (Value×Nat)) (a:Array Value),(q.foldl (λj (c,p)=>j.setIfInBounds (g+p) c) a).size=a.size
 |[],_=>rfl
 |x::q,a=>by rw[List.foldl_cons,zby g q];simp
def zfl{j:Nat→Option (Nat×Nat)}:∀{g:List (Nat×Value)} {a b:Array Value},Instr.fill j a g=some b→b.size=a.size
 |[],_,_,h=>Bw
 |(i,v)::g,a,b,h=>by
  simp only[Instr.fill]at h;split at h
  ·cases h
  ·split at h
   ·cases h
   ·rw[zfl h,←Array.foldl_toList,zby]
def zpn{C:CM}{w:World}(L:Rel B C A w)(t:TypeId){l:List AV}{o len esz:Nat}{cs:Array Value}(M:newObj A l=some (o,S))
  (H:VRs C l cs.toList) (N:∀a∈l,a.one=true) {cap:Nat} (Q:cap*esz=l.length) (j:len≤cap)
  {I:Sem Next} (D:I.run p w=.ok (.value (.slice (some ⟨w.heap.size,0,none⟩) len cap)) (w.alloc (.cells cs t))):Yq p B C w I (.sl o 0 0 len esz (some cap)) S:=by
 have g:l.length=cs.toList.length:=H.length;have E:l.length=cs.size:=B0
 obtain⟨O,z,F,G⟩:=L.newRow M t (0,0) (vs:=cs) J (by rw[g,Lv];exact H) N U;have K:len*esz≤cap*esz:=Hy _ j;refine⟨O,_,_,z,F,?_,.inl D⟩;have:=VR.sl (i:=0) (len:=len) (esz:=esz) (room:=some cap) (cap:=cap) G Br Br j (λr P=>by cases P;exact⟨rfl,Br⟩) (λh=>Al);simpa using this
def zet(F:Program)(t:TypeId)(len:Nat)(j:Array (Nat×Operand)) :
  M9 F (lh F t len j) (λS=>do pure (.value (←Instr.buildSlice t len (j.map λ(i,x)=>(i,S x))))):=by
 unfold lh;split
 ·rename_i z hu;split
  ·exact Nk F _
  ·rename_i g E;split
   ·exact Nk F _
   ·rename_i gA T;split
    ·rename_i p;obtain⟨V,N⟩:=p;split
     ·exact Nk F _
     ·rename_i ps G;intro w0 C gB w gC S X Y;dsimp only;split
      ·rename_i l Z;split
       ·rename_i o H' hn;obtain⟨v,i,h1,h2,h3,h4⟩:=jc (w:=w) T;obtain⟨H,k2⟩:=V5 (C:=C) h2;have I:v.cells.size=g:=by
         have A:=H.length;unfold N7 at E;rw[h3]at E;simp at E A;omega
        have gg:gA.length=g:=by have A:=H.length;simp at A;omega
        have B:VRs C (R4 gA len) ((Array.range (len*g)).map λi=>v.cells[i%v.cells.size]!).toList:=by
         rw[←I,tx];exact l9 H len
        obtain⟨O,P,Q,q3⟩:=xl G Y Z B (oj k2 len);have K:l.length=len*g:=by
         have A:=Q.length;have e3:=zfl P;simp at e3 A;omega
        refine zpn X z hn Q q3 K.symm (Hm _) ?_;have R:Instr.fill (λi=>some (i*g,g)) ((Array.range (len*g)).map λi=>v.cells[i%v.cells.size]!) (j.map λ(i,x)=>(i,S x)).toList=some O:=by
         rw[Ji];exact P
        have D:¬(len*g>2^24):=J
        simp only[Instr.buildSlice,Sem.run_bind,Nm hu,Ri E,Result.andThen_ok,Sem.run_ite,Hq D];by_cases L:len*g=0
        ·rw[Hs L];have M:Instr.fill (λi=>some (i*g,g)) ((Array.range (len*g)).map λi=>(#[]:Array Value)[i%(#[]:Array Value).size]!) (j.map λ(i,x)=>(i,S x)).toList=some O:=by
          rw[←R,L,ke,ke]
         simp only[Sem.run_pure,Result.andThen_ok,M,newRow,Sem.run_bind,run_newObj];rfl
        ·rw[Hq L];simp only[Sem.run_bind,h1,Sem.run_pure,Result.andThen_ok,R,newRow,run_newObj];rfl
       ·exact trivial
      ·exact trivial
    ·exact Nk F _
 ·exact Nk F _
def zks(z:Program)(t:TypeId)(l c:Operand):M9 z (ir z t l c) (λI=>do pure (.value (←Instr.makeSlice t (I l) (I c)))):=by
 unfold ir;split
 ·rename_i g hu;split
  ·exact Nk z _
  ·rename_i i A;split
   ·exact Nk z _
   ·rename_i gg P;split
    ·rename_i j;obtain⟨K,B⟩:=j;refine Wl λw0 C gA w I a b Q L M=>?_
     split
     ·rename_i x y;split
      ·rename_i D;split
       ·rename_i R;split
        ·rename_i o H' S;have p:x≤y:=Hw D;have E:y≤1048576:=Hw R;obtain⟨v,gB,T,V,N,X⟩:=jc (w:=w) P;obtain⟨O,Y⟩:=V5 (C:=C) V;rw[A]at N;cases N;have F:v.cells.size=i.size:=by have G:=O.length;simp at G;omega
         generalize I l=pl at L;generalize I c=pc at M;cases L;cases M;refine zpn Q g S (cs:=(Array.range (y*i.size)).map λk=>v.cells[k%v.cells.size]!) (by rw[←F,tx];exact l9 O y) (oj Y y) (by rw[z5r,X]) p ?_;have G:IntKind.i64.wrap (Int.ofNat x)=Int.ofNat x:=Aw
         have Z:IntKind.i64.wrap (Int.ofNat y)=Int.ofNat y:=Aw
         have e3:i.bytes*y≤65536*1048576:=Kl B E;have e4:¬((decide (Int.ofNat y<0) || decide ((i.bytes:Int)*Int.ofNat y>2^48) || decide (Int.ofNat x<0) || decide (Int.ofNat x>Int.ofNat y))=true):=by
          have e5:((i.bytes:Int)*Int.ofNat y)=((i.bytes*y:Nat):Int):=U
          rw[e5];simp only[J3,Ht,not_or];refine⟨⟨⟨U,Ab⟩,U⟩,Ab⟩
         simp only[Instr.makeSlice,Sem.run_bind,Nm hu,aj A,asInt,asIntOf,Sem.run_pure,Result.andThen_ok,G,Z,Sem.run_ite,Hq e4,run_askRoom,Ri (show N7 z g=some i.size from by simp[N7,A])];have e6:(Int.ofNat y).toNat=y:=rfl;have e7:(Int.ofNat x).toNat=x:=rfl;rw[e6,e7];by_cases H:y*i.size=0
         ·rw[Hs H];simp only[Sem.run_pure,Result.andThen_ok,newRow,Sem.run_bind,run_newObj];have:((Array.range (y*i.size)).map λk=>(#[]:Array Value)[k%(#[]:Array Value).size]!)=((Array.range (y*i.size)).map λk=>v.cells[k%v.cells.size]!):=by rw[H,ke,ke]
          rw[this];rfl
         ·rw[Hq H];simp only[Sem.run_bind,T,Sem.run_pure,Result.andThen_ok,newRow,run_newObj];rfl
        ·exact trivial
       ·exact trivial
      ·exact trivial
     ·exact trivial
    ·exact Nk z _
 ·exact Nk z _
def zjk(j:Program)(t:TypeId)(x:Operand):M9 j (mi j t x) (λA=>do pure (.value (←Instr.makeInterface t (A x)))):=by
 unfold mi;split
 ·exact Nk j _
 ·rename_i d g hu;refine Rt λB C D w A a p z=>Ol p (.iface z) ?_
  simp only[Instr.makeInterface,Sem.run_bind,Nm hu,Result.andThen_ok];cases d<;>first|rfl|exact absurd hu (g _)
 ·exact Nk j _
def zn9(C:Program)(f:Fn)(first cap:Array Operand)(p:∀l,f≠.yield l):M9 C (py f first cap) (λg=>do pure (.value (←Instr.makeFunc f (first.map g) (cap.map g)))):=by
 intro D E F w G g z j;unfold py;dsimp only;split
 ·rename_i l A;split
  ·rename_i r B;refine Ol z (.fn (.same f p) (l':=first.map g) (r':=cap.map g) ?_ ?_) rfl
   ·rw[Ji];exact ma j A
   ·rw[Ji];exact ma j B
  ·exact trivial
 ·exact trivial
def ziq{w:World}(j:Rel B E A w){z:Sem Next}(g:z.run p w=.ok (.value (.map (some w.heap.size))) (w.alloc (.map #[] 0))) :
  Qh p B E w z (V2 A):=by
 unfold V2;obtain⟨D,F⟩:=j.push (.map [] 0) (.map #[] 0) 0 0 (λG C=>by
  rw[CM.ext_same]at C;cases C;exact⟨j.low.size,#[],Wi _ _,.nil⟩)
 exact⟨_,_,_,F,D,.map (CM.ext_same _ _ _ _),.inl g⟩
def zoq(z:Program)(t:TypeId)(r:Option Operand):M9 z (jo z t r) (λp=>do pure (.value (←Instr.makeMap t (r.map p)))):=by
 unfold jo;split
 ·intro A C D w G p g E;exact ziq g (by simp[Instr.makeMap])
 ·rename_i x;split
  ·rename_i k e hu;refine Rt λA C D w p a g j=>?_
   split
   ·generalize B:p x=F at j;cases j;exact ziq g (by simp[Instr.makeMap,Nm hu,B,asInt,asIntOf])
   ·exact trivial
  ·exact Nk z _
def zhb(p:Program)(t:TypeId)(x:Operand)(f:Nat):M9 p (qj p t x f) (λA=>do pure (.value (←Instr.fieldAt t (A x) f))):=by
 unfold qj;split
 ·rename_i g hu;split
  ·exact Nk p _
  ·rename_i fd B;split
   ·exact Nk p _
   ·exact Nk p _
   ·rename_i n C D;refine Rt λG K L w A a E z=>?_
    split
    ·rename_i o v i;generalize H:A x=I at z;cases z with
     |ptr F =>
      refine Ol E (.ptr (i:=i+fd.offset) F) ?_;have j:n≠0:=C;simp[Instr.fieldAt,Nm hu,B,Instr.sureAddr,fieldPlace,Ri D,j,d6]
    ·exact trivial
 ·exact Nk p _
def zos(z:Program)(t:TypeId)(x:Operand)(f:Nat):M9 z (na z t x f) (λA=>do pure (.value (←Instr.field t (A x) f))):=by
 unfold na;split
 ·rename_i g hu;split
  ·exact Nk z _
  ·rename_i fd B;split
   ·rename_i N n C D;refine Rt λI O P w A a E j=>?_
    split
    ·generalize K:A x=L at j;cases j with
     |agg j p =>
      refine jb E λr F=>?_
      obtain⟨M,G,H⟩:=zdo (w:=w) C D F j p;exact⟨M,by simp[Instr.field,Nm hu,B,asAgg,G],H⟩
    ·exact trivial
   ·exact Nk z _
 ·exact Nk z _
end
section
open Go.RowKit (Below)
def sn{l c:Nat}(e:Nat)(h:l≤c):l*e+(c-l)*e=c*e:=by
 rw[←Ih];congr 1;omega
def V0(r:Option Nat)(v:Option Value):Prop:=match r with
 |none=>v=none
 |some n=>∃k,v=some (.int k (Int.ofNat n))
def U1{g:Operand→Value}(j:km E F g){x:Option Operand}{r:Option Nat}(h:(O2 x).run F=some r):V0 r (x.map g):=by
 cases x with
 |none=>cases h;rfl
 |some x =>
  unfold O2 at h;dsimp only at h;split at h
  ·rename_i k n p;cases h;have:=j _ _ p;generalize z:g x=v at this;cases this;exact⟨k,Ak⟩
  ·cases h
def cj{w:World}(k:IntKind){n y:Nat}(c:BoundsCode)(h:n≤y):(Instr.sliceBound (.int k (Int.ofNat n)) y c).run p w=.ok n w:=by
 have:(0:Int)≤Int.ofNat n∧Int.ofNat n≤(y:Int):=⟨U,Ab⟩;simp only[Instr.sliceBound,asIntOf,Sem.run_bind,Sem.run_pure,Result.andThen_ok,Sem.run_ite,Hs this];rfl
def ve{P:Program}{w:World}(g:Bool){len cap:Nat}{z mx:Option Nat}{a b c:Option Value}(A:V0 T a)(C:V0 z b)(E:V0 mx c)
  (hm:mx.isSome=true→z.isSome=true) (j:T.getD 0≤z.getD len) (p:z.getD len≤mx.getD cap) (B:mx.getD cap≤cap) :
  (Instr.sliceBounds g len cap a b c).run P w=.ok (T.getD 0,z.getD len,mx.getD cap) w:=by
 cases mx with
 |none =>
  cases E;simp only[Option.getD_none]at p B;cases z with
  |none =>
   cases C;cases T with
   |none=>cases A;simp[Instr.sliceBounds]
   |some l =>
    obtain⟨k,rfl⟩:=A;simp only[Jt,Option.getD_none]at j;simp only[Instr.sliceBounds,Sem.run_bind,Sem.run_pure,Result.andThen_ok,cj k _ j,Option.getD]
  |some h =>
   obtain⟨k,rfl⟩:=C;simp only[Jt]at j p;cases T with
   |none=>cases A;simp only[Instr.sliceBounds,Sem.run_bind,Sem.run_pure,Result.andThen_ok,cj k _ p,Option.getD]
   |some l =>
    obtain⟨D,rfl⟩:=A;simp only[Jt]at j;simp only[Instr.sliceBounds,Sem.run_bind,Sem.run_pure,Result.andThen_ok,cj k _ p,cj D _ j,Option.getD]
 |some m =>
  obtain⟨F,rfl⟩:=E;simp only[Jt]at p B;cases z with
  |none=>simp at hm
  |some h =>
   obtain⟨k,rfl⟩:=C;simp only[Jt]at j p;cases T with
   |none=>cases A;simp only[Instr.sliceBounds,Sem.run_bind,Sem.run_pure,Result.andThen_ok,cj F _ B,cj k _ p,Option.getD]
   |some l =>
    obtain⟨D,rfl⟩:=A;simp only[Jt]at j;simp only[Instr.sliceBounds,Sem.run_bind,Sem.run_pure,Result.andThen_ok,cj F _ B,cj k _ p,cj D _ j,Option.getD]
def ziw{o v i l h m:Nat}{z:Loc}(B:E o v=some z)(C:l≤h)(D:h≤m)(I:i+m*g≤z.n)(K:z.d+i+m*g≤z.sz) :
  VR E (Xq l h m o v i g) (.slice (some (if m=l then ⟨z.b,z.d+i,none⟩ else (⟨z.b,z.d+i,none⟩:Addr).add (l*g))) (h-l) (m-l)):=by
 unfold Xq;split
 ·rename_i p;have j:l=m:=Hn p;subst j;have:h=l:=J
  subst this;rw[Hs rfl,Lf];split
  ·exact .sl B J J (Hm _) (λr A=>by cases A;exact⟨rfl,J⟩) (λe=>Ar)
  ·exact .emp
 ·rename_i p;have j:¬m=l:=λe=>by rw[e,Ii]at p;cases p
  rw[Hq j,d6];have L:=sn g (Ix C D);have M:=sn g C;have N:h*g≤m*g:=Hy _ D;have F:Nat.add i (Nat.mul l g)=i+l*g:=rfl;have G:Nat.sub h l=h-l:=rfl;have H:Nat.sub m l=m-l:=rfl;rw[F,G,H];exact .sl B J J J (λr A=>by cases A;exact⟨rfl,J⟩) (λe=>Ar)
def zdb{o v i len l h cap:Nat}{room mx:Option Nat}{r:AV}{B:Loc}(H:E o v=some B)(V:i+len*g≤B.n)(R:B.d+i+cap*g≤B.sz)(X:len≤cap)
  (S:∀r,room=some r→cap=r∧i+r*g≤B.n) (Y:room=none→B.d+i+cap*g=B.sz) (p:im l h (room.getD len) mx o v i g room=some r) :
  l≤h∧h≤mx.getD cap∧mx.getD cap≤cap ∧
  VR E r (.slice (some (if mx.getD cap=l then ⟨B.b,B.d+i,none⟩ else (⟨B.b,B.d+i,none⟩:Addr).add (l*g))) (h-l) (mx.getD cap-l)):=by
 unfold im at p;split at p
 ·cases p
 ·rename_i I;have j:l≤h:=Hw I;split at p
  ·cases p
  ·rename_i K;have z:h≤room.getD len:=Hw K;have L:room.getD len≤cap∧i+room.getD len*g≤B.n:=by
    cases room with
    |none=>exact⟨X,V⟩
    |some r=>obtain⟨D,F⟩:=S r rfl;exact⟨Ai,F⟩
   split at p
   ·rename_i m;split at p
    ·cases p
    ·rename_i M;have C:h≤m:=Hw M;split at p
     ·cases p
     ·rename_i N;have G:m≤room.getD len:=Hw N;cases p;have D:m*g≤room.getD len*g:=Hy _ G;have F:m*g≤cap*g:=Hy _ J;exact⟨j,C,Ab,ziw H j C J J⟩
   ·split at p
    ·rename_i Z;cases p;obtain⟨D,F⟩:=S Z rfl;subst D;exact⟨j,z,Hm _,ziw H j z F R⟩
    ·have O:=Y rfl;simp only[Option.getD_none]at z ⊢;have q3:h*g≤len*g:=Hy _ z;split at p
     ·rename_i T;have P:l=0:=Hn T;subst P;cases p;refine⟨j,J,Hm _,?_⟩;have e:(if cap=0 then (⟨B.b,B.d+i,none⟩:Addr) else (⟨B.b,B.d+i,none⟩:Addr).add (0*g))=⟨B.b,B.d+i,none⟩:=by
       split
       ·rfl
       ·rw[d6];simp
      rw[e];exact .sl H J (by simpa using R) J (λr Q=>by cases Q) (λ_=>B6)
     ·rename_i T;split at p
      ·rename_i A;have e:l=h:=Hn A;subst e;cases p;refine⟨j,J,Hm _,?_⟩;rw[Lf];exact .emp
      ·rename_i A;have gg:¬l=h:=λe=>by rw[e,Ii]at A;cases A
       cases p;refine⟨j,J,Hm _,?_⟩;rw[Hq J,d6];have D:=sn g (J:l≤cap);have F:=sn g j;have e1:Nat.add i (Nat.mul l g)=i+l*g:=rfl;have e2:Nat.sub h l=h-l:=rfl;rw[e1,e2];exact .sl H J J J (λr Q=>by cases Q) (λ_=>J)
def zb9{g:Type}(f:v9→g)(x:Option v9):(x.map f).isSome=x.isSome:=by cases x<;>rfl
def V0.isSome{r:Option Nat}{v:Option Value}(h:V0 r v):r.isSome=v.isSome:=by
 cases r with
 |none=>rw[show v=none from h];rfl
 |some n=>obtain⟨k,rfl⟩:=h;rfl
def zo8(P:Program)(t:TypeId)(x:Operand)(lo V mx:Option Operand) :
  M9 P (ic P t x lo V mx) (λI=>do pure (.value (←Instr.sliceAt t (I x) (lo.map I) (V.map I) (mx.map I)))):=by
 unfold ic;split
 ·rename_i hu;split
  ·exact Nk P _
  ·intro w0 gI gK w gL I E j;dsimp only;split
   ·rename_i len n l h F G H;split
    ·rename_i h1;split
     ·rename_i h2;have Y:l.getD 0≤h.getD len:=Hw h1;have K:h.getD len≤len:=Hw h2;have A:=j _ _ F;have p:=U1 j G;have g:=U1 j H;generalize I x=X at A;cases A with
      | @str _ _ s L M =>
       subst L M;have B:=ve (P:=P) (w:=w) false (len:=s.size) (cap:=s.size) (mx:=none) (c:=none) p g rfl U Y Cj U;refine Ol E (x:=.string (s.extract (l.getD 0) (h.getD s.size))) (.str ?_ ?_) ?_
       ·rw[Lib.extract_data];have:(s.data.toList.length)=s.size:=rfl;simp;rw[this]at K;omega
       ·rw[Lib.extract_data,packL_take,packL_drop];rfl
       ·simp only[Instr.sliceAt,Sem.run_bind,Nm hu,Result.andThen_ok,Instr.slice,Option.map_none,Option.isSome_none];simp[B]
     ·exact trivial
    ·exact trivial
   ·exact trivial
 ·rename_i N hu;split
  ·exact Nk P _
  ·rename_i Z;split
   ·exact Nk P _
   ·rename_i C O;intro w0 gI gK w gL I E j;dsimp only;split
    ·rename_i o v i len gg gG l h m F G H hm;refine jb E λr D=>?_
     have A:=j _ _ F;have p:=U1 j G;have g:=U1 j H;have z:=U1 j hm;generalize I x=X at A;cases A with
     | @sl _ _ _ _ _ _ gM cap Q q1 q2 q3 q4 q5 =>
      unfold Tu at D;split at D
      ·cases D
      ·rename_i gA;have R:gg=C:=Hn gA;subst R;obtain⟨k1,k2,k3,k4⟩:=zdb Q q1 q2 q3 q4 q5 D;have B:=ve (P:=P) (w:=w) true (len:=len) (cap:=cap) p g z (by
        rw[z.isSome,g.isSome,zb9,zb9];intro e;cases V<;>simp_all) k1 k2 k3
       refine⟨_,?_,k4⟩;simp only[Instr.sliceAt,Sem.run_bind,Nm hu,Result.andThen_ok,Instr.slice,B,Ri O,Sem.run_pure,Jg];split<;>simp_all
    ·rename_i l h F G H hm;split
     ·rename_i h0;have gB:l.getD 0+h.getD 0=0:=Hn h0;have A:=j _ _ F;have p:=U1 j G;have g:=U1 j H;have z:=U1 j hm;generalize I x=X at A;cases A;have B:=ve (P:=P) (w:=w) true (len:=0) (cap:=0) p g z U J Ab U;refine Ol E .nilSl ?_;have L:l.getD 0=0:=J
      have M:h.getD 0=0:=J
      rw[L,M]at B;simp only[Instr.sliceAt,Sem.run_bind,Nm hu,Result.andThen_ok,Instr.slice,B,Ri O,Sem.run_pure];simp
     ·exact trivial
    ·rename_i l h F G H hm;split
     ·rename_i h0;have gB:l.getD 0+h.getD 0=0:=Hn h0;have A:=j _ _ F;have p:=U1 j G;have g:=U1 j H;have z:=U1 j hm;generalize I x=X at A;cases A with
      | @emp a cap =>
       have B:=ve (P:=P) (w:=w) true (len:=0) (cap:=cap) p g z U J Ab U;have L:l.getD 0=0:=J
       have M:h.getD 0=0:=J
       rw[L,M]at B;refine Ol E (x:=.slice (some (if cap=0 then a else a.add 0)) 0 cap) .emp ?_;simp only[Instr.sliceAt,Sem.run_bind,Nm hu,Result.andThen_ok,Instr.slice,B,Ri O,Sem.run_pure];simp;split<;>rfl
     ·exact trivial
    ·exact trivial
 ·rename_i n N hu;split
  ·exact Nk P _
  ·rename_i Z;split
   ·exact Nk P _
   ·rename_i C O;intro w0 gI gK w gL I E j;dsimp only;split
    ·rename_i o v i l h m F G H hm;split
     ·rename_i c S gC hg;split
      ·rename_i gD;split
       ·rename_i gE;have gH:i+n*C≤S:=Hw gE;have T:v=gC:=Hn gD;subst T;refine jb E λr D=>?_
        have A:=j _ _ F;have p:=U1 j G;have g:=U1 j H;have z:=U1 j hm;generalize I x=X at A;cases A with
        | @ptr _ _ _ gM Q =>
         unfold Tu at D;simp only[Ii]at D;have gF:=E.obj o _ (E.fresh _ _ _ Q) hg;obtain⟨p1,_,p3,_⟩:=gF gM Q;obtain⟨k1,k2,k3,k4⟩:=zdb (cap:=n) (len:=n) (room:=some n) Q J J (Hm _) (λr D=>by cases D;exact⟨rfl,J⟩) (λe=>Ar) D;have B:=ve (P:=P) (w:=w) false (len:=n) (cap:=n) p g z (by
          rw[z.isSome,g.isSome,zb9,zb9];intro e;cases V<;>simp_all) k1 k2 k3
         refine⟨_,?_,k4⟩;simp only[Instr.sliceAt,Instr.sureAddr,Sem.run_bind,Nm hu,Result.andThen_ok,B,Ri O,Sem.run_pure]
       ·exact trivial
      ·exact trivial
     ·exact trivial
    ·exact trivial
 ·exact Nk P _
end
section
open Go.RowKit (Below)
def zfr(L:Program)(t:TypeId)(x C:Operand):M9 L (mu L t x C) (λD=>do pure (.value (←Instr.indexAt t (D x) (D C)))):=by
 unfold mu;split
 ·rename_i j hu;split
  ·exact Nk L _
  ·rename_i g E;refine Wl λN R S w D a b F p z=>?_
   split
   ·rename_i o v i len A M k n;split
    ·rename_i B;split
     ·rename_i O;have G:n<len:=by rw[Q7]at B;simpa using B
      have H:A=g:=Hn O;subst H;generalize D x=P at p;generalize D C=Q at z;cases z;cases p with
      |sl I =>
       refine Ol F (.ptr (i:=i+n*A) I) ?_;have K:(0:Int)≤Int.ofNat n∧Int.ofNat n<(len:Int):=⟨U,Ab⟩;simp only[Instr.indexAt,asIntOf,Sem.run_bind,Sem.run_pure,Result.andThen_ok,Nm hu,Sem.run_ite,Hs K,Ri E];rw[d6];rfl
     ·exact trivial
    ·exact trivial
   ·exact trivial
 ·rename_i len j hu;split
  ·exact Nk L _
  ·rename_i g E;refine Wl λN R S w D a b F p z=>?_
   split
   ·rename_i o v i k n;split
    ·rename_i B;have G:n<len:=by rw[Q7]at B;simpa using B
     generalize D x=P at p;generalize D C=Q at z;cases z;cases p with
     |ptr I =>
      refine Ol F (.ptr (i:=i+n*g) I) ?_;have K:(0:Int)≤Int.ofNat n∧Int.ofNat n<(len:Int):=⟨U,Ab⟩;simp only[Instr.indexAt,asIntOf,Instr.sureAddr,Sem.run_bind,Sem.run_pure,Result.andThen_ok,Nm hu,Sem.run_ite,Hs K,Ri E];rw[d6];rfl
    ·exact trivial
   ·exact trivial
 ·exact Nk L _
def zod(K:Program)(t:TypeId)(x C:Operand):M9 K (qh K t x C) (λD=>do pure (.value (←Instr.index t (D x) (D C)))):=by
 unfold qh;split
 ·rename_i hu;refine Wl λM Z gg w D a b E g p=>?_
  split
  ·rename_i len n k i;split
   ·rename_i z;have j:i<len:=by rw[Q7]at z;simpa using z
    generalize D x=N at g;generalize D C=O at p;cases p;cases g with
    | @str _ _ s F P =>
     subst F P;have Q:i<s.size:=j;have G:s.data.toList[i]?=some s[i]:=by
      rw[Hj Bd];rfl
     have R:=zg4 G;refine Ol E (x:=.int .u8 s[i].toNat) ?_ ?_
     ·have:Int.ofNat (Nat.mod (Nat.div (N8 s.data.toList) (Nat.pow 256 i)) 256)=(s[i].toNat:Int):=by
       show ((N8 s.data.toList/256^i%256:Nat):Int)=_;rw[R]
      rw[this];exact .int _ _
     ·simp only[Instr.index,asIntOf,Sem.run_bind,Sem.run_pure,Result.andThen_ok,Nm hu];have S:(0:Int)≤Int.ofNat i:=U
      rw[Hs S];have:s[(Int.ofNat i).toNat]?=some s[i]:=by
       show s[i]?=some s[i];simp[Q]
      rw[this];rfl
   ·exact trivial
  ·exact trivial
 ·rename_i len A hu;split
  ·rename_i gA B G L;refine Wl λM Z gg w D a b E g p=>?_
   split
   ·rename_i l k n;split
    ·rename_i z;have j:n<len:=by rw[Q7]at z;simpa using z
     generalize D x=N at g;generalize D C=O at p;cases p;cases g with
     |agg g H =>
      refine jb E λr T=>?_
      obtain⟨Y,V,X⟩:=zdo (w:=w) G L T g H;refine⟨Y,?_,X⟩;have F:(0:Int)≤Int.ofNat n∧Int.ofNat n<(len:Int):=⟨U,Ab⟩;have I:(part A _ ((Int.ofNat n).toNat*B)).run K w=.ok Y w:=V;simp only[Instr.index,asIntOf,Sem.run_bind,Sem.run_pure,Result.andThen_ok,Nm hu,Sem.run_ite,Hs F,Ri L,I]
    ·exact trivial
   ·exact trivial
  ·exact Nk K _
 ·exact Nk K _
def zgy{E:CM}:∀{l:List AV} {n:Nat} {vs:List Value},T7.bytesA l=some n→VRs E l vs→∃g:List UInt8,g.length=l.length∧N8 g=n∧vs=g.map (λb=>Value.int .u8 (b.toNat:Int))
 |[],n,_,h,.nil=>by cases h;exact⟨[],rfl,rfl,rfl⟩
 |a::l,n,_,h,.cons e z=>by
  unfold T7.bytesA at h;split at h
  ·rename_i j;cases j
  ·rename_i b F j;cases j;split at h
   ·rename_i p;split at h
    ·rename_i m hm;cases h;have A:b<256:=by rw[Q7]at p;simpa using p
     cases e;obtain⟨g,B,C,D⟩:=zgy hm z;have hu:(UInt8.ofNat b).toNat=b:=Ab
     exact⟨UInt8.ofNat b::g,Ad,by rw[N8,hu,C],by rw[Kd,hu,D];rfl⟩
    ·cases h
   ·cases h
  ·cases h
def zfi(g:List UInt8):(strOfNums (g.map λb=>(b.toNat:Int))).data.toList=g:=by
 simp[strOfNums,Function.comp_def]
def zk4(w:World)(e:TypeId)(s:ByteArray):Lib.bytesWorld w e s=w.drew.alloc (.cells (Lib.bytesCells w e s) e ((Lib.bytesCells w e s).size,(Lib.bytesCells w e s).size+1)):=by
 have g:(Lib.bytesWorld w e s).heap=(w.drew.alloc (.cells (Lib.bytesCells w e s) e ((Lib.bytesCells w e s).size,(Lib.bytesCells w e s).size+1))).heap:=by
  apply Array.ext_getElem?;intro i;rcases Nat.lt_trichotomy i w.heap.size with h|h|h
  ·rw[Lib.bytesWorld_at_old w e s i h,xp w.drew _ (show i<w.drew.heap.size from h)];rfl
  ·subst h;rw[Lib.bytesWorld_at_new];exact (Wi w.drew _).symm
  ·rw[K6 (by rw[Lib.bytesWorld_size];omega),K6 (by rw[World.size_alloc];show w.heap.size+1≤i;omega)]
 show ({ heap:=(Lib.bytesWorld w e s).heap,tape:=w.tape,drawn:=w.drawn+1,os:=w.os,output:=w.output }:World)=_;rw[g];rfl
def zs5(P:Program)(p z:TypeId)(x:Operand):M9 P (T7 P p z x) (λH=>do pure (.value (←convert p z (H x)))):=by
 unfold T7;split
 ·rename_i s k C hd;refine Rt λN Z gg w H a A j=>?_
  split
  ·rename_i k' n;generalize H x=I at j;cases j;refine Ol A (x:=.int k (k.wrap n)) (by rw[Ww];exact .int _ _) ?_;simp only[convert,Sem.run_bind,Nm C,Nm hd,Result.andThen_ok,Conv.intToInt,Sem.run_pure]
  ·exact trivial
 ·rename_i e C hd;split
  ·rename_i K;refine Rt λN Z gg w H a A j=>?_
   split
   ·generalize H x=I at j;cases j;refine Ol A (x:=.string .empty) (.str rfl rfl) ?_;simp only[Sem.run_bind,run_convert_bytes_nil w p e C K 0 0 z hd,Result.andThen_ok,Sem.run_pure]
   ·rename_i o v i len X;split
    ·rename_i l hl;split
     ·rename_i n L;generalize H x=I at j;cases j with
      | @sl _ _ _ _ _ _ gB cap hL =>
       obtain⟨vs,Y,O,h3,h4,h5,h6⟩:=A.read P hl hL;obtain⟨M,q1,q2,q3⟩:=zgy L O;have G:M.length=len:=J
       refine Ol A (x:=.string (strOfNums (M.map λb=>(b.toNat:Int)))) (.str (by rw[zfi,G]) (by rw[zfi,q2])) ?_;have Q:=run_convert_bytes_arg (P:=P) w p e C K gB.b (gB.d+i) len cap (M.map λb=>(b.toNat:Int)) A3 (λgC hj=>by
        rw[Iu,h6 gC hj,q3];simp[Jp,Hj (J:gC<M.length),List.getD]) z hd
       simp only[Sem.run_bind,Q,Result.andThen_ok,Sem.run_pure]
     ·exact trivial
    ·exact trivial
   ·exact trivial
  ·exact Nk P _
 ·rename_i s gA C hd;refine Rt λN Z gg w H a A j=>?_
  split
  ·rename_i l n;have R:=j;generalize hx:H x=I at j;cases j;refine Ol A R ?_;rw[hx];cases s<;>simp_all [convert,Nm C,Nm hd]
  ·exact trivial
 ·rename_i s e C hd;split
  ·rename_i K hz;refine Rt λN Z gg w H a A j=>?_
   split
   ·rename_i len n;split
    ·rename_i o H' L;generalize H x=I at j;cases j with
     | @str _ _ g Y O =>
      subst Y O;rw[unpack_pack]at L;have D:g.size≤grownCap w g.size 0 e:=grownCap_ge w g.size 0 e;have B:VRs Z ((g.data.toList.map (·.toNat)).map λ(b:Nat)=>AV.int .u8 (Int.ofNat b)) (g.data.toList.map λb=>Value.int .u8 (b.toNat:Int)):=by
       generalize g.data.toList=q
       induction q with
       |nil=>exact .nil
       |cons b q ih=>exact .cons (.int _ _) ih
      have E:(Lib.bytesCells w e g).size=grownCap w g.size 0 e:=by simp[Lib.bytesCells];omega
      have F:((g.data.toList.map (·.toNat)).map λ(b:Nat)=>AV.int .u8 (Int.ofNat b)).length=g.size:=U
      obtain⟨C',S,T,V⟩:=A.drew.newRow L e ((Lib.bytesCells w e g).size,(Lib.bytesCells w e g).size+1) (vs:=Lib.bytesCells w e g) (by rw[F,E];exact D)
       (by
        rw[F];have:(Lib.bytesCells w e g).toList.take g.size=g.data.toList.map λb=>Value.int .u8 (b.toNat:Int):=by
         simp only[Lib.bytesCells,Lj,Ji];rw[K0 U,Hz U]
        rw[this];exact B)
       (by intro a j;simp only[Li]at j;obtain⟨b,_,rfl⟩:=j;rfl) (λi hi=>Br)
      refine⟨C',_,.slice (some ⟨w.heap.size,0,none⟩) g.size (grownCap w g.size 0 e),S,T,?_,.inl ?_⟩
      ·have:=VR.sl (i:=0) (len:=g.size) (esz:=1) (room:=none) (cap:=grownCap w g.size 0 e) V (by rw[F];dsimp only;omega) (by rw[E];dsimp only;omega) D (λr Q=>by cases Q) (λ_=>by rw[E];simp);simpa using this
      ·simp only[Sem.run_bind,Lib.run_convert_string_bytes w p z e g C hd K,Result.andThen_ok,Sem.run_pure,zk4]
    ·exact trivial
   ·exact trivial
  ·exact Nk P _
 ·exact Nk P _
def zjp(E:Program)(x:Operand)(i:Nat):M9 E (zf9 x i) (λp=>do pure (.value (←Instr.extract (p x) i))):=by
 unfold zf9;refine Rt λF H I w p a z g=>?_
 split
 ·generalize p x=G at g;cases g with
  | @tup _ A g =>
   refine jb z λr B=>?_
   obtain⟨v,C,D⟩:=g.get B;have j:A[i]?=some v:=C4
   exact⟨v,by simp[Instr.extract,j],D⟩
 ·exact trivial
def zlw(G:Program)(x:Operand)(K g:TypeId)(ok:Bool):M9 G (nm G x g ok) (λI=>do pure (.value (←Instr.typeAssert (I x) K g ok))):=by
 unfold nm;split
 ·exact Nk G _
 ·rename_i d j hu;split
  ·exact Nk G _
  ·rename_i P L;refine Rt λN O Q w I a D p=>?_
   obtain⟨H,A,F⟩:=zl5 (w:=w) L;have B:=zft (C:=O) F;split
   ·generalize I x=M at p;cases p;cases ok with
    |false=>exact trivial
    |true =>
     refine Ol D (x:=.tuple #[H,.bool false]) (.tup (.cons B (.cons (.bool _) .nil))) ?_;simp only[Instr.typeAssert,Sem.run_bind,Nm hu,Result.andThen_ok];cases d<;>first|(simp[A];done)|exact absurd hu (j _)
   ·rename_i t v;generalize I x=M at p;cases p with
    | @iface _ _ u p =>
     split
     ·rename_i E;have z:t=g:=Hn E;subst z;cases ok with
      |false =>
       refine Ol D (x:=u) p ?_;simp only[Instr.typeAssert,Sem.run_bind,Nm hu,Result.andThen_ok];cases d<;>first|(simp;done)|exact absurd hu (j _)
      |true =>
       refine Ol D (x:=.tuple #[u,.bool true]) (.tup (.cons p (.cons (.bool _) .nil))) ?_;simp only[Instr.typeAssert,Sem.run_bind,Nm hu,Result.andThen_ok];cases d<;>first|(simp;done)|exact absurd hu (j _)
     ·rename_i E;have z:¬t=g:=λe=>by rw[e,Ii]at E;cases E
      cases ok with
      |false=>exact trivial
      |true =>
       refine Ol D (x:=.tuple #[H,.bool false]) (.tup (.cons B (.cons (.bool _) .nil))) ?_;simp only[Instr.typeAssert,Sem.run_bind,Nm hu,Result.andThen_ok];cases d<;>first|(simp[A,z];done)|exact absurd hu (j _)
   ·exact trivial
 ·exact Nk G _
end
section
open Go.RowKit (Below)
def zd6{t:TypeId}{d:TypeDesc}(h:Ti p t=some d):p.underlying t=some d∧(d=.bool∨(∃k,d=.int k)∨d=.string):=by
 unfold Ti at h;split at h
 ·rename_i hu;cases h;exact⟨hu,.inl rfl⟩
 ·rename_i k hu;cases h;exact⟨hu,.inr (.inl ⟨k,rfl⟩)⟩
 ·rename_i hu;cases h;exact⟨hu,.inr (.inr rfl)⟩
 ·cases h
def js{w:World}{t:TypeId}{d:TypeDesc}(h:Ti p t=some d)(e:Bool)(v:Value):(Instr.checkKey e 10000 t v).run p w=.ok () w:=by
 obtain⟨hu,hd⟩:=zd6 h;show (Instr.checkKey e (9999+1) t v).run p w=_;unfold Instr.checkKey;simp only[Sem.run_bind,Nm hu,Result.andThen_ok];rcases hd with rfl|⟨k,rfl⟩|rfl<;>rfl
def i9{d:TypeDesc}{a b:AV}{r:Bool}(h:cu d a b=some r){u v:Value}(hu:VR E a u)(g:VR E b v) :
  Instr.sameNow d u v=some r∧(r=true→Instr.sameBits 10000 v u=true):=by
 unfold cu at h;split at h
 ·split at h
  ·rename_i p;have:=wz p;subst this;cases h;cases hu;cases g;rename_i _ F x y _;refine⟨by simp[Instr.sameNow,jh],λe=>?_⟩;rw[jh]at e;have:x=y:=C8
   subst this;simp[Instr.sameBits]
  ·cases h
 ·cases h;cases hu with
  | @str _ _ s z A =>
   cases g with
   | @str _ _ j B C =>
    subst z A B C;rw[←ze3,←beq_toListBytes];refine⟨by simp[Instr.sameNow],λe=>?_⟩;have:s=j:=by
     have D:s.data.toList=j.data.toList:=by rw[beq_toListBytes]at e;rw[←ByteArray.toList_eq,←ByteArray.toList_eq];simpa using e
     exact ByteArray.ext (Lw.1 D)
    subst this;simp only[Instr.sameBits];rw[beq_toListBytes];simp
 ·cases h;cases hu;cases g;rename_i x y;refine⟨by simp[Instr.sameNow],λe=>?_⟩;have:x=y:=C8
  subst this;simp[Instr.sameBits]
 ·cases h
def zdr{C:CM}{d:TypeDesc}{k:AV}{u:Value}(hu:VR C k u):∀{z:List (AV×AV×Nat)} {g:List MapEntry} {r:Option AV} (i:Nat),ju d k z=some r→MR C z g →
  match r with
  |none=>Instr.findNow d u g i=some none
  |some a=>∃A v,Instr.findNow d u g i=some (some (A,v))∧VR C a v
 |[],[],r,i,h,.nil=>Bw
 |(F,G,b)::l,e::_,r,i,h,.cons p B H hm=>by
  unfold ju at h;split at h
  ·rename_i j;cases h;exact⟨i,e.val,by simp[Instr.findNow,(i9 j hu p).1],B⟩
  ·rename_i j;have:=zdr hu (i+1) h hm;cases r with
   |none=>simpa [Instr.findNow,(i9 j hu p).1] using this
   |some a =>
    obtain⟨A,v,D,E⟩:=this;exact⟨A,v,by simpa [Instr.findNow,(i9 j hu p).1] using D,E⟩
  ·cases h
def kn{w:World}{t:TypeId}{d:TypeDesc}(hu:p.underlying t=some d){k:Value}{g:List MapEntry}{r:Option (Nat×Value)}(h:Instr.findNow d k g 0=some r) :
  (Instr.findKey t k g).run p w=.ok r w:=by
 simp[Instr.findKey,Nm hu,h]
def zni(Q:Program)(t:TypeId)(x L:Operand)(ok:Bool):M9 Q (nv Q t x L ok) (λF=>do pure (.value (←Instr.lookup t (F x) (F L) ok))):=by
 unfold nv;split
 ·rename_i Z V hu;split
  ·rename_i d gA hd hz;refine Wl λw0 C gB w F a b M N X=>?_
   split
   ·exact trivial
   ·rename_i es j;obtain⟨z,_⟩:=zd6 hd;obtain⟨O,G,R⟩:=zl5 (w:=w) hz;have H:=zft (C:=C) R;have I:∃g:Array MapEntry,MR C es g.toList∧((F x=.map none∧g=#[])∨∃b E,F x=.map (some b)∧w.heap[b]?=some (.map g E)):=by
     unfold vy at j;split at j
     ·cases j;generalize F x=px at N;cases N;exact⟨#[],.nil,.inl ⟨rfl,rfl⟩⟩
     ·rename_i o;split at j
      ·rename_i gg E K;cases j;generalize F x=px at N;cases N with
       |map Y =>
        obtain⟨_,g,B,P⟩:=M.obj o _ (M.fresh _ _ _ Y) K _ Y;exact⟨g,P,.inr ⟨_,_,rfl,B⟩⟩
      ·cases j
     ·cases j
    obtain⟨g,hm,A⟩:=I;split
    ·rename_i v S;obtain⟨gC,u,B,P⟩:=zdr X 0 S hm;have p:(Instr.lookup t (F x) (F L) ok).run Q w=.ok (if ok then .tuple #[u,.bool true] else u) w:=by
      unfold Instr.lookup;rcases A with ⟨D,rfl⟩|⟨r,E,D,T⟩
      ·simp only[Sem.run_bind,Nm hu,Result.andThen_ok,D,js hd,kn z B,Sem.run_pure]
      ·have K:(getObj r).run Q w=.ok (.map g E) w:=Dw
       simp only[Sem.run_bind,Nm hu,Result.andThen_ok,D,K,js hd,kn z B,Sem.run_pure]
     refine Ol M (x:=if ok then .tuple #[u,.bool true] else u) ?_ A7;cases ok with
     |true=>exact .tup (.cons P (.cons (.bool _) .nil))
     |false=>exact P
    ·rename_i S;have B:=zdr X 0 S hm;have p:(Instr.lookup t (F x) (F L) ok).run Q w=.ok (if ok then .tuple #[O,.bool false] else O) w:=by
      unfold Instr.lookup;rcases A with ⟨D,rfl⟩|⟨r,E,D,T⟩
      ·simp only[Sem.run_bind,Nm hu,Result.andThen_ok,D,js hd,kn z B,Sem.run_pure,G]
      ·have K:(getObj r).run Q w=.ok (.map g E) w:=Dw
       simp only[Sem.run_bind,Nm hu,Result.andThen_ok,D,K,js hd,kn z B,Sem.run_pure,G]
     refine Ol M (x:=if ok then .tuple #[O,.bool false] else O) ?_ A7;cases ok with
     |true=>exact .tup (.cons H (.cons (.bool _) .nil))
     |false=>exact H
    ·exact trivial
  ·exact Nk Q _
 ·exact Nk Q _
def zbw(w:World){r k:Nat}(x:Obj)(h:k≠r):({ w with heap:=w.heap.setIfInBounds r x }:World).heap[k]?=w.heap[k]?:=by
 show (w.heap.setIfInBounds r x)[k]?=_;rw[Array.getElem?_setIfInBounds_ne J]
def putObj_heap_same(w:World){r:Nat}(x:Obj)(h:r<w.heap.size):({ w with heap:=w.heap.setIfInBounds r x }:World).heap[r]?=some x:=by
 show (w.heap.setIfInBounds r x)[r]?=_;simp[h]
def Rel.putObj{w0:World}{gD:CM}{H:Heap}{w:World}(h:Rel w0 gD H w){o v:Nat}{L:Loc}(hL:gD o v=some L)(hB:w0.heap.size≤L.b)(ob:AObj)(x:Obj)
  (gA:Oq w0.heap.size gD { w with heap:=w.heap.setIfInBounds L.b x } o ob) (gg:∀c len C ro,ob≠.cells c len C ro):Rel w0 gD (H.put o ob) { w with heap:=w.heap.setIfInBounds L.b x }:=by
 refine h.put (h.fresh _ _ _ hL) ob (h.low.trans ⟨rfl,rfl,rfl,U,λk hk=>zbw w x J⟩) U ?_ gA (λc len C ro e=>absurd e (gg c len C ro));intro o' v' L' gB gC;refine zbw w x (λe=>gB ?_);exact (h.excl _ _ _ _ _ _ hL gC e.symm hB).symm
def MR.length{C:CM}:∀{es:List (AV×AV×Nat)} {gg:List MapEntry},MR C es gg→es.length=gg.length
 |_,_,.nil=>rfl
 |_,_,.cons _ _ _ h=>by simp[MR.length h]
def zav{E:CM}{d:TypeDesc}{k v:AV}{u x:Value}(hu:VR E k u)(A:VR E v x){F:Nat}:∀{G j:List (AV×AV×Nat)} {g:List MapEntry} {n:Bool} (i:Nat),lr d k v F G=some (j,n)→MR E G g →
  match n with
  |true=>Instr.findNow d u g i=some none∧MR E j (g++[{ key:=u,val:=x,born:=F }])
  |false=>∃B e y,Instr.findNow d u g i=some (some (B+i,y))∧g[B]?=some e∧Instr.sameBits 10000 e.key u=true∧MR E j (g.modify B λe=>{ e with key:=u,val:=x })
 |[],j,[],n,i,h,.nil=>by
  cases h;exact⟨rfl,.cons hu A rfl .nil⟩
 |(Q,R,b)::l,j,e::r,n,i,h,.cons p H C hm=>by
  unfold lr at h;split at h
  ·rename_i D;cases h;obtain⟨z,I⟩:=i9 D hu p;exact⟨0,e,e.val,by simp[Instr.findNow,z],rfl,I rfl,by simpa using MR.cons (e:={ e with key:=u,val:=x }) hu A C hm⟩
  ·rename_i D;obtain⟨z,_⟩:=i9 D hu p;split at h
   ·rename_i S T K;cases h;have:=zav hu A (i+1) K hm;cases n with
    |true=>exact⟨by simpa [Instr.findNow,z] using this.1,.cons p H C this.2⟩
    |false =>
     obtain⟨B,L,y,M,N,O,P⟩:=this;refine⟨B+1,L,y,?_,by simpa using N,O,by simpa using MR.cons p H C P⟩;rw[show B+1+i=B+(i+1) from J];simpa [Instr.findNow,z] using M
   ·cases h
  ·cases h
def z9u(M:Program)(t:TypeId)(m k x:Operand):M9 M (rv M t m k x) (λC=>do Instr.mapUpdate t (C m) (C k) (C x);pure .skip):=by
 unfold rv;split
 ·rename_i gg T hu;split
  ·rename_i d hd;obtain⟨D,_⟩:=zd6 hd;intro w0 Z gC w gD C E N;dsimp only;split
   ·rename_i o ka va hm hk hx;have F:=N _ _ hm;have G:=N _ _ hk;have H:=N _ _ hx;split
    ·rename_i es K hg;generalize gA:C m=pm at F;cases F with
     |map A =>
      rename_i V;obtain⟨L,j,X,Y⟩:=E.obj o _ (E.fresh _ _ _ A) hg _ A;have I:=E.lt _ _ _ A;have p:(getObj V.b).run M w=.ok (.map j K) w:=by simp[getObj,Sem.run,X]
      have z:∀y,(setObj V.b y).run M w=.ok () { w with heap:=w.heap.setIfInBounds V.b y }:=by intro y;simp[setObj,Sem.run,X]
      split
      ·rename_i O P;obtain⟨Q,R⟩:=zav G H 0 P Y;refine⟨Z,{ w with heap:=w.heap.setIfInBounds V.b (.map (j.push { key:=C k,val:=C x,born:=K }) (K+1)) },undef,CM.le_refl Z,E.putObj A L _ _ ?_ (λ_ _ _ _ e=>Ar),.tup .nil,.inr ⟨?_,rfl⟩⟩
       ·intro L' g;rw[A]at g;cases g;exact⟨L,_,putObj_heap_same w _ I,by rw[Array.toList_push];exact R⟩
       ·simp only[Instr.mapUpdate,Sem.run_bind,Nm hu,Result.andThen_ok,p,js hd,kn D Q,z,Sem.run_pure]
      ·rename_i O P;obtain⟨gB,e,y,Q,R,p3,p4⟩:=zav G H 0 P Y;have S:j[gB]?=some e:=by simpa using R
       refine⟨Z,{ w with heap:=w.heap.setIfInBounds V.b (.map (j.modify gB λe=>{ e with key:=C k,val:=C x }) K) },undef,CM.le_refl Z,E.putObj A L _ _ ?_ (λ_ _ _ _ e=>Ar),.tup .nil,.inr ⟨?_,rfl⟩⟩
       ·intro L' g;rw[A]at g;cases g;exact⟨L,_,putObj_heap_same w _ I,by rw[Array.toList_modify];exact p4⟩
       ·have B:(Instr.keyThatStays e.key (C k)).run M w=.ok (C k) w:=by simp[Instr.keyThatStays,p3]
        simp only[Instr.mapUpdate,Sem.run_bind,Nm hu,Result.andThen_ok,p,js hd,kn D Q,Kq,S,Jg,Jt,B,z,Sem.run_pure]
      ·exact trivial
    ·exact trivial
   ·exact trivial
  ·exact Nk M _
 ·exact Nk M _
def zp7(z:Program)(t:TypeId)(x:Operand):M9 z (rangeF z t x) (λA=>do pure (.value (←Instr.range t (A x)))):=by
 unfold rangeF;split
 ·rename_i hu;refine Rt λF G H w A a g j=>?_
  split
  ·rename_i len n;generalize A x=I at j;cases j with
   | @str _ _ s B C =>
    obtain⟨D,E⟩:=g.push (.iter len n 0) (.stringIter s 0) 0 0 (λK p=>by
     rw[CM.ext_same]at p;cases p;exact⟨g.low.size,rfl,s,Wi _ _,B,C⟩)
    refine⟨_,_,.pointer (some ⟨w.heap.size,0,none⟩),E,D,by simpa using VR.ptr (i:=0) (CM.ext_same G H.next 0 ⟨w.heap.size,0,0,0⟩),.inl ?_⟩;simp only[Instr.range,Sem.run_bind,Nm hu,Sem.run_pure,Result.andThen_ok,run_newObj];rfl
  ·exact trivial
 ·exact Nk z _
def zrf(Y:Program)(x:Operand)(j:Bool)(Z:TypeId):M9 Y (vd x j) (λρ=>do pure (.value (←Instr.next (ρ x) j Z))):=by
 unfold vd;split
 ·rename_i hs;subst hs;refine Rt λw0 gg gA w ρ a B R=>?_
  split
  ·rename_i o;split
   ·rename_i len n g hg;generalize ρ x=px at R;cases R with
    | @ptr _ _ _ L C =>
     obtain⟨S,D,s,T,V,X⟩:=B.obj o _ (B.fresh _ _ _ C) hg _ C;have M:=B.lt _ _ _ C;have z:(getObj L.b).run Y w=.ok (.stringIter s g) w:=Dw
     have E:∀y,(setObj L.b y).run Y w=.ok () { w with heap:=w.heap.setIfInBounds L.b y }:=by intro y;simp[setObj,Sem.run,T]
     have A:(⟨L.b,L.d+0,none⟩:Addr)=⟨L.b,0,none⟩:=by rw[D]
     rw[A];split
     ·rename_i F;have G:g<len:=by rw[Q7]at F;simpa using F
      have p:g<s.size:=Ea
      split
      ·rename_i N;have O:s.data.toList[g]?=some s[g]:=by
        rw[Hj (by rw[V];exact G)];rfl
       have H:=zg4 O;rw[X]at H;have P:Nat.mod (Nat.div n (Nat.pow 256 g)) 256=s[g].toNat:=H;rw[P]at N ⊢;have Q:s[g].toNat<128:=by rw[Q7]at N;simpa using N
       have I:=decode_ascii s g p Q;refine⟨gg,{ w with heap:=w.heap.setIfInBounds L.b (.stringIter s (g+1)) },.tuple #[.bool true,goInt g,.int .i32 (s[g].toNat:Int)],CM.le_refl gg,
        B.putObj C S _ _ ?_ (λ_ _ _ _ e=>Ar),.tup (.cons (.bool _) (.cons (.int _ _) (.cons (.int _ _) .nil))),.inl ?_⟩
       ·intro L' K;rw[C]at K;cases K;exact⟨S,D,s,putObj_heap_same w _ M,V,X⟩
       ·simp only[Instr.next,Sem.run_bind,z,Result.andThen_ok,Hs p,I,E,Sem.run_pure]
      ·exact trivial
     ·rename_i F;have G:¬g<len:=by rw[Q7]at F;simpa using F
      have p:¬g<s.size:=Ea
      refine Ol B (x:=.tuple #[.bool false]) (.tup (.cons (.bool _) .nil)) ?_;simp only[Instr.next,Sem.run_bind,z,Result.andThen_ok,Hq p,Sem.run_pure]
   ·exact trivial
  ·exact trivial
 ·exact Nk Y _
end
section
open Go.RowKit (Below)
def Rel.bump{w0:World}{C:CM}{H:Heap}{w w':World}(h:Rel w0 C H w){o len:Nat}{c:Tr AV}(ho:o<H.next)(gF:∃v L,C o v=some L)(hg:H.get o=some (.cells c len j false))(L':Loc)(c':Tr AV)(gB:Nat)
  (gD:Below w0.heap.size w0 w') (gG:w.heap.size≤w'.heap.size) (gH:L'.b<w'.heap.size) (hex:∀o' v L,C o' v=some L→L.b=L'.b→o'=o)
  (gI:∀o' v L,o'≠o→C o' v=some L→w'.heap[L.b]?=w.heap[L.b]?) (gK:Oq w0.heap.size (C.ext o (j+1) L') w' o (.cells c' gB (j+1) false)) :
  Rel w0 (C.ext o (j+1) L') (H.put o (.cells c' gB (j+1) false)) w'∧C.le (C.ext o (j+1) L'):=by
 have gC:C o (j+1)=none:=by
  cases e:C o (j+1) with
  |none=>rfl
  |some L=>have:=h.top _ _ _ _ _ ho hg _ _ e;omega
 have hle:C.le (C.ext o (j+1) L'):=CM.le_ext _ gC (.inl gF);refine⟨⟨by show max C.nx (o+1)=H.next;rw[h.nx];exact Nat.max_eq_left ho,gD,?_,?_,?_,?_,?_⟩,hle⟩
 ·intro o' v L hL;by_cases e:o'=o∧v=j+1
  ·rw[e.1];exact ho
  ·rw[CM.ext_ne _ _ e]at hL;exact h.fresh _ _ _ hL
 ·intro o' v L hL;by_cases e:o'=o∧v=j+1
  ·obtain⟨rfl,rfl⟩:=e;rw[CM.ext_same]at hL;cases hL;exact gH
  ·rw[CM.ext_ne _ _ e]at hL;exact Ik (h.lt _ _ _ hL) gG
 ·intro o1 v1 L1 o2 v2 L2 h1 h2 hb hB;by_cases e1:o1=o∧v1=j+1<;>by_cases e2:o2=o∧v2=j+1
  ·rw[e1.1,e2.1]
  ·obtain⟨rfl,rfl⟩:=e1;rw[CM.ext_same]at h1;cases h1;rw[CM.ext_ne _ _ e2]at h2;exact (hex _ _ _ h2 hb.symm).symm
  ·obtain⟨rfl,rfl⟩:=e2;rw[CM.ext_same]at h2;cases h2;rw[CM.ext_ne _ _ e1]at h1;exact hex _ _ _ h1 hb
  ·rw[CM.ext_ne _ _ e1]at h1;rw[CM.ext_ne _ _ e2]at h2;exact h.excl _ _ _ _ _ _ h1 h2 hb hB
 ·intro o' ob gA gg;by_cases e:o'=o
  ·subst e;rw[Heap.get_put_same]at gg;cases gg;exact gK
  ·have gE:o'<H.next:=gA;rw[Heap.get_put_ne H _ e]at gg;exact (h.obj _ _ gA gg).frame hle (λv L hL=>by rwa [CM.ext_ne _ _ (λq=>e q.1)]at hL) (λv L hL=>gI _ _ _ e hL)
 ·intro o' c1 gL gM gO gA gg v L hL;by_cases e:o'=o
  ·subst e;rw[Heap.get_put_same]at gg;cases gg;by_cases e2:v=j+1
   ·omega
   ·rw[CM.ext_ne _ _ J]at hL;have:=h.top _ _ _ _ _ ho hg _ _ hL;omega
  ·have gE:o'<H.next:=gA;rw[Heap.get_put_ne H _ e]at gg;rw[CM.ext_ne _ _ (λq=>e q.1)]at hL;exact h.top _ _ _ _ _ gA gg _ _ hL
structure AppX (P:Program) (w:World) (elem:TypeId) (size:Nat) (xt:TypeId) (x:Value) (n:Nat) (news:Array Value):Prop where
 und:∃d,P.underlying xt=some d∧((d=.string∨∃e,d=.slice e)∧(Builtin.lenOf x).run P w=.ok n w∧(∀w',w'.heap=w.heap→(Builtin.firstCells size n x).run P w'=.ok news w')
  ∨ (∃k,d=.int k)∧x=.int .i64 (Int.ofNat n)∧n≤1048576∧0<size∧∃zv,(∀w',(zeroValue elem).run P w'=.ok zv w')∧(∃i,P.info? elem=some i∧i.bytes≤65536)∧news=Builtin.zeroCells zv.cells n∧zv.cells.size=size)
def zd4(g:Array Value):Builtin.zeroCells g 0=#[]:=by simp[Builtin.zeroCells]
def ta{w w':World}{st elem ty:TypeId}{n len cap:Nat}{base:Option Addr}{x:Value}(hu:p.underlying st=some (.slice elem))(G:N7 p elem=some g)
  (I:AppX p w elem g O x n X) (A:len+n≤cap)
  (j:match base with
   |none=>w'=w
   |some a=>(storeCells (a.add (len*g)) X.toList).run p w=.ok () w') :
  (Builtin.append_ #[st,O] ty #[.slice base len cap,x]).run p w=.ok (.slice base (len+n) cap) w':=by
 obtain⟨d,hd,z⟩:=I.und;unfold Builtin.append_;rcases z with ⟨C,B,K⟩|⟨⟨k,rfl⟩,rfl,L,H,V,M,⟨i,N,D⟩,rfl,P⟩
 ·rcases C with rfl|⟨e,rfl⟩
  all_goals
   simp only[I0,H6,H8,Sem.run_bind,Nm hu,Nm hd,Ri G,Result.andThen_ok,Sem.run_pure,Ka,L9,B,Sem.run_ite,Hs A,Ls,Kh,K w rfl];cases base with
   |none=>subst j;rfl
   |some a=>simp only[Sem.run_bind,j,Result.andThen_ok,Sem.run_pure]
 ·have Q:IntKind.i64.wrap (Int.ofNat n)=Int.ofNat n:=Aw
  have R:¬(Int.ofNat n<0):=U
  have S:¬(Int.ofNat n*(i.bytes:Int)>2^48):=by
   have:(Int.ofNat n*(i.bytes:Int))=((n*i.bytes:Nat):Int):=U
   rw[this];have:n*i.bytes≤1048576*65536:=Kl L D;omega
  simp only[I0,H6,H8,Sem.run_bind,Nm hu,Nm hd,Ri G,Result.andThen_ok,Sem.run_pure,Kh,asInt,asIntOf,Q,Sem.run_ite,Hq R,aj N,Hq S,Bool.not_true,Ka,L9];have T:(Int.ofNat n).toNat=n:=rfl;rw[T,Hs A];by_cases E:n*g=0
  ·have F:n=0:=by
    rcases Nat.mul_eq_zero.1 E with h|h
    ·exact h
    ·omega
   subst F;rw[zd4]at j;rw[Hs E];simp only[Result.andThen_ok];cases base with
   |none=>subst j;rfl
   |some a=>simp only[Sem.run_bind,j,Result.andThen_ok,Sem.run_pure]
  ·rw[Hq E];simp only[M,Result.andThen_ok];cases base with
   |none=>subst j;rfl
   |some a=>simp only[Sem.run_bind,j,Result.andThen_ok,Sem.run_pure]
def z43{P:Program}{w:World}{st elem ty:TypeId}{i:TypeInfo}{n len cap:Nat}{base:Option Addr}{x zv:Value}{olds:Array Value}(hu:P.underlying st=some (.slice elem))(H:P.info? elem=some i)
  (T:AppX P w elem i.size O x n X) (I:cap<len+n) (E:i.bytes≤65536) (C:len+n≤2000000000) (K:∀w',(zeroValue elem).run P w'=.ok zv w')
  (p:(Builtin.firstCells i.size len (.slice base len cap)).run P w.drew=.ok olds w.drew) :
  (Builtin.append_ #[st,O] ty #[.slice base len cap,x]).run P w =
   .ok (.slice (some ⟨w.heap.size,0,none⟩) (len+n) (grownCap w (len+n) cap elem)) (w.drew.alloc (.cells (olds++X++Builtin.zeroCells zv.cells (grownCap w (len+n) cap elem-(len+n))) elem)):=by
 have R:N7 P elem=some i.size:=by simp[N7,H]
 obtain⟨d,hd,D⟩:=T.und;have z:¬(len+n≤cap):=J
 have A:¬(Builtin.nextslicecap (len+n) cap*i.bytes>2^48):=by
  have h1:(len+n)*i.bytes≤2000000000*65536:=Kl C E;have:=growslice_fits (bytes:=i.bytes) I J;omega
 have B:¬(((len+n:Nat):Int)>IntKind.i64.max):=by
  simp only[IntKind.max,IntKind.signed,IntKind.bits,Kh];omega
 have g:(Question.appendCap (len+n) cap elem).forced=false:=rfl;unfold Builtin.append_;rcases D with ⟨L,F,V⟩|⟨⟨k,rfl⟩,rfl,Y,S,M,G,⟨gg,hj,_⟩,rfl,Z⟩
 ·have j:(Builtin.firstCells i.size len (.slice base len cap)).run P { w with drawn:=w.drawn+1 }=.ok olds { w with drawn:=w.drawn+1 }:=p;rcases L with rfl|⟨e,rfl⟩
  all_goals
   simp only[I0,H6,H8,Sem.run_bind,Nm hu,Nm hd,Ri R,Result.andThen_ok,Sem.run_pure,Ka,L9,F,Sem.run_ite,Hq z,aj H,B,false_and,Hq A,run_choose,g,run_askRoom];simp only[j,Result.andThen_ok,Ls,Kh,V { w with drawn:=w.drawn+1 } rfl,K,newRow,Sem.run_bind,run_newObj,Sem.run_pure];rfl
 ·obtain rfl:M=zv:=by have a:=G w;rw[K w]at a;cases a;rfl
  have e1:IntKind.i64.wrap (Int.ofNat n)=Int.ofNat n:=Aw
  have e2:¬(Int.ofNat n<0):=U
  have e3:¬(Int.ofNat n*(i.bytes:Int)>2^48):=by
   have:(Int.ofNat n*(i.bytes:Int))=((n*i.bytes:Nat):Int):=U
   rw[this];have:n*i.bytes≤1048576*65536:=Kl Y E;omega
  simp only[I0,H6,H8,Sem.run_bind,Nm hu,Nm hd,Ri R,Result.andThen_ok,Sem.run_pure,Kh,asInt,asIntOf,e1,Sem.run_ite,Hq e2,aj H,Hq e3,Bool.not_true,Ka,L9];have e4:(Int.ofNat n).toNat=n:=rfl;rw[e4,Hq z];simp only[B,false_and,L9,Result.andThen_ok,Hq A,run_choose,g,Ka,run_askRoom];have j:(Builtin.firstCells i.size len (.slice base len cap)).run P { w with drawn:=w.drawn+1 }=.ok olds { w with drawn:=w.drawn+1 }:=p;simp only[j,Result.andThen_ok];by_cases N:n*i.size=0
  ·have Q:n=0:=by
    rcases Nat.mul_eq_zero.1 N with h|h
    ·exact h
    ·omega
   subst Q;rw[Hs N];simp only[Sem.run_pure,Result.andThen_ok,zd4,K,newRow,Sem.run_bind,run_newObj];rfl
  ·rw[Hq N];simp only[Sem.run_bind,G,Sem.run_pure,Result.andThen_ok,newRow,run_newObj];rfl
def zdi{P:Program}{t:TypeId}{l:List AV}(h:Rn P t=some l):∃v i,(∀w',(zeroValue t).run P w'=.ok v w')∧Sf v.cells.toList=some l∧P.info? t=some i∧l.length=i.size:=by
 unfold Rn at h;cases g:P.info? t with
 |none=>simp[g]at h
 |some i =>
  simp only[g]at h;cases j:i.zero with
  |none=>simp[j]at h
  |some v =>
   simp only[j]at h;cases p:Sf v.cells.toList with
   |none=>simp[p]at h
   |some r =>
    simp only[p]at h;split at h
    ·cases h;rename_i z;exact⟨v,i,λw'=>Dv,p,rfl,z⟩
    ·cases h
def z9a{l r:List Value}{n:Nat}(h:l.length=n):(l++r).take n=l:=by rw[←h];simp
def zwc{C:CM}{w:World}(G:Rel B C A w){elem:TypeId}{i:TypeInfo}{n:Nat}{l:List AV}{cs:Array Value}{cap:Nat}(g:n≤cap)
  (O:l.length=n*i.size) (H:cs.size=cap*i.size) (I:VRs C l (cs.toList.take l.length)) (K:∀a∈l,a.one=true) {F:Sem Next}
  (j:F.run p w=.ok (.value (.slice (some ⟨w.heap.size,0,none⟩) n cap)) (w.drew.alloc (.cells cs elem))):Qh p B C w F (Wp A n i.size l):=by
 unfold Wp;cases L:newObj A l with
 |none=>exact trivial
 |some r =>
  obtain⟨o,P⟩:=r;have hm:n*i.size≤cap*i.size:=Hy _ g;obtain⟨M,z,D,E⟩:=G.drew.newRow L elem (0,0) (vs:=cs) J I K U;refine⟨M,_,_,z,D,?_,.inl j⟩;have:=VR.sl (i:=0) (len:=n) (esz:=i.size) (room:=none) (cap:=cap) E Aq Aq g (λr N=>by cases N) (λ_=>Aq);simpa using this
def znj{P:Program}{C:CM}{w:World}(I:Rel B C A w){st elem ty:TypeId}{i:TypeInfo}(hu:P.underlying st=some (.slice elem))(hi:P.info? elem=some i)(gT:0<i.size)
  (gG:i.bytes≤65536) (hz:Rn P elem=some H) {s:AV} {x:Value} (hs:VR C s Y) {n:Nat} {j:List AV} {news:Array Value} (Z:AppX P w elem i.size O x n news) (hn:n≤1048576)
  (E:VRs C j news.toList) (K:∀a∈j,a.one=true) (gB:j.length=n*i.size) :
  Qh P B C w (do pure (.value (←Builtin.append_ #[st,O] ty #[Y,x]))) (Ub A i.size s n j):=by
 have Q:N7 P elem=some i.size:=by simp[N7,hi]
 obtain⟨zv,gS,gH,jF,gV,jX⟩:=zdi hz;rw[hi]at gV;cases gV;have gI:zv.cells.size=i.size:=by
  have:=(V5 (C:=C) jF).1.length;simp at this;omega
 have M:news.size=n*i.size:=by have:=E.length;simp at this;omega
 unfold Ub;split
 ·rename_i h0;have gZ:n=0:=Hn h0;subst gZ;have g8:news=#[]:=Kb J;subst g8;split
  ·cases hs;have p:=ta (ty:=ty) (base:=none) (len:=0) (cap:=0) (w':=w) hu Q Z J rfl;exact Ol I .nilSl A7
  ·cases hs with
   | @emp a cap =>
    have p:=ta (ty:=ty) (base:=some a) (len:=0) (cap:=cap) (w':=w) hu Q Z J rfl;exact Ol I (x:=.slice (some a) 0 cap) .emp A7
  ·rename_i o v k len g9 gC;have jG:=hs;cases hs with
   | @sl _ _ _ _ _ _ L cap N q1 q2 q3 =>
    have p:=ta (ty:=ty) (base:=some ⟨L.b,L.d+k,none⟩) (len:=len) (cap:=cap) (w':=w) hu Q Z J rfl;exact Ol I jG (by simp only[Sem.run_bind,p,Result.andThen_ok,Sem.run_pure];rfl)
  ·exact trivial
 ·rename_i h0;have gZ:n≠0:=λe=>by rw[e]at h0;cases h0
  split
  ·cases hs;have S:=grownCap_ge w (0+n) 0 elem;refine zwc I (elem:=elem) (cap:=grownCap w (0+n) 0 elem) (cs:=#[]++news++Builtin.zeroCells zv.cells (grownCap w (0+n) 0 elem-(0+n))) J gB ?_ ?_ K ?_
   ·rw[I3,I3,size_zeroCells,gI,M];have:=sn i.size (show 0+n≤grownCap w (0+n) 0 elem from S);simp at this ⊢;omega
   ·rw[Lj,Lj,z9a Ab];simpa using E
   ·have:=z43 (ty:=ty) (base:=none) (len:=0) (cap:=0) (olds:=#[]) hu hi Z J gG J gH (by simp[Builtin.firstCells]);simp only[Sem.run_bind,this,Result.andThen_ok,Sem.run_pure,Is]
  ·rename_i o v k len g9 gC;split
   ·exact trivial
   ·rename_i he;rw[Hh]at he;have gD:len≤M1:=Hw he.2;have jH:g9=i.size:=Hn he.1;subst jH;cases hs with
    | @sl _ _ _ _ _ _ L cap N q1 q2 q3 q4 q5 =>
     have T:(⟨L.b,L.d+k,none⟩:Addr).add (len*i.size)=⟨L.b,L.d+(k+len*i.size),none⟩:=d6 _ _ _ _;have jg:(len+n)*i.size=len*i.size+n*i.size:=Ih _ _ _;have gE:∀G,Pa A o v k (len*i.size)=some G→∃z:Array Value,(Builtin.firstCells i.size len (.slice (some ⟨L.b,L.d+k,none⟩) len cap)).run P w.drew=.ok z w.drew∧VRs C G z.toList∧(∀a∈G,a.one=true)∧G.length=len*i.size:=by
      intro G p;obtain⟨vs,p1,V,p3,p4,_,_⟩:=I.drew.read P p N;exact⟨vs.toArray,by simpa [Builtin.firstCells] using p1,by simpa using V,p3,p4⟩
     split
     ·rename_i r;obtain⟨jp,gK⟩:=q4 r rfl;subst jp;split
      ·rename_i R;have F:len+n≤cap:=Hw R;split
       ·rename_i H' hw;have gL:Ty A o v (k+len*i.size) j=some H':=hw;obtain⟨X,p1,V⟩:=I.write P gL N E K;have jI:(len+n)*i.size≤cap*i.size:=Hy _ F;refine⟨C,X,.slice (some ⟨L.b,L.d+k,none⟩) (len+n) cap,CM.le_refl C,V,.sl N (J:k+(len+n)*i.size≤L.n) q2 F (λr p=>by cases p;exact⟨rfl,gK⟩) (λe=>Ar),.inl ?_⟩;simp only[Sem.run_bind,ta (w':=X) (base:=some ⟨L.b,L.d+k,none⟩) hu Q Z F (by dsimp only;rw[T];exact p1),Result.andThen_ok,Sem.run_pure]
       ·exact trivial
      ·rename_i R;have jK:cap<len+n:=by
        rcases Kj cap (len+n) with h|h
        ·exact h
        ·rw[show Nat.ble (Nat.add len n) cap=true from Ho h]at R;cases R
       split
       ·rename_i G p;obtain⟨z,p1,V,p3,p4⟩:=gE G p;have gg:z.size=len*i.size:=by have:=V.length;simp at this;omega
        have S:=grownCap_ge w (len+n) cap elem;refine zwc I (elem:=elem) (cap:=grownCap w (len+n) cap elem) (cs:=z++news++Builtin.zeroCells zv.cells (grownCap w (len+n) cap elem-(len+n))) S ?_ ?_ ?_ ?_ ?_
        ·rw[Hv,p4,gB];exact jg.symm
        ·rw[I3,I3,size_zeroCells,gI,M,gg];have:=sn i.size S;omega
        ·rw[Lj,Lj,z9a Ab];exact V.append E
        ·intro a ha;rcases Ib.1 ha with h|h
         ·exact p3 a h
         ·exact K a h
        ·have:=z43 (ty:=ty) (base:=some ⟨L.b,L.d+k,none⟩) hu hi Z jK gG (by unfold M1 at gD;omega) gH p1;simp only[Sem.run_bind,this,Result.andThen_ok,Sem.run_pure]
       ·exact trivial
     ·have gM:=q5 rfl;split
      ·rename_i c g jL S;split
       ·exact trivial
       ·rename_i hv;have jM:v=jL:=Hn hv;subst jM;have ho:=I.fresh _ _ _ N;have jN:=I.obj o _ ho S;obtain⟨p1,V,p3,vs,e,lo,jz,p4,p5,p6,p7⟩:=jN L N;split
        ·rename_i R;have F:k+(len+n)*i.size≤g:=Hw R;have gF:len+n≤cap:=by
          have:(len+n)*i.size≤cap*i.size:=J
          exact Lb this gT
         split
         ·rename_i H' hw;have gL:Ty A o v (k+len*i.size) j=some H':=hw;obtain⟨X,r1,r2⟩:=I.write P gL N E K;refine⟨C,X,.slice (some ⟨L.b,L.d+k,none⟩) (len+n) cap,CM.le_refl C,r2,.sl N (J:k+(len+n)*i.size≤L.n) q2 gF (λr p=>by cases p) (λ_=>gM),.inl ?_⟩;simp only[Sem.run_bind,ta (w':=X) (base:=some ⟨L.b,L.d+k,none⟩) hu Q Z gF (by dsimp only;rw[T];exact r1),Result.andThen_ok,Sem.run_pure]
         ·exact trivial
        ·rename_i jT;split
         ·exact trivial
         ·rename_i hk;have jO:k=0:=Hn hk;subst jO;split
          ·exact trivial
          ·rename_i jA;have gO:len*i.size=g:=Hn jA;by_cases hc:len+n≤cap
           ·
            have jI:(len+n)*i.size≤cap*i.size:=Hy _ hc;obtain⟨X,jP,r1,r2,r3,r4,r5,r6,r7,r8,r9⟩:=z7n P ⟨L.b,L.d+(0+len*i.size),none⟩ news.toList 0 w vs e lo jz rfl p4 (E.one K) Ab
             (λgS hj gA=>by simp at hj gA;exact p6 gS J J)
            obtain⟨gQ,F⟩:=I.bump ho ⟨_,_,N⟩ S ⟨L.b,L.d,g+j.length,L.sz⟩ (Ou j g c) (g+j.length) (w':=X)
             (I.low.trans ⟨r6,r7,r8,J,λgS hj=>r4 gS (by dsimp only;have:=V rfl;omega)⟩) J (show L.b<X.heap.size by rw[r5];exact I.lt _ _ _ N)
             (λo' v' L' D hb=>(I.excl _ _ _ _ _ _ N D hb.symm (V rfl)).symm)
             (λo' v' L' jQ D=>r4 _ (λe'=>jQ (I.excl _ _ _ _ _ _ N D e'.symm (V rfl)).symm))
             (by
              intro L' D;rw[CM.ext_same]at D;cases D;refine⟨rfl,λ_=>V rfl,Aq,jP,e,lo,jz,r2,Aq,p6,?_⟩;refine Wk.mono (CM.le_ext _ ?_ (.inl ⟨_,_,N⟩)) (p7.lay E K (Hm _) (Hm _) (.inr rfl) (λgS=>?_))
              ·cases e':C o (v+1) with
               |none=>rfl
               |some jR=>have:=I.top _ _ _ _ _ ho S _ _ e';omega
              ·rw[r9 gS];have:L.d+(0+len*i.size)+0=L.d+g:=J
               simp only[this])
            refine⟨_,X,.slice (some ⟨L.b,L.d+0,none⟩) (len+n) cap,F,gQ,?_,.inl ?_⟩
            ·exact VR.sl (L:=⟨L.b,L.d,g+j.length,L.sz⟩) (i:=0) (len:=len+n) (esz:=i.size) (room:=none) (cap:=cap) (CM.ext_same C o (v+1) ⟨L.b,L.d,g+j.length,L.sz⟩)
              Aq Aq hc (λr p=>by cases p) (λ_=>Aq)
            ·simp only[Sem.run_bind,ta (w':=X) (base:=some ⟨L.b,L.d+0,none⟩) hu Q Z hc (by dsimp only;rw[T];exact r1),Result.andThen_ok,Sem.run_pure]
           ·
            have p:∃G,Pa A o v 0 (len*i.size)=some G:=by
             unfold Pa;rw[S];have hb:Nat.ble (Nat.add 0 (len*i.size)) g=true:=Ho (by show 0+len*i.size≤g;omega);simp only[Ii,hb];have:∀m a,a+m≤g→∃l,Rm c a m=some l:=by
              intro m
              induction m with
              |zero=>intro a _;exact⟨[],rfl⟩
              |succ m ih =>
               intro a ha;obtain⟨x1,y1,_⟩:=p7 a J;obtain⟨l1,y2⟩:=ih (a+1) J;exact⟨x1::l1,by simp only[Rm,y1,y2]⟩
             exact this _ 0 J
            obtain⟨G,p⟩:=p;obtain⟨z,s1,s2,s3,s4⟩:=gE G p;have gg:z.size=len*i.size:=by have:=s2.length;simp at this;omega
            have jB:=grownCap_ge w (len+n) cap elem;have jC:=z43 (ty:=ty) (base:=some ⟨L.b,L.d+0,none⟩) hu hi Z J gG (by unfold M1 at gD;omega) gH s1;have jZ:=sn i.size jB;have jD:(z++news++Builtin.zeroCells zv.cells (grownCap w (len+n) cap elem-(len+n))).size=grownCap w (len+n) cap elem*i.size:=by
             rw[I3,I3,size_zeroCells,gI,M,gg];omega
            obtain⟨gQ,F⟩:=I.bump ho ⟨_,_,N⟩ S ⟨w.heap.size,0,g+j.length,grownCap w (len+n) cap elem*i.size⟩ (Ou j g c) (g+j.length)
             (w':=w.drew.alloc (.cells (z++news++Builtin.zeroCells zv.cells (grownCap w (len+n) cap elem-(len+n))) elem))
             (I.low.drew.alloc I.low.size _) (by rw[World.size_alloc,World.size_drew];omega) (by rw[World.size_alloc,World.size_drew];dsimp only;omega)
             (λo' v' L' D hb=>by have:=I.lt _ _ _ D;dsimp only at hb;omega)
             (λo' v' L' _ D=>xp w.drew _ (I.lt _ _ _ D))
             (by
              intro L' D;rw[CM.ext_same]at D;cases D;refine⟨rfl,λ_=>I.low.size,Aq,_,elem,0,0,Wi w.drew _,by rw[jD];exact Hm _,λ_ _ _=>J,?_⟩;have gR:C o (v+1)=none:=by
               cases e':C o (v+1) with
               |none=>rfl
               |some jR=>have:=I.top _ _ _ _ _ ho S _ _ e';omega
              refine Wk.mono (CM.le_ext _ gR (.inl ⟨_,_,N⟩)) ?_;obtain⟨g1,g2⟩:=aq (show Rm c 0 (len*i.size)=some G by
               unfold Pa at p;rw[S]at p;dsimp only at p;split at p
               ·split at p
                ·exact p
                ·cases p
               ·cases p)
              intro gS hj;rw[get_ofList j g c gS,Is];by_cases gA:g≤gS∧gS<g+j.length
              ·rw[Hs gA];obtain⟨a,x1,y1,y2,y3⟩:=E.get' (i:=gS-g) J;refine⟨a,y1,K a (Im y1),x1,?_,y3⟩;rw[Je (by rw[I3];omega),L8 J,gg,gO];simpa using y2
              ·rw[Hq gA];have jS:gS<len*i.size:=J
               have:=g2 gS jS;rw[Is]at this;obtain⟨a,x1,y1,y2,y3⟩:=s2.get' (i:=gS) J;rw[y1]at this;refine⟨a,this,s3 a (Im y1),x1,?_,y3⟩;rw[Je (by rw[I3];omega),Je J];simpa using y2)
            refine⟨_,_,.slice (some ⟨w.heap.size,0,none⟩) (len+n) (grownCap w (len+n) cap elem),F,gQ,?_,.inl ?_⟩
            ·have:=VR.sl (i:=0) (len:=len+n) (esz:=i.size) (room:=none) (cap:=grownCap w (len+n) cap elem) (CM.ext_same C o (v+1) ⟨w.heap.size,0,g+j.length,grownCap w (len+n) cap elem*i.size⟩)
              Aq Aq jB (λr p=>by cases p) (λ_=>Aq)
             simpa using this
            ·simp only[Sem.run_bind,jC,Result.andThen_ok,Sem.run_pure]
      ·exact trivial
  ·exact trivial
end
section
open Go.RowKit (Below)
def zmi{w:World}(h:B.heap=w.heap)(a:Addr):B.cell? a=w.cell? a:=by simp[World.cell?,h]
def zj8{P:Program}{C:CM}{w:World}(O:Rel B C A w){b:AV}{x:Value}(E:VR C b x){n:Nat}{l:List AV}(h:W6 A g b=some (n,l)) :
  ∃z:List Value,VRs C l z∧(∀a∈l,a.one=true)∧l.length=n*g∧(Builtin.lenOf x).run P w=.ok n w ∧
   ∀m,m≤n→∀p,p.heap=w.heap→(Builtin.firstCells g m x).run P p=.ok (z.take (m*g)).toArray p:=by
 unfold W6 at h;split at h
 ·cases h;cases E;exact⟨[],.nil,U,U,rfl,λm hm p _=>by simp[Builtin.firstCells]⟩
 ·cases h;cases E with
  | @emp a cap =>
   refine⟨[],.nil,U,U,rfl,λm hm p _=>?_⟩;have:m=0:=J
   subst this;simp only[Builtin.firstCells,Kc];rw[z8j P p a 0 [] rfl (λN I=>J)];rfl
 ·rename_i o v i len j K;split at h
  ·rename_i Q;have G:j=g:=Hn Q;subst G;split at h
   ·rename_i l' R;cases h;cases E with
    | @sl _ _ _ _ _ _ gg cap S =>
     obtain⟨z,_,F,T,L,_,V⟩:=O.read P R S;refine⟨z,F,T,L,rfl,λm hm p hw=>?_⟩;have X:m*j≤n*j:=Hy _ hm;have Y:z.length=n*j:=by have e1:=F.length;have e2:l.length=n*j:=L;omega
     simp only[Builtin.firstCells];refine z8j P p _ _ _ Ab (λN I=>?_);rw[d6,zmi hw,V N (show N<Nat.mul n j by show N<n*j;omega),Ij I]
   ·cases h
  ·cases h
 ·rename_i len n';split at h
  ·rename_i H;cases h;have D:g=1:=Hn H;subst D;cases E with
   | @str _ _ s Z F =>
    subst Z F;rw[unpack_pack];refine⟨s.data.toList.map λb=>Value.int .u8 (b.toNat:Int),?_,?_,U,rfl,λm hm p _=>?_⟩
    ·generalize s.data.toList=q
     induction q with
     |nil=>exact .nil
     |cons b q ih=>exact .cons (.int _ _) ih
    ·intro a M;simp only[Li]at M;obtain⟨b,_,rfl⟩:=M;rfl
    ·simp only[Builtin.firstCells,Sem.run_pure]
     congr 1
     apply Lw.1;rw[Ji,Lib.extract_data];simp
  ·cases h
 ·cases h
def M9.congr{P:Program}{f:OpF}{nx C:(Operand→Value)→Sem Next}(h:∀ρ,nx ρ=C ρ)(s:M9 P f nx):M9 P f C:=λw0 gg H w E ρ hR hρ=>by rw[←h ρ];exact s w0 gg H w E ρ hR hρ
def Vv{a:Array v9}{x y:v9}(h:a.toList=[x,y]):a=#[x,y]:=Lw.1 h
def Vt{a:Array v9}{x:v9}(h:a.toList=[x]):a=#[x]:=Lw.1 h
def zm1(P:Program)(ts:Array TypeId)(B:Array Operand)(Q:TypeId):M9 P (wo P ts B) (λF=>do pure (.value (←Builtin.append_ ts Q (B.map F)))):=by
 unfold wo;split
 ·rename_i st R s x S D;have T:=Vv S;have E:=Vv D;subst T E;refine M9.congr (nx:=λF=>do pure (.value (←Builtin.append_ #[st,R] Q #[F s,F x]))) (λF=>U) ?_;have G:∀g,P.underlying st=some (.slice g)→∀d,P.underlying R=some d→(d=.string∨∃e,d=.slice e)→M9 P (ku P g s x) (λF=>do pure (.value (←Builtin.append_ #[st,R] Q #[F s,F x]))):=by
   intro g hu d hd V;unfold ku;split
   ·rename_i i gE H L;split
    ·rename_i X;obtain⟨j,p⟩:=X;refine Wl λw0 C gF w F a b M Y N=>?_
     split
     ·rename_i n l ht;split
      ·rename_i Z;have z:n≤1048576:=Hw Z;obtain⟨vs,h1,h2,h3,h4,h5⟩:=zj8 (P:=P) M N ht;have gD:vs.length=n*i.size:=by have:=h1.length;omega
       refine znj M hu H j p L Y (news:=vs.toArray) ⟨d,hd,.inl ⟨V,h4,λw' hw=>?_⟩⟩ z (by simpa using h1) h2 h3;rw[h5 n (Hm _) w' hw,Hz J]
      ·exact trivial
     ·exact trivial
    ·exact Nk P _
   ·exact Nk P _
  split
  ·rename_i g k hu I;unfold zr;split
   ·rename_i i gE H L;split
    ·rename_i X;obtain⟨j,p⟩:=X;refine Wl λw0 C gF w F a b M Y N=>?_
     split
     ·rename_i n;split
      ·rename_i Z;have z:n≤1048576:=Hw Z;obtain⟨O,gG,gg,gA,K,gB⟩:=zdi L;rw[H]at K;cases K;obtain⟨k1,k2⟩:=V5 (C:=C) gA;have gC:O.cells.size=i.size:=by have:=k1.length;simp at this;omega
       have A:VRs C (R4 gE n) (Builtin.zeroCells O.cells n).toList:=by
        unfold Builtin.zeroCells;rw[tx];exact l9 k1 n
       generalize F x=px at N;cases N;exact znj M hu H j p L Y (news:=Builtin.zeroCells O.cells n) ⟨_,I,.inr ⟨⟨_,rfl⟩,rfl,z,j,O,gg,⟨i,H,p⟩,rfl,gC⟩⟩ z A (oj k2 n) (by rw[z5r,gB])
      ·exact trivial
     ·exact trivial
    ·exact Nk P _
   ·exact Nk P _
  ·rename_i g e hu I;exact G g hu _ I (.inr ⟨e,rfl⟩)
  ·rename_i g hu I;exact G g hu _ I (.inl rfl)
  ·exact Nk P _
 ·exact Nk P _
def zry(P:Program)(O:Array TypeId)(g:Array Operand)(Q:TypeId):M9 P (vx P O g) (λD=>do pure (.value (←Builtin.copy_ O Q (g.map D)))):=by
 unfold vx;split
 ·rename_i st xt s x F z;have G:=Vv F;have A:=Vv z;subst G A;refine M9.congr (nx:=λD=>do pure (.value (←Builtin.copy_ #[st,xt] Q #[D s,D x]))) (λD=>U) ?_;split
  ·rename_i R hu;split
   ·exact Nk P _
   ·rename_i j H;split
    ·rename_i S;refine Wl λw0 gA gC w D a b E p hb=>?_
     split
     ·rename_i n l ht;obtain⟨T,V,h2,h3,I,K⟩:=zj8 (P:=P) E hb ht;have gg:T.length=n*j:=by have:=V.length;omega
      split
      ·generalize D s=X at p;cases p;refine Ol E (x:=.int .i64 0) (.int _ _) ?_;have B:=K 0 (Kn _) w rfl;have L:Nat.min n 0=0:=Nat.min_zero n;unfold Builtin.copy_;simp only[I0,H6,H8,Sem.run_bind,Nm hu,Result.andThen_ok,I,Ri H,L,B,Sem.run_pure];rfl
      ·generalize D s=X at p;cases p with
       | @emp ad cap =>
        refine Ol E (x:=.int .i64 0) (.int _ _) ?_;have B:=K 0 (Kn _) w rfl;have L:Nat.min n 0=0:=Nat.min_zero n;unfold Builtin.copy_;simp only[I0,H6,H8,Sem.run_bind,Nm hu,Result.andThen_ok,I,Ri H,L,B,Sem.run_pure];simp[storeCells,goInt]
      ·rename_i o v i len C Y;split
       ·rename_i he;have M:C=j:=Hn he;subst M;split
        ·rename_i H' hw;generalize D s=X at p;cases p with
         | @sl _ _ _ _ _ _ gB cap hL q1 q2 q3 =>
          have hm:O0 n len=Nat.min n len:=zga n len;have B:=K (Nat.min n len) (Nat.min_le_left _ _) w rfl;obtain⟨Z,r1,r2⟩:=E.write P hw hL (V.take _) (λa p=>h2 a (Kr p));rw[hm]at r1 ⊢;refine⟨gA,Z,.int .i64 (Int.ofNat (Nat.min n len)),CM.le_refl gA,r2,.int _ _,.inl ?_⟩;unfold Builtin.copy_;have N:(storeCells ⟨gB.b,gB.d+i,none⟩ (T.take (Nat.min n len*C))).run P w=.ok () Z:=r1;simp only[I0,H6,H8,Sem.run_bind,Nm hu,Result.andThen_ok,I,Ri H,B,Sem.run_pure,N];rfl
        ·exact trivial
       ·exact trivial
      ·exact trivial
     ·exact trivial
    ·exact Nk P _
  ·exact Nk P _
 ·exact Nk P _
def zoc(B:Program)(R:Array TypeId)(g:Array Operand)(S:TypeId):M9 B (yq B R g) (λD=>do pure (.value (←Builtin.clear_ R S (g.map D)))):=by
 unfold yq;split
 ·rename_i st x E j;have F:=Vt E;have p:=Vt j;subst F p;refine M9.congr (nx:=λD=>do pure (.value (←Builtin.clear_ #[st] S #[D x]))) (λD=>U) ?_;split
  ·rename_i T hu;split
   ·rename_i A gD hs hz;split
    ·rename_i V;refine Rt λw0 X gE w D a G z=>?_
     split
     ·generalize D x=Y at z;cases z;refine Ol G (x:=.tuple #[]) (.tup .nil) ?_;simp[Builtin.clear_,Nm hu]
     ·generalize D x=Y at z;cases z with
      | @emp ad cap =>
       refine Ol G (x:=.tuple #[]) (.tup .nil) ?_;simp[Builtin.clear_,Nm hu]
     ·rename_i o v i len H Z;split
      ·rename_i he;have I:H=A:=Hn he;subst I;split
       ·rename_i H' hw;generalize D x=Y at z;cases z with
        | @sl _ _ _ _ _ _ gC cap hL q1 q2 q3 =>
         obtain⟨K,gF,L,M,gA,gB⟩:=zdi hz;obtain⟨k1,k2⟩:=V5 (C:=X) M;obtain⟨N,O,r2⟩:=G.write B hw hL (l9 k1 len) (oj k2 len);by_cases P:len=0
         ·subst P;have:N=w:=by
           have:(storeCells ⟨gC.b,gC.d+i,none⟩ (Rz K.cells.toList 0)).run B w=.ok () w:=rfl;rw[this]at O;cases O;rfl
          subst this;exact⟨X,N,.tuple #[],CM.le_refl X,r2,.tup .nil,.inl (by simp[Builtin.clear_,Nm hu])⟩
         ·refine⟨X,N,.tuple #[],CM.le_refl X,r2,.tup .nil,.inl ?_⟩;unfold Builtin.clear_;have Q:(Builtin.zeroCells K.cells len).toList=Rz K.cells.toList len:=by unfold Builtin.zeroCells;exact tx _ _
          obtain⟨gg,rfl⟩:∃k,len=k+1:=⟨len-1,J⟩;simp only[I0,H6,Sem.run_bind,Nm hu,Result.andThen_ok,L,Sem.run_pure,Q,O]
       ·exact trivial
      ·exact trivial
     ·exact trivial
    ·exact Nk B _
   ·exact Nk B _
  ·exact Nk B _
 ·exact Nk B _
def zum(H:Program)(t I:TypeId)(x:Operand):M9 H (Tl H t x) (λp=>do pure (.value (←Builtin.len_ #[t] I #[p x]))):=by
 unfold Tl;split
 ·rename_i hu;refine Rt λD K L w p a j g=>?_
  split
  ·generalize p x=z at g;cases g with
   | @str _ _ s M N =>
    subst M N;exact Ol j (x:=.int .i64 (Int.ofNat s.size)) (.int _ _) Be
  ·exact trivial
 ·rename_i e hu;refine Rt λD K L w p a j g=>?_
  split
  ·rename_i o v i len O E;generalize p x=z at g;cases g with
   |sl=>exact Ol j (x:=.int .i64 (Int.ofNat len)) (.int _ _) Be
  ·generalize p x=z at g;cases g;exact Ol j (x:=.int .i64 0) (.int _ _) Be
  ·generalize p x=z at g;cases g;exact Ol j (x:=.int .i64 0) (.int _ _) Be
  ·exact trivial
 ·rename_i k e hu;refine Rt λD K L w p a j g=>?_
  split
  ·generalize p x=z at g;cases g;exact Ol j (x:=.int .i64 0) (.int _ _) Be
  ·rename_i o;split
   ·rename_i F P Q;generalize p x=z at g;cases g with
    | @map _ T G =>
     obtain⟨_,A,R,S⟩:=j.obj o _ (j.fresh _ _ _ G) Q _ G;have B:F.length=A.size:=by have:=S.length;simpa using this
     have C:(getObj T.b).run H w=.ok (.map A P) w:=by simp[getObj,Sem.run,R]
     exact Ol j (x:=.int .i64 (Int.ofNat F.length)) (.int _ _) (by simp[Builtin.len_,Nm hu,C,goInt,B])
   ·exact trivial
  ·exact trivial
 ·rename_i n e hu;refine Rt λD K L w p a j g=>?_
  exact Ol j (x:=.int .i64 (Int.ofNat n)) (.int _ _) Be
 ·exact Nk H _
def zup(z:Program)(t A:TypeId)(x:Operand):M9 z (Uq z t x) (λp=>do pure (.value (←Builtin.cap_ #[t] A #[p x]))):=by
 unfold Uq;split
 ·rename_i e hu;refine Rt λE F G w p a j g=>?_
  split
  ·generalize p x=B at g;cases g;exact Ol j (x:=.int .i64 0) (.int _ _) (by simp[Builtin.cap_,Nm hu,goInt])
  ·rename_i r;generalize p x=B at g;cases g with
   |sl _ _ _ _ C =>
    obtain⟨D,_⟩:=C r rfl;subst D;exact Ol j (.int .i64 _) (by simp[Builtin.cap_,Nm hu,goInt])
  ·exact trivial
 ·exact Nk z _
def zvx{P:Program}{w:World}{a b r:AV}(h:Uz I a b=some r){u v:Value}(hu:VR E a u)(j:VR E b v) :
  ∃z,(if I then Builtin.max2 u v else Builtin.min2 u v).run P w=.ok z w∧VR E r z:=by
 unfold Uz at h;split at h
 ·rename_i k x A y;split at h
  ·rename_i p;have:=wz p;subst this;cases hu;cases j;split at h
   ·split at h
    ·rename_i g;rw[gl]at g;cases h;refine⟨.int k y,?_,.int _ _⟩;have:y>x:=B0
     simp[Builtin.max2,this]
    ·rename_i g;rw[gl]at g;cases h;refine⟨.int k x,?_,.int _ _⟩;have:¬y>x:=B0
     simp[Builtin.max2,this]
   ·split at h
    ·rename_i g;rw[gl]at g;cases h;refine⟨.int k y,?_,.int _ _⟩;have:y<x:=B0
     simp[Builtin.min2,this]
    ·rename_i g;rw[gl]at g;cases h;refine⟨.int k x,?_,.int _ _⟩;have:¬y<x:=B0
     simp[Builtin.min2,this]
  ·cases h
 ·cases h
def ze7{P:Program}{w:World}{A:CM}{g:Bool}:∀{l:List AV} {a r:AV},Wj g a l=some r→∀{u:Value} {j:List Value},VR A a u→VRs A l j →
  ∃z,(j.foldlM (if g then Builtin.max2 else Builtin.min2) u).run P w=.ok z w∧VR A r z
 |[],a,r,h,u,[],hu,.nil=>by cases h;exact⟨u,U,hu⟩
 |b::l,a,r,h,u,v::j,hu,.cons e B=>by
  unfold Wj at h;split at h
  ·rename_i c C;obtain⟨z,D,E⟩:=zvx (P:=P) (w:=w) C hu e;obtain⟨F,G,H⟩:=ze7 (P:=P) (w:=w) h E B;refine⟨F,?_,H⟩;have p:((if g then Builtin.max2 else Builtin.min2) u v).run P w=.ok z w:=by cases g<;>simpa using D
   simp only[List.foldlM_cons,Sem.run_bind,p,Result.andThen_ok,G]
  ·cases h
def zmq(P:Program)(z:Bool)(g:Array Operand)(B:Array TypeId)(C:TypeId) :
  M9 P (Si z g.toList) (λA=>do pure (.value (←if z then Builtin.max_ B C (g.map A) else Builtin.min_ B C (g.map A)))):=by
 intro M R S w N A E F;unfold Si;dsimp only;cases G:(opds g.toList).run N with
 |none=>exact trivial
 |some H =>
  cases H with
  |nil=>exact trivial
  |cons a l =>
   cases a with
   |int k n =>
    refine jb E λr I=>?_
    have D:=ma F G;have j:(g.map A).toList=g.toList.map A:=Ji ..;generalize O:g.toList.map A=T at D j;cases D with
    |cons e K =>
     obtain⟨Q,p,L⟩:=ze7 (P:=P) (w:=w) I e K;refine⟨Q,?_,L⟩;cases z
     ·simp only[Ka,L9,Builtin.min_,j]at p ⊢;simp only[Sem.run_bind,p,Result.andThen_ok,Sem.run_pure]
     ·simp only[Kh,Builtin.max_,j]at p ⊢;simp only[Sem.run_bind,p,Result.andThen_ok,Sem.run_pure]
   |_=>exact trivial
def zeh{G:CM}{d:TypeDesc}{k:AV}{u:Value}(hu:VR G k u):∀{D j:List (AV×AV×Nat)} {g:List MapEntry} (i:Nat),zl d k D=some j→MR G D g →
  (Instr.findNow d u g i=some none∧MR G j g)∨(∃A y,Instr.findNow d u g i=some (some (A+i,y))∧A<g.length∧MR G j (g.eraseIdx A))
 |[],j,[],i,h,.nil=>by cases h;exact .inl ⟨rfl,.nil⟩
 |(K,L,b)::l,j,e::r,i,h,.cons p E F hm=>by
  unfold zl at h;split at h
  ·rename_i z;cases h;exact .inr ⟨0,e.val,by simp[Instr.findNow,(i9 z hu p).1],U,Dq⟩
  ·rename_i z;split at h
   ·rename_i M H;cases h;rcases zeh hu (i+1) H hm with ⟨B,C⟩|⟨A,y,B,C,I⟩
    ·exact .inl ⟨by simpa [Instr.findNow,(i9 z hu p).1] using B,.cons p E F C⟩
    ·refine .inr ⟨A+1,y,?_,C4,.cons p E F I⟩;rw[show A+1+i=A+(i+1) from J];simpa [Instr.findNow,(i9 z hu p).1] using B
   ·cases h
  ·cases h
def zmw(I:Program)(Q:Array TypeId)(p:Array Operand)(R:TypeId):M9 I (yp I Q p) (λK=>do pure (.value (←Builtin.delete_ Q R (p.map K)))):=by
 unfold yp;split
 ·rename_i st Z s x L B;have M:=Vv L;have C:=Vv B;subst M C;refine M9.congr (nx:=λK=>do pure (.value (←Builtin.delete_ #[st,Z] R #[K s,K x]))) (λK=>U) ?_;split
  ·rename_i gg e hu;split
   ·rename_i d hd;obtain⟨E,_⟩:=zd6 hd;refine Wl λw0 X gB w K a b F S hb=>?_
    split
    ·rename_i o;split
     ·rename_i es N hg;split
      ·rename_i gA hs;generalize K s=ps at S;cases S with
       | @map _ T D =>
        obtain⟨H,g,V,q2⟩:=F.obj o _ (F.fresh _ _ _ D) hg _ D;have G:=F.lt _ _ _ D;have z:(getObj T.b).run I w=.ok (.map g N) w:=by simp[getObj,Sem.run,V]
        have A:∀y,(setObj T.b y).run I w=.ok () { w with heap:=w.heap.setIfInBounds T.b y }:=by intro y;simp[setObj,Sem.run,V]
        rcases zeh hb 0 hs q2 with ⟨O,P⟩|⟨Y,y,O,P,p3⟩
        ·refine⟨X,{ w with heap:=w.heap.setIfInBounds T.b (.map g N) },.tuple #[],CM.le_refl X,F.putObj D H _ _ ?_ (λ_ _ _ _ e=>Ar),.tup .nil,.inl ?_⟩
         ·intro L' j;rw[D]at j;cases j;exact⟨H,_,putObj_heap_same w _ G,P⟩
         ·unfold Builtin.delete_;simp only[I0,H6,H8,Sem.run_bind,Nm hu,Result.andThen_ok,z,js hd,kn E O,A,Sem.run_pure]
        ·refine⟨X,{ w with heap:=w.heap.setIfInBounds T.b (.map (g.eraseIdxIfInBounds Y) N) },.tuple #[],CM.le_refl X,F.putObj D H _ _ ?_ (λ_ _ _ _ e=>Ar),.tup .nil,.inl ?_⟩
         ·intro L' j;rw[D]at j;cases j;refine⟨H,_,putObj_heap_same w _ G,?_⟩;have hj:Y<g.size:=by simpa using P
          have:(g.eraseIdxIfInBounds Y).toList=g.toList.eraseIdx Y:=by
           simp[Array.eraseIdxIfInBounds,hj]
          rw[this];exact p3
         ·unfold Builtin.delete_;simp only[I0,H6,H8,Sem.run_bind,Nm hu,Result.andThen_ok,z,js hd,kn E O,Kq,A,Sem.run_pure]
      ·exact trivial
     ·exact trivial
    ·exact trivial
   ·exact Nk I _
  ·exact Nk I _
 ·exact Nk I _
end
section
open Go.RowKit (Below)
def z9p{w:World}{f:Nat}(h:gt p f=true)(args:Array Value):(callFunc f args).run p w=.ok (.enter f args) w:=by
 unfold gt at h;cases g:p.funcs[f]? with
 |none=>rw[g]at h;cases h
 |some fn =>
  rw[g]at h;simp only[Hh,bne_iff_ne,ne_eq]at h;obtain⟨A,z⟩:=h;have j:fn.body≠none:=by intro e;rw[e]at z;cases z
  simp[callFunc,g,A,j]
def zu0{w:World}{gv:Value}(G:VR E D gv){vs:Array Value}(I:VRs E H vs.toList){K:Sem Next}
  (g:∀fn first cap,gv=.func fn first cap→K.run p w=(invoke (.fn fn cap) (first++vs)).run p w):Qh p B E w K (bk p D H):=by
 unfold bk;split
 ·rename_i f first cap
  split
  ·rename_i M;cases G with
   | @fn _ N _ _ j z A C L =>
    cases A with
    |same =>
     refine⟨j.toList++vs.toList++z.toList,(C.append I).append L,.inl ⟨f,rfl,?_⟩⟩;rw[g _ _ _ rfl];have:(j++vs++z)=(j.toList++vs.toList++z.toList).toArray:=U
     rw[←this];exact z9p M _
  ·exact trivial
 ·rename_i l cap;cases G with
  | @fn _ N _ _ j z A C L =>
   cases A with
   |same _ h=>exact absurd rfl (h l)
   | @yield _ P O =>
    have F:j=#[]:=by
     have:=C.length;exact Kb (by simpa using this.symm)
    subst F;refine⟨vs.toList,I,.inr ⟨l,P,rfl,O,?_⟩⟩;rw[g _ _ _ rfl];simp[invoke]
 ·exact trivial
theorem zri {fn : Func} (g : fn.name = "maps.clone") (j : fn.origin = "") : Extern.findNext fn = none ∧ Extern.find fn = some Extern.MapsClone.clone := by
 have p : Extern.allNextRows.lookup "maps.clone" = none := Aa
 have z : Extern.allNextRows.lookup "" = none := Aa
 have A : Extern.allGenericRows.lookup "maps.clone" = none := Aa
 have B : Extern.allTypedRows.lookup "maps.clone" = none := Aa
 have C : Extern.allRows.lookup "maps.clone" = some Extern.MapsClone.clone := Aa
 refine⟨?_,?_⟩
 ·unfold Extern.findNext;dsimp only;rw[g,j,p,z];rfl
 ·unfold Extern.find;dsimp only;rw[g,A,B,C];rfl
def zvc{P:Program}{w:World}{r:Nat}{p:Array MapEntry}(t:TypeId)(z:w.heap[r]?=some (.map p g)) :
  (Extern.MapsClone.clone #[.iface t (.map (some r))]).run P w=.ok (.iface t (.map (some w.heap.size))) (w.alloc (.map p g)):=by
 have e:Extern.MapsClone.clone #[.iface t (.map (some r))]=(getObj r >>= λo=>match o with
   |.map j g=>(_root_.Go.newObj (.map j g) >>= λn=>pure (.iface t (.map (some n))))
   | _ => stuck "maps.clone: a map expected") := rfl
 rw[e];simp[MapKept.run_getObj_map z,Result.andThen,go_sem]
def Zw{P:Program}{w:World}(g:Rel B E A w){f:Nat}(j:s9 P f=true){vs:Array Value}(K:VRs E H vs.toList) :
  Qh P B E w (callFunc f vs) (zqk A H):=by
 unfold s9 at j;split at j
 ·rename_i fn F;simp only[Hh,Lu]at j;obtain⟨⟨L,O⟩,Q⟩:=j;obtain⟨R,S⟩:=zri L O;have p:=run_callFunc_extern (P:=P) F (by rw[L];decide) Q R S vs w;unfold zqk;split
  ·rename_i t o;split
   ·rename_i T M V
    ·generalize G:vs.toList=l at K;cases K with
     |cons I X =>
      cases X;cases I with
      |iface I =>
       cases I with
       | @map _ gg N =>
        have z:vs=#[.iface t (.map (some gg.b))]:=Lw.1 G;obtain⟨q1,C,Y,Z⟩:=g.obj _ _ (g.fresh _ _ _ N) V gg N;obtain⟨p1,p2⟩:=g.push (.map T M) (.map C M) 0 0 (λL' D=>by
         rw[CM.ext_same]at D;cases D;exact⟨g.low.size,C,Wi _ _,Z.mono (CM.le_ext _ (g.next_none 0) (.inr (K3 g.nx)))⟩)
        refine⟨_,_,.iface t (.map (some w.heap.size)),p2,p1,.iface (.map (CM.ext_same _ _ _ _)),.inl ?_⟩;rw[p,z,zvc t Y];rfl
   ·exact trivial
  ·exact trivial
 ·cases j
def zlx{w:World}{t:TypeId}{g:String}{f:Nat}(h:x7 p t g=some f)(v:Value):(method (p.types.size+Made.depth) t v g).run p w=.ok (f,v) w:=by
 unfold x7 at h;have hd:p.types.size+Made.depth=(p.types.size+99)+1:=rfl;rw[hd];cases j:p.info? t with
 |none=>rw[j]at h;cases h
 |some i =>
  rw[j]at h;dsimp only at h;cases hm:i.methods.find? (·.name==g) with
  |none=>rw[hm]at h;cases h
  |some m =>
   rw[hm]at h;dsimp only at h;split at h
   ·rename_i C;have z:m.path=#[]:=Array.isEmpty_iff.1 C;unfold method;simp only[Sem.run_bind,aj j,Result.andThen_ok,hm,z,follow,Sem.run_pure];split at h
    ·rename_i D e A hu;cases h;simp only[A,Sem.run_bind,receiverAt,Nm hu,Result.andThen_ok,Place.get,Sem.run_pure]
    ·cases h
    ·rename_i D d B A hu;cases h;simp only[A,Sem.run_bind,receiverAt,Nm hu,Result.andThen_ok];cases d<;>first|rfl|exact absurd hu (B _)
    ·cases h
   ·cases h
def zqx(p:Program)(c:Call)(o:Oper)(ho:o.op=.call c):M9 p (Za p c) (λj=>execOp j o):=by
 have F:∀j,execOp j o=(do let d ←resolve j c o.type;invoke d.target d.args):=λj=>by simp[execOp,ho]
 refine M9.congr (λj=>(F j).symm) ?_;unfold Za;split
 ·rename_i b hb;have G:∀j,(do let d ←resolve j c o.type;invoke d.target d.args:Sem Next)=builtin b c.argTypes o.type (c.args.map fun | .const _=>true|_=>false) (c.args.map j):=by
   intro j;simp only[resolve,hb];rfl
  refine M9.congr (λj=>(G j).symm) ?_;split
  ·split
   ·rename_i t x H I;have K:=Vt H;have L:=Vt I;exact M9.congr (λj=>by rw[K,L];simp[builtin]) (zum p t o.type x)
   ·exact Nk p _
  ·split
   ·rename_i t x H I;have K:=Vt H;have L:=Vt I;exact M9.congr (λj=>by rw[K,L];simp[builtin]) (zup p t o.type x)
   ·exact Nk p _
  ·exact M9.congr (λj=>Cm) (zmq p true c.args c.argTypes o.type)
  ·exact M9.congr (λj=>Cm) (zmq p false c.args c.argTypes o.type)
  ·exact M9.congr (λj=>Cm) (zm1 p c.argTypes c.args o.type)
  ·exact M9.congr (λj=>Cm) (zry p c.argTypes c.args o.type)
  ·exact M9.congr (λj=>Cm) (zoc p c.argTypes c.args o.type)
  ·exact M9.congr (λj=>Cm) (zmw p c.argTypes c.args o.type)
  ·exact Nk p _
 ·rename_i f X;intro Y gB gC w gD j Z z;dsimp only;split
  ·rename_i gE hg;split
   ·rename_i l E;have B:Qh p Y gB w (do let d ←resolve j c o.type;invoke d.target d.args) (bk p gE l):=by
     refine zu0 (z _ _ hg) (vs:=c.args.map j) (by rw[Ji];exact ma z E) (λfn first cap A=>?_);simp only[resolve,X,A,Deferred.ofValue,Sem.run_bind,Sem.run_pure,Result.andThen_ok]
    unfold wm;split
    ·rename_i f';split
     ·rename_i M;have N:=Zw Z M (vs:=c.args.map j) (by rw[Ji];exact ma z E);have A:=z _ _ hg;generalize O:j f=gv at A;cases A with
      | @fn _ g' _ _ l' r' P Q R =>
       cases P with
       |same =>
        have S:l'=#[]:=Kb (by simpa using Q.length.symm);have T:r'=#[]:=Kb (by simpa using R.length.symm);subst S T;have C:(do let d ←resolve j c o.type;invoke d.target d.args:Sem Next).run p w=(callFunc f' (c.args.map j)).run p w:=by
         simp only[resolve,X,O,Deferred.ofValue,Sem.run_bind,Sem.run_pure,Result.andThen_ok,invoke];simp
        unfold Qh at N ⊢;split at N
        ·exact trivial
        ·obtain⟨C',w',x,a1,a2,a3,a4⟩:=N;exact⟨C',w',x,a1,a2,a3,by rw[C];exact a4⟩
        ·rename_i t gg g;unfold zqk at g;split at g
         ·split at g<;>cases g
         ·cases g
     ·exact B
    ·exact B
   ·exact trivial
  ·exact trivial
 ·rename_i r gA hr;intro Y gB gC w gD j Z z;dsimp only;split
  ·rename_i t v A;split
   ·rename_i f hm;split
    ·rename_i l E;split
     ·rename_i hc;have D:=z _ _ A;generalize V:j r=pv at D;cases D with
      | @iface _ _ u hu =>
       refine⟨u::c.args.toList.map j,.cons hu (ma z E),.inl ⟨f,rfl,?_⟩⟩;have S:(#[Value.iface t u]++c.args.map j)[0]?=some (Value.iface t u):=by rw[Je U];rfl
       have T:(#[Value.iface t u]++c.args.map j).extract 1 (#[Value.iface t u]++c.args.map j).size=c.args.map j:=U
       have e3:(#[u]++c.args.map j)=(u::c.args.toList.map j).toArray:=U
       simp only[resolve,hr,V,Sem.run_bind,Sem.run_pure,Result.andThen_ok,invoke,S,T,callMethod,run_program,zlx hm u,e3];exact z9p hc _
     ·exact trivial
    ·exact trivial
   ·exact trivial
  ·exact trivial
def Xh(P:Program)(o:Oper):M9 P (Nj P o.op) (λj=>execOp j o):=by
 generalize g:o.op=op;cases op with
 |move x=>exact M9.congr (λj=>Am) (zi9 P x)
 |assign x=>exact M9.congr (λj=>Am) (zi9 P x)
 |pick c a b=>exact M9.congr (λj=>Am) (zr8 P c a b)
 |alloc t=>exact M9.congr (λj=>by simp only[execOp,g]) (zoh P t)
 |box t x=>exact M9.congr (λj=>Am) (zst P t x)
 |build t p=>exact M9.congr (λj=>Am) (zot P t p)
 |buildSlice t n p=>exact M9.congr (λj=>Am) (zet P t n p)
 |load t a=>exact M9.congr (λj=>Am) (zs0 P t a)
 |store t a x=>exact M9.congr (λj=>Am) (zo3 P t a x)
 |nilCheck x=>exact zhs P x o g
 |binOp op t x y z=>exact zvk P op t z x y o g
 |unOp op t x=>exact W2 P op t x o g
 |convert s d x=>exact M9.congr (λj=>Am) (zs5 P s d x)
 |makeInterface t x=>exact M9.congr (λj=>Am) (zjk P t x)
 |makeFunc f a b =>
  cases f with
  |yield l=>exact Nk P _
  |_=>exact M9.congr (λj=>Am) (zn9 P _ a b (λl e=>Ar))
 |makeMap t r=>exact M9.congr (λj=>Am) (zoq P t r)
 |makeSlice t l c=>exact M9.congr (λj=>Am) (zks P t l c)
 |slice t x a b c=>exact M9.congr (λj=>Am) (zo8 P t x a b c)
 |fieldAddr t x f=>exact M9.congr (λj=>Am) (zhb P t x f)
 |field t x f=>exact M9.congr (λj=>Am) (zos P t x f)
 |indexAddr t x i=>exact M9.congr (λj=>Am) (zfr P t x i)
 |index t x i=>exact M9.congr (λj=>Am) (zod P t x i)
 |lookup t x i ok=>exact M9.congr (λj=>Am) (zni P t x i ok)
 |mapUpdate t m k x=>exact M9.congr (λj=>Am) (z9u P t m k x)
 |insert t m k x=>exact M9.congr (λj=>Am) (z9u P t m k x)
 |range t x=>exact M9.congr (λj=>Am) (zp7 P t x)
 |next A s=>exact M9.congr (λj=>Am) (zrf P A s o.type)
 |typeAssert x t a ok=>exact M9.congr (λj=>Am) (zlw P x t a ok)
 |extract t i=>exact M9.congr (λj=>Am) (zjp P t i)
 |call c=>exact zqx P c o g
 |_=>exact Nk P _
end
section
open Go.RowKit (Below)
def jy(P:Program)(z:World)(D:CM)(w:World)(t:Tgt)(vs:List Value)(v:AV)(A:Heap):Prop :=
 match t with
 |.fn f=>∀cs,∃g w' j p,D.le g∧Rel z g A w'∧VR g v j∧Steps P (lone (Frame.enter P f vs.toArray .normal) cs w) (lone p cs w')∧p.fn=f∧p.leaving P w' (.returned j)
 |.yield l=>∀C,D l 0=some C→∀c cs,∃g w' j f B a b,D.le g∧Rel z g A w'∧VR g v j∧(Instr.yield C.b vs.toArray).run P w=.ok (.round C.b f B a b) w ∧
   Steps P (lone (Frame.round C.b f B a b .normal) (c::cs) w) (lone (c.finish j) cs w')
def Xa(P:Program)(c:Pw):Prop :=
 ∀j A B w t g p v z,Rel j A B w→VRs A g p→c t g B=.ok v z→jy P j A w t p v z
def zv5(P:Program):Xa P noO:=λ_ _ _ _ _ _ _ _ _ _ _ h=>Al
noncomputable def N9(d:Option Tmp)(a:AV)(E:Tr AV):Tr AV:=match d with
 |none=>E
 |some d=>Nv a (Mx d) E
def vu{n:Nat}{d:Option Tmp}{g:PutF}(h:P7 n d=some g):(∀a E,g.run a E=N9 d a E)∧∀t,d=some t→t<n:=by
 unfold P7 at h;split at h
 ·cases h;exact⟨λ_ _=>rfl,λt e=>Ar⟩
 ·split at h
  ·rename_i hd;cases h;exact⟨λ_ _=>rfl,λt e=>by cases e;exact hd⟩
  ·cases h
def ER.put{n:Nat}{gA:CM}{E:Tr AV}{a:Act}(h:ER n gA E a.tmps){d:Option Tmp}(hd:∀t,d=some t→t<n){C:AV}{x:Value}(hv:VR gA C x):ER n gA (N9 d C E) (a.put d x).tmps:=by
 obtain⟨h1,h2,h3⟩:=h;cases d with
 |none=>exact⟨h1,h2,h3⟩
 |some d =>
  have gg:(d:Nat)<n:=hd d rfl;refine⟨by show (a.tmps.setIfInBounds d x).size=n;simpa using h1,h2,λt ht=>?_⟩;show yj gA (Mm (Mx t) (Nv C (Mx d) E)) ((a.tmps.setIfInBounds d x).getD t undef);rw[x5];by_cases e:t=d
  ·subst e;rw[Hs rfl];have:(a.tmps.setIfInBounds t x).getD t undef=x:=by
    rw[Ir,Array.getElem?_setIfInBounds_self_of_lt (show t<a.tmps.size by rw[h1];exact gg)];rfl
   rw[this];exact hv
  ·rw[Hq e];have:(a.tmps.setIfInBounds d x).getD t undef=a.tmps.getD t undef:=by
    rw[Ir,Array.getElem?_setIfInBounds_ne (λq=>e q.symm),←Ir]
   rw[this];exact h3 t ht
def zfj{n:Nat}{G:CM}{E:Tr AV}(h:ER n G E X)(ops:Array Oper)(o:Oper):(Rh ops o).run E=Region.wanted o (yielded ops X):=by
 obtain⟨H,I,K⟩:=h;unfold Rh Region.wanted;cases M:o.guard with
 |none=>rfl
 |some L =>
  obtain⟨N,z⟩:=L;dsimp only;unfold yielded;cases hd:(ops[N]?).bind (·.dst) with
  |none=>rfl
  |some d =>
   dsimp only[Option.bind];split
   ·rename_i j;dsimp only;have g:=K d j;by_cases A:d<X.size
    ·have p:X[d]?=some X[d]:=Iy A;have C:X.getD d undef=X[d]:=by rw[Ir,p];rfl
     rw[C]at g;rw[p];generalize X[d]=v at g;cases B:Mm (Mx d) E with
     |none =>
      rw[B]at g;have:v=undef:=g;subst this;rfl
     |some D =>
      rw[B]at g;have F:VR G D v:=g;cases F with
      |bool b=>cases b<;>cases z<;>rfl
      |_=>rfl
    ·have p:X[d]?=none:=K6 (Nat.le_of_not_lt A);have C:X.getD d undef=undef:=by rw[Ir,p];rfl
     rw[C]at g;rw[p];cases B:Mm (Mx d) E with
     |none=>rfl
     |some D =>
      rw[B]at g;have F:VR G D undef:=g;cases F;rfl
   ·rename_i j;have p:X[d]?=none:=K6 (by rw[H];exact Ix I (L6 (Nat.lt_of_not_le j)));rw[p];rfl
section steps
variable {P : Program} {b : Frame} {a : Act} {k : List Item} {cs : List Frame} {w w' : World} {ops : Array Oper}
def zpe{i:Nat}{rest:List Nat}{o:Oper}(g:ops[i]?=some o)(v:Value):(b.atR a (.inRegion ops (i::rest)::k)).finish v=b.atR (a.put o.dst v) (.inRegion ops rest::k):=by
 rw[Frame.finish_atR,g];rfl
def zpx{i:Nat}{rest:List Nat}{o:Oper}{x:Value}(g:ops[i]?=some o)(hw:Region.wanted o (yielded ops a.tmps)=true)(hd:∀c,o.op≠.defer c)
  (j:(execOp a.eval o).run P w=.ok (.value x) w') :
  step P (lone (b.atR a (.inRegion ops (i::rest)::k)) cs w)=.next (lone (b.atR (a.put o.dst x) (.inRegion ops rest::k)) cs w'):=by
 refine step_lone_go ?_;rw[stepGR_op (b:=b) (k:=k) (cs:=cs) g hw,Oper.semAt_eq _ _ _ hd,←zpe g];simp[stepG.apply,Sem.runT_eq,j]
def W0{i:Nat}{rest:List Nat}{o:Oper}(g:ops[i]?=some o)(hw:Region.wanted o (yielded ops a.tmps)=true)(hd:∀c,o.op≠.defer c)
  (j:(execOp a.eval o).run P w=.ok .skip w') :
  step P (lone (b.atR a (.inRegion ops (i::rest)::k)) cs w)=.next (lone (b.atR (a.put o.dst undef) (.inRegion ops rest::k)) cs w'):=by
 refine step_lone_go ?_;rw[stepGR_op (b:=b) (k:=k) (cs:=cs) g hw,Oper.semAt_eq _ _ _ hd,←zpe g];simp[stepG.apply,Sem.runT_eq,j]
def zra{i:Nat}{rest:List Nat}{o:Oper}{f:Nat}(g:ops[i]?=some o)(hw:Region.wanted o (yielded ops a.tmps)=true)(hd:∀c,o.op≠.defer c)
  (j:(execOp a.eval o).run P w=.ok (.enter f X) w') :
  step P (lone (b.atR a (.inRegion ops (i::rest)::k)) cs w)=.next (lone (Frame.enter P f X .normal) (b.atR a (.inRegion ops (i::rest)::k)::cs) w'):=by
 refine step_lone_go ?_;rw[stepGR_op (b:=b) (k:=k) (cs:=cs) g hw,Oper.semAt_eq _ _ _ hd];simp[stepG.apply,Sem.runT_eq,j,Frame.atR]
def Xc{i:Nat}{rest:List Nat}{o:Oper}{l f:Nat}{x y:Code}(g:ops[i]?=some o)(hw:Region.wanted o (yielded ops a.tmps)=true)(hd:∀c,o.op≠.defer c)
  (j:(execOp a.eval o).run P w=.ok (.round l f X x y) w') :
  step P (lone (b.atR a (.inRegion ops (i::rest)::k)) cs w)=.next (lone (Frame.round l f X x y .normal) (b.atR a (.inRegion ops (i::rest)::k)::cs) w'):=by
 refine step_lone_go ?_;rw[stepGR_op (b:=b) (k:=k) (cs:=cs) g hw,Oper.semAt_eq _ _ _ hd];simp[stepG.apply,Sem.runT_eq,j]
end steps
def zfq{P:Program}{o:Oper}{E:Tr AV}{H:Heap}(h:(Nj P o.op).run E H≠.no):∀c,o.op≠.defer c:=by
 intro c e;rw[e]at h;exact h rfl
def zgr{P:Program}{c:Pw}(hc:Xa P c){n:Nat}{ops:Array Oper}{i:Nat}{o:Oper}(I:ops[i]?=some o){gg:CM}{H:Heap}{w:World}{E:Tr AV}{a:Act}
  (X:Rel B gg H w) (hE:ER n gg E a.tmps) (h:(Py P n ops o).run c E H=.ok F A) (b:Frame) (rest:List Nat) (k:List Item) (cs:List Frame) :
  ∃D w' x av,gg.le D∧Rel B D A w'∧VR D av x∧F=N9 o.dst av E∧(∀t,o.dst=some t→t<n) ∧
   Steps P (lone (b.atR a (.inRegion ops (i::rest)::k)) cs w) (lone (b.atR (a.put o.dst x) (.inRegion ops rest::k)) cs w'):=by
 unfold Py at h;cases Y:P7 n o.dst with
 |none=>rw[Y]at h;cases h
 |some gB =>
  rw[Y]at h;dsimp only at h;obtain⟨g,p⟩:=vu Y;have T:=zfj hE ops o;cases Q:(Rh ops o).run E with
  |false =>
   rw[Q]at h T;cases h;refine⟨gg,w,undef,Qv,CM.le_refl gg,X,.tup .nil,g _ _,p,.one ?_⟩;have:=stepR_op_skip (P:=P) (b:=b) (a:=a) (k:=k) (cs:=cs) (w:=w) (ops:=ops) (i:=i) (rest:=rest) (by rw[I];simpa using T.symm);rw[this,I];rfl
  |true =>
   rw[Q]at h T;dsimp only at h;have hw:Region.wanted o (yielded ops a.tmps)=true:=T.symm;have V:=Xh P o B gg H w E a.eval X (ov hE);cases R:(Nj P o.op).run E H with
   |no=>rw[R]at h;cases h
   |val v H2 =>
    rw[R]at h V;cases h;have z:=zfq (P:=P) (o:=o) (E:=E) (H:=H) (by rw[R];intro e;cases e);obtain⟨D,w',x,M,N,O,G⟩:=V;rcases G with G|⟨G,rfl⟩
    ·exact⟨D,w',x,v,M,N,O,g _ _,p,.one (zpx I hw z G)⟩
    ·exact⟨D,w',undef,v,M,N,O,g _ _,p,.one (W0 I hw z G)⟩
   |call t S =>
    rw[R]at h V;dsimp only at h;have z:=zfq (P:=P) (o:=o) (E:=E) (H:=H) (by rw[R];intro e;cases e);cases K:c t S H with
    |no=>rw[K]at h;cases h
    |ok v H2 =>
     rw[K]at h;cases h;obtain⟨vs,hv,L⟩:=V;have C:=hc _ _ _ _ _ _ _ _ _ X hv K;rcases L with ⟨f,rfl,j⟩|⟨l,gA,rfl,hL,j⟩
     ·obtain⟨D,w',Z,fr,M,N,O,G,h5,h6⟩:=C (b.atR a (.inRegion ops (i::rest)::k)::cs);refine⟨D,w',Z,v,M,N,O,g _ _,p,.head (zra I hw z j) (Steps.trans G (.one ?_))⟩;rw[step_leave_returned h6,zpe I]
     ·obtain⟨D,w',Z,f,tm,x,y,M,N,O,G,h5⟩:=C gA hL (b.atR a (.inRegion ops (i::rest)::k)) cs;rw[G]at j;refine⟨D,w',Z,v,M,N,O,g _ _,p,.head (Xc I hw z j) ?_⟩;rw[←zpe I];exact h5
def zng{P:Program}{c:Pw}(I:Xa P c){n:Nat}{ops:Array Oper}(b:Frame)(k:List Item)(cs:List Frame):∀(l:List Oper) (i:Nat),ops.toList.drop i=l →
  ∀{j:World} {B:CM} {K p:Heap} {w:World} {L z:Tr AV} {a:Act},Rel j B K w→ER n B L a.tmps→(ac P n ops l).run c L K=.ok z p →
  ∃C w' D,B.le C∧Rel j C p w'∧ER n C z D.tmps∧D.defers=a.defers ∧
   Steps P (lone (b.atR a (.inRegion ops (List.range' i l.length)::k)) cs w) (lone (b.atR D (.inRegion ops []::k)) cs w')
 |[],i,g,j,B,K,p,w,L,z,a,E,A,h=>by
  cases h;exact⟨B,w,a,CM.le_refl B,E,A,rfl,.refl _ _⟩
 |o::l,i,g,j,B,K,p,w,L,z,a,E,A,h=>by
  have M:i<ops.toList.length:=by
   rcases Kj i ops.toList.length with F|F
   ·exact F
   ·rw[K4 F]at g;cases g
  rw[If M]at g;injection g with O g
  have G:ops[i]?=some o:=by rw[←O];simp at M ⊢
  unfold ac at h;dsimp only at h;cases H:(Py P n ops o).run c L K with
  |no=>rw[H]at h;cases h
  |ok E1 H1 =>
   rw[H]at h;dsimp only at h;obtain⟨C1,w1,x,av,N,Q,R,S,T,V⟩:=zgr I G E A H b (List.range' (i+1) l.length) k cs;subst S;obtain⟨X,Y,Z,r1,r2,r3,r4,r5⟩:=zng I b k cs l (i+1) g (a:=a.put o.dst x) Q ((A.mono N).put T R) h;refine⟨X,Y,Z,CM.le_trans N r1,r2,r3,?_,?_⟩
   ·rw[r4];cases o.dst<;>rfl
   ·rw[show (o::l).length=l.length+1 from rfl,List.range'_succ];exact Steps.trans V r5
end
section
def Qx(g:List Nat)(E' E:Tr AV):Prop:=∀t∈g,t≤M1→Mm (Mx t) E'=Mm (Mx t) E
def Zp{x:Operand}{E E':Tr AV}(h:Qx (kx [x]) E' E):(M0 x).run E'=(M0 x).run E:=by
 cases x with
 |tmp t =>
  unfold M0;dsimp only;split
  ·rename_i g;dsimp only;rw[h t (by simp[kx]) (Hw g)]
  ·rfl
 |const v=>unfold M0;dsimp only;split<;>rfl
 |func f=>rfl
 |global j=>rfl
def Qx.opds:∀{l:List Operand} {E E':Tr AV},Qx (kx l) E' E→∀x∈l,(M0 x).run E'=(M0 x).run E
 |[],_,_,_,x,hx=>by cases hx
 |y::l,E,E',h,x,hx=>by
  rcases Hu.1 hx with rfl|hx
  ·refine Zp (λt ht=>h t ?_);cases x<;>simp_all [kx]
  ·refine Qx.opds (l:=l) (λt ht=>h t ?_) x hx;cases y<;>simp_all [kx]
section cong
variable {E E' : Tr AV} {H : Heap}
def opds_cong:∀{l:List Operand},(∀x∈l,(M0 x).run E'=(M0 x).run E)→(opds l).run E'=(opds l).run E
 |[],_=>rfl
 |x::l,h=>by
  simp only[opds];rw[h x U,opds_cong (λy g=>h y A2)]
def Sw{x:Operand}{f:Heap→AV→OR}(h:(M0 x).run E'=(M0 x).run E):(Oy x f).run E' H=(Oy x f).run E H:=by
 simp only[Oy];rw[h]
def Vw{x y:Operand}{f:Heap→AV→AV→OR}(h:(M0 x).run E'=(M0 x).run E)(k:(M0 y).run E'=(M0 y).run E):(R5 x y f).run E' H=(R5 x y f).run E H:=by
 simp only[R5];rw[h,k]
def zfb{x:Option Operand}(h:∀y,x=some y→(M0 y).run E'=(M0 y).run E):(O2 x).run E'=(O2 x).run E:=by
 cases x with
 |none=>rfl
 |some y=>simp only[O2];rw[h y rfl]
def fillA_cong:∀{g:List Part} {j:List AV},(∀p∈g,p.v.run E'=p.v.run E)→Ym j g E'=Ym j g E
 |[],_,_=>rfl
 |p::g,j,h=>by
  simp only[Ym];rw[h p U];split
  ·rfl
  ·split
   ·rfl
   ·split
    ·split
     ·exact fillA_cong (λq z=>h q Ak)
     ·rfl
    ·rfl
def z7f{g:Nat→Option (Nat×Nat)}:∀{l:List (Nat×Operand)} {p:List Part},bj g l=some p→(∀x∈l.map (·.2),(M0 x).run E'=(M0 x).run E)→∀z∈p,z.v.run E'=z.v.run E
 |[],p,h,_,z,j=>by cases h;cases j
 |(i,x)::l,p,h,A,z,j=>by
  simp only[bj]at h;split at h
  ·cases h
  ·split at h
   ·cases h
   ·rename_i r C;cases h;rcases Hu.1 j with rfl|j
    ·exact A x U
    ·exact z7f C (λy B=>A y (by simp at B ⊢;exact .inr B)) z j
end cong
def zre{c:Call}{E E':Tr AV}{H:Heap}(h:∀x∈c.operands.toList,(M0 x).run E'=(M0 x).run E):(Za p c).run E' H=(Za p c).run E H:=by
 have g:∀x∈c.args.toList,(M0 x).run E'=(M0 x).run E:=λx z=>h x (by simp[Call.operands]at z ⊢;exact .inr z)
 unfold Za;split
 ·split
  ·split
   ·rename_i q;rw[q]at g;unfold Tl;split<;>first|rfl|exact Sw (g _ U)
   ·rfl
  ·split
   ·rename_i q;rw[q]at g;unfold Uq;split<;>first|rfl|exact Sw (g _ U)
   ·rfl
  ·simp only[Si];rw[opds_cong g]
  ·simp only[Si];rw[opds_cong g]
  ·unfold wo;split
   ·rename_i q;rw[q]at g;split
    ·unfold zr;split
     ·split
      ·exact Vw (g _ U) (g _ U)
      ·rfl
     ·rfl
    ·unfold ku;split
     ·split
      ·exact Vw (g _ U) (g _ U)
      ·rfl
     ·rfl
    ·unfold ku;split
     ·split
      ·exact Vw (g _ U) (g _ U)
      ·rfl
     ·rfl
    ·rfl
   ·rfl
  ·unfold vx;split
   ·rename_i q;rw[q]at g;split
    ·split
     ·rfl
     ·split
      ·exact Vw (g _ U) (g _ U)
      ·rfl
    ·rfl
   ·rfl
  ·unfold yq;split
   ·rename_i q;rw[q]at g;split
    ·split
     ·split
      ·exact Sw (g _ U)
      ·rfl
     ·rfl
    ·rfl
   ·rfl
  ·unfold yp;split
   ·rename_i q;rw[q]at g;split
    ·split
     ·exact Vw (g _ U) (g _ U)
     ·rfl
    ·rfl
   ·rfl
  ·rfl
 ·rename_i f q;have j:(M0 f).run E'=(M0 f).run E:=h f (by simp[Call.operands,q]);dsimp only;rw[j,opds_cong g]
 ·rename_i r A q;have j:(M0 r).run E'=(M0 r).run E:=h r (by simp[Call.operands,q]);dsimp only;rw[j,opds_cong g]
def zh6{o:Op}{E E':Tr AV}{H:Heap}(h:∀x∈o.operands.toList,(M0 x).run E'=(M0 x).run E):(Nj p o).run E' H=(Nj p o).run E H:=by
 unfold Nj;split
 ·exact Sw (h _ Ac)
 ·exact Sw (h _ Ac)
 ·rename_i c a b;dsimp only;rw[h c Ac,h a Ac,h b Ac]
 ·split<;>rfl
 ·exact Sw (h _ Ac)
 ·rename_i t g;have z:∀x∈g.toList.map (·.2),(M0 x).run E'=(M0 x).run E:=λx j=>h x C3
  unfold oi;split
  ·rfl
  ·split
   ·split
    ·rfl
    ·split
     ·rfl
     ·rename_i q;dsimp only;rw[fillA_cong (z7f q z)]
   ·split
    ·rfl
    ·split
     ·rfl
     ·rename_i q;dsimp only;rw[fillA_cong (z7f q z)]
   ·rfl
 ·rename_i t len g;have z:∀x∈g.toList.map (·.2),(M0 x).run E'=(M0 x).run E:=λx j=>h x C3
  unfold lh;split
  ·split
   ·rfl
   ·split
    ·rfl
    ·split
     ·split
      ·rfl
      ·rename_i q;dsimp only;rw[fillA_cong (z7f q z)]
     ·rfl
  ·rfl
 ·unfold nq;split<;>first|rfl|exact Sw (h _ Ac)
 ·unfold wd;split<;>first|rfl|exact Vw (h _ Ac) (h _ Ac)
 ·exact Sw (h _ Ac)
 ·exact Vw (h _ Ac) (h _ Ac)
 ·exact Sw (h _ Ac)
 ·unfold T7;split
  ·exact Sw (h _ Ac)
  ·split<;>first|rfl|exact Sw (h _ Ac)
  ·exact Sw (h _ Ac)
  ·split<;>first|rfl|exact Sw (h _ Ac)
  ·rfl
 ·unfold mi;split<;>first|rfl|exact Sw (h _ Ac)
 ·rename_i f first cap
  split
  ·rfl
  ·simp only[py];rw[opds_cong (l:=first.toList) (λx j=>h x (by simp[Op.operands]at j ⊢;exact .inl j)),opds_cong (l:=cap.toList) (λx j=>h x (by simp[Op.operands]at j ⊢;exact .inr j))]
 ·unfold jo;split
  ·rfl
  ·split<;>first|rfl|exact Sw (h _ Ac)
 ·unfold ir;split
  ·split
   ·rfl
   ·split
    ·rfl
    ·split
     ·exact Vw (h _ Ac) (h _ Ac)
     ·rfl
  ·rfl
 ·rename_i t x D F G;have A:=h x Ac;have B:(O2 D).run E'=(O2 D).run E:=zfb (λy e=>h y Ed);have C:(O2 F).run E'=(O2 F).run E:=zfb (λy e=>h y Ed);have I:(O2 G).run E'=(O2 G).run E:=zfb (λy e=>h y Ed);unfold ic;split
  ·split
   ·rfl
   ·dsimp only;rw[A,B,C]
  ·split
   ·rfl
   ·split
    ·rfl
    ·dsimp only;rw[A,B,C,I]
  ·split
   ·rfl
   ·split
    ·rfl
    ·dsimp only;rw[A,B,C,I]
  ·rfl
 ·unfold qj;split
  ·split
   ·rfl
   ·split<;>first|rfl|exact Sw (h _ Ac)
  ·rfl
 ·unfold na;split
  ·split
   ·rfl
   ·split<;>first|rfl|exact Sw (h _ Ac)
  ·rfl
 ·unfold mu;split
  ·split
   ·rfl
   ·exact Vw (h _ Ac) (h _ Ac)
  ·split
   ·rfl
   ·exact Vw (h _ Ac) (h _ Ac)
  ·rfl
 ·unfold qh;split
  ·exact Vw (h _ Ac) (h _ Ac)
  ·split
   ·exact Vw (h _ Ac) (h _ Ac)
   ·rfl
  ·rfl
 ·unfold nv;split
  ·split
   ·exact Vw (h _ Ac) (h _ Ac)
   ·rfl
  ·rfl
 ·rename_i t m k x;unfold rv;split
  ·split
   ·dsimp only;rw[h m Ac,h k Ac,h x Ac]
   ·rfl
  ·rfl
 ·rename_i t m k x;unfold rv;split
  ·split
   ·dsimp only;rw[h m Ac,h k Ac,h x Ac]
   ·rfl
  ·rfl
 ·unfold rangeF;split<;>first|rfl|exact Sw (h _ Ac)
 ·unfold vd;split<;>first|rfl|exact Sw (h _ Ac)
 ·unfold nm;split
  ·rfl
  ·split
   ·rfl
   ·exact Sw (h _ Ac)
  ·rfl
 ·exact Sw (h _ Ac)
 ·exact zre (λx j=>h x C3)
 ·rfl
def iq{ops:Array Oper}{o:Oper}{E E':Tr AV}(h:Qx (S8 ops o) E' E):(Rh ops o).run E'=(Rh ops o).run E:=by
 unfold Rh;split
 ·rfl
 ·rename_i z j p;split
  ·rfl
  ·rename_i d hd;split
   ·rename_i g;dsimp only;rw[h d (by simp[S8,p,hd]) g]
   ·rfl
end
inductive QR (H H2:Heap):OR→OR→Prop where
 |no:QR H H2 .no .no
 |val (v:AV):QR H H2 (.val v H) (.val v H2)
def R6(j:OpF):Prop:=∀p z g,QR z g (j.run p z) (j.run p g)
inductive RR (H:Heap):OR→Prop where
 |no:RR H .no
 |val (v:AV):RR H (.val v H)
def Vi(j:OpF):Prop:=∀p g,RR g (j.run p g)
def R6.reads{F:OpF}(h:R6 F):Vi F:=λE H=>by
 have:=h E H H;generalize F.run E H=r at this;cases this with
 |no=>exact .no
 |val v=>exact .val v
def quiet_stuck:R6 Nc:=λ_ _ _=>.no
def reads_stuck:Vi Nc:=λ_ _=>.no
def QR.ret1{H H2:Heap}(o:Option AV):QR H H2 (ret1 H o) (Sv.ret1 H2 o):=by cases o<;>constructor
def RR.ret1{H:Heap}(o:Option AV):RR H (Sv.ret1 H o):=by cases o<;>constructor
def Ut{x:Operand}{f:Heap→AV→OR}(h:∀a j g,QR j g (f j a) (f g a)):R6 (Oy x f):=λp j g=>by
 simp only[Oy];cases (M0 x).run p with
 |none=>exact .no
 |some a=>exact h a j g
def x9{x y:Operand}{f:Heap→AV→AV→OR}(h:∀a b j g,QR j g (f j a b) (f g a b)):R6 (R5 x y f):=λp j g=>by
 simp only[R5];cases (M0 x).run p with
 |none=>exact .no
 |some a =>
  cases (M0 y).run p with
  |none=>exact .no
  |some b=>exact h a b j g
def uj{x:Operand}{f:Heap→AV→OR}(h:∀a g,RR g (f g a)):Vi (Oy x f):=λj g=>by
 simp only[Oy];cases (M0 x).run j with
 |none=>exact .no
 |some a=>exact h a g
def zmj{x y:Operand}{f:Heap→AV→AV→OR}(h:∀a b g,RR g (f g a b)):Vi (R5 x y f):=λj g=>by
 simp only[R5];cases (M0 x).run j with
 |none=>exact .no
 |some a =>
  cases (M0 y).run j with
  |none=>exact .no
  |some b=>exact h a b g
def zob(p:Program)(t:TypeId)(g:Array (Nat×Operand)):R6 (oi p t g):=by
 unfold oi;split
 ·exact quiet_stuck
 ·split
  ·split
   ·exact quiet_stuck
   ·split
    ·exact quiet_stuck
    ·intro z A j;dsimp only;split
     ·exact .val _
     ·exact .no
  ·split
   ·exact quiet_stuck
   ·split
    ·exact quiet_stuck
    ·intro z A j;dsimp only;split
     ·exact .val _
     ·exact .no
  ·exact quiet_stuck
def zhv(j g:Heap)(a:AV):QR j g (ol j a) (ol g a):=by
 unfold ol;split<;>constructor
def zjc(g:Program)(t:TypeId)(x:Operand):R6 (mi g t x):=by
 unfold mi;split
 ·exact quiet_stuck
 ·exact Ut λa p j=>.val _
 ·exact quiet_stuck
def znl(f:Fn)(x y:Array Operand):R6 (py f x y):=λj p g=>by
 simp only[py];split
 ·split<;>constructor
 ·exact .no
def zgw(g:Program)(s:TypeId)(x:Operand)(f:Nat):R6 (qj g s x f):=by
 unfold qj;split
 ·split
  ·exact quiet_stuck
  ·split
   ·exact quiet_stuck
   ·exact quiet_stuck
   ·exact Ut λa p j=>Bi
 ·exact quiet_stuck
def zor(g:Program)(s:TypeId)(x:Operand)(f:Nat):R6 (na g s x f):=by
 unfold na;split
 ·split
  ·exact quiet_stuck
  ·split
   ·exact Ut λa p j=>by
     split
     ·exact .ret1 _
     ·exact .no
   ·exact quiet_stuck
 ·exact quiet_stuck
def zfh(z:Program)(t:TypeId)(x g:Operand):R6 (mu z t x g):=by
 unfold mu;split
 ·split
  ·exact quiet_stuck
  ·refine x9 λa b A j=>?_
   split
   ·rename_i len p _ _ n;cases Nat.blt n len
    ·exact .no
    ·dsimp only;split<;>constructor
   ·exact .no
 ·split
  ·exact quiet_stuck
  ·refine x9 λa b A j=>?_
   split
   ·split<;>constructor
   ·exact .no
 ·exact quiet_stuck
def zo9(p:Program)(t:TypeId)(x g:Operand):R6 (qh p t x g):=by
 unfold qh;split
 ·refine x9 λa b z j=>?_
  split
  ·split<;>constructor
  ·exact .no
 ·split
  ·refine x9 λa b z j=>?_
   split
   ·split
    ·exact .ret1 _
    ·exact .no
   ·exact .no
  ·exact quiet_stuck
 ·exact quiet_stuck
def znh(g:Program)(x:Operand)(t:TypeId)(ok:Bool):R6 (nm g x t ok):=by
 unfold nm;split
 ·exact quiet_stuck
 ·split
  ·exact quiet_stuck
  ·refine Ut λa p j=>?_
   split
   ·cases ok<;>constructor
   ·split
    ·constructor
    ·cases ok<;>constructor
   ·exact .no
 ·exact quiet_stuck
def zka(x:Operand)(i:Nat):R6 (zf9 x i):=Ut λa j g=>by
 split
 ·exact .ret1 _
 ·exact .no
def zfk{t:TypeId}{x:Operand}{g j z:Option Operand}(h:x6 p t=false):R6 (ic p t x g j z):=by
 unfold ic;split
 ·split
  ·exact quiet_stuck
  ·intro B C A;dsimp only;split
   ·split
    ·split<;>constructor
    ·exact .no
   ·exact .no
 ·split
  ·exact quiet_stuck
  ·split
   ·exact quiet_stuck
   ·intro B C A;dsimp only;split
    ·exact .ret1 _
    ·split<;>constructor
    ·split<;>constructor
    ·exact .no
 ·rename_i q;simp[x6,q]at h
 ·exact quiet_stuck
def znz(A:Program)(t:TypeId)(x:Operand)(j p z:Option Operand):Vi (ic A t x j p z):=by
 cases g:x6 A t
 ·exact (zfk g).reads
 ·unfold x6 at g;unfold ic;split at g
  ·rename_i q;rw[q];dsimp only;split
   ·exact reads_stuck
   ·split
    ·exact reads_stuck
    ·intro B C;dsimp only;split
     ·split
      ·split
       ·split
        ·exact .ret1 _
        ·exact .no
       ·exact .no
      ·exact .no
     ·exact .no
  ·cases g
def zrd{s d:TypeId}{x:Operand}(hd:kh p d=false)(g:kh p s=false):R6 (T7 p s d x):=by
 unfold T7;split
 ·exact Ut λa z j=>Bi
 ·rename_i q _;simp[kh,q]at g
 ·exact Ut λa z j=>Bi
 ·rename_i q;simp[kh,q]at hd
 ·exact quiet_stuck
def zr9{s d:TypeId}{x:Operand}(hd:kh p d=false):Vi (T7 p s d x):=by
 unfold T7;split
 ·exact uj λa g=>Bi
 ·split
  ·refine uj λa g=>?_
   split
   ·exact .val _
   ·split
    ·split<;>constructor
    ·exact .no
   ·exact .no
  ·exact reads_stuck
 ·exact uj λa g=>Bi
 ·rename_i q;simp[kh,q]at hd
 ·exact reads_stuck
def zrs(g:Program)(t:TypeId)(x:Operand):Vi (nq g t x):=by
 unfold nq;split
 ·exact uj λa j=>by
   split
   ·split<;>constructor
   ·exact .no
 ·exact uj λa j=>by
   split
   ·split<;>constructor
   ·exact .no
 ·exact reads_stuck
def zku(j:Program)(t:TypeId)(x g:Operand)(ok:Bool):Vi (nv j t x g ok):=by
 unfold nv;split
 ·split
  ·refine zmj λa b p=>?_
   split
   ·exact .no
   ·split<;>constructor
  ·exact reads_stuck
 ·exact reads_stuck
def zma{t:TypeId}{x:Operand}(h:vz p t=false):R6 (Tl p t x):=by
 unfold Tl;split
 ·exact Ut λa j g=>Bi
 ·exact Ut λa j g=>Bi
 ·rename_i q;simp[vz,q]at h
 ·exact Ut λa j g=>.val _
 ·exact quiet_stuck
def zvt(j:Program)(t:TypeId)(x:Operand):Vi (Tl j t x):=by
 cases g:vz j t
 ·exact (zma g).reads
 ·unfold vz at g;unfold Tl;split at g
  ·rename_i q;rw[q];refine uj λa p=>?_
   split
   ·exact .val _
   ·split<;>constructor
   ·exact .no
  ·cases g
def zsw(g:Program)(t:TypeId)(x:Operand):R6 (Uq g t x):=by
 unfold Uq;split
 ·exact Ut λa p j=>Bi
 ·exact quiet_stuck
def zmo(g:Bool)(l:List Operand):R6 (Si g l):=λp z j=>by
 simp only[Si];split
 ·exact .ret1 _
 ·exact .no
def zkt{c:Call}:(tz p c=.quiet→R6 (Za p c))∧(tz p c=.rd→Vi (Za p c)):=by
 unfold tz Za;split
 ·rename_i q;rw[q];dsimp only;split
  ·rename_i t g;rw[g];split
   ·rename_i hm;exact⟨λh=>Al,λ_=>by
     split
     ·exact zvt _ _ _
     ·exact reads_stuck⟩
   ·rename_i hm;refine⟨λ_=>?_,λh=>Al⟩;split
    ·rename_i e _ ;cases e;exact zma Dq
    ·exact quiet_stuck
  ·exact⟨λh=>Al,λh=>Al⟩
 ·rename_i q;rw[q];refine⟨λ_=>?_,λh=>Al⟩;dsimp only;split
  ·exact zsw _ _ _
  ·exact quiet_stuck
 ·rename_i q;rw[q];exact⟨λ_=>zmo _ _,λh=>Al⟩
 ·rename_i q;rw[q];exact⟨λ_=>zmo _ _,λh=>Al⟩
 ·exact⟨λh=>Al,λh=>Al⟩
def tr{P:Program}{o:Op}:(cls P o=.quiet→R6 (Nj P o))∧(cls P o=.rd→Vi (Nj P o)):=by
 unfold cls;split
 ·exact⟨λ_=>Ut λa j g=>.val _,λh=>Al⟩
 ·exact⟨λ_=>Ut λa j g=>.val _,λh=>Al⟩
 ·refine⟨λ_ z j g=>?_,λh=>Al⟩;simp only[Nj];split
  ·exact .ret1 _
  ·exact .ret1 _
  ·exact .no
 ·exact⟨λ_=>zob _ _ _,λh=>Al⟩
 ·exact⟨λ_=>Ut λa j g=>zhv _ _ _,λh=>Al⟩
 ·exact⟨λ_=>x9 λa b j g=>.ret1 _,λh=>Al⟩
 ·exact⟨λ_=>Ut λa j g=>.ret1 _,λh=>Al⟩
 ·exact⟨λ_=>zjc _ _ _,λh=>Al⟩
 ·rename_i f x y;refine⟨λ_=>?_,λh=>Al⟩;simp only[Nj];split
  ·exact quiet_stuck
  ·exact znl _ _ _
 ·exact⟨λ_=>zgw _ _ _ _,λh=>Al⟩
 ·exact⟨λ_=>zor _ _ _ _,λh=>Al⟩
 ·exact⟨λ_=>zfh _ _ _ _,λh=>Al⟩
 ·exact⟨λ_=>zo9 _ _ _ _,λh=>Al⟩
 ·exact⟨λ_=>znh _ _ _ _,λh=>Al⟩
 ·exact⟨λ_=>zka _ _,λh=>Al⟩
 ·split
  ·exact⟨λh=>Al,λ_=>znz _ _ _ _ _ _⟩
  ·rename_i h;exact⟨λ_=>zfk Ay,λh=>Al⟩
 ·split
  ·exact⟨λh=>Al,λh=>Al⟩
  ·rename_i hd;split
   ·exact⟨λh=>Al,λ_=>zr9 (by simpa using hd)⟩
   ·rename_i p;exact⟨λ_=>zrd (by simpa using hd) B5,λh=>Al⟩
 ·exact⟨λh=>Al,λ_=>zrs _ _ _⟩
 ·exact⟨λh=>Al,λ_=>zku _ _ _ _ _⟩
 ·exact zkt
 all_goals exact⟨λh=>Al,λh=>Al⟩
def z5l{P:Program}{n:Nat}{ops:Array Oper}{o:Oper}{k:Pw}(h:(Py P n ops o).run k F A=.ok vY S) :
  ∃v,vY=N9 o.dst v F∧(∀d,o.dst=some d→d<n)∧∀j,Qx (S8 ops o) j F→(Py P n ops o).run k j A=.ok (N9 o.dst v j) S:=by
 unfold Py at h ⊢;cases G:P7 n o.dst with
 |none=>rw[G]at h;cases h
 |some L =>
  rw[G]at h;dsimp only at h ⊢;obtain⟨g,z⟩:=vu G;have B:∀j,Qx (S8 ops o) j F→(Nj P o.op).run j A=(Nj P o.op).run F A:=λj p =>
   zh6 (Qx.opds (λt I=>p t (by simp[S8,I])))
  cases C:(Rh ops o).run F with
  |false =>
   rw[C]at h;cases h;refine⟨Qv,g _ _,z,λj p=>?_⟩;rw[iq p,C];dsimp only;rw[g]
  |true =>
   rw[C]at h;dsimp only at h;cases D:(Nj P o.op).run F A with
   |no=>rw[D]at h;cases h
   |val v K =>
    rw[D]at h;cases h;refine⟨v,g _ _,z,λj p=>?_⟩;rw[iq p,C,B j p,D];dsimp only;rw[g]
   |call t E =>
    rw[D]at h;dsimp only at h;cases H:k t E A with
    |no=>rw[H]at h;cases h
    |ok v K =>
     rw[H]at h;cases h;refine⟨v,g _ _,z,λj p=>?_⟩;rw[iq p,C,B j p,D];dsimp only;rw[H];dsimp only;rw[g]
def z5t{P:Program}{n:Nat}{ops:Array Oper}{o:Oper}{k:Pw}(z:Vi (Nj P o.op))(h:(Py P n ops o).run k F A=.ok vY S):S=A:=by
 unfold Py at h;cases g:P7 n o.dst with
 |none=>rw[g]at h;cases h
 |some B =>
  rw[g]at h;dsimp only at h;cases j:(Rh ops o).run F with
  |false=>rw[j]at h;cases h;rfl
  |true =>
   rw[j]at h;dsimp only at h;have p:=z F A;generalize (Nj P o.op).run F A=r at h p;cases p with
   |no=>cases h
   |val v=>cases h;rfl
def zhu{P:Program}{n:Nat}{ops:Array Oper}{o:Oper}{k:Pw}(B:R6 (Nj P o.op))(h:(Py P n ops o).run k F A=.ok vY S)(g:Heap) :
  (Py P n ops o).run k F g=.ok vY g:=by
 unfold Py at h ⊢;cases p:P7 n o.dst with
 |none=>rw[p]at h;cases h
 |some D =>
  rw[p]at h;dsimp only at h ⊢;cases z:(Rh ops o).run F with
  |false=>rw[z]at h;cases h;rfl
  |true =>
   rw[z]at h;dsimp only at h ⊢;have j:=B F A g;generalize (Nj P o.op).run F A=r at h j;generalize (Nj P o.op).run F g=C at j ⊢;cases j with
   |no=>cases h
   |val v=>cases h;rfl
def eqAV_spec:∀(n:Nat) (a b:AV),Qf n a b=true→a=b
 |0,_,_,h=>Al
 |n+1,a,b,h=>by
  have p:∀(x y:List AV),Wq (Qf n) x y=true→x=y:=by
   intro x
   induction x with
   |nil=>intro y j;cases y with
    |nil=>rfl
    |cons _ _=>cases j
   |cons c x z =>
    intro y j;cases y with
    |nil=>cases j
    |cons d y =>
     simp only[Wq]at j;split at j
     ·rename_i A;rw[eqAV_spec n c d A,z y j]
     ·cases j
  have g:∀{x y:Nat},Nat.beq x y=true→x=y:=λh=>Hn h
  unfold Qf at h;split at h
  ·simp only[Lu]at h;rw[h]
  ·simp only[Hh,jh,Lu]at h;rw[wz h.1,h.2]
  ·simp only[Hh]at h;rw[g h.1,g h.2]
  ·rfl
  ·simp only[Hh]at h;rw[g h.1.1,g h.1.2,g h.2]
  ·rfl
  ·simp only[Hh,Lu]at h;obtain⟨⟨⟨⟨⟨B,C⟩,D⟩,E⟩,F⟩,G⟩:=h;rw[g B,g C,g D,g E,g F,G]
  ·rfl
  ·rfl
  ·rw[g h]
  ·rfl
  ·simp only[Hh]at h;rw[g h.1.1,p _ _ h.1.2,p _ _ h.2]
  ·simp only[Hh]at h;rw[g h.1.1,p _ _ h.1.2,p _ _ h.2]
  ·rfl
  ·simp only[Hh]at h;rw[g h.1,eqAV_spec n _ _ h.2]
  ·rw[p _ _ h]
  ·rw[p _ _ h]
  ·cases h
def Wr(a b g:Nat):(Nat.lor a b).testBit g=(a.testBit g || b.testBit g):=Nat.testBit_or a b g
def de(i g:Nat):(2^i).testBit g=decide (i=g):=Nat.testBit_two_pow
def zj9{a b:Nat}(h:Nat.beq (Nat.land a b) a=true)(j:Nat)(g:a.testBit j=true):b.testBit j=true:=by
 have e:a &&& b=a:=Hn h;rw[←e,Nat.testBit_and]at g;simp only[Hh]at g;exact g.2
def bitsOf_spec:∀{l:List Nat} {t:Nat},t∈l→(vg l).testBit t=true
 |[],_,h=>Al
 |a::l,t,h=>by
  simp only[vg,Wr,de,J3,Ht];rcases Hu.1 h with rfl|h
  ·exact .inl rfl
  ·exact .inr (bitsOf_spec h)
def z93{g:List Nat}:∀{l:List Edge} {p:Nat},(jn g l).testBit p=true↔∃e∈l,Region.binds .any e=true∧(p=e.on∨(g.getD e.on 0).testBit p=true)
 |[],p=>by simp[jn]
 |e::l,p=>by
  simp only[jn];split
  ·rename_i j;simp only[Wr,de,J3,Ht,z93,Hu,exists_eq_or_imp,j,true_and];constructor
   ·rintro ((h|h)|h)
    ·exact .inl (.inl h.symm)
    ·exact .inl (.inr h)
    ·exact .inr h
   ·rintro ((h|h)|h)
    ·exact .inl (.inl h.symm)
    ·exact .inl (.inr h)
    ·exact .inr h
  ·rename_i j;simp only[z93,Hu,exists_eq_or_imp,j,Ka,false_and,false_or]
def Wm{z:Type}{f:z→Bool}:∀{l:List z} {x:z},x∈Nd f l↔x∈l∧f x=true
 |[],x=>by simp[Nd]
 |a::l,x=>by
  simp only[Nd];split
  ·rename_i h;simp only[Hu,Wm];constructor
   ·rintro (rfl|p)
    ·exact⟨.inl rfl,h⟩
    ·exact⟨.inr p.1,p.2⟩
   ·rintro⟨rfl|j,g⟩
    ·exact .inl rfl
    ·exact .inr ⟨j,g⟩
  ·rename_i h;simp only[Hu,Wm];constructor
   ·rintro⟨j,g⟩;exact⟨.inr j,g⟩
   ·rintro⟨rfl|j,g⟩
    ·rw[h]at g;cases g
    ·exact⟨j,g⟩
def zk6{p:Type}{f:p→Bool}:∀{l:List p},Tz f l=true→∀x∈l,f x=true
 |[],_,x,g=>Do
 |a::l,h,x,g=>by
  simp only[Tz]at h;split at h
  ·rename_i j;rcases Hu.1 g with rfl|g
   ·exact j
   ·exact zk6 h x g
  ·cases h
structure LOk (P:Program) (ops:Array Oper) (L:List DOp):Prop where
 op:∀x∈L,ops[x.i]?=some x.o∧x.i<ops.size
 all:∀i,i<ops.size→∃x∈L,x.i=i
 inj:∀x∈L,∀y∈L,x.i=y.i→x=y
 cl:∀x∈L,x.c=cls P x.o.op
 lm:∀x∈L,∀t∈S8 ops x.o,x.lm.testBit t=true
 msk:∀x∈L,∀j,x.m.testBit j=true→∃e∈x.o.after.toList,Region.binds .any e=true∧(j=e.on∨∃y∈L,y.i=e.on∧y.m.testBit j=true)
 edge:∀x∈L,∀e∈x.o.after.toList,Region.binds .any e=true→x.m.testBit e.on=true
def zo(j:Program)(ops:Array Oper):∀(l:List Oper) (g:List Nat) (i:Nat) (p:Nat),(Pl j ops l g i).length=l.length∧∀x,(Pl j ops l g i)[p]?=some x →
  x.i=i+p∧l[p]?=some x.o∧x.c=cls j x.o.op∧x.lm=vg (S8 ops x.o)∧x.m=jn (g++((Pl j ops l g i).take p).map (·.m)) x.o.after.toList
 |[],g,i,p=>⟨rfl,λx h=>by simp[Pl]at h⟩
 |o::l,g,i,0=>⟨by simp[Pl,(zo j ops l _ (i+1) 0).1],λx h=>by
   simp only[Pl,H6,Option.some.injEq]at h;subst h;exact⟨rfl,rfl,rfl,rfl,U⟩⟩
 |o::l,g,i,p+1=>⟨by simp[Pl,(zo j ops l _ (i+1) 0).1],λx h=>by
   simp only[Pl,H8]at h;obtain⟨D,z,A,B,C⟩:=(zo j ops l _ (i+1) p).2 x h;refine⟨J,A4,A,B,?_⟩;rw[C];simp[Pl]⟩
def cw(E:Program)(ops:Array Oper):LOk E ops (Pl E ops ops.toList [] 0):=by
 have p:=zo E ops ops.toList [] 0;have H:(Pl E ops ops.toList [] 0).length=ops.size:=by rw[(p 0).1];simp
 have hm:∀x∈Pl E ops ops.toList [] 0,∃A,(Pl E ops ops.toList [] 0)[A]?=some x∧x.i=A:=λx j=>by
  obtain⟨A,g⟩:=Ic.1 j;exact⟨A,g,by have:=((p A).2 x g).1;omega⟩
 refine⟨λx j=>?_,λi C=>?_,λx j y I e=>?_,λx j=>?_,λx j t K=>?_,λx j A g=>?_,λx j e F G=>?_⟩
 ·obtain⟨A,g,e⟩:=hm x j;obtain⟨_,L,_⟩:=(p A).2 x g;rw[e];have:A<ops.size:=by
   have:=(Hf.1 g).1;omega
  exact⟨by simpa using L,this⟩
 ·exact ⟨(Pl E ops ops.toList [] 0)[i]' J, Ky _, by
   have:=((p i).2 _ (Hj J)).1;omega⟩
 ·obtain⟨A,g,D⟩:=hm x j;obtain⟨M,B,N⟩:=hm y I;have:A=M:=J
  subst this;rw[g]at B;cases B;rfl
 ·obtain⟨A,g,D⟩:=hm x j;exact ((p A).2 x g).2.2.1
 ·obtain⟨A,g,D⟩:=hm x j;rw[((p A).2 x g).2.2.2.1];exact bitsOf_spec K
 ·obtain⟨i,C,D⟩:=hm x j;rw[((p i).2 x C).2.2.2.2]at g;obtain⟨e,F,G,h⟩:=z93.1 g;refine⟨e,F,G,h.imp id λh=>?_⟩;rw[J2,Hr,Jp]at h;cases z:((Pl E ops ops.toList [] 0).take i)[e.on]? with
  |none=>rw[z]at h;simp at h
  |some y =>
   rw[z]at h;have I:=Ic.2 ⟨e.on,z⟩;rw[List.getElem?_take]at z;split at z
   ·exact⟨y,Ic.2 ⟨_,z⟩,by have:=((p e.on).2 y z).1;omega,h⟩
   ·cases z
 ·obtain⟨i,C,D⟩:=hm x j;rw[((p i).2 x C).2.2.2.2];exact z93.2 ⟨e,F,G,.inl rfl⟩
def dstsOk_spec:∀{l:List DOp} {seen:Nat},xa l seen=true→(∀x∈l,∀d,x.o.dst=some d→seen.testBit d=false)∧∀x∈l,∀y∈l,∀d,x.o.dst=some d→y.o.dst=some d→x=y
 |[],_,_=>⟨λx g=>Do,λx g=>Do⟩
 |a::l,seen,h=>by
  simp only[xa]at h;split at h
  ·rename_i p;obtain⟨A,B⟩:=dstsOk_spec h;refine⟨λx g d hd=>?_,λx g y z d hd j=>?_⟩
   ·rcases Hu.1 g with rfl|g
    ·rw[p]at hd;cases hd
    ·exact A x g d hd
   ·rcases Hu.1 g with rfl|g
    ·rw[p]at hd;cases hd
    ·rcases Hu.1 z with rfl|z
     ·rw[p]at j;cases j
     ·exact B x g y z d hd j
  ·rename_i C p;split at h
   ·cases h
   ·rename_i I;obtain⟨A,B⟩:=dstsOk_spec h;have D:∀x∈l,x.o.dst≠some C:=λx g e=>by
     have:=A x g C e;rw[Wr,de]at this;simp at this
    refine⟨λx g d hd=>?_,λx g y z d hd j=>?_⟩
    ·rcases Hu.1 g with rfl|g
     ·rw[p]at hd;cases hd;simpa using I
     ·have:=A x g d hd;rw[Wr]at this;simp only[Bool.or_eq_false_iff]at this;exact this.2
    ·rcases Hu.1 g with E|F<;>rcases Hu.1 z with G|H
     ·rw[E,G]
     ·subst E;rw[p]at hd;cases hd;exact absurd j (D y H)
     ·subst G;rw[p]at j;cases j;exact absurd hd (D x F)
     ·exact B x F y H d hd j
def ze{x:DOp}:Mp x=true↔x.c=.ch:=by
 unfold Mp;constructor
 ·intro h;split at h
  ·assumption
  ·cases h
 ·intro h;rw[h]
def zg7{x:DOp}:zo1 x=true↔x.c=.quiet:=by
 unfold zo1;constructor
 ·intro h;split at h
  ·assumption
  ·cases h
 ·intro h;rw[h]
def tu{x:DOp}{l:List DOp}{seen s:Nat}(h:Of (x::l) seen g=some s):(∀j,x.m.testBit j=true→seen.testBit j=true)∧seen.testBit x.i=false ∧
  ((x.c=.quiet∧Of l (Nat.lor (2^x.i) seen) g=some s) ∨
   ((x.c=.rd∨x.c=.al)∧(∀j,g.testBit j=true→x.m.testBit j=true)∧Of l (Nat.lor (2^x.i) seen) g=some s) ∨
   (x.c=.ch∧(∀j,g.testBit j=true→x.m.testBit j=true)∧Of l (Nat.lor (2^x.i) seen) (Nat.lor (2^x.i) g)=some s)):=by
 simp only[Of]at h;split at h
 ·cases h
 ·rename_i D;split at h
  ·cases h
  ·rename_i E;refine⟨λj p=>zj9 D j p,by simpa using E,?_⟩;split at h
   ·rename_i z;exact .inl ⟨zg7.1 z,h⟩
   ·rename_i z;split at h
    ·cases h
    ·rename_i B;split at h
     ·rename_i A;exact .inr (.inr ⟨ze.1 A,λj p=>zj9 B j p,h⟩)
     ·rename_i A;refine .inr (.inl ⟨?_,λj p=>zj9 B j p,h⟩);cases C:x.c with
      |quiet=>rw[zg7.2 C]at z;cases z
      |rd=>exact .inl rfl
      |al=>exact .inr rfl
      |ch=>rw[ze.2 C]at A;cases A
def topo_seen:∀{l:List DOp} {seen j s:Nat},Of l seen j=some s→∀z,s.testBit z=true↔(seen.testBit z=true∨∃x∈l,x.i=z)
 |[],seen,j,s,h,z=>by simp only[Of,Option.some.injEq]at h;subst h;simp
 |x::l,seen,j,s,h,z=>by
  obtain⟨_,_,p⟩:=tu h;have A:∀g,Of l (Nat.lor (2^x.i) seen) g=some s→(s.testBit z=true↔(seen.testBit z=true∨∃y∈x::l,y.i=z)):=λg B=>by
   rw[topo_seen B z,Wr,de];simp only[J3,Ht,Hu,exists_eq_or_imp];constructor
   ·rintro ((h|h)|h)
    ·exact .inr (.inl h)
    ·exact .inl h
    ·exact .inr (.inr h)
   ·rintro (h|h|h)
    ·exact .inl (.inr h)
    ·exact .inl (.inl h)
    ·exact .inr h
  rcases p with ⟨_,p⟩|⟨_,_,p⟩|⟨_,_,p⟩<;>exact A _ p
def topo_new:∀{l:List DOp} {seen j s:Nat},Of l seen j=some s→∀x∈l,seen.testBit x.i=false
 |[],_,_,_,_,x,p=>by cases p
 |y::l,seen,j,s,h,x,p=>by
  obtain⟨_,B,z⟩:=tu h;rcases Hu.1 p with rfl|p
  ·exact B
  ·have A:∀g,Of l (Nat.lor (2^y.i) seen) g=some s→seen.testBit x.i=false:=λg C=>by
    have:=topo_new C x p;rw[Wr]at this;simp only[Bool.or_eq_false_iff]at this;exact this.2
   rcases z with ⟨_,z⟩|⟨_,_,z⟩|⟨_,_,z⟩<;>exact A _ z
def topo_chs:∀{l:List DOp} {seen j s:Nat},Of l seen j=some s→∀x∈l,x.c≠.quiet→∀C,j.testBit C=true→x.m.testBit C=true
 |[],_,_,_,_,_,p=>by cases p
 |y::l,seen,j,s,h,x,p=>by
  intro B C z;obtain⟨_,D,g⟩:=tu h;rcases Hu.1 p with rfl|p
  ·rcases g with ⟨e,g⟩|⟨e,A,g⟩|⟨e,A,g⟩
   ·exact absurd e B
   ·exact A C z
   ·exact A C z
  ·rcases g with ⟨e,g⟩|⟨e,A,g⟩|⟨e,A,g⟩
   ·exact topo_chs g x p B C z
   ·exact topo_chs g x p B C z
   ·exact topo_chs g x p B C (by rw[Wr,z];simp)
def zn2{z j:List DOp}:∀x∈Xv z j g,x∈z:=λ_ p=>(Wm.1 p).1
def zfz{p j:List DOp}:∀{l:List DOp} {A:Nat},(∀x∈l,x∈p)→∀x∈zkg p j l A,x∈p
 |[],_,_,_,g=>Do
 |c::l,A,h,x,g=>by
  simp only[zkg,Hu,Ib]at g;rcases g with rfl|g|g
  ·exact h _ U
  ·exact zn2 x g
  ·exact zfz (λy z=>h y Ak) x g
def zsv{j:List DOp}:∀x∈vm j (Nd Mp j),x∈j:=λx g=>by
 simp only[vm,Ib]at g;rcases g with g|g
 ·exact zn2 x g
 ·exact zfz (λy p=>(Wm.1 p).1) x g
end Go.Sv
