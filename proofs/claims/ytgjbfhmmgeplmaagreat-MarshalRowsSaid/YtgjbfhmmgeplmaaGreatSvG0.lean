/- Texts of the evaluator, of the logic over it, of plain arithmetic. -/
import Derived.AtR
import Derived.Laws.Sem
import Derived.Laws.World
import Derived.KernelRfl
import Derived.Below
import Derived.Laws.Strings
import Derived.Laws.StructEq
import Derived.Lib.Strings
import Derived.Lib.ConvBytes
import Derived.Laws.BytesArg
import Derived.Laws.RangeString
import Derived.MapKept
import Derived.Laws.Append
import Derived.Laws.AppendOwn
import Derived.Laws.Externs
import Derived.RangeFuncIn
import Derived.RangeFuncRecord
set_option linter.unusedSimpArgs false
set_option linter.defProp false
namespace Go.Sv
variable{g j vZ:Nat}{z:Program}{C Q:World}{L:Bool}{R:TypeId}{V:Option Nat}{v9:Type}{v8:Array Value}{v7:Value}
noncomputable section
abbrev H5:=@List.getElem?_eq_some_iff
abbrev H6:=@List.getElem?_set_ne
abbrev H7:=@Bool.and_eq_true
abbrev H8:=@List.getElem?_eq_getElem
abbrev H9:=@List.getD_eq_getElem?_getD
abbrev Ia:=@List.getElem?_set_self
abbrev Ib:=@List.getElem?_append_left
abbrev Ic:=@Nat.eq_of_beq_eq_true
abbrev Ie:=@Nat.le_refl
abbrev If:=@Nat.ble_eq_true_of_le
abbrev Ig:=@if_neg
abbrev Ih:=@if_pos
abbrev Ii:=@decide_eq_true_eq
abbrev Ij:=@List.mem_cons
abbrev Ik:=@Nat.le_of_ble_eq_true
abbrev Il:=@List.length_append
abbrev Im:=@Nat.mul_le_mul_right
abbrev In:=@List.getElem?_append_right
abbrev Io:=@List.take_of_length_le
abbrev Ip:=@Int.eq_ofNat_of_zero_le
abbrev Iq:=@List.getElem?_cons_zero
abbrev Ir:=@List.length_take
abbrev Is:=@List.getElem?_cons_succ
abbrev It:=@Int.ofNat_eq_natCast
abbrev Iu:=@List.eq_nil_of_length_eq_zero
abbrev Iv:=@List.length_cons
abbrev Iw:=@List.drop_eq_getElem_cons
abbrev Ix:=@Nat.lt_of_lt_of_le
abbrev Iy:=@List.mem_append
abbrev Iz:=@List.append_assoc
abbrev I0:=@Nat.beq_refl
abbrev I1:=@List.getElem?_take_of_lt
abbrev I2:=@Nat.add_mul
abbrev I3:=@List.mem_iff_getElem?
abbrev I4:=@Int.toNat_natCast
abbrev I5:=@Nat.le_trans
abbrev I6:=@Array.getD_eq_getD_getElem?
abbrev I7:=@Nat.zero_add
abbrev I8:=@List.mem_of_getElem?
abbrev I9:=@List.all_eq_true
abbrev Ja:=@Nat.add_assoc
abbrev Jb:=@Nat.lt_succ_self
abbrev Jc:=@List.mem_cons_of_mem
abbrev Jd:=@List.append_nil
abbrev Je:=@Array.getElem?_eq_getElem
abbrev Jf:=@List.getElem?_concat_length
abbrev Jg:=@List.length_drop
abbrev Jh:=@List.cons_append
abbrev Ji:=@List.getElem?_toArray
abbrev Jj:=@Bool.eq_iff_iff
abbrev Jk:=@List.mem_range
abbrev Jl:=@List.drop_of_length_le
abbrev Jm:=@UInt64.toNat_inj
abbrev Jn:=@Array.size_append
abbrev Jo:=@Int.natCast_nonneg
abbrev Jp:=@List.take_append_drop
abbrev Jq:=@UInt64.toNat_ofNat'
abbrev Jr:=@Nat.min_eq_left
abbrev Js:=@List.map_append
abbrev Jt:=@List.drop_zero
abbrev Ju:=@Array.getElem?_append_left
abbrev Jv:=@List.pairwise_cons
abbrev Jw:=@Option.map_some
abbrev Jx:=@Bool.or_eq_true
abbrev Jy:=@List.set_eq_take_append_cons_drop
abbrev Jz:=@Array.toList_map
abbrev J0:=@List.replicate_succ
abbrev J1:=@List.mem_of_mem_drop
abbrev J2:=@List.length_set
abbrev J3:=@List.perm_middle
abbrev J4:=@List.not_mem_nil
abbrev J5:=@List.getElem?_map
abbrev J6:=@List.flatMap_cons
abbrev J7:=@Int.emod_eq_of_lt
abbrev J8:=@List.mem_append_right
abbrev J9:=@List.mem_cons_self
abbrev Ka:=@Option.getD_some
abbrev Kb:=@Nat.mod_eq_of_lt
abbrev Kc:=@List.mem_append_left
abbrev Kd:=@List.map_cons
abbrev Ke:=@List.all_cons
abbrev Kf:=@Bool.true_and
abbrev Kg:=@decide_eq_true
abbrev Kh:=@List.drop_drop
abbrev Ki:=@Nat.le_max_left
abbrev Kj:=@List.replicate_append_replicate
abbrev Kk:=@List.getElem?_eq_none
abbrev Kl:=@List.mem_singleton
abbrev Km:=@Bool.false_eq_true
abbrev Kn:=@Array.eq_empty_of_size_eq_zero
abbrev Kq:=@Nat.zero_mul
abbrev Kr:=@Nat.mul_one
abbrev Ks:=@List.mem_iff_getElem
abbrev Kt:=@Int.le_refl
abbrev Ku:=@of_decide_eq_true
abbrev Kw:=@if_true
abbrev Kx:=@List.all_eq_false
abbrev Ky:=@List.nil_append
abbrev Kz:=@List.mem_filter
abbrev K0:=@Nat.lt_or_ge
abbrev K3:=@List.getElem_mem
abbrev K4:=@Nat.mul_le_mul
abbrev K5:=@List.getElem?_drop
abbrev K6:=@List.length_filter_le
abbrev K7:=@List.take_left'
abbrev K8:=@Nat.zero_le
abbrev K9:=@Nat.le_succ
abbrev La:=@Nat.add_zero
abbrev Le:=@List.take_succ_eq_append_getElem
abbrev Lf:=@List.mem_of_mem_take
abbrev Lh:=@List.drop_succ_cons
abbrev Li:=@Nat.le_max_right
abbrev Lj:=@List.take_take
abbrev Lk:=@List.take_append_of_le_length
abbrev Ll:=@UInt64.lt_iff_toNat_lt
abbrev Lm:=@Nat.le_of_eq
abbrev Ln:=@List.map_set
abbrev Lp:=@BitVec.toNat_ofNat
abbrev Lq:=@Array.getElem?_eq_none
abbrev Lr:=@List.map_take
abbrev Ls:=@List.set_append_right
abbrev Lt:=@List.getElem?_set
abbrev Lu:=@Bool.not_eq_true'
abbrev Lv:=@Nat.one_mul
abbrev Lw:=@Array.getElem?_eq_some_iff
abbrev Ly:=@decide_eq_decide
abbrev Lz:=@List.mem_map
abbrev L0:=@Array.toList_append
abbrev L3:=@Array.size_setIfInBounds
abbrev L4:=@decide_eq_false_iff_not
abbrev L5:=@or_false
abbrev L6:=@List.take_add_one
abbrev L7:=@Int.le_trans
abbrev L8:=@Bool.not_false
abbrev L9:=@beq_iff_eq
abbrev Ma:=@List.take_length
abbrev Mb:=@Array.toList_inj
abbrev Mc:=@Nat.pow_le_pow_right
abbrev Md:=@List.pairwise_append
abbrev Me:=@decide_eq_false
abbrev Mf:=@Nat.not_lt_zero
abbrev Mg:=@List.range_succ
abbrev Mh:=@Array.getElem?_setIfInBounds
abbrev Mi:=@List.take_set_of_le
abbrev Mj:=@List.length_reverse
abbrev Ml:=@Nat.mul_comm
abbrev Mm:=@Nat.le_of_lt
abbrev Mn:=@List.map_nil
abbrev Mo:=@Array.getElem?_append_right
abbrev Mp:=@if_false
abbrev Mq:=@Nat.le_of_mul_le_mul_right
abbrev Mr:=@List.take_zero
def J{p:Prop}(h:p:=by omega):p:=h
def N{p:Prop}(h:p:=by simp):p:=h
def Aa{p:Prop}(h:p:=by kernel_rfl):p:=h
def Ab{p:Prop}(h:p:=by simp;omega):p:=h
def Ac{p:Prop}(h:p:=by simp[Op.operands]):p:=h
def Ad{p:Prop}(h:p:=by simp[C]):p:=h
def Ae{p:Prop}(h:p:=by simp[A]):p:=h
def Af{p:Prop}(h:p:=by simp[Mt,dats,LV.dat,O9,Rz]):p:=h
def Ah{p:Prop}(h:p:=by decide):p:=h
def Ai{p:Prop}(h:p:=by simp[execOp,g]):p:=h
def Ak{p:Prop}(h:p:=by cases h):p:=h
def Al{p:Prop}(h:p:=by simp[B]):p:=h
def Am{p:Prop}(h:p:=by dsimp only;omega):p:=h
def An{p:Prop}(h:p:=by cases e):p:=h
def Ao{p:Prop}(h:p:=by simp only[IntKind.wrap,IntKind.bits,IntKind.signed];simp;omega):p:=h
def Aq{p:Prop}(h:p:=by simp[E]):p:=h
def Ar{p:Prop}(h:p:=by simp[z]):p:=h
def As{p:Prop}(h:p:=by simp[G]):p:=h
def At{p:Prop}(h:p:=by simp[M]):p:=h
def Au{p:Prop}(h:p:=by simp[dats,LV.dat]):p:=h
def Av{p:Prop}(h:p:=by simp[j]):p:=h
def Aw{p:Prop}(h:p:=by simpa using h):p:=h
def Ax{p:Prop}(h:p:=by simp[I,LN]):p:=h
def Ay{p:Prop}(h:p:=by simp[H]):p:=h
def Ba{p:Prop}(h:p:=by simp[P]):p:=h
def Bb{p:Prop}(h:p:=by rw[IntKind.wrap_i64];omega):p:=h
def Bc{p:Prop}(h:p:=by simp[K]):p:=h
def Bd{p:Prop}(h:p:=by simp[g]):p:=h
def Be{p:Prop}(h:p:=by simp[D]):p:=h
def Bh{p:Prop}(h:p:=by simp only[Sem.run_bind,z,Result.andThen_ok,Sem.run_pure]):p:=h
def Bi{p:Prop}(h:p:=by simpa using A):p:=h
def Bk{p:Prop}(h:p:=by simp[Builtin.len_,Nv hu,goInt]):p:=h
def Bl{p:Prop}(h:p:=by simp[Y]):p:=h
def Bm{p:Prop}(h:p:=by simp[h2]):p:=h
def Bn{p:Prop}(h:p:=by split<;>constructor):p:=h
def Bo{p:Prop}(h:p:=by simp[h6]):p:=h
def Bq{p:Prop}(h:p:=by simp[dats,LV.dat,gX]):p:=h
def Br{p:Prop}(h:p:=by simp[dats,LV.dat,O9]):p:=h
def Bs{p:Prop}(h:p:=by simp[h5]):p:=h
def Bt{p:Prop}(h:p:=by simpa using j):p:=h
def Bu{p:Prop}(h:p:=by have:o<H.next+1:=ho;omega):p:=h
def Bv{p:Prop}(h:p:=by simp only[Iv];omega):p:=h
def Bx{p:Prop}(h:p:=by simp[Q]):p:=h
def By{p:Prop}(h:p:=by simp[h4]):p:=h
def B0{p:Prop}(h:p:=by simp[Act.eval,Act.put]):p:=h
def B1{p:Prop}(h:p:=by dsimp;omega):p:=h
def B2{p:Prop}(h:p:=by rw[Ir];omega):p:=h
def B3{p:Prop}(h:p:=by simp[O]):p:=h
def B4{p:Prop}(h:p:=by simp at e):p:=h
def B5{p:Prop}(h:p:=by cases h;rfl):p:=h
def B6{p:Prop}(h:p:=by rw[Mw M];exact K):p:=h
def B7{p:Prop}(h:p:=by simp[V]):p:=h
def B8{p:Prop}(h:p:=by simp[h3,LN]):p:=h
def B9{p:Prop}(h:p:=by simp[U]):p:=h
def Ca{p:Prop}(h:p:=by simp only[It];omega):p:=h
def Cb{p:Prop}(h:p:=by simpa using g):p:=h
def Cc{p:Prop}(h:p:=by simp[LV.dat,dats]):p:=h
def Cd{p:Prop}(h:p:=by rw[j,C]):p:=h
def Ce{p:Prop}(h:p:=by unfold M3 at hc;simp only[H7]at hc;exact hc.1):p:=h
def Cg{p:Prop}(h:p:=by simpa using E):p:=h
def Ch{p:Prop}(h:p:=by simp[F]):p:=h
def Ci{p:Prop}(h:p:=by simp only[Nl];unfold M1;rw[z]):p:=h
def Cj{p:Prop}(h:p:=by simp at h):p:=h
def Ck{p:Prop}(h:p:=by rw[Mw C];exact z):p:=h
def Cl{p:Prop}(h:p:=by simp[Z]):p:=h
def Cm{p:Prop}(h:p:=by rw[C,Q];exact F):p:=h
def Cn{p:Prop}(h:p:=by cases op<;>rfl):p:=h
def Co{p:Prop}(h:p:=by simpa using hi):p:=h
def Cp{p:Prop}(h:p:=by simp[I]):p:=h
def Cq{p:Prop}(h:p:=by simpa using z):p:=h
def Cr{p:Prop}(h:p:=by rw[Q];exact T):p:=h
def Cs{p:Prop}(h:p:=by simp[Qy];omega):p:=h
def Ct{p:Prop}(h:p:=by rw[Mw C];exact P):p:=h
def Cu{p:Prop}(h:p:=by simp[Mt]):p:=h
def Cv{p:Prop}(h:p:=by simp[builtin]):p:=h
def Cw{p:Prop}(h:p:=by rw[Il,h2,hx,I2];omega):p:=h
def Cy{p:Prop}(h:p:=by simpa [binOp] using j):p:=h
def Cz{p:Prop}(h:p:=by rw[hg o rfl];exact r2):p:=h
def C3{p:Prop}(h:p:=by rw[V7];exact .int k _):p:=h
def C4{p:Prop}(h:p:=by show Int.ofNat (a.toNat ||| b.toNat)<_;simp only[It];omega):p:=h
def C5{p:Prop}(h:p:=by show Int.ofNat (a.toNat &&& b.toNat)<_;simp only[It];omega):p:=h
def C6{p:Prop}(h:p:=by cases q):p:=h
def C7{p:Prop}(h:p:=by simpa using R):p:=h
def C8{p:Prop}(h:p:=by rw[j,C,E]):p:=h
def C9{p:Prop}(h:p:=by rw[gB];simp):p:=h
def Da{p:Prop}(h:p:=by rw[Il,Ir,R];show min (len*j) l.length+n*j=(len+n)*j;omega):p:=h
def Db{p:Prop}(h:p:=by have:=List.findIdx_le_length (p:=p) (xs:=l);omega):p:=h
def Dc{p:Prop}(h:p:=by simpa [Op.operands] using j):p:=h
def Dd{p:Prop}(h:p:=by simpa using H):p:=h
def De{p:Prop}(h:p:=by simpa using L):p:=h
def Df{p:Prop}(h:p:=by rw[hM.pl];exact i1):p:=h
def Dg{p:Prop}(h:p:=by rw [H9, H8 gg];rfl):p:=h
def Dh{p:Prop}(h:p:=by simp[binOp,Op.intArith];rfl):p:=h
def Di{p:Prop}(h:p:=by simp[execOp,A,z]):p:=h
def Dk{p:Prop}(h:p:=by simp[X]):p:=h
def Dl{p:Prop}(h:p:=by simp only[Iq,Option.some.injEq]at h;subst h;exact⟨_,rfl,e⟩):p:=h
def Dm{p:Prop}(h:p:=by rw[Mw z];exact I):p:=h
def Do{p:Prop}(h:p:=by intro jg m k st h;cases h):p:=h
def Dp{p:Prop}(h:p:=by simpa [On,Oa] using Rw.nil):p:=h
def Dq{p:Prop}(h:p:=by show (0:Int)≤1000000;decide):p:=h
def Dr{p:Prop}(h:p:=by rw [H9, H8 L];rfl):p:=h
def Ds{p:Prop}(h:p:=by rw[←h3];exact gg):p:=h
def Dt{p:Prop}(h:p:=by simp[hs.len]):p:=h
def Du{p:Prop}(h:p:=by simp[binOp,Op.intCmp];rfl):p:=h
def Dv{p:Prop}(h:p:=by simp[LV.dat,bc]):p:=h
def Dw{p:Prop}(h:p:=by rw[J2];exact hb):p:=h
def Dx{p:Prop}(h:p:=by rw[Ib (H5.1 e).1];exact e):p:=h
def Dy{p:Prop}(h:p:=by simp[dats,LV.dat,vh,yz]):p:=h
def Dz{p:Prop}(h:p:=by simp[L]):p:=h
def D0{p:Prop}(h:p:=by rw[e]):p:=h
def D4{p:Prop}(h:p:=by simpa using r1):p:=h
def D6{p:Prop}(h:p:=by simp[h]):p:=h
def D8{p:Prop}(h:p:=by simp[dats,LV.dat,O9,z]):p:=h
def D9{p:Prop}(h:p:=by have:=congrArg List.length hd;simp at this;omega):p:=h
def Ea{p:Prop}(h:p:=by cases g):p:=h
def Eb{p:Prop}(h:p:=by simpa using gC):p:=h
def Ec{p:Prop}(h:p:=by simp[zeroValue,bi hi,g]):p:=h
def Ed{p:Prop}(h:p:=by rw[hvl];simp only[Nat.min_def];split<;>omega):p:=h
def Ee{p:Prop}(h:p:=by rw[hdl];simp only[Nat.min_def];split<;>omega):p:=h
def Eg{p:Prop}(h:p:=by rw[Mw H,jg P];exact R):p:=h
def Eh{p:Prop}(h:p:=by simp[getObj,Sem.run,V]):p:=h
def Ei{p:Prop}(h:p:=by rw[←r6.length];exact r1):p:=h
def Ej{p:Prop}(h:p:=by rw[hb _ _ gg];exact h2):p:=h
def Ek{p:Prop}(h:p:=by rw[I0,show Nat.ble len M8=true from If C];rfl):p:=h
def El{p:Prop}(h:p:=by simp[Qb,hb,Qy];omega):p:=h
def Em{p:Prop}(h:p:=by rw[q];rfl):p:=h
def En{p:Prop}(h:p:=by rw[I2];omega):p:=h
def Eo{p:Prop}(h:p:=by simp[binOp,Op.intCmp]):p:=h
def Ep{p:Prop}(h:p:=by have:s.data.toList.length=s.size:=rfl;omega):p:=h
def Er{p:Prop}(h:p:=by simp[dats,LV.dat,I]):p:=h
def Es{p:Prop}(h:p:=by simp[Qb,T,Qy];omega):p:=h
def Et{p:Prop}(h:p:=by simp[Op.operands,e]):p:=h
def Eu{p:Prop}(h:p:=by simpa using M):p:=h
def Ev{p:Prop}(h:p:=by rw[h]):p:=h
def Ew{p:Prop}(h:p:=by rw[B];rfl):p:=h
def Ey{p:Prop}(h:p:=by unfold Qc;split<;>(try split)<;>simp_all):p:=h
def Ez{p:Prop}(h:p:=by simp[gH]):p:=h
def E4{p:Prop}(h:p:=by rw[Mw gg];exact hx):p:=h
def E5{p:Prop}(h:p:=by simp[h7]):p:=h
def E6{p:Prop}(h:p:=by simp[h3]):p:=h
def E7{p:Prop}(h:p:=by simp only[I0,If he,Bool.and_self]):p:=h
def E8{p:Prop}(h:p:=by rw[e,P]at j;cases j):p:=h
def E9{p:Prop}(h:p:=by rw[e,P]at L;cases L):p:=h
def Fa{p:Prop}(h:p:=by simp[gD]):p:=h
def Fb{p:Prop}(h:p:=by have:=u.toNat_lt;simp only[It];omega):p:=h
def Fe{p:Prop}(h:p:=by simp only[It];exact Int.ofNat_lt.2 F):p:=h
def Ff{p:Prop}(h:p:=by show y+1≤2*9223372036854775808;omega):p:=h
def Fg{p:Prop}(h:p:=by show x+1≤2*9223372036854775808;omega):p:=h
def Fh{p:Prop}(h:p:=by rw[Mw R];exact H):p:=h
def Fi{p:Prop}(h:p:=by simp[h0]):p:=h
def Fj{p:Prop}(h:p:=by simp[Pp,Sx,E,V,b3,b4,b5,gC,m1,hs]):p:=h
def Fk{p:Prop}(h:p:=by simp[Oi,hi]):p:=h
def Fl{p:Prop}(h:p:=by rw[j]):p:=h
def Fo{p:Prop}(h:p:=by simp[stepG,stepG.exec,Frame.atR]):p:=h
def Fp{p:Prop}(h:p:=by simp[Pq,(zf0 j ops l _ (i+1) 0).1]):p:=h
def Fq{p:Prop}(h:p:=by rw[Jg,hcl];omega):p:=h
def Ft{p:Prop}(h:p:=by have:=U5 Ko.f_len G (j:=0) J;simpa [N3,Ko.f] using this):p:=h
def Fu{p:Prop}(h:p:=by rw[z P J (D P T),o2 P J];exact ho P T gD):p:=h
def Fv{p:Prop}(h:p:=by rw[hm j hj];exact congrArg some (Ly.2 J)):p:=h
def Fw{p:Prop}(h:p:=by rw[hx];exact List.mem_flatMap.2 ⟨_,N,Z⟩):p:=h
def Fx{p:Prop}(h:p:=by rw[z pl J (D pl Q),o2 pl I];exact F):p:=h
inductive Tr (α:Type) where
 |e
 |n (v:Option α) (l r:Tr α)
structure GetF (α:Type) where run:Tr α→Option α
structure SetF (α:Type) where run:α→Tr α→Tr α
def re{g:Type}:List Bool→GetF g
 |[]=>⟨λt=>Tr.rec none (λv _ _ _ _=>v) t⟩
 |b::p=>match b with
  |true=>⟨λt=>Tr.rec none (λ_ l _ _ _=>(re p).run l) t⟩
  |false=>⟨λt=>Tr.rec none (λ_ _ r _ _=>(re p).run r) t⟩
def X1{g:Type}:List Bool→SetF g
 |[]=>⟨λa t=>Tr.rec (.n (some a) .e .e) (λ_ l r _ _=>.n (some a) l r) t⟩
 |b::p=>match b with
  |true=>⟨λa t=>Tr.rec (.n none ((X1 p).run a .e) .e) (λv l r _ _=>.n v ((X1 p).run a l) r) t⟩
  |false=>⟨λa t=>Tr.rec (.n none .e ((X1 p).run a .e)) (λv l r _ _=>.n v l ((X1 p).run a r)) t⟩
def Mz(p:List Bool)(t:Tr v9):Option v9:=(re p).run t
def N8(a:v9)(p:List Bool)(t:Tr v9):Tr v9:=(X1 p).run a t
def o8:Nat→Nat→List Bool
 |0,_=>[]
 |f+1,k=>match k with
  |0=>[]
  |k+1=>Nat.beq (Nat.mod k 2) 0::o8 f (Nat.div k 2)
def M6(k:Nat):List Bool:=o8 (Nat.succ k) k
def M8:Nat:=1000000000
def O8{g:Type}:List g→Nat→Tr g→Tr g
 |[],_,t=>t
 |a::l,i,t=>O8 l (i+1) (N8 a (M6 i) t)
inductive AV where
 |bool (b:Bool)
 |int (k:IntKind) (n:Int)
 |str (len n:Nat)
 |nilPtr
 |ptr (o v i:Nat)
 |nilSl
 |sl (o v i len esz:Nat) (room:Option Nat)
 |emp
 |nilMap
 |map (o:Nat)
 |nilFn
 |fn (f:Fn) (first cap:List AV)
 |nilIf
 |iface (t:TypeId) (v:AV)
 |agg (cs:List AV)
 |tup (vs:List AV)
 deriving Inhabited
def AV.cells:AV→Option (List AV)
 |.agg cs=>some cs
 |.tup _=>none
 |v=>some [v]
def Oh:List UInt8→Nat
 |[]=>0
 |b::l=>b.toNat+256*Oh l
def dz:Value→Option AV
 |.bool b=>some (.bool b)
 |.int k n=>some (.int k n)
 |.string s=>some (.str s.data.toList.length (Oh s.data.toList))
 |.pointer none=>some .nilPtr
 |.slice none 0 0=>some .nilSl
 |.map none=>some .nilMap
 |.nilFunc=>some .nilFn
 |.nilIface=>some .nilIf
 |_=>none
def Sa:List Value→Option (List AV)
 |[]=>some []
 |v::l=>match dz v with
  |none=>none
  |some a=>match Sa l with
   |none=>none
   |some r=>some (a::r)
def Uu:Value→Option AV
 |.agg g=>(Sa g.toList).map .agg
 |.tuple j=>if j.size=0 then some (.tup []) else none
 |v=>dz v
inductive AObj where
 |cells (c:Tr AV) (len ver:Nat) (ro:Bool)
 |map (es:List (AV×AV×Nat)) (clock:Nat)
 |iter (len n pos:Nat)
 |loop (st:LoopState) (pend:Option Code) (f nt:Nat) (env:Tr AV) (ps:Array Tmp) (assign body:Code) (defers:Nat)
 |defd (isOpen:Bool)
structure Heap where
 t:Tr AObj
 next:Nat
def Heap.get(H:Heap)(o:Nat):Option AObj:=Mz (M6 o) H.t
def Heap.put(H:Heap)(o:Nat)(x:AObj):Heap:=⟨N8 x (M6 o) H.t,H.next⟩
def Heap.push(H:Heap)(x:AObj):Heap:=⟨N8 x (M6 H.next) H.t,H.next+1⟩
def Rb(c:Tr AV):Nat→Nat→Option (List AV)
 |_,0=>some []
 |i,n+1=>match Mz (M6 i) c with
  |none=>none
  |some a=>match Rb c (i+1) n with
   |none=>none
   |some l=>some (a::l)
def Pg(j:Heap)(o v i n:Nat):Option (List AV) :=
 match j.get o with
 |some (.cells c len g _)=>match Nat.beq v g with
  |true=>match Nat.ble (Nat.add i n) len with
   |true=>Rb c i n
   |false=>none
  |false=>none
 |_=>none
def T7(j:Heap)(o v i:Nat)(l:List AV):Option Heap :=
 match j.get o with
 |some (.cells c len g false)=>match Nat.beq v g with
  |true=>match Nat.ble (Nat.add i l.length) len with
   |true=>some (j.put o (.cells (O8 l i c) len g false))
   |false=>none
  |false=>none
 |_=>none
def newObj(g:Heap)(l:List AV):Option (Nat×Heap):=some (g.next,g.push (.cells (O8 l 0 .e) l.length 0 false))
inductive Tgt where
 |fn (f:Nat)
 |yield (l:Nat)
inductive OR where
 |no
 |val (v:AV) (H:Heap)
 |call (t:Tgt) (args:List AV)
structure OpdF where run:Tr AV→Option AV
structure OpF where run:Tr AV→Heap→OR
def Qs:AV:=.tup []
def M7(x:Operand):OpdF :=
 match x with
 |.tmp t=>match Nat.ble t M8 with
  |true=>⟨λg=>Option.rec (some Qs) (λv=>some v) (Mz (M6 t) g)⟩
  |false=>⟨λ_=>none⟩
 |.const v=>match Uu v with
  |some a=>⟨λ_=>some a⟩
  |none=>⟨λ_=>none⟩
 |.func f=>⟨λ_=>some (.fn (.func f) [] [])⟩
 |.global _=>⟨λ_=>none⟩
structure OpdsF where run:Tr AV→Option (List AV)
def opds:List Operand→OpdsF
 |[]=>⟨λ_=>some []⟩
 |x::l=>⟨λg=>match (M7 x).run g with
  |none=>none
  |some a=>match (opds l).run g with
   |none=>none
   |some r=>some (a::r)⟩
def Nj:OpF:=⟨λ_ _=>.no⟩
def ret1(g:Heap)(o:Option AV):OR:=match o with
 |some v=>.val v g
 |none=>.no
def Pa(x:Operand)(f:Heap→AV→OR):OpF:=⟨λg j=>Option.rec .no (λa=>f j a) ((M7 x).run g)⟩
def Rs(x y:Operand)(f:Heap→AV→AV→OR):OpF:=⟨λg j=>Option.rec .no (λa=>Option.rec .no (λb=>f j a b) ((M7 y).run g)) ((M7 x).run g)⟩
def Oi(g:Program)(t:TypeId):Option Nat:=(g.info? t).map (·.size)
def Rh(g:Program)(t:TypeId):Option Bool:=match g.underlying t with
 |some (.struct _)|some (.array _ _)=>some true
 |some _=>some false
 |none=>none
def Rc(g:Program)(t:TypeId):Option (List AV):=match g.info? t with
 |some i=>match i.zero with
  |some v=>match Sa v.cells.toList with
   |some l=>if l.length=i.size then some l else none
   |none=>none
  |none=>none
 |none=>none
def mm(g:Program)(t:TypeId):Option AV:=match g.info? t with
 |some i=>match i.zero with
  |some v=>Uu v
  |none=>none
 |none=>none
def Uq(j:Heap)(l:List AV):OR:=match newObj j l with
 |some (o,g)=>.val (.ptr o 0 0) g
 |none=>.no
def Wz:IntKind→Nat
 |.i8=>0 |.i16=>1 |.i32=>2 |.i64=>3 |.u8=>4 |.u16=>5 |.u32=>6 |.u64=>7
def Ve(k g:IntKind):Bool:=Nat.beq (Wz k) (Wz g)
def fi(a b:Int):Bool:=match a,b with
 |.ofNat x,.ofNat y=>Nat.beq x y
 |.negSucc x,.negSucc y=>Nat.beq x y
 |_,_=>false
def jn(a b:Int):Bool:=match a,b with
 |.ofNat x,.ofNat y=>Nat.blt x y
 |.negSucc x,.negSucc y=>Nat.blt y x
 |.negSucc _,.ofNat _=>true
 |.ofNat _,.negSucc _=>false
def Ux:IntKind→Nat
 |.i8=>128 |.u8=>128 |.i16=>32768 |.u16=>32768 |.i32=>2147483648 |.u32=>2147483648
 |.i64=>9223372036854775808 |.u64=>9223372036854775808
def Th(k:IntKind)(n:Int):Int:=match n with
 |.ofNat m=>match Nat.blt m (Ux k) with
  |true=>.ofNat m
  |false=>k.wrap (.ofNat m)
 |.negSucc m=>k.wrap (.negSucc m)
def Tb(k:IntKind):Nat:=Nat.mul 2 (Ux k)
def Wo(f:Nat→Nat→Nat)(k:IntKind)(a b:Int):Option AV:=match a,b with
 |.ofNat x,.ofNat y=>match Nat.blt x (Tb k) with
  |true=>match Nat.blt y (Tb k) with
   |true=>some (.int k (Th k (.ofNat (f x y))))
   |false=>none
  |false=>none
 |_,_=>none
def Wy(b:Int):Bool:=match b with
 |.ofNat n=>Nat.beq n 0
 |_=>false
def sy(op:BinOp)(k:IntKind)(a b:Int):Option AV :=
 match op with
 |.add=>some (.int k (Th k (Int.add a b)))
 |.sub=>some (.int k (Th k (Int.sub a b)))
 |.mul=>some (.int k (Th k (Int.mul a b)))
 |.quo=>match Wy b with
  |true=>none
  |false=>some (.int k (Th k (Int.tdiv a b)))
 |.rem=>match Wy b with
  |true=>none
  |false=>some (.int k (Int.tmod a b))
 |.and=>Wo Nat.land k a b
 |.or=>Wo Nat.lor k a b
 |.xor=>Wo Nat.xor k a b
 |.andNot=>Wo (λx y=>Nat.xor x (Nat.land x y)) k a b
 |.eql=>some (.bool (fi a b))
 |.neq=>some (.bool (!(fi a b)))
 |.lss=>some (.bool (jn a b))
 |.leq=>some (.bool (!(jn b a)))
 |.gtr=>some (.bool (jn b a))
 |.geq=>some (.bool (!(jn a b)))
 |_=>none
def Pb(a b:Nat):Nat:=match Nat.ble a b with
 |true=>a
 |false=>b
def zn2(op:BinOp)(k:IntKind)(a:Int)(y:Int):Option AV :=
 match a,y with
 |.ofNat x,.ofNat y=>match op with
  |.shl=>some (.int k (Th k (.ofNat (Nat.mul x (Nat.pow 2 (Pb y k.bits))))))
  |.shr=>some (.int k (.ofNat (Nat.div x (Nat.pow 2 (Pb y k.bits)))))
  |_=>none
 |_,_=>none
def T3:Nat→Nat→List Nat
 |0,_=>[]
 |len+1,n=>Nat.mod n 256::T3 len (Nat.div n 256)
def az:List Nat→List Nat→Bool
 |_,[]=>false
 |[],_::_=>true
 |a::x,b::y=>Nat.blt a b || (Nat.beq a b&&az x y)
def uj(op:BinOp)(g a j b:Nat):Option AV :=
 match op with
 |.add=>match Nat.ble (Nat.add g j) M8 with
  |true=>some (.str (Nat.add g j) (Nat.add a (Nat.mul b (Nat.pow 256 g))))
  |false=>none
 |.eql=>some (.bool (Nat.beq g j&&Nat.beq a b))
 |.neq=>some (.bool (!(Nat.beq g j&&Nat.beq a b)))
 |.lss=>some (.bool (az (T3 g a) (T3 j b)))
 |.gtr=>some (.bool (!(az (T3 g a) (T3 j b) || (Nat.beq g j&&Nat.beq a b))))
 |.leq=>some (.bool (az (T3 g a) (T3 j b) || (Nat.beq g j&&Nat.beq a b)))
 |.geq=>some (.bool (!(az (T3 g a) (T3 j b))))
 |_=>none
def V0(l:List AV)(g n:Nat):Option (List AV):=match Nat.ble (Nat.add g n) l.length with
 |true=>some ((l.drop g).take n)
 |false=>none
def X2(z:Bool)(g:Nat)(l:List AV)(j:Nat):Option AV :=
 match z with
 |true=>match V0 l j g with
  |some r=>some (.agg r)
  |none=>none
 |false=>l[j]?
def vi(j:Program)(t:TypeId)(l:List AV)(g:Nat):Option AV :=
 match Rh j t,Oi j t with
 |some z,some n=>X2 z n l g
 |_,_=>none
def Xj(z:Program)(f:TypeId→AV→AV→Option Bool)(g j:List AV):List Field→Option Bool
 |[]=>some true
 | fd :: l => match fd.name != "_" with
  |true=>match vi z fd.type g fd.offset,vi z fd.type j fd.offset with
   |some a,some b=>match f fd.type a b with
    |some true=>Xj z f g j l
    |some false=>some false
    |none=>none
   |_,_=>none
  |false=>Xj z f g j l
def en(z:Program)(f:TypeId→AV→AV→Option Bool)(t:TypeId)(n:Nat)(g j:List AV):List Nat→Option Bool
 |[]=>some true
 |i::l=>match vi z t g (Nat.mul i n),vi z t j (Nat.mul i n) with
  |some a,some b=>match f t a b with
   |some true=>en z f t n g j l
   |some false=>some false
   |none=>none
  |_,_=>none
def Yc(z:Program)(f:TypeId→AV→AV→Option Bool)(t:TypeId)(a b:AV):Option Bool:=match z.underlying t,a,b with
  |some .bool,.bool x,.bool y=>some (x==y)
  |some (.int _),.int k x,.int A y=>match Ve k A with
   |true=>some (fi x y)
   |false=>none
  |some .string,.str B x,.str C y=>some (Nat.beq B C&&Nat.beq x y)
  |some (.pointer _),.nilPtr,.nilPtr=>some true
  |some (.pointer _),.nilPtr,.ptr _ _ _=>some false
  |some (.pointer _),.ptr _ _ _,.nilPtr=>some false
  |some (.interface _),.nilIf,.nilIf=>some true
  |some (.interface _),.nilIf,.iface _ _=>some false
  |some (.interface _),.iface _ _,.nilIf=>some false
  |some (.slice _),.nilSl,.nilSl=>some true
  |some (.slice _),.nilSl,.sl _ _ _ _ _ _=>some false
  |some (.slice _),.sl _ _ _ _ _ _,.nilSl=>some false
  |some (.slice _),.nilSl,.emp=>some false
  |some (.slice _),.emp,.nilSl=>some false
  |some (.map _ _),.nilMap,.nilMap=>some true
  |some (.map _ _),.nilMap,.map _=>some false
  |some (.map _ _),.map _,.nilMap=>some false
  |some (.func _ _ _),.nilFn,.nilFn=>some true
  |some (.func _ _ _),.nilFn,.fn _ _ _=>some false
  |some (.func _ _ _),.fn _ _ _,.nilFn=>some false
  |some (.struct D),.agg g,.agg j=>match z.stoodInHeld t with
   |true=>none
   |false=>Xj z f g j D.toList
  |some (.array n e),.agg g,.agg j=>match Oi z e with
   |some s=>en z f e s g j (List.range n)
   |none=>none
  |_,_,_=>none
def xq(g:Program):Nat→TypeId→AV→AV→Option Bool
 |0=>λ_ _ _=>none
 |d+1=>Yc g (xq g d)
def uu(g:Program)(j:Bool)(t:TypeId)(a b:AV):Bool:=match a,b with
 |.nilIf,.nilIf=>j
 |.agg _,.agg _=>!(g.eqGuardType g.depth t)
 |_,_=>true
def Qo(g:Program)(j:Bool)(t:TypeId)(a b:AV):Option Bool:=match uu g j t a b with
 |true=>xq g 20 t a b
 |false=>none
def py:Option Bool→Option AV
 |some b=>some (.bool (!b))
 |none=>none
def mp:Option Bool→Option AV
 |some b=>some (.bool b)
 |none=>none
def Un:Operand→Bool
 |.const _=>true
 |_=>false
def Ou(A:Program)(op:BinOp)(B:Bool)(t:TypeId)(a b:AV):Option AV :=
 match a,b with
 |.int k x,.int g y=>match op with
  |.shl=>zn2 .shl k x y
  |.shr=>zn2 .shr k x y
  |op=>match Ve k g with
   |true=>sy op k x y
   |false=>none
 |.str j x,.str z y=>uj op j x z y
 |a,b=>match op with
  |.eql=>mp (Qo A B t a b)
  |.neq=>py (Qo A B t a b)
  |_=>none
def unA(op:UnOp)(a:AV):Option AV :=
 match op,a with
 |.neg,.int k n=>some (.int k (Th k (Int.sub 0 n)))
 |.xor,.int k n=>some (.int k (k.wrap (BitVec.ofInt k.bits (if k.signed then -1 else k.max) ^^^ BitVec.ofInt k.bits n).toNat))
 |.not,.bool b=>some (.bool (!b))
 |_,_=>none
def Sq:List AV→Nat→List AV→List AV
 |g,_,[]=>g
 |g,i,a::l=>Sq (g.set i a) (i+1) l
structure Part where
 off:Nat
 size:Nat
 v:OpdF
def Y5(cs:List AV):List Part→Tr AV→Option (List AV)
 |[],_=>some cs
 |p::g,j=>match p.v.run j with
  |none=>none
  |some a=>match a.cells with
   |none=>none
   |some l=>match Nat.beq l.length p.size with
    |true=>match Nat.ble (Nat.add p.off p.size) cs.length with
     |true=>Y5 (Sq cs p.off l) g j
     |false=>none
    |false=>none
def ae(g:Nat→Option (Nat×Nat)):List (Nat×Operand)→Option (List Part)
 |[]=>some []
 |(i,x)::l=>match g i with
  |none=>none
  |some (o,s)=>match ae g l with
   |none=>none
   |some r=>some (⟨o,s,M7 x⟩::r)
def ur(g:Program):List Field→Option (List (Nat×Nat))
 |[]=>some []
 |f::l=>match Oi g f.type with
  |none=>none
  |some s=>match ur g l with
   |none=>none
   |some r=>some ((f.offset,s)::r)
def rh(D:Program)(t:TypeId)(g:Array (Nat×Operand)):OpF :=
 match Rc D t with
 |none=>Nj
 |some C=>match D.underlying t with
  |some (.struct j)=>match ur D j.toList with
   |none=>Nj
   |some pl=>match ae (pl[·]?) g.toList with
    |none=>Nj
    |some B=>⟨λE F=>match Y5 C B E with
     |some l=>.val (.agg l) F
     |none=>.no⟩
  |some (.array _ A)=>match Oi D A with
   |none=>Nj
   |some z=>match ae (λi=>some (i*z,z)) g.toList with
    |none=>Nj
    |some B=>⟨λE F=>match Y5 C B E with
     |some l=>.val (.agg l) F
     |none=>.no⟩
  |_=>Nj
def Ry(l:List AV):Nat→List AV
 |0=>[]
 |n+1=>l++Ry l n
def jf(A:Program)(t:TypeId)(len:Nat)(z:Array (Nat×Operand)):OpF :=
 match A.underlying t with
 |some (.slice j)=>match Oi A j with
  |none=>Nj
  |some g=>match Rc A j with
   |none=>Nj
   |some D=>if len*g≤2^20∧0<g then
     match ae (λi=>some (i*g,g)) z.toList with
     |none=>Nj
     |some B=>⟨λE F=>match Y5 (Ry D len) B E with
      |some l=>match newObj F l with
       |some (o,C)=>.val (.sl o 0 0 len g (some len)) C
       |none=>.no
      |none=>.no⟩
    else Nj
 |_=>Nj
def oo(j:Program)(t:TypeId)(x:Operand):OpF :=
 match Rh j t,Oi j t with
 |some true,some n=>Pa x λg a=>match a with
  |.ptr o v i=>match Pg g o v i n with
   |some l=>.val (.agg l) g
   |none=>.no
  |_=>.no
 |some false,some _=>Pa x λg a=>match a with
  |.ptr o v i=>match Pg g o v i 1 with
   |some [c]=>.val c g
   |_=>.no
  |_=>.no
 |_,_=>Nj
def we(j:Program)(t:TypeId)(x y:Operand):OpF :=
 match Oi j t with
 |some n=>Rs x y λz a b=>match a with
  |.ptr o v i=>match b.cells with
   |some l=>match Nat.beq l.length n with
    |true=>match T7 z o v i l with
     |some g=>.val Qs g
     |none=>.no
    |false=>.no
   |none=>.no
  |_=>.no
 |none=>Nj
def qn(g:Heap)(a:AV):OR:=match a with
 |.ptr o v i=>.val (.ptr o v i) g
 |.iface t v=>.val (.iface t v) g
 |.fn (.func f) l c=>.val (.fn (.func f) l c) g
 |.map o=>.val (.map o) g
 |_=>.no
def Tz(P:Program)(src dst:TypeId)(x:Operand):OpF :=
 match P.underlying src,P.underlying dst with
 |some _,some (.int k)=>Pa x λH a=>match a with
  |.int _ n=>.val (.int k (Th k n)) H
  |_=>.no
 |some (.slice e),some .string=>match P.underlying e with
  |some (.int .u8)=>Pa x λH a=>match a with
   |.nilSl=>.val (.str 0 0) H
   |.sl o v i len 1 _=>match Pg H o v i len with
    |some l=>match bytesA l with
     |some n=>.val (.str len n) H
     |none=>.no
    |none=>.no
   |_=>.no
  |_=>Nj
 |some _,some .string=>Pa x λH a=>match a with
  |.str l n=>.val (.str l n) H
  |_=>.no
 |some _,some (.slice e)=>match P.underlying e,Oi P e with
  |some (.int .u8),some 1=>Pa x λH a=>match a with
   |.str len n=>match newObj H ((T3 len n).map λ(b:Nat)=>AV.int .u8 (Int.ofNat b)) with
    |some (o,H')=>.val (.sl o 0 0 len 1 none) H'
    |none=>.no
   |_=>.no
  |_,_=>Nj
 |_,_=>Nj
where
 bytesA:List AV→Option Nat
  |[]=>some 0
  |.int .u8 (.ofNat b)::l=>if Nat.blt b 256 then match bytesA l with
   |some n=>some (b+256*n)
   |none=>none
   else none
  |_=>none
def qc(g:Program)(t:TypeId)(x:Operand):OpF :=
 match g.underlying t with
 |some (.interface _)=>Nj
 |some _=>Pa x λj a=>.val (.iface t a) j
 |none=>Nj
def oj(f:Fn)(first cap:Array Operand):OpF :=
 ⟨λg j=>match (opds first.toList).run g with
  |some l=>match (opds cap.toList).run g with
   |some r=>.val (.fn f l r) j
   |none=>.no
  |none=>.no⟩
def Vh(g:Heap):OR:=.val (.map g.next) (g.push (.map [] 0))
def jv(j:Program)(t:TypeId)(r:Option Operand):OpF :=
 match r with
 |none=>⟨λ_ g=>Vh g⟩
 |some x=>match j.underlying t with
  |some (.map _ _)=>Pa x λg a=>match a with
   |.int _ _=>Vh g
   |_=>.no
  |_=>Nj
def jx(j:Program)(t:TypeId)(l c:Operand):OpF :=
 match j.underlying t with
 |some (.slice g)=>match j.info? g with
  |none=>Nj
  |some i=>match Rc j g with
   |none=>Nj
   |some A=>if 0<i.size∧i.bytes≤2^16 then Rs l c λB a b=>match a,b with
    |.int .i64 (.ofNat l),.int .i64 (.ofNat c)=>match Nat.ble l c with
     |true=>match Nat.ble c 1048576 with
      |true=>match newObj B (Ry A c) with
       |some (o,z)=>.val (.sl o 0 0 l i.size (some c)) z
       |none=>.no
      |false=>.no
     |false=>.no
    |_,_=>.no
    else Nj
 |_=>Nj
structure OptF where run:Tr AV→Option (Option Nat)
def Pe:Option Operand→OptF
 |none=>⟨λ_=>some none⟩
 |some x=>⟨λg=>match (M7 x).run g with
  |some (.int _ (.ofNat n))=>some (some n)
  |_=>none⟩
def Xg(l h m o v i g:Nat):AV :=
 match Nat.beq l m with
 |true=>match Nat.beq l 0 with
  |true=>.sl o v i 0 g (some 0)
  |false=>.emp
 |false=>.sl o v (Nat.add i (Nat.mul l g)) (Nat.sub h l) g (some (Nat.sub m l))
def jr(l h j:Nat)(A:Option Nat)(o v i g:Nat)(z:Option Nat):Option AV :=
 match Nat.ble l h with
 |false=>none
 |true=>match Nat.ble h j with
  |false=>none
  |true=>match A with
   |some m=>match Nat.ble h m with
    |false=>none
    |true=>match Nat.ble m j with
     |false=>none
     |true=>some (Xg l h m o v i g)
   |none=>match z with
    |some r=>some (Xg l h r o v i g)
    |none=>match Nat.beq l 0 with
     |true=>some (.sl o v i h g none)
     |false=>match Nat.beq l h with
      |true=>some .emp
      |false=>some (.sl o v (Nat.add i (Nat.mul l g)) (Nat.sub h l) g none)
def Ts(g:Nat)(z hi mx:Option Nat)(o v i len j:Nat)(room:Option Nat):Option AV :=
 match Nat.beq j g with
 |false=>none
 |true=>jr (z.getD 0) (hi.getD len) (room.getD len) mx o v i j room
def ep(P:Program)(t:TypeId)(x:Operand)(j hi mx:Option Operand):OpF :=
 match P.underlying t with
 |some .string=>match mx with
  |some _=>Nj
  |none=>⟨λA D=>match (M7 x).run A,(Pe j).run A,(Pe hi).run A with
   |some (.str len n),some j,some hi =>
    let l:=j.getD 0;let h:=hi.getD len
    match Nat.ble l h with
    |true=>match Nat.ble h len with
     |true=>.val (.str (Nat.sub h l) (Nat.mod (Nat.div n (Nat.pow 256 l)) (Nat.pow 256 (Nat.sub h l)))) D
     |false=>.no
    |false=>.no
   |_,_,_=>.no⟩
 |some (.slice z)=>if mx.isSome&&hi.isNone then Nj else match Oi P z with
  |none=>Nj
  |some g=>⟨λA D=>match (M7 x).run A,(Pe j).run A,(Pe hi).run A,(Pe mx).run A with
   |some (.sl o v i len E B),some j,some hi,some mx=>ret1 D (Ts g j hi mx o v i len E B)
   |some .nilSl,some j,some hi,some none=>match Nat.beq (Nat.add (j.getD 0) (hi.getD 0)) 0 with
    |true=>.val .nilSl D
    |false=>.no
   |some .emp,some j,some hi,some none=>match Nat.beq (Nat.add (j.getD 0) (hi.getD 0)) 0 with
    |true=>.val .emp D
    |false=>.no
   |_,_,_,_=>.no⟩
 |some (.array n z)=>if mx.isSome&&hi.isNone then Nj else match Oi P z with
  |none=>Nj
  |some g=>⟨λA D=>match (M7 x).run A,(Pe j).run A,(Pe hi).run A,(Pe mx).run A with
   |some (.ptr o v i),some j,some hi,some mx=>match D.get o with
    |some (.cells _ C F false)=>match Nat.beq v F with
     |true=>match Nat.ble (Nat.add i (Nat.mul n g)) C with
      |true=>ret1 D (Ts g j hi mx o v i n g (some n))
      |false=>.no
     |false=>.no
    |_=>.no
   |_,_,_,_=>.no⟩
 |_=>Nj
def qf(z:Program)(s:TypeId)(x:Operand)(f:Nat):OpF :=
 match z.underlying s with
 |some (.struct g)=>match g[f]? with
  |none=>Nj
  |some fd=>match Oi z fd.type with
   |none=>Nj
   |some 0=>Nj
   |some _=>let j:=fd.offset;Pa x λA a=>match a with
    |.ptr o v i=>.val (.ptr o v (Nat.add i j)) A
    |_=>.no
 |_=>Nj
def sd(z:Program)(t:TypeId)(x:Operand)(f:Nat):OpF :=
 match z.underlying t with
 |some (.struct g)=>match g[f]? with
  |none=>Nj
  |some fd=>match Rh z fd.type,Oi z fd.type with
   |some A,some n=>let j:=fd.offset;Pa x λB a=>match a with
    |.agg l=>ret1 B (X2 A n l j)
    |_=>.no
   |_,_=>Nj
 |_=>Nj
def rf(B:Program)(t:TypeId)(x A:Operand):OpF :=
 match B.underlying t with
 |some (.slice g)=>match Oi B g with
  |none=>Nj
  |some j=>Rs x A λC a b=>match a,b with
   |.sl o v i len z _,.int _ (.ofNat n)=>match Nat.blt n len with
    |true=>match Nat.beq z j with
     |true=>.val (.ptr o v (Nat.add i (Nat.mul n z))) C
     |false=>.no
    |false=>.no
   |_,_=>.no
 |some (.array len g)=>match Oi B g with
  |none=>Nj
  |some j=>Rs x A λC a b=>match a,b with
   |.ptr o v i,.int _ (.ofNat n)=>match Nat.blt n len with
    |true=>.val (.ptr o v (Nat.add i (Nat.mul n j))) C
    |false=>.no
   |_,_=>.no
 |_=>Nj
def qz(A:Program)(t:TypeId)(x z:Operand):OpF :=
 match A.underlying t with
 |some .string=>Rs x z λB a b=>match a,b with
  |.str len n,.int _ (.ofNat i)=>match Nat.blt i len with
   |true=>.val (.int .u8 (Int.ofNat (Nat.mod (Nat.div n (Nat.pow 256 i)) 256))) B
   |false=>.no
  |_,_=>.no
 |some (.array len g)=>match Rh A g,Oi A g with
  |some C,some j=>Rs x z λB a b=>match a,b with
   |.agg l,.int _ (.ofNat n)=>match Nat.blt n len with
    |true=>ret1 B (X2 C j l (Nat.mul n j))
    |false=>.no
   |_,_=>.no
  |_,_=>Nj
 |_=>Nj
def dj(d:TypeDesc)(a b:AV):Option Bool:=match d,a,b with
 |.int _,.int k a,.int g b=>match Ve k g with
  |true=>some (fi a b)
  |false=>none
 |.string,.str j a,.str z b=>some (Nat.beq j z&&Nat.beq a b)
 |.bool,.bool a,.bool b=>some (a==b)
 |_,_,_=>none
def Td(g:Program)(t:TypeId):Option TypeDesc:=match g.underlying t with
 |some .bool=>some .bool
 |some (.int k)=>some (.int k)
 |some .string=>some .string
 |_=>none
def jy(d:TypeDesc)(k:AV):List (AV×AV×Nat)→Option (Option AV)
 |[]=>some none
 |(g,v,_)::l=>match dj d k g with
  |some true=>some (some v)
  |some false=>jy d k l
  |none=>none
def kr(d:TypeDesc)(k v:AV)(g:Nat):List (AV×AV×Nat)→Option (List (AV×AV×Nat)×Bool)
 |[]=>some ([(k,v,g)],true)
 |(j,z,b)::l=>match dj d k j with
  |some true=>some ((k,v,b)::l,false)
  |some false=>match kr d k v g l with
   |some (r,n)=>some ((j,z,b)::r,n)
   |none=>none
  |none=>none
def xj(d:TypeDesc)(k:AV):List (AV×AV×Nat)→Option (List (AV×AV×Nat))
 |[]=>some []
 |(g,j,b)::l=>match dj d k g with
  |some true=>some l
  |some false=>match xj d k l with
   |some r=>some ((g,j,b)::r)
   |none=>none
  |none=>none
def xp(j:Heap)(a:AV):Option (List (AV×AV×Nat)):=match a with
 |.nilMap=>some []
 |.map o=>match j.get o with
  |some (.map g _)=>some g
  |_=>none
 |_=>none
def m6(z:Program)(t:TypeId)(x A:Operand)(ok:Bool):OpF :=
 match z.underlying t with
 |some (.map j g)=>match Td z j,mm z g with
  |some d,some D=>Rs x A λB a b=>match xp B a with
   |none=>.no
   |some C=>match jy d b C with
    |some (some v)=>.val (if ok then .tup [v,.bool true] else v) B
    |some none=>.val (if ok then .tup [D,.bool false] else D) B
    |none=>.no
  |_,_=>Nj
 |_=>Nj
def pn(D:Program)(t:TypeId)(m k x:Operand):OpF :=
 match D.underlying t with
 |some (.map z _)=>match Td D z with
  |some d=>⟨λA B=>match (M7 m).run A,(M7 k).run A,(M7 x).run A with
   |some (.map o),some k,some v=>match B.get o with
    |some (.map C g)=>match kr d k v g C with
     |some (j,true)=>.val Qs (B.put o (.map j (Nat.add g 1)))
     |some (j,false)=>.val Qs (B.put o (.map j g))
     |none=>.no
    |_=>.no
   |_,_,_=>.no⟩
  |none=>Nj
 |_=>Nj
def rangeF(j:Program)(t:TypeId)(x:Operand):OpF :=
 match j.underlying t with
 |some .string=>Pa x λg a=>match a with
  |.str len n=>.val (.ptr g.next 0 0) (g.push (.iter len n 0))
  |_=>.no
 |_=>Nj
def ye(x:Operand)(g:Bool):OpF :=
 if g then Pa x λz a=>match a with
  |.ptr o 0 0=>match z.get o with
   |some (.iter len n j)=>match Nat.blt j len with
    |true=>match Nat.blt (Nat.mod (Nat.div n (Nat.pow 256 j)) 256) 128 with
     |true=>.val (.tup [.bool true,.int .i64 (Int.ofNat j),.int .i32 (Int.ofNat (Nat.mod (Nat.div n (Nat.pow 256 j)) 256))]) (z.put o (.iter len n (Nat.add j 1)))
     |false=>.no
    |false=>.val (.tup [.bool false]) z
   |_=>.no
  |_=>.no
 else Nj
def rj(z:Program)(x:Operand)(g:TypeId)(ok:Bool):OpF :=
 match z.underlying g with
 |some (.interface _)=>Nj
 |some _=>match mm z g with
  |none=>Nj
  |some A=>Pa x λj a=>match a with
   |.nilIf=>if ok then .val (.tup [A,.bool false]) j else .no
   |.iface t v=>match Nat.beq t g with
    |true=>.val (if ok then .tup [v,.bool true] else v) j
    |false=>if ok then .val (.tup [A,.bool false]) j else .no
   |_=>.no
 |none=>Nj
def zf5(x:Operand)(i:Nat):OpF:=Pa x λg a=>match a with
 |.tup l=>ret1 g l[i]?
 |_=>.no
def Tg(z:Program)(t:TypeId)(x:Operand):OpF :=
 match z.underlying t with
 |some .string=>Pa x λg a=>match a with
  |.str l _=>.val (.int .i64 (Int.ofNat l)) g
  |_=>.no
 |some (.slice _)=>Pa x λg a=>match a with
  |.sl _ _ _ len _ _=>.val (.int .i64 (Int.ofNat len)) g
  |.nilSl=>.val (.int .i64 0) g
  |.emp=>.val (.int .i64 0) g
  |_=>.no
 |some (.map _ _)=>Pa x λg a=>match a with
  |.nilMap=>.val (.int .i64 0) g
  |.map o=>match g.get o with
   |some (.map j _)=>.val (.int .i64 (Int.ofNat j.length)) g
   |_=>.no
  |_=>.no
 |some (.array n _)=>Pa x λg _=>.val (.int .i64 (Int.ofNat n)) g
 |_=>Nj
def Up(j:Program)(t:TypeId)(x:Operand):OpF :=
 match j.underlying t with
 |some (.slice _)=>Pa x λg a=>match a with
  |.nilSl=>.val (.int .i64 0) g
  |.sl _ _ _ _ _ (some r)=>.val (.int .i64 (Int.ofNat r)) g
  |_=>.no
 |_=>Nj
def Uv(g:Bool):AV→AV→Option AV
 |.int k x,.int j y=>match Ve k j with
  |true=>match g with
   |true=>match jn x y with
    |true=>some (.int k y)
    |false=>some (.int k x)
   |false=>match jn y x with
    |true=>some (.int k y)
    |false=>some (.int k x)
  |false=>none
 |_,_=>none
def Wa(g:Bool):AV→List AV→Option AV
 |a,[]=>some a
 |a,b::l=>match Uv g a b with
  |some c=>Wa g c l
  |none=>none
def Sc(j:Bool)(g:List Operand):OpF:=⟨λz A=>match (opds g).run z with
 |some (.int k n::l)=>ret1 A (Wa j (.int k n) l)
 |_=>.no⟩
def Xc(z:Heap)(g:Nat):AV→Option (Nat×List AV)
 |.nilSl=>some (0,[])
 |.emp=>some (0,[])
 |.sl o v i len j _=>match Nat.beq j g with
  |true=>match Pg z o v i (Nat.mul len g) with
   |some l=>some (len,l)
   |none=>none
  |false=>none
 |.str len n=>if Nat.beq g 1 then some (len,(T3 len n).map λ(b:Nat)=>AV.int .u8 (Int.ofNat b)) else none
 |_=>none
def Wj(z:Heap)(n g:Nat)(l:List AV):OR :=
 match newObj z l with
 |some (o,j)=>.val (.sl o 0 0 n g none) j
 |none=>.no
def Uf(D:Heap)(j:Nat)(s:AV)(n:Nat)(A:List AV):OR :=
 match Nat.beq n 0 with
 |true=>match s with
  |.nilSl=>.val .nilSl D
  |.emp=>.val .emp D
  |.sl o v i len g B=>.val (.sl o v i len g B) D
  |_=>.no
 |false=>match s with
  |.nilSl=>Wj D n j A
  |.sl o v i len g B=>match Nat.beq g j&&Nat.ble len M8 with
   |false=>.no
   |true=>match B with
    |some r=>match Nat.ble (Nat.add len n) r with
     |true=>match T7 D o v (Nat.add i (Nat.mul len g)) A with
      |some E=>.val (.sl o v i (Nat.add len n) g (some r)) E
      |none=>.no
     |false=>match Pg D o v i (Nat.mul len j) with
      |some F=>Wj D (Nat.add len n) j (F++A)
      |none=>.no
    |none=>match D.get o with
     |some (.cells c z C false)=>match Nat.beq v C with
      |false=>.no
      |true=>match Nat.ble (Nat.add i (Nat.mul (Nat.add len n) g)) z with
       |true=>match T7 D o v (Nat.add i (Nat.mul len g)) A with
        |some E=>.val (.sl o v i (Nat.add len n) g none) E
        |none=>.no
       |false=>match Nat.beq i 0 with
        |false=>.no
        |true=>match Nat.beq (Nat.mul len g) z with
         |false=>.no
         |true=>.val (.sl o (Nat.add C 1) 0 (Nat.add len n) g none) (D.put o (.cells (O8 A z c) (Nat.add z A.length) (Nat.add C 1) false))
     |_=>.no
  |_=>.no
def zja(P:Program)(g:TypeId)(s x:Operand):OpF :=
 match P.info? g,Rc P g with
 |some i,some j=>if 0<i.size∧i.bytes≤65536 then Rs s x λz a b=>match b with
   |.int .i64 (.ofNat n)=>match Nat.ble n 1048576 with
    |true=>Uf z i.size a n (Ry j n)
    |false=>.no
   |_=>.no
  else Nj
 |_,_=>Nj
def jt(P:Program)(g:TypeId)(s x:Operand):OpF :=
 match P.info? g,Rc P g with
 |some i,some _=>if 0<i.size∧i.bytes≤65536 then Rs s x λj a b=>match Xc j i.size b with
   |some (n,l)=>match Nat.ble n 1048576 with
    |true=>Uf j i.size a n l
    |false=>.no
   |none=>.no
  else Nj
 |_,_=>Nj
def wx(P:Program)(z:Array TypeId)(j:Array Operand):OpF :=
 match z.toList,j.toList with
 |[st,A],[s,x]=>match P.underlying st,P.underlying A with
  |some (.slice g),some (.int _)=>zja P g s x
  |some (.slice g),some (.slice _)=>jt P g s x
  |some (.slice g),some .string=>jt P g s x
  |_,_=>Nj
 |_,_=>Nj
def ze(P:Program)(C:Array TypeId)(j:Array Operand):OpF :=
 match C.toList,j.toList with
 |[st,_],[d,x]=>match P.underlying st with
  |some (.slice z)=>match Oi P z with
   |none=>Nj
   |some g=>if 0<g then Rs d x λB a b=>match Xc B g b with
    |some (n,l)=>match a with
     |.nilSl=>.val (.int .i64 0) B
     |.emp=>.val (.int .i64 0) B
     |.sl o v i len A _=>match Nat.beq A g with
      |true=>match T7 B o v i (l.take (Nat.mul (Pb n len) g)) with
       |some D=>.val (.int .i64 (Int.ofNat (Pb n len))) D
       |none=>.no
      |false=>.no
     |_=>.no
    |none=>.no
    else Nj
  |_=>Nj
 |_,_=>Nj
def zm(B:Program)(C:Array TypeId)(z:Array Operand):OpF :=
 match C.toList,z.toList with
 |[st],[x]=>match B.underlying st with
  |some (.slice g)=>match Oi B g,Rc B g with
   |some j,some F=>if 0<j then Pa x λD a=>match a with
    |.nilSl=>.val Qs D
    |.emp=>.val Qs D
    |.sl o v i len A _=>match Nat.beq A j with
     |true=>match T7 D o v i (Ry F len) with
      |some E=>.val Qs E
      |none=>.no
     |false=>.no
    |_=>.no
    else Nj
   |_,_=>Nj
  |_=>Nj
 |_,_=>Nj
def xu(D:Program)(B:Array TypeId)(j:Array Operand):OpF :=
 match B.toList,j.toList with
 |[mt,_],[m,k]=>match D.underlying mt with
  |some (.map z _)=>match Td D z with
   |some d=>Rs m k λE a b=>match a with
    |.map o=>match E.get o with
     |some (.map C g)=>match xj d b C with
      |some A=>.val Qs (E.put o (.map A g))
      |none=>.no
     |_=>.no
    |_=>.no
   |none=>Nj
  |_=>Nj
 |_,_=>Nj
def cq(g:Program)(f:Nat):Bool:=match g.funcs[f]? with
 | some fn => fn.name != "runtime.NumGoroutine" && fn.body.isSome
 |none=>false
def yk(j:Program)(t:TypeId)(g:String):Option Nat:=match j.info? t with
 |some i=>match i.methods.find? (·.name==g) with
  |some m=>if m.path.isEmpty then match m.func,j.underlying t with
   |some (f,true),some (.pointer _)=>some f
   |some (_,false),some (.pointer _)=>none
   |some (f,false),some _=>some f
   |_,_=>none
   else none
  |none=>none
 |none=>none
def bh(g:Program)(f:AV)(args:List AV):OR:=match f with
 |.fn (.func f) first cap=>if cq g f then .call (.fn f) (first++args++cap) else .no
 |.fn (.yield l) [] _=>.call (.yield l) args
 |_=>.no
def vj(P:Program)(f:Nat):Bool:=match P.funcs[f]? with
 | some fn => fn.name == "maps.clone" && fn.origin == "" && fn.body.isNone
 |none=>false
def zqg(g:Heap):List AV→OR
 |[.iface t (.map o)]=>match g.get o with
  |some (.map j z)=>.val (.iface t (.map g.next)) (g.push (.map j z))
  |_=>.no
 |_=>.no
def x8(j:Program)(A:Heap)(z:AV)(g:List AV):OR:=match z with
 |.fn (.func f) [] []=>match vj j f with
  |true=>zqg A g
  |false=>bh j z g
 |_=>bh j z g
def Zv(j:Program)(c:Call):OpF :=
 match c.callee with
 |.builtin b=>match b with
  |.len=>match c.argTypes.toList,c.args.toList with
   |[t],[x]=>Tg j t x
   |_,_=>Nj
  |.cap=>match c.argTypes.toList,c.args.toList with
   |[t],[x]=>Up j t x
   |_,_=>Nj
  |.max=>Sc true c.args.toList
  |.min=>Sc false c.args.toList
  |.append=>wx j c.argTypes c.args
  |.copy=>ze j c.argTypes c.args
  |.clear=>zm j c.argTypes c.args
  |.delete=>xu j c.argTypes c.args
  |_=>Nj
 |.value f=>⟨λz A=>match (M7 f).run z with
  |some B=>match (opds c.args.toList).run z with
   |some l=>x8 j A B l
   |none=>.no
  |none=>.no⟩
 |.invoke r g=>⟨λz _=>match (M7 r).run z with
  |some (.iface t v)=>match yk j t g with
   |some f=>match (opds c.args.toList).run z with
    |some l=>if cq j f then .call (.fn f) (v::l) else .no
    |none=>.no
   |none=>.no
  |_=>.no⟩
def Nq(P:Program)(o:Op):OpF :=
 match o with
 |.move x |.assign x=>Pa x λj a=>.val a j
 |.pick c a b=>⟨λz j=>match (M7 c).run z with
  |some (.bool true)=>ret1 j ((M7 a).run z)
  |some (.bool false)=>ret1 j ((M7 b).run z)
  |_=>.no⟩
 |.alloc t=>match Rc P t with
  |some l=>⟨λ_ j=>Uq j l⟩
  |none=>Nj
 |.box _ x=>Pa x λj a=>match a.cells with
  |some l=>Uq j l
  |none=>.no
 |.build t g=>rh P t g
 |.buildSlice t len g=>jf P t len g
 |.load t a=>oo P t a
 |.store t a x=>we P t a x
 |.nilCheck x=>Pa x qn
 |.binOp op t x y _=>let D:=Un x || Un y;Rs x y λj a b=>ret1 j (Ou P op D t a b)
 |.unOp op _ x=>Pa x λj a=>ret1 j (unA op a)
 |.convert s d x=>Tz P s d x
 |.makeInterface t x=>qc P t x
 |.makeFunc f first cap=>match f with
  |.yield _=>Nj
  |f=>oj f first cap
 |.makeMap t r=>jv P t r
 |.makeSlice t l c=>jx P t l c
 |.slice t x A hi B=>ep P t x A hi B
 |.fieldAddr s x f=>qf P s x f
 |.field t x f=>sd P t x f
 |.indexAddr t x i=>rf P t x i
 |.index t x i=>qz P t x i
 |.lookup t x i ok=>m6 P t x i ok
 |.mapUpdate t m k x |.insert t m k x=>pn P t m k x
 |.range t x=>rangeF P t x
 |.next C s=>ye C s
 |.typeAssert x _ t ok=>rj P x t ok
 |.extract t i=>zf5 t i
 |.call c=>Zv P c
 |_=>Nj
inductive RV where
 |no
 |ok (v:AV) (H:Heap)
abbrev Py:=Tgt→List AV→Heap→RV
inductive OE where
 |no
 |ok (E:Tr AV) (H:Heap)
structure SeqF where run:Py→Tr AV→Heap→OE
structure PutF where run:AV→Tr AV→Tr AV
def P7(n:Nat)(d:Option Tmp):Option PutF :=
 match d with
 |none=>some ⟨λ_ g=>g⟩
 |some d=>if d<n then some ⟨λa g=>N8 a (M6 d) g⟩ else none
structure GuardF where run:Tr AV→Bool
def Rf(ops:Array Oper)(o:Oper):GuardF :=
 match o.guard with
 |none=>⟨λ_=>true⟩
 |some (j,g)=>match (ops[j]?).bind (·.dst) with
  |none=>⟨λ_=>false⟩
  |some d=>if d≤M8 then ⟨λz=>match Mz (M6 d) z with
   |some (.bool b)=>match b with
    |true=>g
    |false=>!g
   |_=>false⟩ else ⟨λ_=>false⟩
def P6(P:Program)(n:Nat)(ops:Array Oper)(o:Oper):SeqF :=
 match P7 n o.dst with
 |none=>⟨λ_ _ _=>.no⟩
 |some p=>⟨λc z A=>Bool.rec (.ok (p.run Qs z) A)
   (OR.rec .no (λv j=>.ok (p.run v z) j) (λt g=>RV.rec .no (λv j=>.ok (p.run v z) j) (c t g A)) ((Nq P o.op).run z A))
   ((Rf ops o).run z)⟩
def bw(B:Program)(n:Nat)(ops:Array Oper):List Oper→SeqF
 |[]=>⟨λ_ g j=>.ok g j⟩
 |o::l=>⟨λc g j=>OE.rec .no (λz A=>(bw B n ops l).run c z A) ((P6 B n ops o).run c g j)⟩
inductive Cls where
 |quiet|rd|ch|al
def yx(g:Program)(t:TypeId):Bool:=match g.underlying t with
 |some (.map _ _)=>true
 |_=>false
def yi(g:Program)(t:TypeId):Bool:=match g.underlying t with
 |some (.array _ _)=>true
 |_=>false
def i7(g:Program)(t:TypeId):Bool:=match g.underlying t with
 |some (.slice _)=>true
 |_=>false
def ve(g:Program)(c:Call):Cls:=match c.callee with
 |.builtin .len=>match c.argTypes.toList with
  |[t]=>if yx g t then .rd else .quiet
  |_=>.ch
 |.builtin .cap |.builtin .max |.builtin .min=>.quiet
 |_=>.ch
def cls(g:Program)(o:Op):Cls :=
 match o with
 |.move _ |.assign _ |.pick _ _ _ |.build _ _ |.nilCheck _ |.binOp _ _ _ _ _ |.unOp _ _ _ |.makeInterface _ _ |.makeFunc _ _ _ |.fieldAddr _ _ _
 |.field _ _ _ |.indexAddr _ _ _ |.index _ _ _ |.typeAssert _ _ _ _ |.extract _ _=>.quiet
 |.slice t _ _ _ _=>if yi g t then .rd else .quiet
 |.convert s d _=>if i7 g d then .ch else if i7 g s then .rd else .quiet
 |.load _ _ |.lookup _ _ _ _=>.rd
 |.call c=>ve g c
 |.alloc _ |.box _ _ |.buildSlice _ _ _ |.makeSlice _ _ _ |.makeMap _ _=>.al
 |_=>.ch
def ke(g:List Nat):List Edge→Nat
 |[]=>0
 |e::l=>match Region.binds .any e with
  |true=>Nat.lor (Nat.lor (2^e.on) (g.getD e.on 0)) (ke g l)
  |false=>ke g l
def zp:List Nat→Nat
 |[]=>0
 |t::l=>Nat.lor (2^t) (zp l)
def ma:List Operand→List Nat
 |[]=>[]
 |.tmp t::l=>t::ma l
 |_::l=>ma l
def Sy(ops:Array Oper)(o:Oper):List Nat :=
 ma o.op.operands.toList++(match o.guard with
  |some (g,_)=>((ops[g]?).bind (·.dst)).toList
  |none=>[])
structure DOp where
 o:Oper
 i:Nat
 m:Nat
 lm:Nat
 c:Cls
def Pq(j:Program)(ops:Array Oper):List Oper→List Nat→Nat→List DOp
 |[],_,_=>[]
 |o::l,g,i=>⟨o,i,ke g o.after.toList,zp (Sy ops o),cls j o.op⟩::Pq j ops l (g++[ke g o.after.toList]) (i+1)
def M1(x:DOp):Bool:=match x.c with
 |.ch=>true
 |_=>false
def Si(x:DOp):Bool:=match x.c with
 |.rd=>true
 |.al=>true
 |_=>false
def znq(x:DOp):Bool:=match x.c with
 |.quiet=>true
 |_=>false
def zp5(x y:DOp):Bool:=match y.o.dst with
 |none=>true
 |some d=>match Nat.testBit x.lm d with
  |false=>true
  |true=>match Nat.beq x.i y.i with
   |true=>!(Si x)
   |false=>match Nat.testBit x.m y.i with
    |true=>true
    |false=>match Nat.testBit y.m x.i with
     |true=>!(Si x)
     |false=>false
def Tv{g:Type}(f:g→Bool):List g→Bool
 |[]=>true
 |a::l=>match f a with
  |true=>Tv f l
  |false=>false
def fv(g:List DOp):Bool:=Tv (λx=>Tv (zp5 x) g) g
def yr:List DOp→Nat→Bool
 |[],_=>true
 |x::l,seen=>match x.o.dst with
  |none=>yr l seen
  |some d=>match Nat.testBit seen d with
   |true=>false
   |false=>yr l (Nat.lor (2^d) seen)
def Oo:List DOp→Nat→Nat→Option Nat
 |[],seen,_=>some seen
 |x::l,seen,g=>match Nat.beq (Nat.land x.m seen) x.m with
  |false=>none
  |true=>match Nat.testBit seen x.i with
   |true=>none
   |false=>match znq x with
    |true=>Oo l (Nat.lor (2^x.i) seen) g
    |false=>match Nat.beq (Nat.land g x.m) g with
     |false=>none
     |true=>match M1 x with
      |true=>Oo l (Nat.lor (2^x.i) seen) (Nat.lor (2^x.i) g)
      |false=>Oo l (Nat.lor (2^x.i) seen) g
def Nl{g:Type}(f:g→Bool):List g→List g
 |[]=>[]
 |a::l=>match f a with
  |true=>a::Nl f l
  |false=>Nl f l
def pp(x:DOp):List DOp→Nat
 |[]=>0
 |c::l=>match Nat.testBit x.m c.i with
  |true=>Nat.succ (pp x l)
  |false=>pp x l
def Xs(j g:List DOp)(p:Nat):List DOp:=Nl (λx=>match M1 x with
 |true=>false
 |false=>Nat.beq (pp x g) p) j
def zk5(z g:List DOp):List DOp→Nat→List DOp
 |[],_=>[]
 |c::j,p=>c::(Xs z g p++zk5 z g j (p+1))
def zr(j g:List DOp):List DOp:=Xs j g 0++zk5 j g g 1
def Wh{g:Type}(f:g→g→Bool):List g→List g→Bool
 |[],[]=>true
 |a::l,b::r=>match f a b with
  |true=>Wh f l r
  |false=>false
 |_,_=>false
def Qh:Nat→AV→AV→Bool
 |0,_,_=>false
 |n+1,a,b=>match a,b with
  |.bool x,.bool y=>x==y
  |.int k x,.int C y=>Ve k C&&fi x y
  |.str l x,.str m y=>Nat.beq l m&&Nat.beq x y
  |.nilPtr,.nilPtr=>true
  |.ptr o v i,.ptr g j z=>Nat.beq o g&&Nat.beq v j&&Nat.beq i z
  |.nilSl,.nilSl=>true
  |.sl o v i l e r,.sl g j z D E F=>Nat.beq o g&&Nat.beq v j&&Nat.beq i z&&Nat.beq l D&&Nat.beq e E&&r==F
  |.emp,.emp=>true
  |.nilMap,.nilMap=>true
  |.map o,.map g=>Nat.beq o g
  |.nilFn,.nilFn=>true
  |.fn (.func f) x y,.fn (.func G) A B=>Nat.beq f G&&Wh (Qh n) x A&&Wh (Qh n) y B
  |.fn (.yield f) x y,.fn (.yield G) A B=>Nat.beq f G&&Wh (Qh n) x A&&Wh (Qh n) y B
  |.nilIf,.nilIf=>true
  |.iface t v,.iface H j=>Nat.beq t H&&Qh n v j
  |.agg x,.agg y=>Wh (Qh n) x y
  |.tup x,.tup y=>Wh (Qh n) x y
  |_,_=>false
def Nk:AV→Option Nat
 |.ptr o _ _=>some o
 |.sl o _ _ _ _ _=>some o
 |.map o=>some o
 |_=>none
def Pm(id:Nat):AV→AV
 |.ptr _ v i=>.ptr id v i
 |.sl _ v i l e r=>.sl id v i l e r
 |.map _=>.map id
 |v=>v
def znv(c g:Tr AV)(len:Nat):Bool:=match Rb c 0 len,Rb g 0 len with
 |some l,some j=>Wh (Qh 30) l j
 |_,_=>false
def eqObj:AObj→AObj→Bool
 |.cells c len z B,.cells C g j A=>Nat.beq len g&&Nat.beq z j&&B==A&&znv c C len
 |.map [] k,.map [] D=>Nat.beq k D
 |_,_=>false
def U7(b:Bool)(x y:v9):Bool:=match b with
 |true=>true
 |false=>@decide (x=y) (Classical.propDecidable _)
def zt8(v g:AV)(z j:Heap):Bool:=match Nk v with
 |none=>false
 |some id=>match U7 (Qh 30 v (Pm id g)) v (Pm id g) with
  |false=>false
  |true=>match z.get id,j.get z.next with
   |some a,some b=>U7 (eqObj a b) a b
   |_,_=>false
structure ChkF where run:Tr AV→Heap→Bool
def Wk(P:Program)(ops:Array Oper)(x:DOp):ChkF :=
 match x.o.dst with
 |none=>⟨λ_ _=>false⟩
 |some d=>⟨λj A=>match (Rf ops x.o).run j with
  |false=>true
  |true=>match Mz (M6 d) j with
   |none=>false
   |some v=>match (Nq P x.o.op).run j A with
    |.val g z=>match x.c with
     |.al=>zt8 v g A z
     |_=>U7 (Qh 30 v g) v g
    |_=>false⟩
def dr(g:Program)(ops:Array Oper):List DOp→ChkF
 |[]=>⟨λ_ _=>true⟩
 |x::l=>⟨λj z=>match (Wk g ops x).run j z with
  |true=>(dr g ops l).run j z
  |false=>false⟩
def S8(P:Program)(n:Nat)(ops:Array Oper):List DOp→List DOp→SeqF
 |[],_=>⟨λ_ B C=>.ok B C⟩
 |x::l,g=>match x.c with
  |.quiet=>⟨λk B C=>OE.rec .no (λz A=>(S8 P n ops l g).run k z A) ((P6 P n ops x.o).run k B C)⟩
  |.rd=>⟨λk B C=>OE.rec .no (λz A=>(S8 P n ops l (x::g)).run k z A) ((P6 P n ops x.o).run k B C)⟩
  |.al=>⟨λk B C=>OE.rec .no (λz A=>Bool.rec .no ((S8 P n ops l (x::g)).run k z A) ((dr P ops (x::g)).run z A)) ((P6 P n ops x.o).run k B C)⟩
  |.ch =>
   let j:=Nl (λy=>!(Nat.testBit x.m y.i)) g
   ⟨λk B C=>OE.rec .no (λz A=>Bool.rec .no ((S8 P n ops l j).run k z A) ((dr P ops j).run z A)) ((P6 P n ops x.o).run k B C)⟩
def zt1(n:Nat)(j g:List DOp):Bool:=match Oo g 0 0 with
 |none=>false
 |some s=>match Nat.beq s (Nat.sub (2^n) 1) with
  |false=>false
  |true=>match yr j 0 with
   |false=>false
   |true=>fv j
def rz(A:Program)(n:Nat)(ops:Array Oper):SeqF :=
 let z:=Pq A ops ops.toList [] 0;let g:=Nl M1 z;let j:=zr z g
 match zt1 ops.size z j with
 |true=>S8 A n ops j []
 |false=>⟨λ_ _ _=>.no⟩
inductive Ex where
 |normal
 |exit (id:Nat)
 |ret
inductive Res where
 |no
 |ok (x:Ex) (E:Tr AV) (D:List Nat) (H:Heap)
structure CodeF where run:Py→Nat→Option Nat→Tr AV→List Nat→Heap→Res
def n8:CodeF:=⟨λ_ _ _ _ _ _=>.no⟩
def Xq(f:Tr AV→List Nat→Heap→Res):Nat→Tr AV→List Nat→Heap→Res
 |0,_,_,_=>.no
 |m+1,A,B,C=>match f A B C with
  |.no=>.no
  |.ok x g j z=>match x with
   |.normal=>Xq f m g j z
   |x=>.ok x g j z
def zds(f n:Nat)(j:Array Tmp)(assign body:Code)(z:Option Nat)(A:Tr AV)(B:List Nat)(g:Heap):Option (Nat×List Nat×Heap) :=
 match z with
 |none=>some (Nat.add g.next 1,g.next::B,(g.push (.defd true)).push (.loop .ready none f n A j assign body g.next))
 |some l=>match g.get l with
  |some (.loop _ _ _ _ _ _ _ _ d)=>some (g.next,B,g.push (.loop .ready none f n A j assign body d))
  |_=>none
def exOf:Code→Option Ex
 |.ret=>some .ret
 |.exit id=>some (.exit id)
 |_=>none
def zke(l:Nat)(z:Heap):Option (Option Code×Heap):=match z.get l with
 |some (.loop st g f n A j a b d)=>match st with
  |.busy=>none
  |_=>some (g,z.put l (.loop .exhausted g f n A j a b d))
 |_=>none
def O7(P:Program)(f n:Nat):Code→CodeF
 |.skip=>⟨λ_ _ _ j A B=>.ok .normal j A B⟩
 |.region _ ops draw =>
  let s:=match draw with
   |true=>rz P n ops
   |false=>bw P n ops ops.toList
  ⟨λk _ _ j A B=>match s.run k j B with
   |.no=>.no
   |.ok D z=>.ok .normal D A z⟩
 |.seq a b=>⟨λk m g j A B=>Res.rec .no (λx D C z=>Ex.rec ((O7 P f n b).run k m g D C z) (λid=>.ok (.exit id) D C z) (.ok .ret D C z) x)
   ((O7 P f n a).run k m g j A B)⟩
 |.cond c a b=>⟨λk m g j A B=>match (M7 c).run j with
  |some (.bool t)=>match t with
   |true=>(O7 P f n a).run k m g j A B
   |false=>(O7 P f n b).run k m g j A B
  |_=>.no⟩
 |.block id c=>⟨λk m g j A B=>match (O7 P f n c).run k m g j A B with
  |.no=>.no
  |.ok x D C z=>match x with
   |.exit E=>match Nat.beq E id with
    |true=>.ok .normal D C z
    |false=>.ok (.exit E) D C z
   |x=>.ok x D C z⟩
 |.loop c=>⟨λk m g j A B=>Xq ((O7 P f n c).run k m g) m j A B⟩
 |.rangeFunc H I a b=>⟨λk _ g j A B=>match (M7 H).run j with
  |none=>.no
  |some gv=>match zds f n I a b g j A B with
   |none=>.no
   |some (l,C,z)=>match bh P gv [.fn (.yield l) [] []] with
    |.call (.fn H) F=>match k (.fn H) F z with
     |.no=>.no
     |.ok _ K=>match zke l K with
      |none=>.no
      |some (none,G)=>.ok .normal j C G
      |some (some c,G)=>match exOf c with
       |none=>.no
       |some x=>.ok x j C G
    |_=>.no⟩
 |.exit id=>⟨λ_ _ _ j A B=>.ok (.exit id) j A B⟩
 |.scope c=>⟨λk m g j A B=>(O7 P f n c).run k m g j A B⟩
 |.label _=>⟨λ_ _ _ j A B=>.ok .normal j A B⟩
 |.ret=>⟨λ_ _ _ j A B=>.ok .ret j A B⟩
 |_=>n8
structure ResF where run:Tr AV→Heap→Option AV
def resF(z:Program)(r:ResultVar):ResF :=
 match r with
 |.tmp t=>⟨λg _=>(M7 (.tmp t)).run g⟩
 |.cell a t=>match Rh z t,Oi z t with
  |some true,some n=>⟨λg j=>match (M7 (.tmp a)).run g with
   |some (.ptr o v i)=>match Pg j o v i n with
    |some l=>some (.agg l)
    |none=>none
   |_=>none⟩
  |some false,some _=>⟨λg j=>match (M7 (.tmp a)).run g with
   |some (.ptr o v i)=>match Pg j o v i 1 with
    |some [c]=>some c
    |_=>none
   |_=>none⟩
  |_,_=>⟨λ_ _=>none⟩
structure RessF where run:Tr AV→Heap→Option (List AV)
def kc(g:Program):List ResultVar→RessF
 |[]=>⟨λ_ _=>some []⟩
 |r::l=>⟨λj z=>match (resF g r).run j z with
  |none=>none
  |some a=>match (kc g l).run j z with
   |none=>none
   |some b=>some (a::b)⟩
def mj:List Nat→Heap→Option Heap
 |[],g=>some g
 |d::l,g=>match g.get d with
  |some (.defd true)=>mj l (g.put d (.defd false))
  |_=>none
structure FunF where run:Py→Nat→List AV→Heap→RV
def ou(A:Program)(f:Nat):FunF :=
 match A.funcs[f]? with
 |none=>⟨λ_ _ _ _=>.no⟩
 |some fn=>match fn.body with
  |none=>⟨λ_ _ _ _=>.no⟩
  |some j=>if fn.ntmps≤M8 then
   ⟨λk m g C=>match Nat.ble g.length fn.ntmps with
    |false=>.no
    |true=>match (O7 A f fn.ntmps j).run k m none (O8 g 0 .e) [] C with
     |.no=>.no
     |.ok x D E B=>match x with
      |.exit _=>.no
      |_=>match mj E B with
       |none=>.no
       |some z=>match (kc A fn.results.toList).run D z with
        |some [v]=>.ok v z
        |some l=>.ok (.tup l) z
        |none=>.no⟩
   else ⟨λ_ _ _ _=>.no⟩
def xa:List Tmp→List AV→Nat→Tr AV→Option (Tr AV)
 |[],[],_,g=>some g
 |p::j,a::as,n,g=>match Nat.blt p n with
  |true=>xa j as n (N8 a (M6 p) g)
  |false=>none
 |_,_,_,_=>none
def zpu(l:Nat)(z:Heap):Option Heap:=match z.get l with
 |some (.loop .ready g f n A j a b d)=>some (z.put l (.loop .busy g f n A j a b d))
 |_=>none
def zgh(l:Nat)(x:Ex)(j:Heap):RV:=match j.get l with
 |some (.loop _ _ f n z g a b d)=>match x with
  |.normal=>.ok (.bool true) (j.put l (.loop .ready none f n z g a b d))
  |.ret=>.ok (.bool false) (j.put l (.loop .done (some .ret) f n z g a b d))
  |.exit id=>.ok (.bool false) (j.put l (.loop .done (some (.exit id)) f n z g a b d))
 |_=>.no
def Qr(P:Program)(O:Py):Nat→Py
 |0=>λ_ _ _=>.no
 |m+1=>λt g z=>match t with
  |.fn f=>match O (.fn f) g z with
   |.ok v A=>.ok v A
   |.no=>(ou P f).run (Qr P O m) m g z
  |.yield l=>match z.get l with
   |some (.loop .ready none f n G B a b _)=>match xa B.toList g n G with
    |none=>.no
    |some C=>match (O7 P f n a).run (Qr P O m) m (some l) C [] z with
     |.ok .normal D [] E=>match zpu l E with
      |none=>.no
      |some j=>match (O7 P f n b).run (Qr P O m) m (some l) D [] j with
       |.no=>.no
       |.ok x _ H F=>match H with
        |[]=>zgh l x F
        |_=>.no
     |_=>.no
   |_=>.no
def noO:Py:=λ_ _ _=>.no
def sh(g:Program)(j:Py)(m f:Nat):Bool:=match Qr g j m (.fn f) [] ⟨.e,0⟩ with
 |.ok (.bool true) _=>true
 |_=>false
end
variable{B U:Heap}{E:AV}{I vV:Tr AV}{K:List AV}
section
open Go.RowKit (Below)
section tries
variable {α : Type}
def Uw(p:List Bool):Mz p (Tr.e:Tr α)=none:=by
 cases p with
 |nil=>rfl
 |cons b p=>cases b<;>rfl
def nm(p:List Bool)(v:Option α)(l r:Tr α):Mz (true::p) (.n v l r)=Mz p l:=rfl
def oh(p:List Bool)(v:Option α)(l r:Tr α):Mz (false::p) (.n v l r)=Mz p r:=rfl
def zih(a:α):N8 a [] .e=.n (some a) .e .e:=rfl
def zjq(a:α)(p:List Bool):N8 a (true::p) .e=.n none (N8 a p .e) .e:=rfl
def zjj(a:α)(p:List Bool):N8 a (false::p) .e=.n none .e (N8 a p .e):=rfl
def zqr(a:α)(p:List Bool)(v:Option α)(l r:Tr α):N8 a (true::p) (.n v l r)=.n v (N8 a p l) r:=rfl
def zpd(a:α)(p:List Bool)(v:Option α)(l r:Tr α):N8 a (false::p) (.n v l r)=.n v l (N8 a p r):=rfl
def uk(a:α):∀(p:List Bool) (t:Tr α),Mz p (N8 a p t)=some a
 |[],.e=>rfl
 |[],.n _ _ _=>rfl
 |true::p,.e=>by rw[zjq,nm];exact uk a p _
 |false::p,.e=>by rw[zjj,oh];exact uk a p _
 |true::p,.n v l r=>by rw[zqr,nm];exact uk a p _
 |false::p,.n v l r=>by rw[zpd,oh];exact uk a p _
def z5g(a:α):∀(p q:List Bool) (t:Tr α),p≠q→Mz q (N8 a p t)=Mz q t
 |[],[],_,h=>absurd rfl h
 |[],true::q,.e,_=>by rw[zih,nm,Uw,Uw]
 |[],false::q,.e,_=>by rw[zih,oh,Uw,Uw]
 |[],true::q,.n _ _ _,_=>rfl
 |[],false::q,.n _ _ _,_=>rfl
 |true::p,[],.e,_=>rfl
 |false::p,[],.e,_=>rfl
 |true::p,[],.n _ _ _,_=>rfl
 |false::p,[],.n _ _ _,_=>rfl
 |true::p,true::q,.e,h=>by rw[zjq,nm,z5g a p q _ (λe=>h D0),Uw,Uw]
 |true::p,false::q,.e,_=>by rw[zjq,oh,Uw,Uw]
 |false::p,true::q,.e,_=>by rw[zjj,nm,Uw,Uw]
 |false::p,false::q,.e,h=>by rw[zjj,oh,z5g a p q _ (λe=>h D0),Uw,Uw]
 |true::p,true::q,.n _ l _,h=>by rw[zqr,nm,nm];exact z5g a p q l (λe=>h D0)
 |true::p,false::q,.n _ _ _,_=>rfl
 |false::p,true::q,.n _ _ _,_=>rfl
 |false::p,false::q,.n _ _ r,h=>by rw[zpd,oh,oh];exact z5g a p q r (λe=>h D0)
def pathF_inj:∀(f j g k:Nat),g<f→k<j→o8 f g=o8 j k→g=k
 |0,_,g,k,B,_,_=>J
 |_,0,g,k,_,C,_=>J
 |f+1,j+1,0,0,_,_,_=>rfl
 |f+1,j+1,0,k+1,_,_,h=>by simp[o8]at h
 |f+1,j+1,g+1,0,_,_,h=>by simp[o8]at h
 |f+1,j+1,g+1,k+1,B,C,h=>by
  simp only[o8,List.cons.injEq]at h;obtain⟨z,A⟩:=h;have D:Nat.div g 2=g/2:=rfl;have E:Nat.div k 2=k/2:=rfl;have F:Nat.mod g 2=g%2:=rfl;have G:Nat.mod k 2=k%2:=rfl;rw[D,E]at A;rw[F,G]at z;have:=pathF_inj f j (g/2) (k/2) J J A;have q:∀x:Nat,Nat.beq x 0=true↔x=0:=λx=>by cases x<;>simp[Nat.beq]
  have H:(g%2=0↔k%2=0):=by
   rw[←q,←q,z]
  omega
def zrv{k:Nat}(h:M6 g=M6 k):g=k :=
 pathF_inj _ _ g k (Jb _) (Jb _) h
def xx{k:Nat}(a:α)(t:Tr α) :
  Mz (M6 k) (N8 a (M6 g) t)=if k=g then some a else Mz (M6 k) t:=by
 by_cases h:k=g
 ·subst h;rw[Ih rfl];exact uk a _ t
 ·rw[Ig h];exact z5g a _ _ t (λe=>h (zrv e.symm))
def z91(g:Nat)(a:α)(t:Tr α):Mz (M6 g) (N8 a (M6 g) t)=some a:=uk a _ t
def n5{k:Nat}(h:k≠g)(a:α)(t:Tr α) :
  Mz (M6 k) (N8 a (M6 g) t)=Mz (M6 k) t:=by rw[xx,Ig h]
def get_ofList:∀(l:List α) (i:Nat) (t:Tr α) (k:Nat),
  Mz (M6 k) (O8 l i t)=if i≤k∧k<i+l.length then l[k-i]? else Mz (M6 k) t
 |[],i,t,k=>by simp only[O8,List.length_nil];rw[Ig J]
 |a::l,i,t,k=>by
  simp only[Iv];rw[O8,get_ofList l (i+1) _ k];by_cases g:i+1≤k∧k<i+1+l.length
  ·rw[Ih g,Ih J];have:k-i=(k-(i+1))+1:=J
   rw[this,Is]
  ·rw[Ig g,xx];by_cases j:k=i
   ·subst j;rw[Ih rfl,Ih J];simp
   ·rw[Ig j,Ig J]
end tries
def aj{c:Tr AV}:∀{n i:Nat} {l:List AV},Rb c i n=some l→l.length=n∧∀g,g<n→Mz (M6 (i+g)) c=l[g]?
 |0,i,l,h=>by
  simp only[Rb,Option.some.injEq]at h;subst h;exact⟨rfl,λg j=>J⟩
 |n+1,i,l,h=>by
  simp only[Rb]at h;split at h
  ·cases h
  ·rename_i a z;split at h
   ·cases h
   ·rename_i r A;cases h;obtain⟨B,C⟩:=aj A;refine⟨Al,λg j=>?_⟩;cases g with
    |zero=>simpa using z
    |succ g=>have:=C g J;rw[Is,←this];congr 2;omega
structure Loc where
 b:Nat
 d:Nat
 n:Nat
 sz:Nat
structure CM where
 f:Nat→Nat→Option Loc
 nx:Nat
instance:CoeFun CM (λ_=>Nat→Nat→Option Loc):=⟨CM.f⟩
def CM.keep(gg C:CM):Prop:=∀o v L,gg o v=some L→C o v=some L
structure CM.le (C C':CM):Prop where
 keep:C.keep C'
 nx:C.nx≤C'.nx
 new:∀o v L,C' o v=some L→(∃v' L',C o v'=some L')∨C.nx≤o
def CM.le_refl(C:CM):C.le C:=⟨λ_ _ _ h=>h,Ie _,λ_ v L h=>.inl ⟨v,L,h⟩⟩
def CM.le_trans{A B C:CM}(h:A.le B)(k:B.le C):A.le C:=by
 refine⟨λo v L e=>k.keep o v L (h.keep o v L e),I5 h.nx k.nx,λo v L e=>?_⟩;rcases k.new o v L e with ⟨v',L',e'⟩|e'
 ·exact h.new o v' L' e'
 ·exact .inr (I5 h.nx e')
inductive FR (C:CM):Fn→Fn→Prop where
 |same (f:Fn) (h:∀l,f≠.yield l):FR C f f
 |yield {l:Nat} {L:Loc} (h:C l 0=some L):FR C (.yield l) (.yield L.b)
def FR.mono{C C':CM}(h:C.keep C'){f g:Fn}:FR C f g→FR C' f g
 |.same f hf=>.same f hf
 |.yield e=>.yield (h _ _ _ e)
def AV.one:AV→Bool
 |.agg _=>false
 |.tup _=>false
 |_=>true
mutual
inductive VR (C:CM):AV→Value→Prop where
 |bool (b:Bool):VR C (.bool b) (.bool b)
 |int (k:IntKind) (n:Int):VR C (.int k n) (.int k n)
 |str {len n:Nat} {s:ByteArray} (h1:s.data.toList.length=len) (h2:Oh s.data.toList=n):VR C (.str len n) (.string s)
 |nilPtr:VR C .nilPtr (.pointer none)
 |ptr {o v i:Nat} {L:Loc} (h:C o v=some L):VR C (.ptr o v i) (.pointer (some ⟨L.b,L.d+i,none⟩))
 |nilSl:VR C .nilSl (.slice none 0 0)
 |sl {o v i len esz:Nat} {room:Option Nat} {L:Loc} {cap:Nat} (h:C o v=some L) (h1:i+len*esz≤L.n) (h2:L.d+i+cap*esz≤L.sz) (h3:len≤cap)
   (h4:∀r,room=some r→cap=r∧i+r*esz≤L.n) (h5:room=none→L.d+i+cap*esz=L.sz) :
   VR C (.sl o v i len esz room) (.slice (some ⟨L.b,L.d+i,none⟩) len cap)
 |emp {a:Addr} {cap:Nat}:VR C .emp (.slice (some a) 0 cap)
 |nilMap:VR C .nilMap (.map none)
 |map {o:Nat} {L:Loc} (h:C o 0=some L):VR C (.map o) (.map (some L.b))
 |nilFn:VR C .nilFn .nilFunc
 |fn {f g:Fn} {l r:List AV} {l' r':Array Value} (h:FR C f g) (hl:VRs C l l'.toList) (hr:VRs C r r'.toList):VR C (.fn f l r) (.func g l' r')
 |nilIf:VR C .nilIf .nilIface
 |iface {t:TypeId} {a:AV} {v:Value} (h:VR C a v):VR C (.iface t a) (.iface t v)
 |agg {l:List AV} {vs:Array Value} (h:VRs C l vs.toList) (h1:∀a∈l,a.one=true):VR C (.agg l) (.agg vs)
 |tup {l:List AV} {vs:Array Value} (h:VRs C l vs.toList):VR C (.tup l) (.tuple vs)
inductive VRs (C:CM):List AV→List Value→Prop where
 |nil:VRs C [] []
 |cons {a:AV} {v:Value} {l:List AV} {r:List Value} (h:VR C a v) (hs:VRs C l r):VRs C (a::l) (v::r)
end
mutual
def VR.mono'{gg C:CM}(h:gg.keep C):∀{a:AV} {v:Value},VR gg a v→VR C a v
 |_,_,.bool b=>.bool b
 |_,_,.int k n=>.int k n
 |_,_,.str h1 h2=>.str h1 h2
 |_,_,.nilPtr=>.nilPtr
 |_,_,.ptr e=>.ptr (h _ _ _ e)
 |_,_,.nilSl=>.nilSl
 |_,_,.sl e h1 h2 h3 h4 h5=>.sl (h _ _ _ e) h1 h2 h3 h4 h5
 |_,_,.emp=>.emp
 |_,_,.nilMap=>.nilMap
 |_,_,.map e=>.map (h _ _ _ e)
 |_,_,.nilFn=>.nilFn
 |_,_,.fn hf hl hr=>.fn (hf.mono h) (VRs.mono' h hl) (VRs.mono' h hr)
 |_,_,.nilIf=>.nilIf
 |_,_,.iface e=>.iface (VR.mono' h e)
 |_,_,.agg e h1=>.agg (VRs.mono' h e) h1
 |_,_,.tup e=>.tup (VRs.mono' h e)
def VRs.mono'{gg C:CM}(h:gg.keep C):∀{l:List AV} {r:List Value},VRs gg l r→VRs C l r
 |_,_,.nil=>.nil
 |_,_,.cons e es=>.cons (VR.mono' h e) (VRs.mono' h es)
end
def VR.mono{C C':CM}(h:C.le C'){a:AV}{v:Value}(k:VR C a v):VR C' a v:=k.mono' h.keep
def VRs.mono{C C':CM}(h:C.le C'){a:List AV}{v:List Value}(k:VRs C a v):VRs C' a v:=k.mono' h.keep
def VRs.length{C:CM}:∀{l:List AV} {r:List Value},VRs C l r→l.length=r.length
 |_,_,.nil=>rfl
 |_,_,.cons _ es=>by simp[VRs.length es]
def VRs.get{C:CM}:∀{l:List AV} {r:List Value},VRs C l r→∀{i:Nat} {a:AV},l[i]?=some a→∃v,r[i]?=some v∧VR C a v
 |_,_,.nil,i,a,h=>Cj
 |_,_,.cons e es,0,a,h=>Dl
 |_,_,.cons e es,i+1,a,h=>by simp only[Is]at h ⊢;exact VRs.get es h
def VRs.mk{gg:CM}:∀{l:List AV} {r:List Value},l.length=r.length→(∀(i:Nat) (a:AV),l[i]?=some a→∃v,r[i]?=some v∧VR gg a v)→VRs gg l r
 |[],[],_,_=>.nil
 |[],_::_,h,_=>Cj
 |_::_,[],h,_=>Cj
 |a::l,v::r,h,k=>by
  obtain⟨v',C,hr⟩:=k 0 a rfl;simp only[Iq,Option.some.injEq]at C;subst C;exact .cons hr (VRs.mk Aw (λi a hi=>by have:=k (i+1) a Co;simpa using this))
def VRs.append{C:CM}:∀{l:List AV} {r:List Value} {l':List AV} {r':List Value},VRs C l r→VRs C l' r'→VRs C (l++l') (r++r')
 |_,_,_,_,.nil,k=>k
 |_,_,_,_,.cons e es,k=>.cons e (VRs.append es k)
def VRs.drop{C:CM}:∀{l:List AV} {r:List Value},VRs C l r→∀n,VRs C (l.drop n) (r.drop n)
 |_,_,h,0=>h
 |_,_,.nil,_+1=>.nil
 |_,_,.cons _ es,n+1=>VRs.drop es n
def VRs.take{C:CM}:∀{l:List AV} {r:List Value},VRs C l r→∀n,VRs C (l.take n) (r.take n)
 |_,_,_,0=>.nil
 |_,_,.nil,_+1=>.nil
 |_,_,.cons e es,n+1=>.cons e (VRs.take es n)
def VR.one{C:CM}{a:AV}{v:Value}(h:VR C a v):v.oneCell'=a.one:=by cases h<;>rfl
def zmw{C:CM}{v:Value}{a:AV}(h:dz v=some a):VR C a v∧a.one=true:=by
 unfold dz at h;split at h<;>first
  |(cases h;done)
  |(cases h;exact⟨by constructor<;>rfl,rfl⟩)
  |(cases h;exact⟨by constructor,rfl⟩)
def Vt{C:CM}:∀{l:List Value} {r:List AV},Sa l=some r→VRs C r l∧∀a∈r,a.one=true
 |[],r,h=>by cases h;exact⟨.nil,N⟩
 |v::l,r,h=>by
  simp only[Sa]at h;split at h
  ·cases h
  ·rename_i a g;split at h
   ·cases h
   ·rename_i E j;cases h;obtain⟨z,A⟩:=Vt (C:=C) j;obtain⟨B,D⟩:=zmw (C:=C) g;exact⟨.cons B z,by simpa using ⟨D,A⟩⟩
def zfn{C:CM}{v:Value}{a:AV}(h:Uu v=some a):VR C a v:=by
 unfold Uu at h;split at h
 ·rename_i j;cases g:Sa j.toList with
  |none=>simp[g]at h
  |some r =>
   simp only[g,Jw,Option.some.injEq]at h;subst h;obtain⟨z,A⟩:=Vt (C:=C) g;exact .agg z A
 ·rename_i B;split at h
  ·rename_i D;cases h;have:B=#[]:=Kn D;subst this;exact .tup .nil
  ·cases h
 ·exact (zmw h).1
def VR.cells{C:CM}{a:AV}{v:Value}(h:VR C a v){l:List AV}(hl:a.cells=some l):VRs C l v.cells.toList∧∀x∈l,x.one=true:=by
 cases h with
 |agg h h1=>simp only[AV.cells,Option.some.injEq]at hl;subst hl;exact⟨by simpa [Value.cells] using h,h1⟩
 |tup h=>simp[AV.cells]at hl
 |_=>simp only[AV.cells,Option.some.injEq]at hl;subst hl;exact⟨by simp only[Value.cells];exact .cons (by constructor<;>assumption) .nil,by simp[AV.one]⟩
def Wn(C:CM)(c:Tr AV)(len:Nat)(g:Array Value)(d:Nat):Prop :=
 ∀i,i<len→∃a,Mz (M6 i) c=some a∧a.one=true∧∃v,g[d+i]?=some v∧VR C a v
inductive MR (C:CM):List (AV×AV×Nat)→List MapEntry→Prop where
 |nil:MR C [] []
 |cons {k v:AV} {b:Nat} {e:MapEntry} {l:List (AV×AV×Nat)} {r:List MapEntry} (hk:VR C k e.key) (hv:VR C v e.val) (hb:e.born=b) (h:MR C l r):MR C ((k,v,b)::l) (e::r)
def zk(g:CM)(a:Option AV)(v:Value):Prop:=match a with
 |some a=>VR g a v
 |none=>v=undef
def ER(n:Nat)(j:CM)(E:Tr AV)(g:Array Value):Prop :=
 g.size=n∧n≤M8∧∀t,t≤M8→zk j (Mz (M6 t) E) (g.getD t undef)
def O2(E:Nat)(A:CM)(w:World)(o:Nat):AObj→Prop
 |.cells c len B I=>∀g,A o B=some g→g.n=len∧(I=false→E≤g.b)∧g.d+len≤g.sz∧∃C e F hi,w.heap[g.b]?=some (.cells C e (F,hi))∧g.sz≤C.size ∧
   (∀i,g.d≤i→i<g.sz→¬(F≤i∧i<hi))∧Wn A c len C g.d
 |.map K L=>∀g,A o 0=some g→E≤g.b∧∃j:Array MapEntry,w.heap[g.b]?=some (.map j L)∧MR A K j.toList
 |.iter len n D=>∀g,A o 0=some g→E≤g.b∧g.d=0∧∃s:ByteArray,w.heap[g.b]?=some (.stringIter s D)∧s.data.toList.length=len∧Oh s.data.toList=n
 |.loop st z f n O M a b d=>∀g,A o 0=some g→E≤g.b∧∃G H,A d 0=some H∧w.heap[g.b]?=some (.loop { state:=st,pending:=z,fn:=f,tmps:=G,params:=M,assign:=a,body:=b,defers:=H.b })∧ER n A O G
 |.defd op=>∀g,A o 0=some g→E≤g.b∧w.heap[g.b]?=some (.deferred (if op then some [] else none))
structure Rel (w0:World) (C:CM) (H:Heap) (w:World):Prop where
 nx:C.nx=H.next
 low:Below w0.heap.size w0 w
 fresh:∀o v L,C o v=some L→o<H.next
 lt:∀o v L,C o v=some L→L.b<w.heap.size
 excl:∀o v L o' v' L',C o v=some L→C o' v'=some L'→L.b=L'.b→w0.heap.size≤L.b→o=o'
 obj:∀o ob,o<H.next→H.get o=some ob→O2 w0.heap.size C w o ob
 top:∀o c len ver ro,o<H.next→H.get o=some (.cells c len ver ro)→∀v L,C o v=some L→v≤ver
end
variable{F:CM}
section
open Go.RowKit (Below)
def CM.ext(gg:CM)(o v:Nat)(L:Loc):CM:=⟨λC v'=>if C=o∧v'=v then some L else gg C v',max gg.nx (o+1)⟩
def CM.ext_same(C:CM)(o v:Nat)(L:Loc):C.ext o v L o v=some L:=by simp[CM.ext]
def CM.ext_ne(C:CM){o v:Nat}(L:Loc)(h:¬(j=o∧vZ=v)):C.ext o v L j vZ=C j vZ:=by simp only[CM.ext];rw[Ig h]
def CM.le_ext{C:CM}{o v:Nat}(L:Loc)(h:C o v=none)(hn:(∃v' L',C o v'=some L')∨C.nx≤o):C.le (C.ext o v L):=by
 refine⟨λo' v' L' h'=>?_,Ki _ _,λo' v' L' h'=>?_⟩
 ·by_cases e:o'=o∧v'=v
  ·obtain⟨rfl,rfl⟩:=e;rw[h]at h';cases h'
  ·rw[CM.ext_ne C L e];exact h'
 ·by_cases e:o'=o∧v'=v
  ·obtain⟨rfl,rfl⟩:=e;exact hn
  ·rw[CM.ext_ne C L e]at h';exact .inl ⟨v',L',h'⟩
def MR.mono'{gg C:CM}(h:gg.keep C):∀{l:List (AV×AV×Nat)} {r:List MapEntry},MR gg l r→MR C l r
 |_,_,.nil=>.nil
 |_,_,.cons hk hv hb hs=>.cons (hk.mono' h) (hv.mono' h) hb (MR.mono' h hs)
def zk.mono'{gg C:CM}(h:gg.keep C){a:Option AV}{v:Value}(k:zk gg a v):zk C a v:=by
 cases a with
 |none=>exact k
 |some a=>exact VR.mono' h k
def ER.mono'{gg C:CM}(h:gg.keep C){n:Nat}{E:Tr AV}{tm:Array Value}(k:ER n gg E tm):ER n C E tm :=
 ⟨k.1,k.2.1,λt ht=>(k.2.2 t ht).mono' h⟩
def Wn.mono'{gg C:CM}(h:gg.keep C){c:Tr AV}{len:Nat}{vs:Array Value}{d:Nat}(k:Wn gg c len vs d):Wn C c len vs d :=
 λi hi=>let ⟨a,h1,h2,v,h3,h4⟩:=k i hi;⟨a,h1,h2,v,h3,h4.mono' h⟩
def MR.mono{C C':CM}(h:C.le C'){l:List (AV×AV×Nat)}{r:List MapEntry}(k:MR C l r):MR C' l r:=k.mono' h.keep
def ER.mono{C C':CM}(h:C.le C'){n:Nat}{E:Tr AV}(k:ER n C E v8):ER n C' E v8:=k.mono' h.keep
def Wn.mono{C C':CM}(h:C.le C'){c:Tr AV}{len:Nat}{d:Nat}(k:Wn C c len v8 d):Wn C' c len v8 d:=k.mono' h.keep
def O2.frame'{B:Nat}{gB C':CM}{w:World}{o:Nat}{ob:AObj}(h:O2 B gB w o ob)(hc:gB.keep C')(hn:∀v L,C' o v=some L→gB o v=some L)
  (hb:∀v L,gB o v=some L→C.heap[L.b]?=w.heap[L.b]?):O2 B C' C o ob:=by
 cases ob with
 |cells c len gC ro =>
  intro L hL;have gg:=hn _ _ hL;obtain⟨h1,h2,h3,vs,e,lo,hi,h4,h5,h6,h7⟩:=h L gg;exact⟨h1,h2,h3,vs,e,lo,hi,by rw[hb _ _ gg];exact h4,h5,h6,h7.mono' hc⟩
 |map es ck =>
  intro L hL;have gg:=hn _ _ hL;obtain⟨h1,gj,h2,h3⟩:=h L gg;exact⟨h1,gj,Ej,h3.mono' hc⟩
 |iter len n pos =>
  intro L hL;have gg:=hn _ _ hL;obtain⟨h1,h0,s,h2,h3⟩:=h L gg;exact⟨h1,h0,s,Ej,h3⟩
 |loop st pend f n E ps a b d =>
  intro L hL;have gg:=hn _ _ hL;obtain⟨h1,tm,Ld,h2,h3,h4⟩:=h L gg;exact⟨h1,tm,Ld,hc _ _ _ h2,by rw[hb _ _ gg];exact h3,h4.mono' hc⟩
 |defd op =>
  intro L hL;have gg:=hn _ _ hL;obtain⟨h1,h2⟩:=h L gg;exact⟨h1,Ej⟩
def O2.frame{B:Nat}{gg C':CM}{w:World}{o:Nat}{ob:AObj}(h:O2 B gg w o ob)(hc:gg.le C')(hn:∀v L,C' o v=some L→gg o v=some L)
  (hb:∀v L,gg o v=some L→C.heap[L.b]?=w.heap[L.b]?):O2 B C' C o ob:=h.frame' hc.keep hn hb
def Heap.get_push_same(H:Heap)(x:AObj):(H.push x).get H.next=some x:=z91 _ _ _
def Heap.get_push_ne(H:Heap)(x:AObj){o:Nat}(ho:o<H.next):(H.push x).get o=H.get o :=
 n5 J _ _
def Heap.get_put_same(H:Heap)(o:Nat)(x:AObj):(H.put o x).get o=some x:=z91 _ _ _
def Heap.get_put_ne(H:Heap){o:Nat}(x:AObj)(gg:j≠o):(H.put o x).get j=H.get j:=n5 gg _ _
def zb(w:World)(x:Obj){k:Nat}(h:k<w.heap.size):(w.alloc x).heap[k]?=w.heap[k]?:=Below.heap_alloc w x k h
def Wl(w:World)(x:Obj):(w.alloc x).heap[w.heap.size]?=some x:=by
 show (w.heap.push x)[w.heap.size]?=some x;simp
def Rel.next_none{gg:CM}{H:Heap}{w:World}(h:Rel C gg H w)(v:Nat):gg H.next v=none:=by
 cases e:gg H.next v with
 |none=>rfl
 |some L=>have:=h.fresh _ _ _ e;omega
def Rel.push{w0:World}{gB:CM}{H:Heap}{w:World}(h:Rel w0 gB H w)(ob:AObj)(x:Obj)(n sz:Nat)
  (gC:O2 w0.heap.size (gB.ext H.next 0 ⟨w.heap.size,0,n,sz⟩) (w.alloc x) H.next ob) :
  Rel w0 (gB.ext H.next 0 ⟨w.heap.size,0,n,sz⟩) (H.push ob) (w.alloc x)∧gB.le (gB.ext H.next 0 ⟨w.heap.size,0,n,sz⟩):=by
 have hle:gB.le (gB.ext H.next 0 ⟨w.heap.size,0,n,sz⟩):=CM.le_ext _ (h.next_none 0) (.inr (Lm h.nx));refine⟨⟨by show max gB.nx (H.next+1)=H.next+1;rw[h.nx];exact Nat.max_eq_right (K9 _),h.low.alloc h.low.size x,?_,?_,?_,?_,?_⟩,hle⟩
 ·intro o v L C;show o<H.next+1;by_cases e:o=H.next∧v=0
  ·omega
  ·rw[CM.ext_ne _ _ e]at C;have:=h.fresh _ _ _ C;omega
 ·intro o v L C;rw[World.size_alloc];by_cases e:o=H.next∧v=0
  ·obtain⟨rfl,rfl⟩:=e;rw[CM.ext_same]at C;cases C;exact Jb _
  ·rw[CM.ext_ne _ _ e]at C;have:=h.lt _ _ _ C;omega
 ·intro o v L o' v' L' C gg hb hB;by_cases e:o=H.next∧v=0<;>by_cases e':o'=H.next∧v'=0
  ·omega
  ·obtain⟨rfl,rfl⟩:=e;rw[CM.ext_same]at C;cases C;rw[CM.ext_ne _ _ e']at gg;have:=h.lt _ _ _ gg;dsimp at hb;omega
  ·obtain⟨rfl,rfl⟩:=e';rw[CM.ext_same]at gg;cases gg;rw[CM.ext_ne _ _ e]at C;have:=h.lt _ _ _ C;dsimp at hb;omega
  ·rw[CM.ext_ne _ _ e]at C;rw[CM.ext_ne _ _ e']at gg;exact h.excl _ _ _ _ _ _ C gg hb hB
 ·intro o gD ho hg;by_cases e:o=H.next
  ·subst e;rw[Heap.get_push_same]at hg;cases hg;exact gC
  ·have gj:o<H.next:=Bu
   rw[Heap.get_push_ne _ _ gj]at hg;refine (h.obj _ _ gj hg).frame hle (λv L C=>?_) (λv L C=>zb _ _ (h.lt _ _ _ C))
   rwa [CM.ext_ne _ _ J]at C
 ·intro o c len gE ro ho hg v L C;by_cases e:o=H.next
  ·subst e;by_cases ev:v=0
   ·omega
   ·rw[CM.ext_ne _ _ J]at C;have:=h.fresh _ _ _ C;omega
  ·have gj:o<H.next:=Bu
   rw[Heap.get_push_ne _ _ gj]at hg;rw[CM.ext_ne _ _ J]at C;exact h.top _ _ _ _ _ gj hg _ _ C
def Rel.put{w0:World}{gG:CM}{H:Heap}{w w':World}(h:Rel w0 gG H w){o:Nat}(ho:o<H.next)(ob:AObj)(gj:Below w0.heap.size w0 w')
  (gD:w.heap.size≤w'.heap.size) (gE:∀o' v L,o'≠o→gG o' v=some L→w'.heap[L.b]?=w.heap[L.b]?) (gF:O2 w0.heap.size gG w' o ob)
  (gB:∀c len gg ro,ob=.cells c len gg ro→∀v L,gG o v=some L→v≤gg):Rel w0 gG (H.put o ob) w':=by
 refine⟨h.nx,gj,h.fresh,λo v L hL=>Ix (h.lt o v L hL) gD,h.excl,?_,?_⟩
 ·intro o' gH C hg;by_cases e:o'=o
  ·subst e;rw[Heap.get_put_same]at hg;cases hg;exact gF
  ·have gC:o'<H.next:=C;rw[Heap.get_put_ne H ob e]at hg;exact (h.obj _ _ C hg).frame (CM.le_refl gG) (λv L hL=>hL) (λv L hL=>gE _ _ _ e hL)
 ·intro o' c len gg ro C hg v L hL;by_cases e:o'=o
  ·subst e;rw[Heap.get_put_same]at hg;cases hg;exact gB _ _ _ _ rfl v L hL
  ·have gC:o'<H.next:=C;rw[Heap.get_put_ne H ob e]at hg;exact h.top _ _ _ _ _ C hg _ _ hL
def Rel.drew{w0:World}{C:CM}{H:Heap}{w:World}(h:Rel w0 C H w):Rel w0 C H w.drew :=
 ⟨h.nx,h.low.drew,h.fresh,h.lt,h.excl,λo ob ho hg=>(h.obj o ob ho hg).frame (CM.le_refl C) (λ_ _ hL=>hL) (λ_ _ _=>rfl),h.top⟩
def z7a(B:Program)(w:World)(a:Addr):∀(n i:Nat) (g:Array Value) (r:List Value),r.length=n→(∀z,z<n→w.cell? (a.add (i+z))=r[z]?) →
  (loadCellsFrom a i n g).run B w=.ok (g++r.toArray) w
 |0,i,g,r,j,_=>by
  have:r=[]:=Iu j;subst this;simp[loadCellsFrom]
 |n+1,i,g,r,j,h=>by
  cases r with
  |nil=>simp at j
  |cons v r =>
   have A:w.cell? (a.add i)=some v:=by simpa using h 0 J
   simp only[loadCellsFrom,Sem.run_bind,run_load,A,Result.andThen_ok];rw[z7a B w a n (i+1) (g.push v) r Bt (λz C=>by
    have:=h (z+1) J;rw[show i+1+z=i+(z+1) from J,this,Is])]
   simp
def z81(A:Program)(w:World)(a:Addr)(n:Nat)(r:List Value)(j:r.length=n)(h:∀g,g<n→w.cell? (a.add g)=r[g]?) :
  (loadCells a n).run A w=.ok r.toArray w:=by
 unfold loadCells;rw[z7a A w a n 0 #[] r j (λg z=>by rw[I7];exact h g z)];simp
def df(b d i g:Nat):(⟨b,d+i,none⟩:Addr).add g=⟨b,d+(i+g),none⟩:=by
 unfold Addr.add;by_cases h:g=0
 ·subst h;simp
 ·rw[Ig h];simp[Ja]
def cu{w:World}{b i:Nat}{vs:Array Value}{e:TypeId}{g:Nat×Nat}(h:w.heap[b]?=some (.cells vs e g)):w.cell? ⟨b,i,none⟩=vs[i]?:=by
 simp[World.cell?,h]
def Rel.read{w0:World}{C:CM}{H:Heap}{w:World}(h:Rel w0 C H w)(P:Program){o v i n:Nat}{l:List AV}(hr:Pg H o v i n=some l){L:Loc}(hL:C o v=some L) :
  ∃vs:List Value,(loadCells ⟨L.b,L.d+i,none⟩ n).run P w=.ok vs.toArray w∧VRs C l vs∧(∀a∈l,a.one=true)∧l.length=n∧i+n≤L.n ∧
   (∀j,j<n→w.cell? ⟨L.b,L.d+(i+j),none⟩=vs[j]?):=by
 unfold Pg at hr;split at hr
 ·rename_i c len gF ro hg;split at hr
  ·rename_i hv;have gB:=Ic hv;subst gB;split at hr
   ·rename_i hle;have gE:i+n≤len:=Ik hle;have gC:=h.obj o _ (h.fresh _ _ _ hL) hg;obtain⟨h1,_,h3,vs,e,lo,hi,h4,h5,h6,h7⟩:=gC L hL;obtain⟨k1,k2⟩:=aj hr;have hex:∀j,j<n→∃a,l[j]?=some a∧a.one=true∧∃x,vs[L.d+(i+j)]?=some x∧VR C a x:=by
     intro j hj;obtain⟨a,q1,q2,x,q3,q4⟩:=h7 (i+j) J;exact⟨a,by rw[←k2 j hj];exact q1,q2,x,q3,q4⟩
    have gG:L.d+(i+n)≤vs.size:=J
    let r:List Value:=(List.range n).map λj=>vs.getD (L.d+(i+j)) undef
    have gD:r.length=n:=by simp[r]
    have gg:∀j,j<n→vs[L.d+(i+j)]?=r[j]?:=by
     intro j hj;simp only[r,J5,List.getElem?_range hj,Jw];rw[Je J,I6,Je J];rfl
    refine⟨r,?_,?_,?_,k1,J,?_⟩
    ·exact z81 P w _ n r gD (λj hj=>by rw[df,cu h4];exact gg j hj)
    ·refine VRs.mk J (λj a hj=>?_);have gj:j<n:=by have:=(H5.1 hj).1;omega
     obtain⟨a',q1,_,x,q3,q4⟩:=hex j gj;rw[hj]at q1;cases q1;exact⟨x,by rw[←gg j gj];exact q3,q4⟩
    ·intro a ha;obtain⟨j,hj,rfl⟩:=List.getElem_of_mem ha;obtain⟨a',q1,q2,_⟩:=hex j J;rw[H8 hj]at q1;cases q1;exact q2
    ·intro j hj;rw[cu h4];exact gg j hj
   ·cases hr
  ·cases hr
 ·cases hr
def z70(P:Program)(a:Addr):∀(r:List Value) (i:Nat) (w:World) (A:Array Value) (e:TypeId) (B hi:Nat),a.spot=none→w.heap[a.block]?=some (.cells A e (B,hi)) →
  (∀v∈r,v.oneCell'=true)→a.off+i+r.length≤A.size→(∀z,a.off+i≤z→z<a.off+i+r.length→¬(B≤z∧z<hi)) →
  ∃w' j,(storeCells a r i).run P w=.ok () w'∧w'.heap[a.block]?=some (.cells j e (B,hi))∧j.size=A.size∧(∀k,k≠a.block→w'.heap[k]?=w.heap[k]?) ∧
   w'.heap.size=w.heap.size∧w'.os=w.os∧w'.tape=w.tape∧w'.output=w.output∧(∀z,j[z]?=if a.off+i≤z∧z<a.off+i+r.length then r[z-(a.off+i)]? else A[z]?)
 |[],i,w,A,e,B,hi,_,E,_,_,_=>by
  refine⟨w,A,rfl,E,rfl,λ_ _=>rfl,rfl,rfl,rfl,rfl,λz=>?_⟩;rw[Ig N]
 |v::r,i,w,A,e,B,hi,Q,E,M,H,I=>by
  simp only[Iv]at H I;have g:a.add i=⟨a.block,a.off+i,none⟩:=by
   unfold Addr.add;by_cases h:i=0
   ·subst h;simp;cases a;simp_all
   ·rw[Ig h]
  have C : w.cell? (a.add i) = some (A[a.off + i]' J) := by
   rw[g,cu E,Je]
  have K:w.frozen? (a.add i)=false:=by
   rw[g];simp only[World.frozen?,E];have:=I (a.off+i) J J;simp only[Bool.and_eq_false_iff,L4];omega
  have F:(store (a.add i) v).run P w=.ok () (w.setCell (a.add i) v):=by
   rw[run_store P w _ v .plain (M v N),C];simp[K]
  have G:(w.setCell (a.add i) v).heap[a.block]?=some (.cells (A.setIfInBounds (a.off+i) v) e (B,hi)):=by
   rw[g];simp only[World.setCell,Array.getElem?_modify,Kw,E,Jw];simp
  obtain⟨w',j,R,S,T,U,V,X,Y,Z,h9⟩:=z70 P a r (i+1) (w.setCell (a.add i) v) _ e B hi Q G (λx hx=>M x (by simp[hx]))
   (by rw[L3];omega) (λz L D=>I z J J)
  refine⟨w',j,?_,S,by rw[T,L3],?_,?_,X,Y,Z,?_⟩
  ·simp only[storeCells,Sem.run_bind,F,Result.andThen_ok];exact R
  ·intro k O;rw[U k O];exact Below.heap_setCell w (a.add i) v k (by rw[g];exact O)
  ·rw[V,World.size_setCell]
  ·intro z;rw[h9 z];by_cases L:a.off+(i+1)≤z∧z<a.off+(i+1)+r.length
   ·rw[Ih L,Ih Bv];have:z-(a.off+i)=(z-(a.off+(i+1)))+1:=J
    rw[this,Is]
   ·rw[Ig L,Mh];by_cases D:a.off+i=z
    ·subst D;rw[Ih rfl,Ih J,Ih Bv];simp
    ·rw[Ig D,Ig Bv]
def VRs.get'{C:CM}{l:List AV}{r:List Value}(h:VRs C l r){i:Nat}(hi:i<l.length):∃a v,l[i]?=some a∧r[i]?=some v∧VR C a v:=by
 obtain⟨v,h1,h2⟩:=h.get (H8 hi);exact⟨_,v,H8 hi,h1,h2⟩
def VRs.one{C:CM}:∀{l:List AV} {r:List Value},VRs C l r→(∀a∈l,a.one=true)→∀v∈r,v.oneCell'=true
 |_,_,.nil,_,v,hv=>by simp at hv
 |_,_,.cons e es,h,v,hv=>by
  rcases Ij.1 hv with rfl|hv
  ·rw[e.one];exact h _ N
  ·exact VRs.one es (λa ha=>h a (by simp[ha])) v hv
def Wn.lay{C:CM}{c:Tr AV}{len:Nat}{gg:Array Value}{d i:Nat}{l:List AV}{r:List Value}(h:Wn C c len v8 d)(hv:VRs C l r)(h1:∀a∈l,a.one=true)
  (hi:i≤len) (_hle:i+l.length≤j) (gC:j≤len∨j=i+l.length)
  (gB:∀gD,gg[gD]?=if d+i≤gD∧gD<d+i+r.length then r[gD-(d+i)]? else v8[gD]?):Wn C (O8 l i c) j gg d:=by
 intro k hk;rw[get_ofList l i c k];have hlen:=hv.length;rw[gB];by_cases gj:i≤k∧k<i+l.length
 ·rw[Ih gj,Ih J];obtain⟨a,v,q1,q2,q3⟩:=hv.get' (i:=k-i) J;refine⟨a,q1,h1 a (I8 q1),v,?_,q3⟩;rw[show d+k-(d+i)=k-i from J];exact q2
 ·rw[Ig gj,Ig J];exact h k J
def Rel.write{w0:World}{C:CM}{H:Heap}{w:World}(h:Rel w0 C H w)(P:Program){o v i:Nat}{l:List AV}(hw:T7 H o v i l=some U){L:Loc}(hL:C o v=some L)
  {r:List Value} (hr:VRs C l r) (h1:∀a∈l,a.one=true):∃w',(storeCells ⟨L.b,L.d+i,none⟩ r).run P w=.ok () w'∧Rel w0 C U w':=by
 unfold T7 at hw;split at hw
 ·rename_i c len gH hg;split at hw
  ·rename_i hv;have gj:=Ic hv;subst gj;split at hw
   ·rename_i hle;have gg:i+l.length≤len:=Ik hle;cases hw;have ho:=h.fresh _ _ _ hL;have gB:=h.obj o _ ho hg;obtain⟨q1,q2,q3,vs,e,lo,hi,q4,q5,q6,q7⟩:=gB L hL;have gI:=hr.length;obtain⟨w',gC,k1,k2,k3,k4,k5,k6,k7,k8,k9⟩:=z70 P ⟨L.b,L.d+i,none⟩ r 0 w vs e lo hi rfl q4 (hr.one h1) B1 (λgK hj gD=>by dsimp at hj gD;exact q6 gK J J);refine⟨w',k1,h.put ho _ ?_ J ?_ ?_ ?_⟩
    ·exact h.low.trans ⟨k6,k7,k8,J,λk hk=>k4 k (by dsimp;have:=q2 rfl;omega)⟩
    ·intro o' v' L' gE j;refine k4 _ (λe'=>gE ?_);exact (h.excl _ _ _ _ _ _ hL j e'.symm (q2 rfl)).symm
    ·intro L' j;rw[hL]at j;cases j;refine⟨q1,q2,q3,gC,e,lo,hi,k2,J,q6,q7.lay hr h1 J gg (.inl (Ie _)) (λgK=>?_)⟩;rw[k9 gK];rfl
    ·intro c' gF gG gL he v' L' j;cases he;exact h.top _ _ _ _ _ ho hg _ _ j
   ·cases hw
  ·cases hw
 ·cases hw
def Rel.newRow{w0:World}{C:CM}{H:Heap}{w:World}(h:Rel w0 C H w){l:List AV}{o:Nat}(hn:newObj H l=some (o,U))(e:TypeId)(fz:Nat×Nat){vs:Array Value}
  (hle:l.length≤vs.size) (hv:VRs C l (vs.toList.take l.length)) (h1:∀a∈l,a.one=true) (gj:∀i,i<vs.size→¬(fz.1≤i∧i<fz.2)) :
  ∃C',C.le C'∧Rel w0 C' U (w.alloc (.cells vs e fz))∧C' o 0=some ⟨w.heap.size,0,l.length,vs.size⟩:=by
 unfold Sv.newObj at hn;cases hn;have gg:C.le (C.ext H.next 0 ⟨w.heap.size,0,l.length,vs.size⟩):=CM.le_ext _ (h.next_none 0) (.inr (Lm h.nx));refine⟨C.ext H.next 0 ⟨w.heap.size,0,l.length,vs.size⟩,gg,(h.push _ _ l.length vs.size ?_).1,CM.ext_same _ _ _ _⟩;intro L hL;rw[CM.ext_same]at hL;cases hL;refine⟨rfl,λ_=>h.low.size,B1,vs,e,fz.1,fz.2,Wl _ _,Ie _,λi _ hi=>gj i hi,?_⟩;intro k hk;rw[get_ofList l 0 .e k,Ih J];obtain⟨a,v,q1,q2,q3⟩:=hv.get' (i:=k) hk;refine⟨a,by simpa using q1,h1 a (I8 q1),v,?_,q3.mono gg⟩;rw[I1 hk]at q2;simpa using q2
end
section
open Go.RowKit (Below)
section sem
variable {P : Program} {w : World}
def Nv{t:TypeId}{d:TypeDesc}(h:P.underlying t=some d):(underlying t).run P w=.ok d w:=by
 simp[underlying,h]
def bi{t:TypeId}{i:TypeInfo}(h:P.info? t=some i):(typeInfo t).run P w=.ok i w:=by
 simp[typeInfo,h]
def Rg{t:TypeId}{n:Nat}(h:Oi P t=some n):(sizeOf t).run P w=.ok n w:=by
 unfold Oi at h;cases hi:P.info? t with
 |none=>simp[hi]at h
 |some i=>simp only[hi,Jw,Option.some.injEq]at h;simp[sizeOf,bi hi,h]
def tu{t:TypeId}{b:Bool}(h:Rh P t=some b):(isAgg t).run P w=.ok b w:=by
 unfold Rh at h;cases hu:P.underlying t with
 |none=>simp[hu]at h
 |some d=>cases d<;>simp[hu]at h<;>subst h<;>simp[isAgg,Nv hu]
def kh{t:TypeId}{l:List AV}(h:Rc P t=some l):∃v i,(zeroValue t).run P w=.ok v w∧Sa v.cells.toList=some l∧P.info? t=some i∧l.length=i.size:=by
 unfold Rc at h;cases hi:P.info? t with
 |none=>simp[hi]at h
 |some i =>
  simp only[hi]at h;cases g:i.zero with
  |none=>simp[g]at h
  |some v =>
   simp only[g]at h;cases j:Sa v.cells.toList with
   |none=>simp[j]at h
   |some r =>
    simp only[j]at h;split at h
    ·cases h;rename_i z;exact⟨v,i,Ec,j,rfl,z⟩
    ·cases h
def zl0{t:TypeId}{a:AV}(h:mm P t=some a):∃v,(zeroValue t).run P w=.ok v w∧Uu v=some a:=by
 unfold mm at h;cases hi:P.info? t with
 |none=>simp[hi]at h
 |some i =>
  simp only[hi]at h;cases g:i.zero with
  |none=>simp[g]at h
  |some v=>simp only[g]at h;exact⟨v,Ec,h⟩
end sem
def mf(g:CM)(j:Tr AV)(z:Operand→Value):Prop:=∀x a,(M7 x).run j=some a→VR g a (z x)
def tp{n:Nat}{E:Tr AV}{a:Act}(h:ER n F E a.tmps):mf F E a.eval:=by
 intro x A g;cases x with
 |tmp t =>
  unfold M7 at g;dsimp only at g;split at g
  ·rename_i j;have:=h.2.2 t (Ik j);dsimp only at g;show VR F A (a.tmps.getD t undef);cases z:Mz (M6 t) E with
   |none=>rw[z]at g this;cases g;rw[show a.tmps.getD t undef=undef from this];exact .tup .nil
   |some b=>rw[z]at g this;cases g;exact this
  ·cases g
 |const v =>
  unfold M7 at g;dsimp only at g;split at g
  ·rename_i b j;cases g;exact zfn j
  ·cases g
 |global B=>cases g
 |func f=>cases g;exact .fn (.same _ (λl e=>An)) .nil .nil
def pi{B:CM}{C:Tr AV}{D:Operand→Value}(h:mf B C D):∀{j:List Operand} {l:List AV},(opds j).run C=some l→VRs B l (j.map D)
 |[],l,g=>by cases g;exact .nil
 |x::j,l,g=>by
  unfold opds at g;dsimp only at g;split at g
  ·cases g
  ·rename_i a z;split at g
   ·cases g
   ·rename_i r A;cases g;exact .cons (h _ _ z) (pi h A)
def Yk(P:Program)(A:World)(C:CM)(w:World)(z:Sem Next)(v:AV)(B:Heap):Prop :=
 ∃g j x,C.le g∧Rel A g B j∧VR g v x∧(z.run P w=.ok (.value x) j∨(z.run P w=.ok .skip j∧x=undef))
def th(P:Program)(A:CM)(w:World)(z:Sem Next)(t:Tgt)(g:List AV):Prop :=
 ∃j:List Value,VRs A g j∧((∃f,t=.fn f∧z.run P w=.ok (.enter f j.toArray) w)∨(∃l B,t=.yield l∧A l 0=some B∧z.run P w=(Instr.yield B.b j.toArray).run P w))
def Qj(P:Program)(z:World)(C:CM)(w:World)(j:Sem Next):OR→Prop
 |.no=>True
 |.val v A=>Yk P z C w j v A
 |.call t g=>th P C w j t g
def Ng(P:Program)(f:OpF)(nx:(Operand→Value)→Sem Next):Prop :=
 ∀g j z w A B,Rel g j z w→mf j A B→Qj P g j w (nx B) (f.run A z)
def Ns(P:Program)(nx:(Operand→Value)→Sem Next):Ng P Nj nx:=λ_ _ _ _ _ _ _ _=>trivial
def Rn{P:Program}{x:Operand}{f:Heap→AV→OR}{nx:(Operand→Value)→Sem Next}
  (h:∀g C j w z a,Rel g C j w→VR C a (z x)→Qj P g C w (nx z) (f j a)):Ng P (Pa x f) nx:=by
 intro g C j w E z A B;show Qj P g C w (nx z) (Option.rec OR.no (λa=>f j a) ((M7 x).run E));cases D:(M7 x).run E with
 |none=>exact trivial
 |some a=>exact h _ _ _ _ _ _ A (B _ _ D)
def We{P:Program}{x y:Operand}{f:Heap→AV→AV→OR}{nx:(Operand→Value)→Sem Next}
  (h:∀g C A w j a b,Rel g C A w→VR C a (j x)→VR C b (j y)→Qj P g C w (nx j) (f A a b)):Ng P (Rs x y f) nx:=by
 intro g C A w B j D z;show Qj P g C w (nx j) (Option.rec OR.no (λa=>Option.rec OR.no (λb=>f A a b) ((M7 y).run B)) ((M7 x).run B));cases E:(M7 x).run B with
 |none=>exact trivial
 |some a =>
  cases F:(M7 y).run B with
  |none=>exact trivial
  |some b=>exact h _ _ _ _ _ _ _ D (z _ _ E) (z _ _ F)
def O1{P:Program}{C:CM}{w:World}{nx:Sem Next}{v:AV}{x:Value}(j:Rel Q C B w)(z:VR C v x)(g:nx.run P w=.ok (.value x) w) :
  Yk P Q C w nx v B:=⟨C,w,x,CM.le_refl C,j,z,.inl g⟩
def zhx(P:Program)(x:Operand):Ng P (Pa x λz a=>.val a z) (λA=>pure (.value (A x))) :=
 Rn λ_ _ _ _ _ _ g j=>O1 g j rfl
def zr4(P:Program)(c a b:Operand):Ng P (Nq P (.pick c a b)) (λC=>do pure (.value (if ←asBool (C c) then C a else C b))):=by
 intro F K I w D C E z;show Qj P F K w _ (match (M7 c).run D with
  |some (.bool true)=>ret1 I ((M7 a).run D)
  |some (.bool false)=>ret1 I ((M7 b).run D)
  |_=>.no)
 split
 ·rename_i A;have g:=z _ _ A;cases G:(M7 a).run D with
  |none=>exact trivial
  |some v =>
   have B:=z _ _ G;refine O1 E B ?_;cases j:C c<;>rw[j]at g<;>cases g;simp[asBool,j]
 ·rename_i A;have g:=z _ _ A;cases H:(M7 b).run D with
  |none=>exact trivial
  |some v =>
   have B:=z _ _ H;refine O1 E B ?_;cases j:C c<;>rw[j]at g<;>cases g;simp[asBool,j]
 ·exact trivial
def zm8{P:Program}{C:CM}{w:World}(H:Rel Q C B w)(t:TypeId){l:List AV}(F:VRs C l v8.toList)(I:∀a∈l,a.one=true)
  {G:Sem Next} (j:G.run P w=.ok (.value (.pointer (some ⟨w.heap.size,0,none⟩))) (w.alloc (.cells v8 t))):Qj P Q C w G (Uq B l):=by
 unfold Uq;cases K:newObj B l with
 |none=>exact trivial
 |some r =>
  obtain⟨o,M⟩:=r;have g:l.length=v8.toList.length:=F.length;have z:l.length=v8.size:=Cb
  obtain⟨L,A,D,E⟩:=H.newRow K t (0,0) (vs:=v8) J (by rw[g,Ma];exact F) I N;exact⟨L,_,_,A,D,by simpa using VR.ptr (i:=0) E,.inl j⟩
def zo8(P:Program)(t:TypeId):Ng P (Nq P (.alloc t)) (λ_=>do pure (.value (←Instr.alloc t true (.tuple #[])))):=by
 intro g G j w H M z I;show Qj P g G w _ (OpF.run (match Rc P t with
  |some l=>⟨λ_ j=>Uq j l⟩
  |none=>Nj) H j)
 cases A:Rc P t with
 |none=>exact trivial
 |some l =>
  obtain⟨v,i,B,D,K,L⟩:=kh (w:=w) A;obtain⟨E,F⟩:=Vt (C:=G) D;refine zm8 z t E F ?_;simp[Instr.alloc,B,newVar,newRow]
def zsn(P:Program)(t:TypeId)(x:Operand):Ng P (Nq P (.box t x)) (λC=>do pure (.value (←Instr.box t (C x)))):=by
 refine Rn λD E F w C a g j=>?_
 cases z:a.cells with
 |none=>exact trivial
 |some l =>
  obtain⟨A,B⟩:=j.cells z;exact zm8 g t A B (by simp[Instr.box,newVar,newRow])
def zrr(P:Program)(t:TypeId)(x:Operand):Ng P (oo P t x) (λF=>do pure (.value (←Instr.loadAt t (F x)))):=by
 unfold oo;split
 ·rename_i n A G;refine Rn λK R S w F a g j=>?_
  split
  ·rename_i o v i;split
   ·rename_i l B;generalize L:F x=M at j;cases j with
    |ptr C =>
     obtain⟨D,H,E,I,O,_⟩:=g.read P B C;refine O1 g (.agg (vs:=D.toArray) Cg I) ?_;simp[Instr.loadAt,Instr.sureAddr,loadVar,tu A,Rg G,H]
   ·exact trivial
  ·exact trivial
 ·rename_i n A G;refine Rn λK R S w F a g j=>?_
  split
  ·rename_i o v i;split
   ·rename_i c B;generalize L:F x=M at j;cases j with
    |ptr C =>
     obtain⟨D,H,E,I,O,T,Q⟩:=g.read P B C;have z:=Q 0 J
     match D,E with
     |[u],.cons hu .nil =>
      refine O1 g hu ?_;simp only[La,Iq]at z;simp[Instr.loadAt,Instr.sureAddr,loadVar,tu A,z]
   ·exact trivial
  ·exact trivial
 ·exact Ns P _
def znt(P:Program)(t:TypeId)(x y:Operand):Ng P (we P t x y) (λj=>do Instr.storeAt t (j x) (j y);pure .skip):=by
 unfold we;split
 ·rename_i n B;refine We λO M T w j a b C z D=>?_
  split
  ·rename_i o v i;split
   ·rename_i l E;split
    ·rename_i F;split
     ·rename_i Q hw;generalize R:j x=S at z;cases z with
      |ptr G =>
       obtain⟨A,H⟩:=D.cells E;obtain⟨I,K,L⟩:=C.write P hw G A H;refine⟨M,I,undef,CM.le_refl M,L,.tup .nil,.inr ⟨?_,rfl⟩⟩;have g:(j y).cells.size=n:=by have:=A.length;have:=Ic F;simp at *;omega
       simp[Instr.storeAt,Instr.sureAddr,storeVar,Rg B,g,K]
     ·exact trivial
    ·exact trivial
   ·exact trivial
  ·exact trivial
 ·exact Ns P _
def zhn(P:Program)(x:Operand)(o:Oper)(A:o.op=.nilCheck x):Ng P (Pa x qn) (λD=>execOp D o):=by
 refine Rn λF G H w D a B j=>?_
 unfold qn;split
 ·generalize z:D x=C at j;have g:=j;cases j with
  |ptr E=>exact O1 B g Di
 ·generalize z:D x=C at j;have g:=j;cases j with
  |iface h=>exact O1 B g Di
 ·generalize z:D x=C at j;have g:=j;cases j with
  |fn h=>cases h with
   |same=>exact O1 B g Di
 ·generalize z:D x=C at j;have g:=j;cases j with
  |map E=>exact O1 B g Di
 ·exact trivial
end
section
open Go.RowKit (Below)
def ym{k g:IntKind}(h:Ve k g=true):k=g:=by
 cases k<;>cases g<;>first|rfl|(exact absurd h Ah)
def mc(a b:Int):fi a b=(a==b):=by
 cases a<;>cases b
 ·rename_i x y;show Nat.beq x y=_;rw[Jj];simp[Nat.beq_eq];omega
 ·show false=_;symm;rw[beq_eq_false_iff_ne];intro h;cases h
 ·show false=_;symm;rw[beq_eq_false_iff_ne];intro h;cases h
 ·rename_i x y;show Nat.beq x y=_;rw[Jj];simp[Nat.beq_eq]
def Q2{a b:Nat}:Nat.blt a b=decide (a<b):=by
 rw[Jj];simp[Nat.blt,Nat.ble_eq];omega
def ee(a b:Int):jn a b=decide (a<b):=by
 cases a<;>cases b
 ·rename_i x y;show Nat.blt x y=_;rw[Q2,Ly];simp
 ·rename_i x y;show false=_;symm;rw[L4];have:=Int.negSucc_lt_zero y;simp;omega
 ·rename_i x y;show true=_;symm;rw[decide_eq_true_iff];have:=Int.negSucc_lt_zero x;simp;omega
 ·rename_i x y;show Nat.blt y x=_;rw[Q2,Ly];omega
def z6o(k:IntKind):2^k.bits=Tb k:=by cases k<;>rfl
def V7(k:IntKind)(n:Int):Th k n=k.wrap n:=by
 cases n with
 |negSucc m=>rfl
 |ofNat m =>
  unfold Th;dsimp only;split
  ·rename_i h;have g:m<Ux k:=by rw[Q2]at h;simpa using h
   cases k<;>simp only[Ux]at g<;>simp only[IntKind.wrap,IntKind.bits,IntKind.signed]<;>simp<;>omega
  ·rfl
def zpz(b:Int):Wy b=true↔b=0:=by
 cases b with
 |ofNat n=>simp[Wy,Nat.beq_eq]
 |negSucc n=>simp[Wy]
section bits
variable {k : IntKind} {x y : Nat}
def ly(w x:Nat):BitVec.ofInt w (Int.ofNat x)=BitVec.ofNat w x:=by
 show BitVec.ofInt w ((x:Nat):Int)=_;exact BitVec.ofInt_natCast w x
def Zu(g:x<Tb k)(j:y<Tb k):(BitVec.ofInt k.bits (Int.ofNat x) &&& BitVec.ofInt k.bits (Int.ofNat y)).toNat=Nat.land x y:=by
 rw[←z6o]at g j;rw[ly,ly,BitVec.toNat_and,Lp,Lp,Kb g,Kb j];rfl
def dm(g:x<Tb k)(j:y<Tb k):(BitVec.ofInt k.bits (Int.ofNat x) ||| BitVec.ofInt k.bits (Int.ofNat y)).toNat=Nat.lor x y:=by
 rw[←z6o]at g j;rw[ly,ly,BitVec.toNat_or,Lp,Lp,Kb g,Kb j];rfl
def X7(g:x<Tb k)(j:y<Tb k):(BitVec.ofInt k.bits (Int.ofNat x) ^^^ BitVec.ofInt k.bits (Int.ofNat y)).toNat=Nat.xor x y:=by
 rw[←z6o]at g j;rw[ly,ly,BitVec.toNat_xor,Lp,Lp,Kb g,Kb j];rfl
def zou(g:x<Tb k)(_hy:y<Tb k) :
  (BitVec.ofInt k.bits (Int.ofNat x) &&& ~~~(BitVec.ofInt k.bits (Int.ofNat y))).toNat=Nat.xor x (Nat.land x y):=by
 rw[←z6o]at g;rw[ly,ly];apply Nat.eq_of_testBit_eq;intro i;rw[BitVec.testBit_toNat,BitVec.getLsbD_and,BitVec.getLsbD_not,BitVec.getLsbD_ofNat,BitVec.getLsbD_ofNat];show _=(x ^^^ (x &&& y)).testBit i;rw[Nat.testBit_xor,Nat.testBit_and];by_cases hi:i<k.bits
 ·simp only[hi,decide_true,Kf];cases x.testBit i<;>cases y.testBit i<;>rfl
 ·have:x.testBit i=false:=Nat.testBit_lt_two_pow (Ix g (Mc J J));simp[this,hi]
end bits
def zg7(a b:Nat):Pb a b=min a b:=by
 unfold Pb;split
 ·rename_i h;have:=Ik h;omega
 ·rename_i h;have:¬a≤b:=λg=>by rw[If g]at h;cases h
  omega
def zai{P:Program}{w:World}{f:Nat→Nat→Nat}{op:BinOp}{k:IntKind}{a b:Int}{v:AV}(h:Wo f k a b=some v)
  (z:∀x y:Nat,x<Tb k→y<Tb k→(Op.intBits op k (Int.ofNat x) (Int.ofNat y)).run P w=.ok (.int k (k.wrap (Int.ofNat (f x y)))) w) :
  ∃n,v=.int k n∧(Op.intBits op k a b).run P w=.ok (.int k n) w:=by
 unfold Wo at h;split at h
 ·rename_i x y;split at h
  ·rename_i g;split at h
   ·rename_i j;cases h;rw[Q2]at g j;exact⟨_,rfl,by rw[z x y Cb Bt,V7]⟩
   ·cases h
  ·cases h
 ·cases h
def zsh(P:Program)(w:World){op:BinOp}{k:IntKind}{a b:Int}{v:AV}(t:TypeId)(h:sy op k a b=some v) :
  ∃x,(binOp op t (.int k a) (.int k b)).run P w=.ok x w∧∀g,VR g v x:=by
 cases op<;>simp only[sy]at h
 case add=>cases h;exact⟨_,Dh,λg=>C3⟩
 case sub=>cases h;exact⟨_,Dh,λg=>C3⟩
 case mul=>cases h;exact⟨_,Dh,λg=>C3⟩
 case quo =>
  split at h
  ·cases h
  ·rename_i B;cases h;have C:b≠0:=λe=>by rw[(zpz b).2 e]at B;cases B
   exact⟨.int k (k.wrap (a.tdiv b)),by simp[binOp,Op.intDiv,C],λg=>C3⟩
 case rem =>
  split at h
  ·cases h
  ·rename_i B;cases h;have C:b≠0:=λe=>by rw[(zpz b).2 e]at B;cases B
   exact⟨.int k (a.tmod b),by simp[binOp,Op.intDiv,C],λg=>.int k _⟩
 case and =>
  obtain⟨n,rfl,j⟩:=zai (P:=P) (w:=w) (op:=.and) h (λx y z A=>by simp only[Op.intBits,Zu z A];rfl);exact⟨_,Cy,λg=>.int k n⟩
 case or =>
  obtain⟨n,rfl,j⟩:=zai (P:=P) (w:=w) (op:=.or) h (λx y z A=>by simp only[Op.intBits,dm z A];rfl);exact⟨_,Cy,λg=>.int k n⟩
 case xor =>
  obtain⟨n,rfl,j⟩:=zai (P:=P) (w:=w) (op:=.xor) h (λx y z A=>by simp only[Op.intBits,X7 z A];rfl);exact⟨_,Cy,λg=>.int k n⟩
 case andNot =>
  obtain⟨n,rfl,j⟩:=zai (P:=P) (w:=w) (op:=.andNot) h (λx y z A=>by simp only[Op.intBits,zou z A];rfl);exact⟨_,Cy,λg=>.int k n⟩
 case eql=>cases h;exact⟨_,Du,λg=>by rw[mc];exact .bool _⟩
 case neq=>cases h;exact⟨.bool (a != b),Eo,λg=>by rw[mc];exact .bool _⟩
 case lss=>cases h;exact⟨_,Du,λg=>by rw[ee];exact .bool _⟩
 case gtr=>cases h;exact⟨_,Du,λg=>by rw[ee];exact .bool _⟩
 case leq =>
  cases h;refine⟨.bool (decide (a≤b)),Eo,λg=>?_⟩;rw[ee,show (!decide (b<a))=decide (a≤b) from by rw[Jj];simp];exact .bool _
 case geq =>
  cases h;refine⟨.bool (decide (a ≥ b)),Eo,λg=>?_⟩;rw[ee,show (!decide (a<b))=decide (a ≥ b) from by rw[Jj];simp];exact .bool _
 all_goals cases h
def zfu(A:Program)(w:World){op:BinOp}(g:op=.shl∨op=.shr){k j:IntKind}{a b:Int}{v:AV}(t:TypeId)(h:zn2 op k a b=some v) :
  ∃x,(binOp op t (.int k a) (.int j b)).run A w=.ok x w∧∀z,VR z v x:=by
 unfold zn2 at h;split at h
 ·rename_i x y;rcases g with rfl|rfl
  ·simp only[Option.some.injEq]at h;subst h;refine⟨.int k (k.wrap (Int.ofNat x*2^(min y k.bits))),?_,λz=>?_⟩
   ·have:¬((Int.ofNat y)<0):=N
    simp only[binOp,Op.shift];rw[Ig this];rfl
   ·rw[V7,zg7];have:Int.ofNat (x.mul (Nat.pow 2 (min y k.bits)))=Int.ofNat x*2^(min y k.bits):=by
     show ((x*2^(min y k.bits):Nat):Int)=_;simp
    rw[this];exact .int k _
  ·simp only[Option.some.injEq]at h;subst h;refine⟨.int k ((Int.ofNat x).fdiv (2^(min y k.bits))),?_,λz=>?_⟩
   ·have:¬((Int.ofNat y)<0):=N
    simp only[binOp,Op.shift];rw[Ig this];rfl
   ·rw[zg7];have:Int.ofNat (x.div (Nat.pow 2 (min y k.bits)))=(Int.ofNat x).fdiv (2^(min y k.bits)):=by
     show ((x/2^(min y k.bits):Nat):Int)=((x:Nat):Int).fdiv (2^(min y k.bits));have e:((2:Int)^(min y k.bits))=((2^(min y k.bits):Nat):Int):=N
     rw[e,Int.fdiv_eq_ediv_of_nonneg _ (Jo _)];rfl
    rw[this];exact .int k _
 ·cases h
end
section
open Go.RowKit (Below)
def packL_append:∀a b:List UInt8,Oh (a++b)=Oh a+Oh b*256^a.length
 |[],b=>by simp[Oh]
 |x::a,b=>by
  simp only[Jh,Oh,packL_append a b,Iv,Nat.pow_succ];rw[Nat.mul_add,Ja,Ml (256^a.length) 256,Nat.mul_left_comm 256]
def packL_inj:∀{a b:List UInt8},a.length=b.length→Oh a=Oh b→a=b
 |[],[],_,_=>rfl
 |[],_::_,h,_=>Cj
 |_::_,[],h,_=>Cj
 |x::a,y::b,h,k=>by
  simp only[Oh]at k;have z:=x.toNat_lt;have A:=y.toNat_lt;have g:x.toNat=y.toNat:=J
  have j:Oh a=Oh b:=J
  rw[packL_inj Aw j,UInt8.toNat_inj.1 g]
def packL_drop:∀(i:Nat) (l:List UInt8),Oh (l.drop i)=Oh l/256^i
 |0,l=>N
 |i+1,[]=>by simp[Oh]
 |i+1,b::l=>by
  rw[Lh,packL_drop i l];have g:=b.toNat_lt;simp only[Oh,Nat.pow_succ];rw[Ml (256^i) 256,←Nat.div_div_eq_div_mul]
  congr 1
  omega
def packL_take:∀(i:Nat) (l:List UInt8),Oh (l.take i)=Oh l%256^i
 |0,l=>by simp[Oh,Nat.mod_one]
 |i+1,[]=>by simp[Oh]
 |i+1,b::l=>by
  rw[List.take_succ_cons];simp only[Oh];rw[packL_take i l,Nat.pow_succ,Ml (256^i) 256];have g:=b.toNat_lt;rw[Nat.mod_mul,Nat.add_mul_mod_self_left,Kb g,Nat.add_mul_div_left _ _ J,Nat.div_eq_of_lt g,I7]
def zg0{l:List UInt8}{i:Nat}{b:UInt8}(h:l[i]?=some b):Oh l/256^i%256=b.toNat:=by
 rw[←packL_drop];have hi:=(H5.1 h).1;rw[Iw hi,Oh,(H5.1 h).2];have g:=b.toNat_lt;omega
def unpack_pack:∀l:List UInt8,T3 l.length (Oh l)=l.map (·.toNat)
 |[]=>rfl
 |b::l=>by
  have z:=b.toNat_lt;simp only[Iv,T3,Oh,Kd];have g:Nat.mod (b.toNat+256*Oh l) 256=b.toNat:=by show (b.toNat+256*Oh l)%256=_;omega
  have j:Nat.div (b.toNat+256*Oh l) 256=Oh l:=by show (b.toNat+256*Oh l)/256=_;omega
  rw[g,j,unpack_pack l]
def less_spec:∀a b:List UInt8,Op.bytesLess a b=az (a.map (·.toNat)) (b.map (·.toNat))
 |_,[]=>by simp[Op.bytesLess,az]
 |[],_::_=>by simp[Op.bytesLess,az]
 |x::a,y::b=>by
  simp only[Op.bytesLess,az,Kd,less_spec a b,Q2];have g:decide (x<y)=decide (x.toNat<y.toNat):=by rw[Ly];exact UInt8.lt_iff_toNat_lt
  have j:(x==y)=Nat.beq x.toNat y.toNat:=by
   rw[Jj];simp[Nat.beq_eq,UInt8.toNat_inj]
  rw[g,j]
def zdu{a b:ByteArray}:(a.toList==b.toList)=(Nat.beq a.data.toList.length b.data.toList.length&&Nat.beq (Oh a.data.toList) (Oh b.data.toList)):=by
 rw[ByteArray.toList_eq,ByteArray.toList_eq,Jj];simp only[L9,H7,Nat.beq_eq];exact⟨λh=>by rw[h];exact⟨rfl,rfl⟩,λ⟨g,j⟩=>packL_inj g j⟩
def zqz{a b:ByteArray}:Op.bytesLess a.toList b.toList=az (T3 a.data.toList.length (Oh a.data.toList)) (T3 b.data.toList.length (Oh b.data.toList)):=by
 rw[ByteArray.toList_eq,ByteArray.toList_eq,less_spec,unpack_pack,unpack_pack]
def zgc(a b:ByteArray):(a++b).data.toList=a.data.toList++b.data.toList:=by
 simp
def zr7(E:Program)(w:World){op:BinOp}{x y:ByteArray}{v:AV}(t:TypeId)
  (h:uj op x.data.toList.length (Oh x.data.toList) y.data.toList.length (Oh y.data.toList)=some v) :
  ∃u,(binOp op t (.string x) (.string y)).run E w=.ok u w∧∀A,VR A v u:=by
 have B:binOp op t (.string x) (.string y)=Op.stringOp op x y∨op=.shl∨op=.shr:=by cases op<;>simp[binOp]
 rcases B with B|rfl|rfl
 ·rw[B];have j:=zdu (a:=x) (b:=y);have z:=zqz (a:=x) (b:=y);unfold Op.stringOp;cases op<;>simp only[uj]at h
  case add =>
   split at h
   ·rename_i C;cases h;have g:=Ik C;have D:x.size+y.size≤M8:=g;refine⟨.string (x++y),?_,λA=>.str ?_ ?_⟩
    ·dsimp only;rw[Ig]
     ·rfl
     ·simp only[IntKind.max,IntKind.signed,IntKind.bits,Kw];unfold M8 at D;omega
    ·rw[zgc,Il];rfl
    ·rw[zgc,packL_append];rfl
   ·cases h
  case eql=>cases h;exact⟨_,rfl,λA=>by rw[←j];exact .bool _⟩
  case neq=>cases h;exact⟨_,rfl,λA=>by rw[←j];exact .bool _⟩
  case lss=>cases h;exact⟨_,rfl,λA=>by rw[←z];exact .bool _⟩
  case leq=>cases h;exact⟨_,rfl,λA=>by rw[←z,←j];exact .bool _⟩
  case gtr=>cases h;exact⟨_,rfl,λA=>by rw[←z,←j];exact .bool _⟩
  case geq=>cases h;exact⟨_,rfl,λA=>by rw[←z];exact .bool _⟩
  all_goals cases h
 ·simp[uj]at h
 ·simp[uj]at h
end
section
open Go.RowKit (Below)
def zu1{l r:List AV}{n:Nat}(h:V0 l g n=some r)(z:VRs F l v8.toList)(A:∀a∈l,a.one=true) :
  VRs F r (v8.extract g (g+n)).toList∧(∀a∈r,a.one=true)∧r.length=n:=by
 unfold V0 at h;split at h
 ·rename_i B;have j:=Ik B;cases h;have e:(v8.extract g (g+n)).toList=(v8.toList.drop g).take n:=by
   rw[Array.toList_extract,List.extract_eq_take_drop,Nat.add_sub_cancel_left]
  refine⟨by rw[e];exact (z.drop g).take n,λa C=>A a (J1 (Lf C)),?_⟩;have D:g+n≤l.length:=j;simp;omega
 ·cases h
def zdh{w:World}{t:TypeId}{n:Nat}(B:Rh z t=some L)(D:Oi z t=some n){l:List AV}{a:AV}(h:X2 L n l g=some a)
  (C:VRs F l v8.toList) (E:∀a∈l,a.one=true):∃v,(part t v8 g).run z w=.ok v w∧VR F a v:=by
 unfold X2 at h;cases L with
 |true =>
  simp only at h;cases j:V0 l g n with
  |none=>rw[j]at h;cases h
  |some r =>
   rw[j]at h;cases h;obtain⟨G,H,_⟩:=zu1 j C E;exact⟨_,by simp[part,tu B,Rg D],.agg G H⟩
 |false =>
  simp only at h;obtain⟨v,I,K⟩:=C.get h;have A:v8[g]?=some v:=by simpa using I
  exact⟨v,by simp[part,tu B,A],K⟩
def zah{w:World}{t:TypeId}{l:List AV}{a:AV}(h:vi z t l g=some a)
  (j:VRs F l v8.toList) (A:∀a∈l,a.one=true):∃v,(part t v8 g).run z w=.ok v w∧VR F a v:=by
 unfold vi at h;split at h
 ·rename_i D n B C;exact zdh B C h j A
 ·cases h
def zfp{t:TypeId}{g:Array Field}(h:z.underlying t=some (.struct g)):z.fieldsOf t=g:=by simp[Program.fieldsOf,h]
def p8(d:Nat)(t:TypeId)(n:Nat)(g j:Array Value):List Nat→Sem Bool
 |[]=>pure true
 |i::l=>do
  let a ←part t g (i*n);let b ←part t j (i*n);let r ←Op.equalIn d t a b
  if (!r)=true then pure false else p8 d t n g j l
def zde(w:World)(d:Nat){t e:TypeId}{n s:Nat}(g j:Array Value)(D:z.underlying t=some (.array n e))(E:Oi z e=some s) :
  (Op.equalIn (d+1) t (.agg g) (.agg j)).run z w=(p8 d e s g j (List.range n)).run z w:=by
 simp only[Op.equalIn,Sem.run_bind,Nv D,Result.andThen_ok,Rg E,Std.Legacy.Range.forIn_eq_forIn_range'];have:List.range' 0 n=List.range n:=List.range_eq_range'.symm;simp only[Std.Legacy.Range.size,Nat.sub_zero,Nat.add_sub_cancel,Nat.div_one,this];generalize List.range n=l
 induction l generalizing w with
 |nil=>simp[p8]
 |cons i l F =>
  simp only[List.forIn_cons,p8,Sem.run_bind,Sem.run_ite];generalize (part e g (i*s)).run z w=G;cases G with
  |ok a A =>
   simp only[Result.andThen_ok];generalize (part e j (i*s)).run z A=H;cases H with
   |ok b B =>
    simp only[Result.andThen_ok];generalize (Op.equalIn d e a b).run z B=I;cases I with
    |ok r C =>
     cases r
     ·simp only[Result.andThen_ok,L8,Kw,Sem.run_pure]
     ·simp only[Result.andThen_ok,Bool.not_true,Km,Mp,Sem.run_pure];exact F C
    |halt x C=>simp[Result.andThen]
   |halt x B=>simp[Result.andThen]
  |halt x A=>simp[Result.andThen]
def zg5{R:Program}{w:World}{Q:CM}{d:Nat}{f:TypeId→AV→AV→Option Bool}
  (A:∀t a b r x y,f t a b=some r→VR Q a x→VR Q b y→(Op.equalIn d t x y).run R w=.ok r w)
  {B C:List AV} {I K:Array Value} (D:VRs Q B I.toList) (j:∀a∈B,a.one=true) (E:VRs Q C K.toList) (z:∀a∈C,a.one=true) :
  ∀{F:List Field} {r:Bool},Xj R f B C F=some r→(Op.eqFields d I K F).run R w=.ok r w
 |[],r,h=>B5
 |fd::F,r,h=>by
  unfold Xj at h;split at h
  ·rename_i G
   have g : fd.name ≠ "_" := by simpa using G
   split at h
   ·rename_i a b S T;obtain⟨u,L,M⟩:=zah (w:=w) S D j;obtain⟨v,O,P⟩:=zah (w:=w) T E z;split at h
    ·rename_i H;have:=A _ _ _ _ _ _ H M P;simp only[Op.eqFields,Ih g,Sem.run_bind,L,O,this,Result.andThen_ok];simpa using zg5 A D j E z h
    ·rename_i H;have:=A _ _ _ _ _ _ H M P;cases h;simp only[Op.eqFields,Ih g,Sem.run_bind,L,O,this,Result.andThen_ok];simp
    ·cases h
   ·cases h
  ·rename_i G
   have g : fd.name = "_" := by simpa using G
   simp only[Op.eqFields,g,ne_eq,not_true_eq_false,Mp];exact zg5 A D j E z h
def zlk{H:Program}{w:World}{O:CM}{d:Nat}{f:TypeId→AV→AV→Option Bool}{t:TypeId}{n:Nat}
  (B:∀t a b r x y,f t a b=some r→VR O a x→VR O b y→(Op.equalIn d t x y).run H w=.ok r w)
  {C D:List AV} {E F:Array Value} (I:VRs O C E.toList) (g:∀a∈C,a.one=true) (K:VRs O D F.toList) (j:∀a∈D,a.one=true) :
  ∀{l:List Nat} {r:Bool},en H f t n C D l=some r→(p8 d t n E F l).run H w=.ok r w
 |[],r,h=>B5
 |i::l,r,h=>by
  unfold en at h;split at h
  ·rename_i a b P Q;obtain⟨u,R,L⟩:=zah (w:=w) P I g;obtain⟨v,S,M⟩:=zah (w:=w) Q K j;have z:(part t E (i*n)).run H w=.ok u w:=R;have A:(part t F (i*n)).run H w=.ok v w:=S;split at h
   ·rename_i G;have:=B _ _ _ _ _ _ G L M;simp only[p8,Sem.run_bind,z,A,this,Result.andThen_ok];simpa using zlk B I g K j h
   ·rename_i G;have:=B _ _ _ _ _ _ G L M;cases h;simp only[p8,Sem.run_bind,z,A,this,Result.andThen_ok];simp
   ·cases h
  ·cases h
set_option maxHeartbeats 1000000 in
def zw3{w:World}{d:Nat}{f:TypeId→AV→AV→Option Bool}
  (D:∀t a b r x y,f t a b=some r→VR F a x→VR F b y→(Op.equalIn d t x y).run z w=.ok r w)
  {t:TypeId} {a b:AV} {r:Bool} {x y:Value} (h:Yc z f t a b=some r) (g:VR F a x) (j:VR F b y):(Op.equalIn (d+1) t x y).run z w=.ok r w:=by
  unfold Yc at h;split at h
  case h_1 hu=>cases h;cases g;cases j;simp[Op.equalIn,Nv hu]
  case h_2 hu =>
   split at h
   ·rename_i E;cases h;cases g;cases j;have:=ym E;subst this;simp[Op.equalIn,Nv hu,mc]
   ·cases h
  case h_3 hu =>
   cases h;cases g with
   |str G H =>
    cases j with
    |str I K =>
     subst G H I K;rw[←zdu,←beq_toListBytes];simp[Op.equalIn,Nv hu]
  case h_21 hu =>
   split at h
   ·cases h
   ·rename_i C;cases g with
    |agg g A =>
     cases j with
     |agg j B =>
      rw[run_equalIn_struct w d t _ _ (by rw[zfp hu];exact hu) (by simpa using C),zfp hu];exact zg5 D g A j B h
  case h_22 hu =>
   split at h
   ·rename_i s C;cases g with
    |agg g A =>
     cases j with
     |agg j B =>
      rw[zde w d _ _ hu C];exact zlk D g A j B h
   ·cases h
  case h_23=>cases h
  all_goals
   rename_i hu;cases h;cases g;cases j;simp[Op.equalIn,Nv hu]
def zpk{z:Program}{w:World}{A:CM}(d:Nat):∀(n:Nat) (t:TypeId) (a b:AV) (r:Bool) (x y:Value),xq z n t a b=some r→VR A a x→VR A b y →
  (Op.equalIn (d+n) t x y).run z w=.ok r w
 |0,_,_,_,_,_,_,h,_,_=>Ak
 |n+1,_,_,_,_,_,_,h,g,j=>zw3 (λt a b r x y=>zpk d n t a b r x y) h g j
end
section
open Go.RowKit (Below)
def zbd{w:World}(op:BinOp)(t:TypeId)(x y:Operand){a b:Value}(g:¬(a=.nilIface∧b=.nilIface))(j:∀c d,¬(a=.agg c∧b=.agg d)) :
  (eqGuard op t x y a b).run z w=.ok () w:=by
 unfold eqGuard;split<;>first
  |rfl
  | (rw [Ig (by decide)]
     split
     ·exact absurd ⟨rfl,rfl⟩ g
     ·exact absurd ⟨rfl,rfl⟩ (j _ _)
     ·rfl)
def zl4{w:World}(op:BinOp)(t:TypeId)(x y:Operand)(k g:IntKind)(a b:Int):(eqGuard op t x y (.int k a) (.int g b)).run z w=.ok () w :=
 zbd op t x y (λh=>by cases h.1) (λ_ _ h=>by cases h.1)
def zil{w:World}(op:BinOp)(t:TypeId)(x y:Operand){a b:AV}{u v:Value}(hu:VR F a u)(g:VR F b v)
  (j:uu z (Un x || Un y) t a b=true):(eqGuard op t x y u v).run z w=.ok () w:=by
 by_cases A:u=.nilIface∧v=.nilIface
 ·obtain⟨rfl,rfl⟩:=A;cases hu;cases g;have C:(Un x || Un y)=true:=j;unfold eqGuard;split<;>first
   |rfl
   | (rw [Ig (by decide)]
      dsimp only;rw[Ih]
      ·rfl
      ·cases x<;>cases y<;>simp_all [Un])
 ·by_cases B:∃c d,u=.agg c∧v=.agg d
  ·obtain⟨c,d,rfl,rfl⟩:=B;cases hu;cases g;exact run_eqGuard_agg w op t x y c d (by simpa [uu] using j)
  ·exact zbd op t x y A (λc d h=>B ⟨c,d,h⟩)
def zwa{t:TypeId}{a b:AV}{u v:Value}(hu:VR F a u)(g:VR F b v)(j:∀k x z y,¬(a=.int k x∧b=.int z y))(A:∀l x m y,¬(a=.str l x∧b=.str m y)) :
  binOp .eql t u v=(do pure (.bool (←Op.equal t u v)))∧binOp .neq t u v=(do pure (.bool (!(←Op.equal t u v)))):=by
 cases hu<;>cases g<;>first
  |exact⟨rfl,rfl⟩
  |exact absurd ⟨rfl,rfl⟩ (j _ _ _ _)
  |exact absurd ⟨rfl,rfl⟩ (A _ _ _ _)
def zp4{w:World}{t:TypeId}{a b:AV}{r:Bool}(h:Qo z L t a b=some r){u v:Value}(hu:VR F a u)(g:VR F b v) :
  uu z L t a b=true∧(Op.equal t u v).run z w=.ok r w:=by
 unfold Qo at h;split at h
 ·rename_i j;exact⟨j,zpk 9980 20 t a b r u v h hu g⟩
 ·cases h
def zuw{w:World}{op:BinOp}{t:TypeId}(x y:Operand){a b r:AV}(h:Ou z op (Un x || Un y) t a b=some r){u v:Value}(hu:VR F a u)(A:VR F b v) :
  (eqGuard op t x y u v).run z w=.ok () w∧∃C,(binOp op t u v).run z w=.ok C w∧VR F r C:=by
 unfold Ou at h;split at h
 ·cases hu;cases A;refine⟨zl4 op t x y _ _ _ _,?_⟩;split at h
  ·obtain⟨C,g,j⟩:=zfu z w (.inl rfl) t h;exact⟨C,g,j F⟩
  ·obtain⟨C,g,j⟩:=zfu z w (.inr rfl) t h;exact⟨C,g,j F⟩
  ·split at h
   ·rename_i E;have:=ym E;subst this;obtain⟨C,g,j⟩:=zsh z w t h;exact⟨C,g,j F⟩
   ·cases h
 ·cases hu with
  |str g j =>
   cases A with
   |str G H =>
    subst g j G H;refine⟨zbd op t x y (λh=>by cases h.1) (λ_ _ h=>by cases h.1),?_⟩;obtain⟨C,g,j⟩:=zr7 z w t h;exact⟨C,g,j F⟩
 ·rename_i I K;have D:=zwa (t:=t) hu A (λk x L y e=>I k x L y e.1 e.2) (λl x m y e=>K l x m y e.1 e.2);split at h
  ·cases B:Qo z (Un x || Un y) t a b with
   |none=>rw[B]at h;cases h
   |some s =>
    rw[B]at h;cases h;obtain⟨g,j⟩:=zp4 (w:=w) B hu A;exact⟨zil _ t x y hu A g,.bool s,by rw[D.1];simp[j],.bool s⟩
  ·cases B:Qo z (Un x || Un y) t a b with
   |none=>rw[B]at h;cases h
   |some s =>
    rw[B]at h;cases h;obtain⟨g,j⟩:=zp4 (w:=w) B hu A;exact⟨zil _ t x y hu A g,.bool (!s),by rw[D.2];simp[j],.bool (!s)⟩
  ·cases h
def lc{P:Program}{w:World}{g:Sem Next}{o:Option AV}(j:Rel C F B w)
  (h:∀a,o=some a→∃z,g.run P w=.ok (.value z) w∧VR F a z):Qj P C F w g (ret1 B o):=by
 cases o with
 |none=>exact trivial
 |some a=>obtain⟨z,A,D⟩:=h a rfl;exact O1 j D A
def zvf(G:Program)(op:BinOp)(t g:TypeId)(x y:Operand)(o:Oper)(j:o.op=.binOp op t x y g):Ng G (Nq G (.binOp op t x y g)) (λH=>execOp H o):=by
 refine We λI L M w H a b z A B=>lc z λr C=>?_
 obtain⟨D,K,E,F⟩:=zuw (w:=w) x y C A B;exact⟨K,by simp[execOp,j,D,E],F⟩
def Wt(E:Program)(op:UnOp)(t:TypeId)(x:Operand)(o:Oper)(A:o.op=.unOp op t x):Ng E (Nq E (.unOp op t x)) (λB=>execOp B o):=by
 refine Rn λF G H w B a D g=>lc D λr j=>?_
 unfold unA at j;split at j
 ·rename_i k n;cases j;generalize z:B x=C at g;cases g;exact⟨.int k (k.wrap (0-n)),by simp[execOp,A,z,Op.unary,Op.intArith],by rw[V7];exact .int _ _⟩
 ·rename_i k n;cases j;generalize z:B x=C at g;cases g;exact⟨.int k (k.wrap (BitVec.ofInt k.bits (if k.signed then -1 else k.max) ^^^ BitVec.ofInt k.bits n).toNat),by simp[execOp,A,z,Op.unary,Op.intBits],.int _ _⟩
 ·rename_i b;cases j;generalize z:B x=C at g;cases g;exact⟨.bool (!b),by simp[execOp,A,z,Op.unary],.bool _⟩
 ·cases j
def VRs.set{C:CM}:∀{l:List AV} {r:List Value},VRs C l r→∀(i:Nat) {a:AV} {v:Value},VR C a v→VRs C (l.set i a) (r.set i v)
 |_,_,.nil,_,_,_,_=>.nil
 |_,_,.cons _ es,0,_,_,h=>.cons h es
 |_,_,.cons e es,i+1,_,_,h=>.cons e (VRs.set es i h)
def fg{l:List AV}(h:∀a∈l,a.one=true){i:Nat}{a:AV}(j:a.one=true):∀b∈l.set i a,b.one=true:=by
 intro b z;rcases List.mem_or_eq_of_mem_set z with g|g
 ·exact h b g
 ·rw[g];exact j
def zly{C:CM}{off:Nat}:∀(l:List AV) (r:List Value) (g:List AV) (z:Array Value) (j:Nat),VRs C l r→(∀a∈l,a.one=true)→VRs C g z.toList→(∀a∈g,a.one=true) →
  VRs C (Sq g (off+j) l) ((r.zipIdx j).foldl (λg (c,j)=>g.setIfInBounds (off+j) c) z).toList∧(∀a∈Sq g (off+j) l,a.one=true)
 |[],_,g,z,j,.nil,_,h,A=>⟨h,A⟩
 |a::l,v::r,g,z,j,.cons e D,B,h,A=>by
  simp only[Sq,List.zipIdx_cons,List.foldl_cons];have:=zly (off:=off) l r (g.set (off+j) a) (z.setIfInBounds (off+j) v) (j+1) D (λb E=>B b Aq)
   (by rw[Array.toList_setIfInBounds];exact h.set _ e) (fg A (B a N))
  rw[show off+j+1=off+(j+1) from J];exact this
def zs8(v:Array Value)(off:Nat)(j:Array Value):v.zipIdx.foldl (λg (c,z)=>g.setIfInBounds (off+z) c) j=(v.toList.zipIdx 0).foldl (λg (c,z)=>g.setIfInBounds (off+z) c) j:=by
 rw[←Array.foldl_toList,Array.toList_zipIdx]
def vq{j:Nat→Option (Nat×Nat)}:∀{l:List (Nat×Operand)} {G:List Part},ae j l=some G →
  ∀{C:CM} {X:Tr AV} {K:Operand→Value},mf C X K→∀{z r:List AV} {A:Array Value},Y5 z G X=some r→VRs C z A.toList→(∀a∈z,a.one=true) →
  ∃H,Instr.fill j A (l.map λ(i,x)=>(i,K x))=some H∧VRs C r H.toList∧(∀a∈r,a.one=true)
 |[],G,h,C,X,K,L,z,r,A,g,I,M=>by
  cases h;cases g;exact⟨A,rfl,I,M⟩
 |(i,x)::l,G,h,C,X,K,L,z,r,A,g,I,M=>by
  simp only[ae]at h;split at h
  ·cases h
  ·rename_i o s O;split at h
   ·cases h
   ·rename_i Y P;cases h;simp only[Y5]at g;split at g
    ·cases g
    ·rename_i a Z;split at g
     ·cases g
     ·rename_i q hq;split at g
      ·rename_i D;split at g
       ·rename_i Q;have B:q.length=s:=Ic D;have U:o+s≤z.length:=Ik Q;obtain⟨V,k2⟩:=(L _ _ Z).cells hq;have R:=V.length;have S:=I.length;have T:=zly (off:=o) q _ z A 0 V k2 I M;rw[La]at T;obtain⟨H,q1,q2,q3⟩:=vq P L g T.1 T.2;refine⟨H,?_,q2,q3⟩;have e1:(K x).cells.size=s:=by rw[←B,R];simp
        have E:¬((decide ((K x).cells.size≠s) || decide (o+(K x).cells.size>A.size))=true):=by
         intro F;simp only[ne_eq,Jx,Ii]at F;rcases F with F|F
         ·exact F e1
         ·simp at S;omega
        rw[Kd];simp only[Instr.fill,O];rw[Ig E,zs8];exact q1
       ·cases g
      ·cases g
def zco{z:Program}{w:World}:∀{l:List Field} {r:List (Nat×Nat)},ur z l=some r →
  (l.mapM λf=>do pure (f.offset,←sizeOf f.type):Sem (List (Nat×Nat))).run z w=.ok r w
 |[],r,h=>B5
 |f::l,r,h=>by
  simp only[ur]at h;split at h
  ·cases h
  ·rename_i s g;split at h
   ·cases h
   ·rename_i A j;cases h;simp only[List.mapM_cons,Sem.run_bind,Rg g,Result.andThen_ok,Sem.run_pure,zco j]
def zom(B:Program)(t:TypeId)(g:Array (Nat×Operand)):Ng B (rh B t g) (λS=>do pure (.value (←Instr.build t (g.map λ(i,x)=>(i,S x))))):=by
 unfold rh;split
 ·exact Ns B _
 ·rename_i cs T;split
  ·rename_i j hu;split
   ·exact Ns B _
   ·rename_i pl D;split
    ·exact Ns B _
    ·rename_i V A;intro X Y gg w gj S E F;dsimp only;split
     ·rename_i l G;obtain⟨v,i,H,I,Z,h4⟩:=kh (w:=w) T;obtain⟨K,L⟩:=Vt (C:=Y) I;obtain⟨M,O,P,Q⟩:=vq A F G K L;refine O1 E (.agg P Q) ?_;have hm:(j.mapM λf=>do pure (f.offset,←sizeOf f.type):Sem (Array (Nat×Nat))).run B w=.ok pl.toArray w:=by
       rw[Array.mapM_eq_mapM_toList];simp only[Sem.run_map,zco D,Result.andThen_ok]
      have R:Instr.fill (pl.toArray[·]?) v.cells (g.map λ(i,x)=>(i,S x)).toList=some M:=by
       rw[Jz];have:(λi:Nat=>pl.toArray[i]?)=(λi:Nat=>pl[i]?):=by funext i;simp
       rw[this];exact O
      simp only[Instr.build,Sem.run_bind,H,Nv hu,hm,Result.andThen_ok,R,Sem.run_pure]
     ·exact trivial
  ·rename_i n U hu;split
   ·exact Ns B _
   ·rename_i z hs;split
    ·exact Ns B _
    ·rename_i V A;intro X Y gg w gj S E F;dsimp only;split
     ·rename_i l G;obtain⟨v,i,H,I,Z,h4⟩:=kh (w:=w) T;obtain⟨K,L⟩:=Vt (C:=Y) I;obtain⟨M,O,P,Q⟩:=vq A F G K L;refine O1 E (.agg P Q) ?_;have R:Instr.fill (λi=>some (i*z,z)) v.cells (g.map λ(i,x)=>(i,S x)).toList=some M:=by
       rw[Jz];exact O
      simp only[Instr.build,Sem.run_bind,H,Nv hu,Rg hs,Result.andThen_ok,R,Sem.run_pure]
     ·exact trivial
  ·exact Ns B _
end
section
open Go.RowKit (Below)
def z56(l:List AV):∀n,(Ry l n).length=n*l.length
 |0=>by simp[Ry]
 |n+1=>by rw[Ry,Il,z56 l n,Nat.succ_mul];omega
def tk{l:List AV}(h:∀a∈l,a.one=true):∀n,∀a∈Ry l n,a.one=true
 |0,a,g=>by simp[Ry]at g
 |n+1,a,g=>by
  rw[Ry,Iy]at g;rcases g with g|g
  ·exact h a g
  ·exact tk h n a g
def Rr(l:List Value):Nat→List Value
 |0=>[]
 |n+1=>l++Rr l n
def ta{C:CM}{l:List AV}{r:List Value}(h:VRs C l r):∀n,VRs C (Ry l n) (Rr r n)
 |0=>.nil
 |n+1=>h.append (ta h n)
def zh2(l:List Value):∀n,(Rr l n).length=n*l.length
 |0=>by simp[Rr]
 |n+1=>by rw[Rr,Il,zh2 l n,Nat.succ_mul];omega
def zpi(l:List Value):∀(n i:Nat),i<n*l.length→(Rr l n)[i]?=l[i%l.length]?
 |0,i,h=>Cj
 |n+1,i,h=>by
  rw[Nat.succ_mul]at h;rw[Rr];by_cases hi:i<l.length
  ·rw[Ib hi,Kb hi]
  ·have j:0<l.length:=by
    rcases Nat.eq_zero_or_pos l.length with g|g
    ·rw[g]at h;omega
    ·exact g
   rw[In J,zpi l n _ J,Nat.mod_eq_sub_mod (J:l.length≤i)]
def u9(g:Array Value)(n:Nat):((Array.range (n*g.size)).map λi=>g[i%g.size]!).toList=Rr g.toList n:=by
 apply List.ext_getElem?;intro i;rw[Jz,J5];by_cases hi:i<n*g.size
 ·rw[zpi _ _ _ Co];have z:0<g.size:=by
   rcases Nat.eq_zero_or_pos g.size with j|j
   ·rw[j]at hi;omega
   ·exact j
  have hm:i%g.size<g.size:=Nat.mod_lt _ z;simp[hi,hm,getElem!_pos]
 ·have A:(Rr g.toList n).length≤i:=by rw[zh2];simp;omega
  rw[Kk A,Kk Co];rfl
def lw(f:Nat→Value):(Array.range 0).map f=#[]:=N
def zbc(g:Nat):∀(q:List (Value×Nat)) (a:Array Value),(q.foldl (λj (c,z)=>j.setIfInBounds (g+z) c) a).size=a.size
 |[],_=>rfl
 |x::q,a=>by rw[List.foldl_cons,zbc g q];simp
def zfe{pl:Nat→Option (Nat×Nat)}:∀{g:List (Nat×Value)} {a b:Array Value},Instr.fill pl a g=some b→b.size=a.size
 |[],_,_,h=>B5
 |(i,v)::g,a,b,h=>by
  simp only[Instr.fill]at h;split at h
  ·cases h
  ·split at h
   ·cases h
   ·rw[zfe h,←Array.foldl_toList,zbc]
def zph{C:CM}{w:World}(L:Rel Q C B w)(t:TypeId){l:List AV}{o len esz:Nat}{cs:Array Value}(M:newObj B l=some (o,U))
  (H:VRs C l cs.toList) (O:∀a∈l,a.one=true) {cap:Nat} (S:cap*esz=l.length) (j:len≤cap)
  {I:Sem Next} (D:I.run z w=.ok (.value (.slice (some ⟨w.heap.size,0,none⟩) len cap)) (w.alloc (.cells cs t))):Yk z Q C w I (.sl o 0 0 len esz (some cap)) U:=by
 have g:l.length=cs.toList.length:=H.length;have E:l.length=cs.size:=Cb
 obtain⟨P,A,F,G⟩:=L.newRow M t (0,0) (vs:=cs) J (by rw[g,Ma];exact H) O N;have K:len*esz≤cap*esz:=Im _ j;refine⟨P,_,_,A,F,?_,.inl D⟩;have:=VR.sl (i:=0) (len:=len) (esz:=esz) (room:=some cap) (cap:=cap) G B1 B1 j (λr R=>by cases R;exact⟨rfl,B1⟩) (λh=>Ak);simpa using this
def zeo(G:Program)(t:TypeId)(len:Nat)(j:Array (Nat×Operand)) :
  Ng G (jf G t len j) (λU=>do pure (.value (←Instr.buildSlice t len (j.map λ(i,x)=>(i,U x))))):=by
 unfold jf;split
 ·rename_i A hu;split
  ·exact Ns G _
  ·rename_i g F;split
   ·exact Ns G _
   ·rename_i gj V;split
    ·rename_i z;obtain⟨X,P⟩:=z;split
     ·exact Ns G _
     ·rename_i ps H;intro w0 C gB w gC U Y Z;dsimp only;split
      ·rename_i l hl;split
       ·rename_i o H' hn;obtain⟨v,i,h1,h2,h3,h4⟩:=kh (w:=w) V;obtain⟨I,k2⟩:=Vt (C:=C) h2;have K:v.cells.size=g:=by
         have B:=I.length;unfold Oi at F;rw[h3]at F;simp at F B;omega
        have gg:gj.length=g:=by have B:=I.length;simp at B;omega
        have D:VRs C (Ry gj len) ((Array.range (len*g)).map λi=>v.cells[i%v.cells.size]!).toList:=by
         rw[←K,u9];exact ta I len
        obtain⟨Q,R,S,q3⟩:=vq H Z hl D (tk k2 len);have L:l.length=len*g:=by
         have B:=S.length;have e3:=zfe R;simp at e3 B;omega
        refine zph Y A hn S q3 L.symm (Ie _) ?_;have T:Instr.fill (λi=>some (i*g,g)) ((Array.range (len*g)).map λi=>v.cells[i%v.cells.size]!) (j.map λ(i,x)=>(i,U x)).toList=some Q:=by
         rw[Jz];exact R
        have E:¬(len*g>2^24):=J
        simp only[Instr.buildSlice,Sem.run_bind,Nv hu,Rg F,Result.andThen_ok,Sem.run_ite,Ig E];by_cases M:len*g=0
        ·rw[Ih M];have O:Instr.fill (λi=>some (i*g,g)) ((Array.range (len*g)).map λi=>(#[]:Array Value)[i%(#[]:Array Value).size]!) (j.map λ(i,x)=>(i,U x)).toList=some Q:=by
          rw[←T,M,lw,lw]
         simp only[Sem.run_pure,Result.andThen_ok,O,newRow,Sem.run_bind,run_newObj];rfl
        ·rw[Ig M];simp only[Sem.run_bind,h1,Sem.run_pure,Result.andThen_ok,T,newRow,run_newObj];rfl
       ·exact trivial
      ·exact trivial
    ·exact Ns G _
 ·exact Ns G _
def zki(A:Program)(t:TypeId)(l c:Operand):Ng A (jx A t l c) (λI=>do pure (.value (←Instr.makeSlice t (I l) (I c)))):=by
 unfold jx;split
 ·rename_i g hu;split
  ·exact Ns A _
  ·rename_i i hi;split
   ·exact Ns A _
   ·rename_i gg Q;split
    ·rename_i j;obtain⟨K,B⟩:=j;refine We λw0 C gj w I a b R L M=>?_
     split
     ·rename_i x y;split
      ·rename_i D;split
       ·rename_i S;split
        ·rename_i o H' T;have z:x≤y:=Ik D;have E:y≤1048576:=Ik S;obtain⟨v,gB,U,V,O,X⟩:=kh (w:=w) Q;obtain⟨P,Y⟩:=Vt (C:=C) V;rw[hi]at O;cases O;have F:v.cells.size=i.size:=by have G:=P.length;simp at G;omega
         generalize I l=pl at L;generalize I c=pc at M;cases L;cases M;refine zph R g T (cs:=(Array.range (y*i.size)).map λk=>v.cells[k%v.cells.size]!) (by rw[←F,u9];exact ta P y) (tk Y y) (by rw[z56,X]) z ?_;have G:IntKind.i64.wrap (Int.ofNat x)=Int.ofNat x:=Ao
         have Z:IntKind.i64.wrap (Int.ofNat y)=Int.ofNat y:=Ao
         have e3:i.bytes*y≤65536*1048576:=K4 B E;have e4:¬((decide (Int.ofNat y<0) || decide ((i.bytes:Int)*Int.ofNat y>2^48) || decide (Int.ofNat x<0) || decide (Int.ofNat x>Int.ofNat y))=true):=by
          have e5:((i.bytes:Int)*Int.ofNat y)=((i.bytes*y:Nat):Int):=N
          rw[e5];simp only[Jx,Ii,not_or];refine⟨⟨⟨N,Ab⟩,N⟩,Ab⟩
         simp only[Instr.makeSlice,Sem.run_bind,Nv hu,bi hi,asInt,asIntOf,Sem.run_pure,Result.andThen_ok,G,Z,Sem.run_ite,Ig e4,run_askRoom,Rg (show Oi A g=some i.size from Fk)];have e6:(Int.ofNat y).toNat=y:=rfl;have e7:(Int.ofNat x).toNat=x:=rfl;rw[e6,e7];by_cases H:y*i.size=0
         ·rw[Ih H];simp only[Sem.run_pure,Result.andThen_ok,newRow,Sem.run_bind,run_newObj];have:((Array.range (y*i.size)).map λk=>(#[]:Array Value)[k%(#[]:Array Value).size]!)=((Array.range (y*i.size)).map λk=>v.cells[k%v.cells.size]!):=by rw[H,lw,lw]
          rw[this];rfl
         ·rw[Ig H];simp only[Sem.run_bind,U,Sem.run_pure,Result.andThen_ok,newRow,run_newObj];rfl
        ·exact trivial
       ·exact trivial
      ·exact trivial
     ·exact trivial
    ·exact Ns A _
 ·exact Ns A _
def zj9(j:Program)(t:TypeId)(x:Operand):Ng j (qc j t x) (λB=>do pure (.value (←Instr.makeInterface t (B x)))):=by
 unfold qc;split
 ·exact Ns j _
 ·rename_i d g hu;refine Rn λC D E w B a z A=>O1 z (.iface A) ?_
  simp only[Instr.makeInterface,Sem.run_bind,Nv hu,Result.andThen_ok];cases d<;>first|rfl|exact absurd hu (g _)
 ·exact Ns j _
def zn0(D:Program)(f:Fn)(first cap:Array Operand)(z:∀l,f≠.yield l):Ng D (oj f first cap) (λg=>do pure (.value (←Instr.makeFunc f (first.map g) (cap.map g)))):=by
 intro E F G w H g A j;unfold oj;dsimp only;split
 ·rename_i l B;split
  ·rename_i r C;refine O1 A (.fn (.same f z) (l':=first.map g) (r':=cap.map g) ?_ ?_) rfl
   ·rw[Jz];exact pi j B
   ·rw[Jz];exact pi j C
  ·exact trivial
 ·exact trivial
def zif{w:World}(j:Rel C F B w){A:Sem Next}(g:A.run z w=.ok (.value (.map (some w.heap.size))) (w.alloc (.map #[] 0))) :
  Qj z C F w A (Vh B):=by
 unfold Vh;obtain⟨E,G⟩:=j.push (.map [] 0) (.map #[] 0) 0 0 (λH D=>by
  rw[CM.ext_same]at D;cases D;exact⟨j.low.size,#[],Wl _ _,.nil⟩)
 exact⟨_,_,_,G,E,.map (CM.ext_same _ _ _ _),.inl g⟩
def zoj(A:Program)(t:TypeId)(r:Option Operand):Ng A (jv A t r) (λz=>do pure (.value (←Instr.makeMap t (r.map z)))):=by
 unfold jv;split
 ·intro B D E w H z g F;exact zif g (by simp[Instr.makeMap])
 ·rename_i x;split
  ·rename_i k e hu;refine Rn λB D E w z a g j=>?_
   split
   ·generalize C:z x=G at j;cases j;exact zif g (by simp[Instr.makeMap,Nv hu,C,asInt,asIntOf])
   ·exact trivial
  ·exact Ns A _
def zh9(z:Program)(t:TypeId)(x:Operand)(f:Nat):Ng z (qf z t x f) (λB=>do pure (.value (←Instr.fieldAt t (B x) f))):=by
 unfold qf;split
 ·rename_i g hu;split
  ·exact Ns z _
  ·rename_i fd C;split
   ·exact Ns z _
   ·exact Ns z _
   ·rename_i n D E;refine Rn λH L M w B a F A=>?_
    split
    ·rename_i o v i;generalize I:B x=K at A;cases A with
     |ptr G =>
      refine O1 F (.ptr (i:=i+fd.offset) G) ?_;have j:n≠0:=D;simp[Instr.fieldAt,Nv hu,C,Instr.sureAddr,fieldPlace,Rg E,j,df]
    ·exact trivial
 ·exact Ns z _
def zol(A:Program)(t:TypeId)(x:Operand)(f:Nat):Ng A (sd A t x f) (λB=>do pure (.value (←Instr.field t (B x) f))):=by
 unfold sd;split
 ·rename_i g hu;split
  ·exact Ns A _
  ·rename_i fd C;split
   ·rename_i P n D E;refine Rn λK Q R w B a F j=>?_
    split
    ·generalize L:B x=M at j;cases j with
     |agg j z =>
      refine lc F λr G=>?_
      obtain⟨O,H,I⟩:=zdh (w:=w) D E G j z;exact⟨O,by simp[Instr.field,Nv hu,C,asAgg,H],I⟩
    ·exact trivial
   ·exact Ns A _
 ·exact Ns A _
end
section
open Go.RowKit (Below)
def pj{l c:Nat}(e:Nat)(h:l≤c):l*e+(c-l)*e=c*e:=by
 rw[←I2];congr 1;omega
def Vy(r:Option Nat)(v:Option Value):Prop:=match r with
 |none=>v=none
 |some n=>∃k,v=some (.int k (Int.ofNat n))
def U9{g:Operand→Value}(j:mf F I g){x:Option Operand}{r:Option Nat}(h:(Pe x).run I=some r):Vy r (x.map g):=by
 cases x with
 |none=>cases h;rfl
 |some x =>
  unfold Pe at h;dsimp only at h;split at h
  ·rename_i k n z;cases h;have:=j _ _ z;generalize A:g x=v at this;cases this;exact⟨k,Ae⟩
  ·cases h
def dw{w:World}(k:IntKind){n y:Nat}(c:BoundsCode)(h:n≤y):(Instr.sliceBound (.int k (Int.ofNat n)) y c).run z w=.ok n w:=by
 have:(0:Int)≤Int.ofNat n∧Int.ofNat n≤(y:Int):=⟨N,Ab⟩;simp only[Instr.sliceBound,asIntOf,Sem.run_bind,Sem.run_pure,Result.andThen_ok,Sem.run_ite,Ih this];rfl
def wq{P:Program}{w:World}(g:Bool){len cap:Nat}{hi mx:Option Nat}{a b c:Option Value}(A:Vy V a)(C:Vy hi b)(E:Vy mx c)
  (hm:mx.isSome=true→hi.isSome=true) (j:V.getD 0≤hi.getD len) (z:hi.getD len≤mx.getD cap) (B:mx.getD cap≤cap) :
  (Instr.sliceBounds g len cap a b c).run P w=.ok (V.getD 0,hi.getD len,mx.getD cap) w:=by
 cases mx with
 |none =>
  cases E;simp only[Option.getD_none]at z B;cases hi with
  |none =>
   cases C;cases V with
   |none=>cases A;simp[Instr.sliceBounds]
   |some l =>
    obtain⟨k,rfl⟩:=A;simp only[Ka,Option.getD_none]at j;simp only[Instr.sliceBounds,Sem.run_bind,Sem.run_pure,Result.andThen_ok,dw k _ j,Option.getD]
  |some h =>
   obtain⟨k,rfl⟩:=C;simp only[Ka]at j z;cases V with
   |none=>cases A;simp only[Instr.sliceBounds,Sem.run_bind,Sem.run_pure,Result.andThen_ok,dw k _ z,Option.getD]
   |some l =>
    obtain⟨D,rfl⟩:=A;simp only[Ka]at j;simp only[Instr.sliceBounds,Sem.run_bind,Sem.run_pure,Result.andThen_ok,dw k _ z,dw D _ j,Option.getD]
 |some m =>
  obtain⟨F,rfl⟩:=E;simp only[Ka]at z B;cases hi with
  |none=>simp at hm
  |some h =>
   obtain⟨k,rfl⟩:=C;simp only[Ka]at j z;cases V with
   |none=>cases A;simp only[Instr.sliceBounds,Sem.run_bind,Sem.run_pure,Result.andThen_ok,dw F _ B,dw k _ z,Option.getD]
   |some l =>
    obtain⟨D,rfl⟩:=A;simp only[Ka]at j;simp only[Instr.sliceBounds,Sem.run_bind,Sem.run_pure,Result.andThen_ok,dw F _ B,dw k _ z,dw D _ j,Option.getD]
def zim{o v i l h m:Nat}{A:Loc}(C:F o v=some A)(D:l≤h)(E:h≤m)(K:i+m*g≤A.n)(L:A.d+i+m*g≤A.sz) :
  VR F (Xg l h m o v i g) (.slice (some (if m=l then ⟨A.b,A.d+i,none⟩ else (⟨A.b,A.d+i,none⟩:Addr).add (l*g))) (h-l) (m-l)):=by
 unfold Xg;split
 ·rename_i z;have j:l=m:=Ic z;subst j;have:h=l:=J
  subst this;rw[Ih rfl,Nat.sub_self];split
  ·exact .sl C J J (Ie _) (λr B=>by cases B;exact⟨rfl,J⟩) (λe=>An)
  ·exact .emp
 ·rename_i z;have j:¬m=l:=λe=>by rw[e,I0]at z;cases z
  rw[Ig j,df];have M:=pj g (I5 D E);have O:=pj g D;have P:h*g≤m*g:=Im _ E;have G:Nat.add i (Nat.mul l g)=i+l*g:=rfl;have H:Nat.sub h l=h-l:=rfl;have I:Nat.sub m l=m-l:=rfl;rw[G,H,I];exact .sl C J J J (λr B=>by cases B;exact⟨rfl,J⟩) (λe=>An)
def zd6{o v i len l h cap:Nat}{room mx:Option Nat}{r:AV}{C:Loc}(I:F o v=some C)(X:i+len*g≤C.n)(T:C.d+i+cap*g≤C.sz)(Y:len≤cap)
  (U:∀r,room=some r→cap=r∧i+r*g≤C.n) (Z:room=none→C.d+i+cap*g=C.sz) (z:jr l h (room.getD len) mx o v i g room=some r) :
  l≤h∧h≤mx.getD cap∧mx.getD cap≤cap ∧
  VR F r (.slice (some (if mx.getD cap=l then ⟨C.b,C.d+i,none⟩ else (⟨C.b,C.d+i,none⟩:Addr).add (l*g))) (h-l) (mx.getD cap-l)):=by
 unfold jr at z;split at z
 ·cases z
 ·rename_i K;have j:l≤h:=Ik K;split at z
  ·cases z
  ·rename_i L;have A:h≤room.getD len:=Ik L;have M:room.getD len≤cap∧i+room.getD len*g≤C.n:=by
    cases room with
    |none=>exact⟨Y,X⟩
    |some r=>obtain⟨E,G⟩:=U r rfl;exact⟨Aq,G⟩
   split at z
   ·rename_i m;split at z
    ·cases z
    ·rename_i O;have D:h≤m:=Ik O;split at z
     ·cases z
     ·rename_i P;have H:m≤room.getD len:=Ik P;cases z;have E:m*g≤room.getD len*g:=Im _ H;have G:m*g≤cap*g:=Im _ J;exact⟨j,D,Ab,zim I j D J J⟩
   ·split at z
    ·rename_i rr;cases z;obtain⟨E,G⟩:=U rr rfl;subst E;exact⟨j,A,Ie _,zim I j A G T⟩
    ·have Q:=Z rfl;simp only[Option.getD_none]at A ⊢;have q3:h*g≤len*g:=Im _ A;split at z
     ·rename_i V;have R:l=0:=Ic V;subst R;cases z;refine⟨j,J,Ie _,?_⟩;have e:(if cap=0 then (⟨C.b,C.d+i,none⟩:Addr) else (⟨C.b,C.d+i,none⟩:Addr).add (0*g))=⟨C.b,C.d+i,none⟩:=by
       split
       ·rfl
       ·rw[df];simp
      rw[e];exact .sl I J (by simpa using T) J (λr S=>by cases S) (λ_=>by simpa using Q)
     ·rename_i V;split at z
      ·rename_i B;have e:l=h:=Ic B;subst e;cases z;refine⟨j,J,Ie _,?_⟩;rw[Nat.sub_self];exact .emp
      ·rename_i B;have gg:¬l=h:=λe=>by rw[e,I0]at B;cases B
       cases z;refine⟨j,J,Ie _,?_⟩;rw[Ig J,df];have E:=pj g (J:l≤cap);have G:=pj g j;have e1:Nat.add i (Nat.mul l g)=i+l*g:=rfl;have e2:Nat.sub h l=h-l:=rfl;rw[e1,e2];exact .sl I J J J (λr S=>by cases S) (λ_=>J)
def zan{g:Type}(f:v9→g)(x:Option v9):(x.map f).isSome=x.isSome:=by cases x<;>rfl
def Vy.isSome{r:Option Nat}{v:Option Value}(h:Vy r v):r.isSome=v.isSome:=by
 cases r with
 |none=>rw[show v=none from h];rfl
 |some n=>obtain⟨k,rfl⟩:=h;rfl
def zny(P:Program)(t:TypeId)(x:Operand)(lo hi mx:Option Operand) :
  Ng P (ep P t x lo hi mx) (λK=>do pure (.value (←Instr.sliceAt t (K x) (lo.map K) (hi.map K) (mx.map K)))):=by
 unfold ep;split
 ·rename_i hu;split
  ·exact Ns P _
  ·intro w0 gI gK w gL K F j;dsimp only;split
   ·rename_i len n l h G H I;split
    ·rename_i h1;split
     ·rename_i h2;have Y:l.getD 0≤h.getD len:=Ik h1;have L:h.getD len≤len:=Ik h2;have B:=j _ _ G;have z:=U9 j H;have g:=U9 j I;generalize K x=X at B;cases B with
      | @str _ _ s M O =>
       subst M O;have C:=wq (P:=P) (w:=w) false (len:=s.size) (cap:=s.size) (mx:=none) (c:=none) z g rfl N Y De N;refine O1 F (x:=.string (s.extract (l.getD 0) (h.getD s.size))) (.str ?_ ?_) ?_
       ·rw[Lib.extract_data];have:(s.data.toList.length)=s.size:=rfl;simp;rw[this]at L;omega
       ·rw[Lib.extract_data,packL_take,packL_drop];rfl
       ·simp only[Instr.sliceAt,Sem.run_bind,Nv hu,Result.andThen_ok,Instr.slice,Option.map_none,Option.isSome_none];simp[C]
     ·exact trivial
    ·exact trivial
   ·exact trivial
 ·rename_i Q hu;split
  ·exact Ns P _
  ·rename_i Z;split
   ·exact Ns P _
   ·rename_i D R;intro w0 gI gK w gL K F j;dsimp only;split
    ·rename_i o v i len gg gG l h m G H I hm;refine lc F λr E=>?_
     have B:=j _ _ G;have z:=U9 j H;have g:=U9 j I;have A:=U9 j hm;generalize K x=X at B;cases B with
     | @sl _ _ _ _ _ _ gM cap S q1 q2 q3 q4 q5 =>
      unfold Ts at E;split at E
      ·cases E
      ·rename_i gj;have T:gg=D:=Ic gj;subst T;obtain⟨k1,k2,k3,k4⟩:=zd6 S q1 q2 q3 q4 q5 E;have C:=wq (P:=P) (w:=w) true (len:=len) (cap:=cap) z g A (by
        rw[A.isSome,g.isSome,zan,zan];intro e;cases hi<;>simp_all) k1 k2 k3
       refine⟨_,?_,k4⟩;simp only[Instr.sliceAt,Sem.run_bind,Nv hu,Result.andThen_ok,Instr.slice,C,Rg R,Sem.run_pure,Jw];split<;>simp_all
    ·rename_i l h G H I hm;split
     ·rename_i h0;have gB:l.getD 0+h.getD 0=0:=Ic h0;have B:=j _ _ G;have z:=U9 j H;have g:=U9 j I;have A:=U9 j hm;generalize K x=X at B;cases B;have C:=wq (P:=P) (w:=w) true (len:=0) (cap:=0) z g A N J Ab N;refine O1 F .nilSl ?_;have M:l.getD 0=0:=J
      have O:h.getD 0=0:=J
      rw[M,O]at C;simp only[Instr.sliceAt,Sem.run_bind,Nv hu,Result.andThen_ok,Instr.slice,C,Rg R,Sem.run_pure];simp
     ·exact trivial
    ·rename_i l h G H I hm;split
     ·rename_i h0;have gB:l.getD 0+h.getD 0=0:=Ic h0;have B:=j _ _ G;have z:=U9 j H;have g:=U9 j I;have A:=U9 j hm;generalize K x=X at B;cases B with
      | @emp a cap =>
       have C:=wq (P:=P) (w:=w) true (len:=0) (cap:=cap) z g A N J Ab N;have M:l.getD 0=0:=J
       have O:h.getD 0=0:=J
       rw[M,O]at C;refine O1 F (x:=.slice (some (if cap=0 then a else a.add 0)) 0 cap) .emp ?_;simp only[Instr.sliceAt,Sem.run_bind,Nv hu,Result.andThen_ok,Instr.slice,C,Rg R,Sem.run_pure];simp;split<;>rfl
     ·exact trivial
    ·exact trivial
 ·rename_i n Q hu;split
  ·exact Ns P _
  ·rename_i Z;split
   ·exact Ns P _
   ·rename_i D R;intro w0 gI gK w gL K F j;dsimp only;split
    ·rename_i o v i l h m G H I hm;split
     ·rename_i c U gC hg;split
      ·rename_i gD;split
       ·rename_i gE;have gH:i+n*D≤U:=Ik gE;have V:v=gC:=Ic gD;subst V;refine lc F λr E=>?_
        have B:=j _ _ G;have z:=U9 j H;have g:=U9 j I;have A:=U9 j hm;generalize K x=X at B;cases B with
        | @ptr _ _ _ gM S =>
         unfold Ts at E;simp only[I0]at E;have gF:=F.obj o _ (F.fresh _ _ _ S) hg;obtain⟨p1,_,p3,_⟩:=gF gM S;obtain⟨k1,k2,k3,k4⟩:=zd6 (cap:=n) (len:=n) (room:=some n) S J J (Ie _) (λr E=>by cases E;exact⟨rfl,J⟩) (λe=>An) E;have C:=wq (P:=P) (w:=w) false (len:=n) (cap:=n) z g A (by
          rw[A.isSome,g.isSome,zan,zan];intro e;cases hi<;>simp_all) k1 k2 k3
         refine⟨_,?_,k4⟩;simp only[Instr.sliceAt,Instr.sureAddr,Sem.run_bind,Nv hu,Result.andThen_ok,C,Rg R,Sem.run_pure]
       ·exact trivial
      ·exact trivial
     ·exact trivial
    ·exact trivial
 ·exact Ns P _
end
section
open Go.RowKit (Below)
def zfl(M:Program)(t:TypeId)(x D:Operand):Ng M (rf M t x D) (λE=>do pure (.value (←Instr.indexAt t (E x) (E D)))):=by
 unfold rf;split
 ·rename_i j hu;split
  ·exact Ns M _
  ·rename_i g F;refine We λP T U w E a b G z A=>?_
   split
   ·rename_i o v i len B O k n;split
    ·rename_i C;split
     ·rename_i Q;have H:n<len:=by rw[Q2]at C;simpa using C
      have I:B=g:=Ic Q;subst I;generalize E x=R at z;generalize E D=S at A;cases A;cases z with
      |sl K =>
       refine O1 G (.ptr (i:=i+n*B) K) ?_;have L:(0:Int)≤Int.ofNat n∧Int.ofNat n<(len:Int):=⟨N,Ab⟩;simp only[Instr.indexAt,asIntOf,Sem.run_bind,Sem.run_pure,Result.andThen_ok,Nv hu,Sem.run_ite,Ih L,Rg F];rw[df];rfl
     ·exact trivial
    ·exact trivial
   ·exact trivial
 ·rename_i len j hu;split
  ·exact Ns M _
  ·rename_i g F;refine We λP T U w E a b G z A=>?_
   split
   ·rename_i o v i k n;split
    ·rename_i C;have H:n<len:=by rw[Q2]at C;simpa using C
     generalize E x=R at z;generalize E D=S at A;cases A;cases z with
     |ptr K =>
      refine O1 G (.ptr (i:=i+n*g) K) ?_;have L:(0:Int)≤Int.ofNat n∧Int.ofNat n<(len:Int):=⟨N,Ab⟩;simp only[Instr.indexAt,asIntOf,Instr.sureAddr,Sem.run_bind,Sem.run_pure,Result.andThen_ok,Nv hu,Sem.run_ite,Ih L,Rg F];rw[df];rfl
    ·exact trivial
   ·exact trivial
 ·exact Ns M _
def zo2(L:Program)(t:TypeId)(x D:Operand):Ng L (qz L t x D) (λE=>do pure (.value (←Instr.index t (E x) (E D)))):=by
 unfold qz;split
 ·rename_i hu;refine We λO Z gg w E a b F g z=>?_
  split
  ·rename_i len n k i;split
   ·rename_i A;have j:i<len:=by rw[Q2]at A;simpa using A
    generalize E x=P at g;generalize E D=Q at z;cases z;cases g with
    | @str _ _ s G R =>
     subst G R;have hi:i<s.size:=j;have H:s.data.toList[i]?=some s[i]:=by
      rw[H8 Bt];rfl
     have S:=zg0 H;refine O1 F (x:=.int .u8 s[i].toNat) ?_ ?_
     ·have:Int.ofNat (Nat.mod (Nat.div (Oh s.data.toList) (Nat.pow 256 i)) 256)=(s[i].toNat:Int):=by
       show ((Oh s.data.toList/256^i%256:Nat):Int)=_;rw[S]
      rw[this];exact .int _ _
     ·simp only[Instr.index,asIntOf,Sem.run_bind,Sem.run_pure,Result.andThen_ok,Nv hu];have T:(0:Int)≤Int.ofNat i:=N
      rw[Ih T];have:s[(Int.ofNat i).toNat]?=some s[i]:=by
       show s[i]?=some s[i];simp[hi]
      rw[this];rfl
   ·exact trivial
  ·exact trivial
 ·rename_i len B hu;split
  ·rename_i gj C H M;refine We λO Z gg w E a b F g z=>?_
   split
   ·rename_i l k n;split
    ·rename_i A;have j:n<len:=by rw[Q2]at A;simpa using A
     generalize E x=P at g;generalize E D=Q at z;cases z;cases g with
     |agg g I =>
      refine lc F λr U=>?_
      obtain⟨Y,V,X⟩:=zdh (w:=w) H M U g I;refine⟨Y,?_,X⟩;have G:(0:Int)≤Int.ofNat n∧Int.ofNat n<(len:Int):=⟨N,Ab⟩;have K:(part B _ ((Int.ofNat n).toNat*C)).run L w=.ok Y w:=V;simp only[Instr.index,asIntOf,Sem.run_bind,Sem.run_pure,Result.andThen_ok,Nv hu,Sem.run_ite,Ih G,Rg M,K]
    ·exact trivial
   ·exact trivial
  ·exact Ns L _
 ·exact Ns L _
def zgw{F:CM}:∀{l:List AV} {n:Nat} {vs:List Value},Tz.bytesA l=some n→VRs F l vs→∃g:List UInt8,g.length=l.length∧Oh g=n∧vs=g.map (λb=>Value.int .u8 (b.toNat:Int))
 |[],n,_,h,.nil=>by cases h;exact⟨[],rfl,rfl,rfl⟩
 |a::l,n,_,h,.cons e A=>by
  unfold Tz.bytesA at h;split at h
  ·rename_i j;cases j
  ·rename_i b G j;cases j;split at h
   ·rename_i z;split at h
    ·rename_i m hm;cases h;have B:b<256:=by rw[Q2]at z;simpa using z
     cases e;obtain⟨g,C,D,E⟩:=zgw hm A;have hu:(UInt8.ofNat b).toNat=b:=Ab
     exact⟨UInt8.ofNat b::g,Ad,by rw[Oh,hu,D],by rw[Kd,hu,E];rfl⟩
    ·cases h
   ·cases h
  ·cases h
def zfb(g:List UInt8):(strOfNums (g.map λb=>(b.toNat:Int))).data.toList=g:=by
 simp[strOfNums,Function.comp_def]
def zjv(w:World)(e:TypeId)(s:ByteArray):Lib.bytesWorld w e s=w.drew.alloc (.cells (Lib.bytesCells w e s) e ((Lib.bytesCells w e s).size,(Lib.bytesCells w e s).size+1)):=by
 have g:(Lib.bytesWorld w e s).heap=(w.drew.alloc (.cells (Lib.bytesCells w e s) e ((Lib.bytesCells w e s).size,(Lib.bytesCells w e s).size+1))).heap:=by
  apply Array.ext_getElem?;intro i;rcases Nat.lt_trichotomy i w.heap.size with h|h|h
  ·rw[Lib.bytesWorld_at_old w e s i h,zb w.drew _ (show i<w.drew.heap.size from h)];rfl
  ·subst h;rw[Lib.bytesWorld_at_new];exact (Wl w.drew _).symm
  ·rw[Lq (by rw[Lib.bytesWorld_size];omega),Lq (by rw[World.size_alloc];show w.heap.size+1≤i;omega)]
 show ({ heap:=(Lib.bytesWorld w e s).heap,tape:=w.tape,drawn:=w.drawn+1,os:=w.os,output:=w.output }:World)=_;rw[g];rfl
def zrx(P:Program)(z A:TypeId)(x:Operand):Ng P (Tz P z A x) (λI=>do pure (.value (←convert z A (I x)))):=by
 unfold Tz;split
 ·rename_i s k D hd;refine Rn λQ gg gj w I a B j=>?_
  split
  ·rename_i k' n;generalize I x=K at j;cases j;refine O1 B (x:=.int k (k.wrap n)) (by rw[V7];exact .int _ _) ?_;simp only[convert,Sem.run_bind,Nv D,Nv hd,Result.andThen_ok,Conv.intToInt,Sem.run_pure]
  ·exact trivial
 ·rename_i e D hd;split
  ·rename_i L;refine Rn λQ gg gj w I a B j=>?_
   split
   ·generalize I x=K at j;cases j;refine O1 B (x:=.string .empty) (.str rfl rfl) ?_;simp only[Sem.run_bind,run_convert_bytes_nil w z e D L 0 0 A hd,Result.andThen_ok,Sem.run_pure]
   ·rename_i o v i len Y;split
    ·rename_i l hl;split
     ·rename_i n M;generalize I x=K at j;cases j with
      | @sl _ _ _ _ _ _ gC cap hL =>
       obtain⟨vs,Z,R,h3,h4,h5,h6⟩:=B.read P hl hL;obtain⟨O,q1,q2,q3⟩:=zgw M R;have H:O.length=len:=J
       refine O1 B (x:=.string (strOfNums (O.map λb=>(b.toNat:Int)))) (.str (by rw[zfb,H]) (by rw[zfb,q2])) ?_;have S:=run_convert_bytes_arg (P:=P) w z e D L gC.b (gC.d+i) len cap (O.map λb=>(b.toNat:Int)) Ay (λgD hj=>by
        rw[Ja,h6 gD hj,q3];simp[J5,H8 (J:gD<O.length),List.getD]) A hd
       simp only[Sem.run_bind,S,Result.andThen_ok,Sem.run_pure]
     ·exact trivial
    ·exact trivial
   ·exact trivial
  ·exact Ns P _
 ·rename_i s gB D hd;refine Rn λQ gg gj w I a B j=>?_
  split
  ·rename_i l n;have T:=j;generalize hx:I x=K at j;cases j;refine O1 B T ?_;rw[hx];cases s<;>simp_all [convert,Nv D,Nv hd]
  ·exact trivial
 ·rename_i s e D hd;split
  ·rename_i L hz;refine Rn λQ gg gj w I a B j=>?_
   split
   ·rename_i len n;split
    ·rename_i o H' M;generalize I x=K at j;cases j with
     | @str _ _ g Z R =>
      subst Z R;rw[unpack_pack]at M;have E:g.size≤grownCap w g.size 0 e:=grownCap_ge w g.size 0 e;have C:VRs gg ((g.data.toList.map (·.toNat)).map λ(b:Nat)=>AV.int .u8 (Int.ofNat b)) (g.data.toList.map λb=>Value.int .u8 (b.toNat:Int)):=by
       generalize g.data.toList=q
       induction q with
       |nil=>exact .nil
       |cons b q ih=>exact .cons (.int _ _) ih
      have F:(Lib.bytesCells w e g).size=grownCap w g.size 0 e:=by simp[Lib.bytesCells];omega
      have G:((g.data.toList.map (·.toNat)).map λ(b:Nat)=>AV.int .u8 (Int.ofNat b)).length=g.size:=N
      obtain⟨C',U,V,X⟩:=B.drew.newRow M e ((Lib.bytesCells w e g).size,(Lib.bytesCells w e g).size+1) (vs:=Lib.bytesCells w e g) (by rw[G,F];exact E)
       (by
        rw[G];have:(Lib.bytesCells w e g).toList.take g.size=g.data.toList.map λb=>Value.int .u8 (b.toNat:Int):=by
         simp only[Lib.bytesCells,L0,Jz];rw[Lk N,Io N]
        rw[this];exact C)
       (by intro a j;simp only[Lz]at j;obtain⟨b,_,rfl⟩:=j;rfl) (λi hi=>B1)
      refine⟨C',_,.slice (some ⟨w.heap.size,0,none⟩) g.size (grownCap w g.size 0 e),U,V,?_,.inl ?_⟩
      ·have:=VR.sl (i:=0) (len:=g.size) (esz:=1) (room:=none) (cap:=grownCap w g.size 0 e) X (by rw[G];dsimp only;omega) (by rw[F];dsimp only;omega) E (λr S=>by cases S) (λ_=>by rw[F];simp);simpa using this
      ·simp only[Sem.run_bind,Lib.run_convert_string_bytes w z A e g D hd L,Result.andThen_ok,Sem.run_pure,zjv]
    ·exact trivial
   ·exact trivial
  ·exact Ns P _
 ·exact Ns P _
def zje(F:Program)(x:Operand)(i:Nat):Ng F (zf5 x i) (λz=>do pure (.value (←Instr.extract (z x) i))):=by
 unfold zf5;refine Rn λG I K w z a A g=>?_
 split
 ·generalize z x=H at g;cases g with
  | @tup _ B g =>
   refine lc A λr C=>?_
   obtain⟨v,D,E⟩:=g.get C;have j:B[i]?=some v:=by simpa using D
   exact⟨v,by simp[Instr.extract,j],E⟩
 ·exact trivial
def zlp(H:Program)(x:Operand)(L g:TypeId)(ok:Bool):Ng H (rj H x g ok) (λK=>do pure (.value (←Instr.typeAssert (K x) L g ok))):=by
 unfold rj;split
 ·exact Ns H _
 ·rename_i d j hu;split
  ·exact Ns H _
  ·rename_i R M;refine Rn λP Q S w K a E z=>?_
   obtain⟨I,B,G⟩:=zl0 (w:=w) M;have D:=zfn (C:=Q) G;split
   ·generalize K x=O at z;cases z;cases ok with
    |false=>exact trivial
    |true =>
     refine O1 E (x:=.tuple #[I,.bool false]) (.tup (.cons D (.cons (.bool _) .nil))) ?_;simp only[Instr.typeAssert,Sem.run_bind,Nv hu,Result.andThen_ok];cases d<;>first|(simp[B];done)|exact absurd hu (j _)
   ·rename_i t v;generalize K x=O at z;cases z with
    | @iface _ _ u z =>
     split
     ·rename_i F;have A:t=g:=Ic F;subst A;cases ok with
      |false =>
       refine O1 E (x:=u) z ?_;simp only[Instr.typeAssert,Sem.run_bind,Nv hu,Result.andThen_ok];cases d<;>first|(simp;done)|exact absurd hu (j _)
      |true =>
       refine O1 E (x:=.tuple #[u,.bool true]) (.tup (.cons z (.cons (.bool _) .nil))) ?_;simp only[Instr.typeAssert,Sem.run_bind,Nv hu,Result.andThen_ok];cases d<;>first|(simp;done)|exact absurd hu (j _)
     ·rename_i F;have A:¬t=g:=λe=>by rw[e,I0]at F;cases F
      cases ok with
      |false=>exact trivial
      |true =>
       refine O1 E (x:=.tuple #[I,.bool false]) (.tup (.cons D (.cons (.bool _) .nil))) ?_;simp only[Instr.typeAssert,Sem.run_bind,Nv hu,Result.andThen_ok];cases d<;>first|(simp[B,A];done)|exact absurd hu (j _)
   ·exact trivial
 ·exact Ns H _
end
section
open Go.RowKit (Below)
def zcv{t:TypeId}{d:TypeDesc}(h:Td z t=some d):z.underlying t=some d∧(d=.bool∨(∃k,d=.int k)∨d=.string):=by
 unfold Td at h;split at h
 ·rename_i hu;cases h;exact⟨hu,.inl rfl⟩
 ·rename_i k hu;cases h;exact⟨hu,.inr (.inl ⟨k,rfl⟩)⟩
 ·rename_i hu;cases h;exact⟨hu,.inr (.inr rfl)⟩
 ·cases h
def kg{w:World}{t:TypeId}{d:TypeDesc}(h:Td z t=some d)(e:Bool)(v:Value):(Instr.checkKey e 10000 t v).run z w=.ok () w:=by
 obtain⟨hu,hd⟩:=zcv h;show (Instr.checkKey e (9999+1) t v).run z w=_;unfold Instr.checkKey;simp only[Sem.run_bind,Nv hu,Result.andThen_ok];rcases hd with rfl|⟨k,rfl⟩|rfl<;>rfl
def lz{d:TypeDesc}{a b:AV}{r:Bool}(h:dj d a b=some r){u v:Value}(hu:VR F a u)(g:VR F b v) :
  Instr.sameNow d u v=some r∧(r=true→Instr.sameBits 10000 v u=true):=by
 unfold dj at h;split at h
 ·split at h
  ·rename_i z;have:=ym z;subst this;cases h;cases hu;cases g;rename_i _ G x y _;refine⟨by simp[Instr.sameNow,mc],λe=>?_⟩;rw[mc]at e;have:x=y:=by simpa using e
   subst this;simp[Instr.sameBits]
  ·cases h
 ·cases h;cases hu with
  | @str _ _ s A B =>
   cases g with
   | @str _ _ j C D =>
    subst A B C D;rw[←zdu,←beq_toListBytes];refine⟨by simp[Instr.sameNow],λe=>?_⟩;have:s=j:=by
     have E:s.data.toList=j.data.toList:=by rw[beq_toListBytes]at e;rw[←ByteArray.toList_eq,←ByteArray.toList_eq];simpa using e
     exact ByteArray.ext (Mb.1 E)
    subst this;simp only[Instr.sameBits];rw[beq_toListBytes];simp
 ·cases h;cases hu;cases g;rename_i x y;refine⟨by simp[Instr.sameNow],λe=>?_⟩;have:x=y:=by simpa using e
  subst this;simp[Instr.sameBits]
 ·cases h
def zdk{C:CM}{d:TypeDesc}{k:AV}{u:Value}(hu:VR C k u):∀{A:List (AV×AV×Nat)} {g:List MapEntry} {r:Option AV} (i:Nat),jy d k A=some r→MR C A g →
  match r with
  |none=>Instr.findNow d u g i=some none
  |some a=>∃B v,Instr.findNow d u g i=some (some (B,v))∧VR C a v
 |[],[],r,i,h,.nil=>B5
 |(G,H,b)::l,e::_,r,i,h,.cons z D I hm=>by
  unfold jy at h;split at h
  ·rename_i j;cases h;exact⟨i,e.val,by simp[Instr.findNow,(lz j hu z).1],D⟩
  ·rename_i j;have:=zdk hu (i+1) h hm;cases r with
   |none=>simpa [Instr.findNow,(lz j hu z).1] using this
   |some a =>
    obtain⟨B,v,E,F⟩:=this;exact⟨B,v,by simpa [Instr.findNow,(lz j hu z).1] using E,F⟩
  ·cases h
def mg{w:World}{t:TypeId}{d:TypeDesc}(hu:z.underlying t=some d){k:Value}{g:List MapEntry}{r:Option (Nat×Value)}(h:Instr.findNow d k g 0=some r) :
  (Instr.findKey t k g).run z w=.ok r w:=by
 simp[Instr.findKey,Nv hu,h]
def zna(S:Program)(t:TypeId)(x M:Operand)(ok:Bool):Ng S (m6 S t x M ok) (λG=>do pure (.value (←Instr.lookup t (G x) (G M) ok))):=by
 unfold m6;split
 ·rename_i gg X hu;split
  ·rename_i d gB hd hz;refine We λw0 C gC w G a b O P Y=>?_
   split
   ·exact trivial
   ·rename_i es j;obtain⟨A,_⟩:=zcv hd;obtain⟨Q,H,T⟩:=zl0 (w:=w) hz;have I:=zfn (C:=C) T;have K:∃g:Array MapEntry,MR C es g.toList∧((G x=.map none∧g=#[])∨∃b F,G x=.map (some b)∧w.heap[b]?=some (.map g F)):=by
     unfold xp at j;split at j
     ·cases j;generalize G x=px at P;cases P;exact⟨#[],.nil,.inl ⟨rfl,rfl⟩⟩
     ·rename_i o;split at j
      ·rename_i gj F L;cases j;generalize G x=px at P;cases P with
       |map Z =>
        obtain⟨_,g,D,R⟩:=O.obj o _ (O.fresh _ _ _ Z) L _ Z;exact⟨g,R,.inr ⟨_,_,rfl,D⟩⟩
      ·cases j
     ·cases j
    obtain⟨g,hm,B⟩:=K;split
    ·rename_i v U;obtain⟨gD,u,D,R⟩:=zdk Y 0 U hm;have z:(Instr.lookup t (G x) (G M) ok).run S w=.ok (if ok then .tuple #[u,.bool true] else u) w:=by
      unfold Instr.lookup;rcases B with ⟨E,rfl⟩|⟨r,F,E,V⟩
      ·simp only[Sem.run_bind,Nv hu,Result.andThen_ok,E,kg hd,mg A D,Sem.run_pure]
      ·have L:(getObj r).run S w=.ok (.map g F) w:=Eh
       simp only[Sem.run_bind,Nv hu,Result.andThen_ok,E,L,kg hd,mg A D,Sem.run_pure]
     refine O1 O (x:=if ok then .tuple #[u,.bool true] else u) ?_ Bh;cases ok with
     |true=>exact .tup (.cons R (.cons (.bool _) .nil))
     |false=>exact R
    ·rename_i U;have D:=zdk Y 0 U hm;have z:(Instr.lookup t (G x) (G M) ok).run S w=.ok (if ok then .tuple #[Q,.bool false] else Q) w:=by
      unfold Instr.lookup;rcases B with ⟨E,rfl⟩|⟨r,F,E,V⟩
      ·simp only[Sem.run_bind,Nv hu,Result.andThen_ok,E,kg hd,mg A D,Sem.run_pure,H]
      ·have L:(getObj r).run S w=.ok (.map g F) w:=Eh
       simp only[Sem.run_bind,Nv hu,Result.andThen_ok,E,L,kg hd,mg A D,Sem.run_pure,H]
     refine O1 O (x:=if ok then .tuple #[Q,.bool false] else Q) ?_ Bh;cases ok with
     |true=>exact .tup (.cons I (.cons (.bool _) .nil))
     |false=>exact I
    ·exact trivial
  ·exact Ns S _
 ·exact Ns S _
def zb9(w:World){r k:Nat}(x:Obj)(h:k≠r):({ w with heap:=w.heap.setIfInBounds r x }:World).heap[k]?=w.heap[k]?:=by
 show (w.heap.setIfInBounds r x)[k]?=_;rw[Array.getElem?_setIfInBounds_ne J]
def putObj_heap_same(w:World){r:Nat}(x:Obj)(h:r<w.heap.size):({ w with heap:=w.heap.setIfInBounds r x }:World).heap[r]?=some x:=by
 show (w.heap.setIfInBounds r x)[r]?=_;simp[h]
def Rel.putObj{gE:CM}{H:Heap}{w:World}(h:Rel C gE H w){o v:Nat}{L:Loc}(hL:gE o v=some L)(hB:C.heap.size≤L.b)(ob:AObj)(x:Obj)
  (gB:O2 C.heap.size gE { w with heap:=w.heap.setIfInBounds L.b x } o ob) (gj:∀c len gg ro,ob≠.cells c len gg ro):Rel C gE (H.put o ob) { w with heap:=w.heap.setIfInBounds L.b x }:=by
 refine h.put (h.fresh _ _ _ hL) ob (h.low.trans ⟨rfl,rfl,rfl,N,λk hk=>zb9 w x J⟩) N ?_ gB (λc len gg ro e=>absurd e (gj c len gg ro));intro o' v' L' gC gD;refine zb9 w x (λe=>gC ?_);exact (h.excl _ _ _ _ _ _ hL gD e.symm hB).symm
def MR.length{C:CM}:∀{es:List (AV×AV×Nat)} {gg:List MapEntry},MR C es gg→es.length=gg.length
 |_,_,.nil=>rfl
 |_,_,.cons _ _ _ h=>by simp[MR.length h]
def zac{F:CM}{d:TypeDesc}{k v:AV}{u x:Value}(hu:VR F k u)(B:VR F v x){G:Nat}:∀{H j:List (AV×AV×Nat)} {g:List MapEntry} {n:Bool} (i:Nat),kr d k v G H=some (j,n)→MR F H g →
  match n with
  |true=>Instr.findNow d u g i=some none∧MR F j (g++[{ key:=u,val:=x,born:=G }])
  |false=>∃C e y,Instr.findNow d u g i=some (some (C+i,y))∧g[C]?=some e∧Instr.sameBits 10000 e.key u=true∧MR F j (g.modify C λe=>{ e with key:=u,val:=x })
 |[],j,[],n,i,h,.nil=>by
  cases h;exact⟨rfl,.cons hu B rfl .nil⟩
 |(S,T,b)::l,j,e::r,n,i,h,.cons z I D hm=>by
  unfold kr at h;split at h
  ·rename_i E;cases h;obtain⟨A,K⟩:=lz E hu z;exact⟨0,e,e.val,by simp[Instr.findNow,A],rfl,K rfl,by simpa using MR.cons (e:={ e with key:=u,val:=x }) hu B D hm⟩
  ·rename_i E;obtain⟨A,_⟩:=lz E hu z;split at h
   ·rename_i U V L;cases h;have:=zac hu B (i+1) L hm;cases n with
    |true=>exact⟨by simpa [Instr.findNow,A] using this.1,.cons z I D this.2⟩
    |false =>
     obtain⟨C,M,y,O,P,Q,R⟩:=this;refine⟨C+1,M,y,?_,by simpa using P,Q,by simpa using MR.cons z I D R⟩;rw[show C+1+i=C+(i+1) from J];simpa [Instr.findNow,A] using O
   ·cases h
  ·cases h
def z98(O:Program)(t:TypeId)(m k x:Operand):Ng O (pn O t m k x) (λD=>do Instr.mapUpdate t (D m) (D k) (D x);pure .skip):=by
 unfold pn;split
 ·rename_i gj V hu;split
  ·rename_i d hd;obtain⟨E,_⟩:=zcv hd;intro w0 gg gD w gE D F P;dsimp only;split
   ·rename_i o ka va hm hk hx;have G:=P _ _ hm;have H:=P _ _ hk;have I:=P _ _ hx;split
    ·rename_i es L hg;generalize gB:D m=pm at G;cases G with
     |map B =>
      rename_i X;obtain⟨M,j,Y,Z⟩:=F.obj o _ (F.fresh _ _ _ B) hg _ B;have K:=F.lt _ _ _ B;have z:(getObj X.b).run O w=.ok (.map j L) w:=by simp[getObj,Sem.run,Y]
      have A:∀y,(setObj X.b y).run O w=.ok () { w with heap:=w.heap.setIfInBounds X.b y }:=by intro y;simp[setObj,Sem.run,Y]
      split
      ·rename_i Q R;obtain⟨S,T⟩:=zac H I 0 R Z;refine⟨gg,{ w with heap:=w.heap.setIfInBounds X.b (.map (j.push { key:=D k,val:=D x,born:=L }) (L+1)) },undef,CM.le_refl gg,F.putObj B M _ _ ?_ (λ_ _ _ _ e=>An),.tup .nil,.inr ⟨?_,rfl⟩⟩
       ·intro L' g;rw[B]at g;cases g;exact⟨M,_,putObj_heap_same w _ K,by rw[Array.toList_push];exact T⟩
       ·simp only[Instr.mapUpdate,Sem.run_bind,Nv hu,Result.andThen_ok,z,kg hd,mg E S,A,Sem.run_pure]
      ·rename_i Q R;obtain⟨gC,e,y,S,T,p3,p4⟩:=zac H I 0 R Z;have U:j[gC]?=some e:=by simpa using T
       refine⟨gg,{ w with heap:=w.heap.setIfInBounds X.b (.map (j.modify gC λe=>{ e with key:=D k,val:=D x }) L) },undef,CM.le_refl gg,F.putObj B M _ _ ?_ (λ_ _ _ _ e=>An),.tup .nil,.inr ⟨?_,rfl⟩⟩
       ·intro L' g;rw[B]at g;cases g;exact⟨M,_,putObj_heap_same w _ K,by rw[Array.toList_modify];exact p4⟩
       ·have C:(Instr.keyThatStays e.key (D k)).run O w=.ok (D k) w:=by simp[Instr.keyThatStays,p3]
        simp only[Instr.mapUpdate,Sem.run_bind,Nv hu,Result.andThen_ok,z,kg hd,mg E S,La,U,Jw,Ka,C,A,Sem.run_pure]
      ·exact trivial
    ·exact trivial
   ·exact trivial
  ·exact Ns O _
 ·exact Ns O _
def zp1(A:Program)(t:TypeId)(x:Operand):Ng A (rangeF A t x) (λB=>do pure (.value (←Instr.range t (B x)))):=by
 unfold rangeF;split
 ·rename_i hu;refine Rn λG H I w B a g j=>?_
  split
  ·rename_i len n;generalize B x=K at j;cases j with
   | @str _ _ s C D =>
    obtain⟨E,F⟩:=g.push (.iter len n 0) (.stringIter s 0) 0 0 (λL z=>by
     rw[CM.ext_same]at z;cases z;exact⟨g.low.size,rfl,s,Wl _ _,C,D⟩)
    refine⟨_,_,.pointer (some ⟨w.heap.size,0,none⟩),F,E,by simpa using VR.ptr (i:=0) (CM.ext_same H I.next 0 ⟨w.heap.size,0,0,0⟩),.inl ?_⟩;simp only[Instr.range,Sem.run_bind,Nv hu,Sem.run_pure,Result.andThen_ok,run_newObj];rfl
  ·exact trivial
 ·exact Ns A _
def zra(Z:Program)(x:Operand)(j:Bool)(ty:TypeId):Ng Z (ye x j) (λρ=>do pure (.value (←Instr.next (ρ x) j ty))):=by
 unfold ye;split
 ·rename_i hs;subst hs;refine Rn λw0 gg gj w ρ a C T=>?_
  split
  ·rename_i o;split
   ·rename_i len n g hg;generalize ρ x=px at T;cases T with
    | @ptr _ _ _ M D =>
     obtain⟨U,E,s,V,X,Y⟩:=C.obj o _ (C.fresh _ _ _ D) hg _ D;have O:=C.lt _ _ _ D;have A:(getObj M.b).run Z w=.ok (.stringIter s g) w:=Eh
     have F:∀y,(setObj M.b y).run Z w=.ok () { w with heap:=w.heap.setIfInBounds M.b y }:=by intro y;simp[setObj,Sem.run,V]
     have B:(⟨M.b,M.d+0,none⟩:Addr)=⟨M.b,0,none⟩:=by rw[E]
     rw[B];split
     ·rename_i G;have H:g<len:=by rw[Q2]at G;simpa using G
      have z:g<s.size:=Ep
      split
      ·rename_i P;have Q:s.data.toList[g]?=some s[g]:=by
        rw[H8 (by rw[X];exact H)];rfl
       have I:=zg0 Q;rw[Y]at I;have R:Nat.mod (Nat.div n (Nat.pow 256 g)) 256=s[g].toNat:=I;rw[R]at P ⊢;have S:s[g].toNat<128:=by rw[Q2]at P;simpa using P
       have K:=decode_ascii s g z S;refine⟨gg,{ w with heap:=w.heap.setIfInBounds M.b (.stringIter s (g+1)) },.tuple #[.bool true,goInt g,.int .i32 (s[g].toNat:Int)],CM.le_refl gg,
        C.putObj D U _ _ ?_ (λ_ _ _ _ e=>An),.tup (.cons (.bool _) (.cons (.int _ _) (.cons (.int _ _) .nil))),.inl ?_⟩
       ·intro L' L;rw[D]at L;cases L;exact⟨U,E,s,putObj_heap_same w _ O,X,Y⟩
       ·simp only[Instr.next,Sem.run_bind,A,Result.andThen_ok,Ih z,K,F,Sem.run_pure]
      ·exact trivial
     ·rename_i G;have H:¬g<len:=by rw[Q2]at G;simpa using G
      have z:¬g<s.size:=Ep
      refine O1 C (x:=.tuple #[.bool false]) (.tup (.cons (.bool _) .nil)) ?_;simp only[Instr.next,Sem.run_bind,A,Result.andThen_ok,Ig z,Sem.run_pure]
   ·exact trivial
  ·exact trivial
 ·exact Ns Z _
end
section
open Go.RowKit (Below)
def Rel.bump{w0:World}{C:CM}{H:Heap}{w w':World}(h:Rel w0 C H w){o len:Nat}{c:Tr AV}(ho:o<H.next)(gF:∃v L,C o v=some L)(hg:H.get o=some (.cells c len j false))(L':Loc)(c':Tr AV)(gB:Nat)
  (gD:Below w0.heap.size w0 w') (gG:w.heap.size≤w'.heap.size) (gH:L'.b<w'.heap.size) (hex:∀o' v L,C o' v=some L→L.b=L'.b→o'=o)
  (gI:∀o' v L,o'≠o→C o' v=some L→w'.heap[L.b]?=w.heap[L.b]?) (gK:O2 w0.heap.size (C.ext o (j+1) L') w' o (.cells c' gB (j+1) false)) :
  Rel w0 (C.ext o (j+1) L') (H.put o (.cells c' gB (j+1) false)) w'∧C.le (C.ext o (j+1) L'):=by
 have gC:C o (j+1)=none:=by
  cases e:C o (j+1) with
  |none=>rfl
  |some L=>have:=h.top _ _ _ _ _ ho hg _ _ e;omega
 have hle:C.le (C.ext o (j+1) L'):=CM.le_ext _ gC (.inl gF);refine⟨⟨by show max C.nx (o+1)=H.next;rw[h.nx];exact Nat.max_eq_left ho,gD,?_,?_,?_,?_,?_⟩,hle⟩
 ·intro o' v L hL;by_cases e:o'=o∧v=j+1
  ·rw[e.1];exact ho
  ·rw[CM.ext_ne _ _ e]at hL;exact h.fresh _ _ _ hL
 ·intro o' v L hL;by_cases e:o'=o∧v=j+1
  ·obtain⟨rfl,rfl⟩:=e;rw[CM.ext_same]at hL;cases hL;exact gH
  ·rw[CM.ext_ne _ _ e]at hL;exact Ix (h.lt _ _ _ hL) gG
 ·intro o1 v1 L1 o2 v2 L2 h1 h2 hb hB;by_cases e1:o1=o∧v1=j+1<;>by_cases e2:o2=o∧v2=j+1
  ·rw[e1.1,e2.1]
  ·obtain⟨rfl,rfl⟩:=e1;rw[CM.ext_same]at h1;cases h1;rw[CM.ext_ne _ _ e2]at h2;exact (hex _ _ _ h2 hb.symm).symm
  ·obtain⟨rfl,rfl⟩:=e2;rw[CM.ext_same]at h2;cases h2;rw[CM.ext_ne _ _ e1]at h1;exact hex _ _ _ h1 hb
  ·rw[CM.ext_ne _ _ e1]at h1;rw[CM.ext_ne _ _ e2]at h2;exact h.excl _ _ _ _ _ _ h1 h2 hb hB
 ·intro o' ob gj gg;by_cases e:o'=o
  ·subst e;rw[Heap.get_put_same]at gg;cases gg;exact gK
  ·have gE:o'<H.next:=gj;rw[Heap.get_put_ne H _ e]at gg;exact (h.obj _ _ gj gg).frame hle (λv L hL=>by rwa [CM.ext_ne _ _ (λq=>e q.1)]at hL) (λv L hL=>gI _ _ _ e hL)
 ·intro o' c1 gL gM gO gj gg v L hL;by_cases e:o'=o
  ·subst e;rw[Heap.get_put_same]at gg;cases gg;by_cases e2:v=j+1
   ·omega
   ·rw[CM.ext_ne _ _ J]at hL;have:=h.top _ _ _ _ _ ho hg _ _ hL;omega
  ·have gE:o'<H.next:=gj;rw[Heap.get_put_ne H _ e]at gg;rw[CM.ext_ne _ _ (λq=>e q.1)]at hL;exact h.top _ _ _ _ _ gj gg _ _ hL
structure AppX (P:Program) (w:World) (elem:TypeId) (size:Nat) (xt:TypeId) (x:Value) (n:Nat) (news:Array Value):Prop where
 und:∃d,P.underlying xt=some d∧((d=.string∨∃e,d=.slice e)∧(Builtin.lenOf x).run P w=.ok n w∧(∀w',w'.heap=w.heap→(Builtin.firstCells size n x).run P w'=.ok news w')
  ∨ (∃k,d=.int k)∧x=.int .i64 (Int.ofNat n)∧n≤1048576∧0<size∧∃zv,(∀w',(zeroValue elem).run P w'=.ok zv w')∧(∃i,P.info? elem=some i∧i.bytes≤65536)∧news=Builtin.zeroCells zv.cells n∧zv.cells.size=size)
def zct(g:Array Value):Builtin.zeroCells g 0=#[]:=by simp[Builtin.zeroCells]
def vo{w w':World}{st elem ty:TypeId}{n len cap:Nat}{base:Option Addr}{x:Value}(hu:z.underlying st=some (.slice elem))(H:Oi z elem=some g)
  (K:AppX z w elem g R x n v8) (B:len+n≤cap)
  (j:match base with
   |none=>w'=w
   |some a=>(storeCells (a.add (len*g)) v8.toList).run z w=.ok () w') :
  (Builtin.append_ #[st,R] ty #[.slice base len cap,x]).run z w=.ok (.slice base (len+n) cap) w':=by
 obtain⟨d,hd,A⟩:=K.und;unfold Builtin.append_;rcases A with ⟨D,C,L⟩|⟨⟨k,rfl⟩,rfl,M,I,V,O,⟨i,hi,E⟩,rfl,P⟩
 ·rcases D with rfl|⟨e,rfl⟩
  all_goals
   simp only[Ji,Iq,Is,Sem.run_bind,Nv hu,Nv hd,Rg H,Result.andThen_ok,Sem.run_pure,Km,Mp,C,Sem.run_ite,Ih B,L8,Kw,L w rfl];cases base with
   |none=>subst j;rfl
   |some a=>simp only[Sem.run_bind,j,Result.andThen_ok,Sem.run_pure]
 ·have Q:IntKind.i64.wrap (Int.ofNat n)=Int.ofNat n:=Ao
  have S:¬(Int.ofNat n<0):=N
  have T:¬(Int.ofNat n*(i.bytes:Int)>2^48):=by
   have:(Int.ofNat n*(i.bytes:Int))=((n*i.bytes:Nat):Int):=N
   rw[this];have:n*i.bytes≤1048576*65536:=K4 M E;omega
  simp only[Ji,Iq,Is,Sem.run_bind,Nv hu,Nv hd,Rg H,Result.andThen_ok,Sem.run_pure,Kw,asInt,asIntOf,Q,Sem.run_ite,Ig S,bi hi,Ig T,Bool.not_true,Km,Mp];have U:(Int.ofNat n).toNat=n:=rfl;rw[U,Ih B];by_cases F:n*g=0
  ·have G:n=0:=by
    rcases Nat.mul_eq_zero.1 F with h|h
    ·exact h
    ·omega
   subst G;rw[zct]at j;rw[Ih F];simp only[Result.andThen_ok];cases base with
   |none=>subst j;rfl
   |some a=>simp only[Sem.run_bind,j,Result.andThen_ok,Sem.run_pure]
  ·rw[Ig F];simp only[O,Result.andThen_ok];cases base with
   |none=>subst j;rfl
   |some a=>simp only[Sem.run_bind,j,Result.andThen_ok,Sem.run_pure]
def z3v{P:Program}{w:World}{st elem ty:TypeId}{i:TypeInfo}{n len cap:Nat}{base:Option Addr}{x zv:Value}{olds:Array Value}(hu:P.underlying st=some (.slice elem))(hi:P.info? elem=some i)
  (U:AppX P w elem i.size R x n v8) (I:cap<len+n) (F:i.bytes≤65536) (D:len+n≤2000000000) (K:∀w',(zeroValue elem).run P w'=.ok zv w')
  (z:(Builtin.firstCells i.size len (.slice base len cap)).run P w.drew=.ok olds w.drew) :
  (Builtin.append_ #[st,R] ty #[.slice base len cap,x]).run P w =
   .ok (.slice (some ⟨w.heap.size,0,none⟩) (len+n) (grownCap w (len+n) cap elem)) (w.drew.alloc (.cells (olds++v8++Builtin.zeroCells zv.cells (grownCap w (len+n) cap elem-(len+n))) elem)):=by
 have S:Oi P elem=some i.size:=Fk
 obtain⟨d,hd,E⟩:=U.und;have A:¬(len+n≤cap):=J
 have B:¬(Builtin.nextslicecap (len+n) cap*i.bytes>2^48):=by
  have h1:(len+n)*i.bytes≤2000000000*65536:=K4 D F;have:=growslice_fits (bytes:=i.bytes) I J;omega
 have C:¬(((len+n:Nat):Int)>IntKind.i64.max):=by
  simp only[IntKind.max,IntKind.signed,IntKind.bits,Kw];omega
 have g:(Question.appendCap (len+n) cap elem).forced=false:=rfl;unfold Builtin.append_;rcases E with ⟨L,G,V⟩|⟨⟨k,rfl⟩,rfl,X,T,M,H,⟨gg,hj,_⟩,rfl,Y⟩
 ·have j:(Builtin.firstCells i.size len (.slice base len cap)).run P { w with drawn:=w.drawn+1 }=.ok olds { w with drawn:=w.drawn+1 }:=z;rcases L with rfl|⟨e,rfl⟩
  all_goals
   simp only[Ji,Iq,Is,Sem.run_bind,Nv hu,Nv hd,Rg S,Result.andThen_ok,Sem.run_pure,Km,Mp,G,Sem.run_ite,Ig A,bi hi,C,false_and,Ig B,run_choose,g,run_askRoom];simp only[j,Result.andThen_ok,L8,Kw,V { w with drawn:=w.drawn+1 } rfl,K,newRow,Sem.run_bind,run_newObj,Sem.run_pure];rfl
 ·obtain rfl:M=zv:=by have a:=H w;rw[K w]at a;cases a;rfl
  have Z:IntKind.i64.wrap (Int.ofNat n)=Int.ofNat n:=Ao
  have e2:¬(Int.ofNat n<0):=N
  have e3:¬(Int.ofNat n*(i.bytes:Int)>2^48):=by
   have:(Int.ofNat n*(i.bytes:Int))=((n*i.bytes:Nat):Int):=N
   rw[this];have:n*i.bytes≤1048576*65536:=K4 X F;omega
  simp only[Ji,Iq,Is,Sem.run_bind,Nv hu,Nv hd,Rg S,Result.andThen_ok,Sem.run_pure,Kw,asInt,asIntOf,Z,Sem.run_ite,Ig e2,bi hi,Ig e3,Bool.not_true,Km,Mp];have e4:(Int.ofNat n).toNat=n:=rfl;rw[e4,Ig A];simp only[C,false_and,Mp,Result.andThen_ok,Ig B,run_choose,g,Km,run_askRoom];have j:(Builtin.firstCells i.size len (.slice base len cap)).run P { w with drawn:=w.drawn+1 }=.ok olds { w with drawn:=w.drawn+1 }:=z;simp only[j,Result.andThen_ok];by_cases O:n*i.size=0
  ·have Q:n=0:=by
    rcases Nat.mul_eq_zero.1 O with h|h
    ·exact h
    ·omega
   subst Q;rw[Ih O];simp only[Sem.run_pure,Result.andThen_ok,zct,K,newRow,Sem.run_bind,run_newObj];rfl
  ·rw[Ig O];simp only[Sem.run_bind,H,Sem.run_pure,Result.andThen_ok,newRow,run_newObj];rfl
def zdc{P:Program}{t:TypeId}{l:List AV}(h:Rc P t=some l):∃v i,(∀w',(zeroValue t).run P w'=.ok v w')∧Sa v.cells.toList=some l∧P.info? t=some i∧l.length=i.size:=by
 unfold Rc at h;cases hi:P.info? t with
 |none=>simp[hi]at h
 |some i =>
  simp only[hi]at h;cases g:i.zero with
  |none=>simp[g]at h
  |some v =>
   simp only[g]at h;cases j:Sa v.cells.toList with
   |none=>simp[j]at h
   |some r =>
    simp only[j]at h;split at h
    ·cases h;rename_i z;exact⟨v,i,λw'=>Ec,j,rfl,z⟩
    ·cases h
def z8r{l r:List Value}{n:Nat}(h:l.length=n):(l++r).take n=l:=by rw[←h];simp
def zw8{C:CM}{w:World}(G:Rel Q C B w){elem:TypeId}{i:TypeInfo}{n:Nat}{l:List AV}{cs:Array Value}{cap:Nat}(g:n≤cap)
  (P:l.length=n*i.size) (H:cs.size=cap*i.size) (I:VRs C l (cs.toList.take l.length)) (K:∀a∈l,a.one=true) {F:Sem Next}
  (j:F.run z w=.ok (.value (.slice (some ⟨w.heap.size,0,none⟩) n cap)) (w.drew.alloc (.cells cs elem))):Qj z Q C w F (Wj B n i.size l):=by
 unfold Wj;cases L:newObj B l with
 |none=>exact trivial
 |some r =>
  obtain⟨o,R⟩:=r;have hm:n*i.size≤cap*i.size:=Im _ g;obtain⟨M,A,D,E⟩:=G.drew.newRow L elem (0,0) (vs:=cs) J I K N;refine⟨M,_,_,A,D,?_,.inl j⟩;have:=VR.sl (i:=0) (len:=n) (esz:=i.size) (room:=none) (cap:=cap) E Am Am g (λr O=>by cases O) (λ_=>Am);simpa using this
def znb{P:Program}{C:CM}{w:World}(H:Rel Q C B w){st elem ty:TypeId}{i:TypeInfo}(hu:P.underlying st=some (.slice elem))(hi:P.info? elem=some i)(gT:0<i.size)
  (gG:i.bytes≤65536) (hz:Rc P elem=some K) {s:AV} {x:Value} (hs:VR C s v7) {n:Nat} {j:List AV} {news:Array Value} (Z:AppX P w elem i.size R x n news) (hn:n≤1048576)
  (E:VRs C j news.toList) (I:∀a∈j,a.one=true) (gB:j.length=n*i.size) :
  Qj P Q C w (do pure (.value (←Builtin.append_ #[st,R] ty #[v7,x]))) (Uf B i.size s n j):=by
 have S:Oi P elem=some i.size:=Fk
 obtain⟨zv,gS,gH,jD,gU,jU⟩:=zdc hz;rw[hi]at gU;cases gU;have gI:zv.cells.size=i.size:=by
  have:=(Vt (C:=C) jD).1.length;simp at this;omega
 have M:news.size=n*i.size:=by have:=E.length;simp at this;omega
 unfold Uf;split
 ·rename_i h0;have gV:n=0:=Ic h0;subst gV;have gX:news=#[]:=Kn J;subst gX;split
  ·cases hs;have z:=vo (ty:=ty) (base:=none) (len:=0) (cap:=0) (w':=w) hu S Z J rfl;exact O1 H .nilSl Bh
  ·cases hs with
   | @emp a cap =>
    have z:=vo (ty:=ty) (base:=some a) (len:=0) (cap:=cap) (w':=w) hu S Z J rfl;exact O1 H (x:=.slice (some a) 0 cap) .emp Bh
  ·rename_i o v k len gY gC;have jE:=hs;cases hs with
   | @sl _ _ _ _ _ _ L cap O q1 q2 q3 =>
    have z:=vo (ty:=ty) (base:=some ⟨L.b,L.d+k,none⟩) (len:=len) (cap:=cap) (w':=w) hu S Z J rfl;exact O1 H jE (by simp only[Sem.run_bind,z,Result.andThen_ok,Sem.run_pure];rfl)
  ·exact trivial
 ·rename_i h0;have gV:n≠0:=λe=>by rw[e]at h0;cases h0
  split
  ·cases hs;have U:=grownCap_ge w (0+n) 0 elem;refine zw8 H (elem:=elem) (cap:=grownCap w (0+n) 0 elem) (cs:=#[]++news++Builtin.zeroCells zv.cells (grownCap w (0+n) 0 elem-(0+n))) J gB ?_ ?_ I ?_
   ·rw[Jn,Jn,size_zeroCells,gI,M];have:=pj i.size (show 0+n≤grownCap w (0+n) 0 elem from U);simp at this ⊢;omega
   ·rw[L0,L0,z8r Ab];simpa using E
   ·have:=z3v (ty:=ty) (base:=none) (len:=0) (cap:=0) (olds:=#[]) hu hi Z J gG J gH (by simp[Builtin.firstCells]);simp only[Sem.run_bind,this,Result.andThen_ok,Sem.run_pure,I7]
  ·rename_i o v k len gY gC;split
   ·exact trivial
   ·rename_i he;rw[H7]at he;have gD:len≤M8:=Ik he.2;have jF:gY=i.size:=Ic he.1;subst jF;cases hs with
    | @sl _ _ _ _ _ _ L cap O q1 q2 q3 q4 q5 =>
     have V:(⟨L.b,L.d+k,none⟩:Addr).add (len*i.size)=⟨L.b,L.d+(k+len*i.size),none⟩:=df _ _ _ _;have gZ:(len+n)*i.size=len*i.size+n*i.size:=I2 _ _ _;have gE:∀G,Pg B o v k (len*i.size)=some G→∃A:Array Value,(Builtin.firstCells i.size len (.slice (some ⟨L.b,L.d+k,none⟩) len cap)).run P w.drew=.ok A w.drew∧VRs C G A.toList∧(∀a∈G,a.one=true)∧G.length=len*i.size:=by
      intro G z;obtain⟨vs,p1,X,p3,p4,_,_⟩:=H.drew.read P z O;exact⟨vs.toArray,by simpa [Builtin.firstCells] using p1,by simpa using X,p3,p4⟩
     split
     ·rename_i r;obtain⟨g8,gK⟩:=q4 r rfl;subst g8;split
      ·rename_i T;have F:len+n≤cap:=Ik T;split
       ·rename_i H' hw;have gL:T7 B o v (k+len*i.size) j=some H':=hw;obtain⟨Y,p1,X⟩:=H.write P gL O E I;have jG:(len+n)*i.size≤cap*i.size:=Im _ F;refine⟨C,Y,.slice (some ⟨L.b,L.d+k,none⟩) (len+n) cap,CM.le_refl C,X,.sl O (J:k+(len+n)*i.size≤L.n) q2 F (λr z=>by cases z;exact⟨rfl,gK⟩) (λe=>An),.inl ?_⟩;simp only[Sem.run_bind,vo (w':=Y) (base:=some ⟨L.b,L.d+k,none⟩) hu S Z F (by dsimp only;rw[V];exact p1),Result.andThen_ok,Sem.run_pure]
       ·exact trivial
      ·rename_i T;have jH:cap<len+n:=by
        rcases K0 cap (len+n) with h|h
        ·exact h
        ·rw[show Nat.ble (Nat.add len n) cap=true from If h]at T;cases T
       split
       ·rename_i G z;obtain⟨A,p1,X,p3,p4⟩:=gE G z;have gg:A.size=len*i.size:=by have:=X.length;simp at this;omega
        have U:=grownCap_ge w (len+n) cap elem;refine zw8 H (elem:=elem) (cap:=grownCap w (len+n) cap elem) (cs:=A++news++Builtin.zeroCells zv.cells (grownCap w (len+n) cap elem-(len+n))) U ?_ ?_ ?_ ?_ ?_
        ·rw[Il,p4,gB];exact gZ.symm
        ·rw[Jn,Jn,size_zeroCells,gI,M,gg];have:=pj i.size U;omega
        ·rw[L0,L0,z8r Ab];exact X.append E
        ·intro a ha;rcases Iy.1 ha with h|h
         ·exact p3 a h
         ·exact I a h
        ·have:=z3v (ty:=ty) (base:=some ⟨L.b,L.d+k,none⟩) hu hi Z jH gG (by unfold M8 at gD;omega) gH p1;simp only[Sem.run_bind,this,Result.andThen_ok,Sem.run_pure]
       ·exact trivial
     ·have gM:=q5 rfl;split
      ·rename_i c g jI U;split
       ·exact trivial
       ·rename_i hv;have jK:v=jI:=Ic hv;subst jK;have ho:=H.fresh _ _ _ O;have jL:=H.obj o _ ho U;obtain⟨p1,X,p3,vs,e,lo,g9,p4,p5,p6,p7⟩:=jL L O;split
        ·rename_i T;have F:k+(len+n)*i.size≤g:=Ik T;have gF:len+n≤cap:=by
          have:(len+n)*i.size≤cap*i.size:=J
          exact Mq this gT
         split
         ·rename_i H' hw;have gL:T7 B o v (k+len*i.size) j=some H':=hw;obtain⟨Y,r1,r2⟩:=H.write P gL O E I;refine⟨C,Y,.slice (some ⟨L.b,L.d+k,none⟩) (len+n) cap,CM.le_refl C,r2,.sl O (J:k+(len+n)*i.size≤L.n) q2 gF (λr z=>by cases z) (λ_=>gM),.inl ?_⟩;simp only[Sem.run_bind,vo (w':=Y) (base:=some ⟨L.b,L.d+k,none⟩) hu S Z gF (by dsimp only;rw[V];exact r1),Result.andThen_ok,Sem.run_pure]
         ·exact trivial
        ·rename_i jS;split
         ·exact trivial
         ·rename_i hk;have jM:k=0:=Ic hk;subst jM;split
          ·exact trivial
          ·rename_i jg;have gO:len*i.size=g:=Ic jg;by_cases hc:len+n≤cap
           ·
            have jG:(len+n)*i.size≤cap*i.size:=Im _ hc;obtain⟨Y,jO,r1,r2,r3,r4,r5,r6,r7,r8,r9⟩:=z70 P ⟨L.b,L.d+(0+len*i.size),none⟩ news.toList 0 w vs e lo g9 rfl p4 (E.one I) Ab
             (λgS hj gj=>by simp at hj gj;exact p6 gS J J)
            obtain⟨gQ,F⟩:=H.bump ho ⟨_,_,O⟩ U ⟨L.b,L.d,g+j.length,L.sz⟩ (O8 j g c) (g+j.length) (w':=Y)
             (H.low.trans ⟨r6,r7,r8,J,λgS hj=>r4 gS (by dsimp only;have:=X rfl;omega)⟩) J (show L.b<Y.heap.size by rw[r5];exact H.lt _ _ _ O)
             (λo' v' L' D hb=>(H.excl _ _ _ _ _ _ O D hb.symm (X rfl)).symm)
             (λo' v' L' jP D=>r4 _ (λe'=>jP (H.excl _ _ _ _ _ _ O D e'.symm (X rfl)).symm))
             (by
              intro L' D;rw[CM.ext_same]at D;cases D;refine⟨rfl,λ_=>X rfl,Am,jO,e,lo,g9,r2,Am,p6,?_⟩;refine Wn.mono (CM.le_ext _ ?_ (.inl ⟨_,_,O⟩)) (p7.lay E I (Ie _) (Ie _) (.inr rfl) (λgS=>?_))
              ·cases e':C o (v+1) with
               |none=>rfl
               |some jQ=>have:=H.top _ _ _ _ _ ho U _ _ e';omega
              ·rw[r9 gS];have:L.d+(0+len*i.size)+0=L.d+g:=J
               simp only[this])
            refine⟨_,Y,.slice (some ⟨L.b,L.d+0,none⟩) (len+n) cap,F,gQ,?_,.inl ?_⟩
            ·exact VR.sl (L:=⟨L.b,L.d,g+j.length,L.sz⟩) (i:=0) (len:=len+n) (esz:=i.size) (room:=none) (cap:=cap) (CM.ext_same C o (v+1) ⟨L.b,L.d,g+j.length,L.sz⟩)
              Am Am hc (λr z=>by cases z) (λ_=>Am)
            ·simp only[Sem.run_bind,vo (w':=Y) (base:=some ⟨L.b,L.d+0,none⟩) hu S Z hc (by dsimp only;rw[V];exact r1),Result.andThen_ok,Sem.run_pure]
           ·
            have z:∃G,Pg B o v 0 (len*i.size)=some G:=by
             unfold Pg;rw[U];have hb:Nat.ble (Nat.add 0 (len*i.size)) g=true:=If (by show 0+len*i.size≤g;omega);simp only[I0,hb];have:∀m a,a+m≤g→∃l,Rb c a m=some l:=by
              intro m
              induction m with
              |zero=>intro a _;exact⟨[],rfl⟩
              |succ m ih =>
               intro a ha;obtain⟨x1,y1,_⟩:=p7 a J;obtain⟨l1,y2⟩:=ih (a+1) J;exact⟨x1::l1,by simp only[Rb,y1,y2]⟩
             exact this _ 0 J
            obtain⟨G,z⟩:=z;obtain⟨A,s1,s2,s3,s4⟩:=gE G z;have gg:A.size=len*i.size:=by have:=s2.length;simp at this;omega
            have jz:=grownCap_ge w (len+n) cap elem;have jA:=z3v (ty:=ty) (base:=some ⟨L.b,L.d+0,none⟩) hu hi Z J gG (by unfold M8 at gD;omega) gH s1;have jX:=pj i.size jz;have jB:(A++news++Builtin.zeroCells zv.cells (grownCap w (len+n) cap elem-(len+n))).size=grownCap w (len+n) cap elem*i.size:=by
             rw[Jn,Jn,size_zeroCells,gI,M,gg];omega
            obtain⟨gQ,F⟩:=H.bump ho ⟨_,_,O⟩ U ⟨w.heap.size,0,g+j.length,grownCap w (len+n) cap elem*i.size⟩ (O8 j g c) (g+j.length)
             (w':=w.drew.alloc (.cells (A++news++Builtin.zeroCells zv.cells (grownCap w (len+n) cap elem-(len+n))) elem))
             (H.low.drew.alloc H.low.size _) (by rw[World.size_alloc,World.size_drew];omega) (by rw[World.size_alloc,World.size_drew];dsimp only;omega)
             (λo' v' L' D hb=>by have:=H.lt _ _ _ D;dsimp only at hb;omega)
             (λo' v' L' _ D=>zb w.drew _ (H.lt _ _ _ D))
             (by
              intro L' D;rw[CM.ext_same]at D;cases D;refine⟨rfl,λ_=>H.low.size,Am,_,elem,0,0,Wl w.drew _,by rw[jB];exact Ie _,λ_ _ _=>J,?_⟩;have gR:C o (v+1)=none:=by
               cases e':C o (v+1) with
               |none=>rfl
               |some jQ=>have:=H.top _ _ _ _ _ ho U _ _ e';omega
              refine Wn.mono (CM.le_ext _ gR (.inl ⟨_,_,O⟩)) ?_;obtain⟨g1,g2⟩:=aj (show Rb c 0 (len*i.size)=some G by
               unfold Pg at z;rw[U]at z;dsimp only at z;split at z
               ·split at z
                ·exact z
                ·cases z
               ·cases z)
              intro gS hj;rw[get_ofList j g c gS,I7];by_cases gj:g≤gS∧gS<g+j.length
              ·rw[Ih gj];obtain⟨a,x1,y1,y2,y3⟩:=E.get' (i:=gS-g) J;refine⟨a,y1,I a (I8 y1),x1,?_,y3⟩;rw[Ju (by rw[Jn];omega),Mo J,gg,gO];simpa using y2
              ·rw[Ig gj];have jR:gS<len*i.size:=J
               have:=g2 gS jR;rw[I7]at this;obtain⟨a,x1,y1,y2,y3⟩:=s2.get' (i:=gS) J;rw[y1]at this;refine⟨a,this,s3 a (I8 y1),x1,?_,y3⟩;rw[Ju (by rw[Jn];omega),Ju J];simpa using y2)
            refine⟨_,_,.slice (some ⟨w.heap.size,0,none⟩) (len+n) (grownCap w (len+n) cap elem),F,gQ,?_,.inl ?_⟩
            ·have:=VR.sl (i:=0) (len:=len+n) (esz:=i.size) (room:=none) (cap:=grownCap w (len+n) cap elem) (CM.ext_same C o (v+1) ⟨w.heap.size,0,g+j.length,grownCap w (len+n) cap elem*i.size⟩)
              Am Am jz (λr z=>by cases z) (λ_=>Am)
             simpa using this
            ·simp only[Sem.run_bind,jA,Result.andThen_ok,Sem.run_pure]
      ·exact trivial
  ·exact trivial
end
section
open Go.RowKit (Below)
def zma{w:World}(h:C.heap=w.heap)(a:Addr):C.cell? a=w.cell? a:=by simp[World.cell?,h]
def zix{P:Program}{C:CM}{w:World}(R:Rel Q C B w){b:AV}{x:Value}(E:VR C b x){n:Nat}{l:List AV}(h:Xc B g b=some (n,l)) :
  ∃A:List Value,VRs C l A∧(∀a∈l,a.one=true)∧l.length=n*g∧(Builtin.lenOf x).run P w=.ok n w ∧
   ∀m,m≤n→∀z,z.heap=w.heap→(Builtin.firstCells g m x).run P z=.ok (A.take (m*g)).toArray z:=by
 unfold Xc at h;split at h
 ·cases h;cases E;exact⟨[],.nil,N,N,rfl,λm hm z _=>by simp[Builtin.firstCells]⟩
 ·cases h;cases E with
  | @emp a cap =>
   refine⟨[],.nil,N,N,rfl,λm hm z _=>?_⟩;have:m=0:=J
   subst this;simp only[Builtin.firstCells,Kq];rw[z81 P z a 0 [] rfl (λO I=>J)];rfl
 ·rename_i o v i len j K;split at h
  ·rename_i S;have G:j=g:=Ic S;subst G;split at h
   ·rename_i l' T;cases h;cases E with
    | @sl _ _ _ _ _ _ gg cap U =>
     obtain⟨A,_,F,V,L,_,X⟩:=R.read P T U;refine⟨A,F,V,L,rfl,λm hm z hw=>?_⟩;have Y:m*j≤n*j:=Im _ hm;have Z:A.length=n*j:=by have e1:=F.length;have e2:l.length=n*j:=L;omega
     simp only[Builtin.firstCells];refine z81 P z _ _ _ Ab (λO I=>?_);rw[df,zma hw,X O (show O<Nat.mul n j by show O<n*j;omega),I1 I]
   ·cases h
  ·cases h
 ·rename_i len n';split at h
  ·rename_i H;cases h;have D:g=1:=Ic H;subst D;cases E with
   | @str _ _ s h1 F =>
    subst h1 F;rw[unpack_pack];refine⟨s.data.toList.map λb=>Value.int .u8 (b.toNat:Int),?_,?_,N,rfl,λm hm z _=>?_⟩
    ·generalize s.data.toList=q
     induction q with
     |nil=>exact .nil
     |cons b q ih=>exact .cons (.int _ _) ih
    ·intro a M;simp only[Lz]at M;obtain⟨b,_,rfl⟩:=M;rfl
    ·simp only[Builtin.firstCells,Sem.run_pure]
     congr 1
     apply Mb.1;rw[Jz,Lib.extract_data];simp
  ·cases h
 ·cases h
def Ng.congr{P:Program}{f:OpF}{nx C:(Operand→Value)→Sem Next}(h:∀ρ,nx ρ=C ρ)(s:Ng P f nx):Ng P f C:=λw0 gg H w E ρ hR hρ=>by rw[←h ρ];exact s w0 gg H w E ρ hR hρ
def Vu{a:Array v9}{x y:v9}(h:a.toList=[x,y]):a=#[x,y]:=Mb.1 h
def Vs{a:Array v9}{x:v9}(h:a.toList=[x]):a=#[x]:=Mb.1 h
def zlu(P:Program)(ts:Array TypeId)(D:Array Operand)(R:TypeId):Ng P (wx P ts D) (λG=>do pure (.value (←Builtin.append_ ts R (D.map G)))):=by
 unfold wx;split
 ·rename_i st S s x T E;have U:=Vu T;have F:=Vu E;subst U F;refine Ng.congr (nx:=λG=>do pure (.value (←Builtin.append_ #[st,S] R #[G s,G x]))) (λG=>N) ?_;have H:∀g,P.underlying st=some (.slice g)→∀d,P.underlying S=some d→(d=.string∨∃e,d=.slice e)→Ng P (jt P g s x) (λG=>do pure (.value (←Builtin.append_ #[st,S] R #[G s,G x]))):=by
   intro g hu d hd V;unfold jt;split
   ·rename_i i gE hi L;split
    ·rename_i X;obtain⟨j,z⟩:=X;refine We λw0 C gF w G a b M Y O=>?_
     split
     ·rename_i n l ht;split
      ·rename_i Z;have A:n≤1048576:=Ik Z;obtain⟨vs,h1,h2,h3,h4,h5⟩:=zix (P:=P) M O ht;have gD:vs.length=n*i.size:=by have:=h1.length;omega
       refine znb M hu hi j z L Y (news:=vs.toArray) ⟨d,hd,.inl ⟨V,h4,λw' hw=>?_⟩⟩ A (by simpa using h1) h2 h3;rw[h5 n (Ie _) w' hw,Io J]
      ·exact trivial
     ·exact trivial
    ·exact Ns P _
   ·exact Ns P _
  split
  ·rename_i g k hu I;unfold zja;split
   ·rename_i i gE hi L;split
    ·rename_i X;obtain⟨j,z⟩:=X;refine We λw0 C gF w G a b M Y O=>?_
     split
     ·rename_i n;split
      ·rename_i Z;have A:n≤1048576:=Ik Z;obtain⟨Q,gG,gg,gj,K,gB⟩:=zdc L;rw[hi]at K;cases K;obtain⟨k1,k2⟩:=Vt (C:=C) gj;have gC:Q.cells.size=i.size:=by have:=k1.length;simp at this;omega
       have B:VRs C (Ry gE n) (Builtin.zeroCells Q.cells n).toList:=by
        unfold Builtin.zeroCells;rw[u9];exact ta k1 n
       generalize G x=px at O;cases O;exact znb M hu hi j z L Y (news:=Builtin.zeroCells Q.cells n) ⟨_,I,.inr ⟨⟨_,rfl⟩,rfl,A,j,Q,gg,⟨i,hi,z⟩,rfl,gC⟩⟩ A B (tk k2 n) (by rw[z56,gB])
      ·exact trivial
     ·exact trivial
    ·exact Ns P _
   ·exact Ns P _
  ·rename_i g e hu I;exact H g hu _ I (.inr ⟨e,rfl⟩)
  ·rename_i g hu I;exact H g hu _ I (.inl rfl)
  ·exact Ns P _
 ·exact Ns P _
def zrp(P:Program)(R:Array TypeId)(g:Array Operand)(S:TypeId):Ng P (ze P R g) (λE=>do pure (.value (←Builtin.copy_ R S (g.map E)))):=by
 unfold ze;split
 ·rename_i st xt s x G A;have H:=Vu G;have B:=Vu A;subst H B;refine Ng.congr (nx:=λE=>do pure (.value (←Builtin.copy_ #[st,xt] S #[E s,E x]))) (λE=>N) ?_;split
  ·rename_i T hu;split
   ·exact Ns P _
   ·rename_i j I;split
    ·rename_i U;refine We λw0 gj gC w E a b F z hb=>?_
     split
     ·rename_i n l ht;obtain⟨V,X,h2,h3,K,L⟩:=zix (P:=P) F hb ht;have gg:V.length=n*j:=by have:=X.length;omega
      split
      ·generalize E s=Y at z;cases z;refine O1 F (x:=.int .i64 0) (.int _ _) ?_;have C:=L 0 (K8 _) w rfl;have M:Nat.min n 0=0:=Nat.min_zero n;unfold Builtin.copy_;simp only[Ji,Iq,Is,Sem.run_bind,Nv hu,Result.andThen_ok,K,Rg I,M,C,Sem.run_pure];rfl
      ·generalize E s=Y at z;cases z with
       | @emp ad cap =>
        refine O1 F (x:=.int .i64 0) (.int _ _) ?_;have C:=L 0 (K8 _) w rfl;have M:Nat.min n 0=0:=Nat.min_zero n;unfold Builtin.copy_;simp only[Ji,Iq,Is,Sem.run_bind,Nv hu,Result.andThen_ok,K,Rg I,M,C,Sem.run_pure];simp[storeCells,goInt]
      ·rename_i o v i len D Z;split
       ·rename_i he;have O:D=j:=Ic he;subst O;split
        ·rename_i H' hw;generalize E s=Y at z;cases z with
         | @sl _ _ _ _ _ _ gB cap hL q1 q2 q3 =>
          have hm:Pb n len=Nat.min n len:=zg7 n len;have C:=L (Nat.min n len) (Nat.min_le_left _ _) w rfl;obtain⟨w',r1,r2⟩:=F.write P hw hL (X.take _) (λa z=>h2 a (Lf z));rw[hm]at r1 ⊢;refine⟨gj,w',.int .i64 (Int.ofNat (Nat.min n len)),CM.le_refl gj,r2,.int _ _,.inl ?_⟩;unfold Builtin.copy_;have Q:(storeCells ⟨gB.b,gB.d+i,none⟩ (V.take (Nat.min n len*D))).run P w=.ok () w':=r1;simp only[Ji,Iq,Is,Sem.run_bind,Nv hu,Result.andThen_ok,K,Rg I,C,Sem.run_pure,Q];rfl
        ·exact trivial
       ·exact trivial
      ·exact trivial
     ·exact trivial
    ·exact Ns P _
  ·exact Ns P _
 ·exact Ns P _
def zo1(D:Program)(T:Array TypeId)(g:Array Operand)(U:TypeId):Ng D (zm D T g) (λE=>do pure (.value (←Builtin.clear_ T U (g.map E)))):=by
 unfold zm;split
 ·rename_i st x F j;have G:=Vs F;have z:=Vs j;subst G z;refine Ng.congr (nx:=λE=>do pure (.value (←Builtin.clear_ #[st] U #[E x]))) (λE=>N) ?_;split
  ·rename_i V hu;split
   ·rename_i B gE hs hz;split
    ·rename_i X;refine Rn λw0 Y gF w E a H A=>?_
     split
     ·generalize E x=Z at A;cases A;refine O1 H (x:=.tuple #[]) (.tup .nil) ?_;simp[Builtin.clear_,Nv hu]
     ·generalize E x=Z at A;cases A with
      | @emp ad cap =>
       refine O1 H (x:=.tuple #[]) (.tup .nil) ?_;simp[Builtin.clear_,Nv hu]
     ·rename_i o v i len I gg;split
      ·rename_i he;have K:I=B:=Ic he;subst K;split
       ·rename_i H' hw;generalize E x=Z at A;cases A with
        | @sl _ _ _ _ _ _ gD cap hL q1 q2 q3 =>
         obtain⟨L,gG,M,O,gB,gC⟩:=zdc hz;obtain⟨k1,k2⟩:=Vt (C:=Y) O;obtain⟨P,Q,r2⟩:=H.write D hw hL (ta k1 len) (tk k2 len);by_cases R:len=0
         ·subst R;have:P=w:=by
           have:(storeCells ⟨gD.b,gD.d+i,none⟩ (Rr L.cells.toList 0)).run D w=.ok () w:=rfl;rw[this]at Q;cases Q;rfl
          subst this;exact⟨Y,P,.tuple #[],CM.le_refl Y,r2,.tup .nil,.inl (by simp[Builtin.clear_,Nv hu])⟩
         ·refine⟨Y,P,.tuple #[],CM.le_refl Y,r2,.tup .nil,.inl ?_⟩;unfold Builtin.clear_;have S:(Builtin.zeroCells L.cells len).toList=Rr L.cells.toList len:=by unfold Builtin.zeroCells;exact u9 _ _
          obtain⟨gj,rfl⟩:∃k,len=k+1:=⟨len-1,J⟩;simp only[Ji,Iq,Sem.run_bind,Nv hu,Result.andThen_ok,M,Sem.run_pure,S,Q]
       ·exact trivial
      ·exact trivial
     ·exact trivial
    ·exact Ns D _
   ·exact Ns D _
  ·exact Ns D _
 ·exact Ns D _
def zuj(I:Program)(t K:TypeId)(x:Operand):Ng I (Tg I t x) (λz=>do pure (.value (←Builtin.len_ #[t] K #[z x]))):=by
 unfold Tg;split
 ·rename_i hu;refine Rn λE L M w z a j g=>?_
  split
  ·generalize z x=A at g;cases g with
   | @str _ _ s O P =>
    subst O P;exact O1 j (x:=.int .i64 (Int.ofNat s.size)) (.int _ _) Bk
  ·exact trivial
 ·rename_i e hu;refine Rn λE L M w z a j g=>?_
  split
  ·rename_i o v i len Q F;generalize z x=A at g;cases g with
   |sl=>exact O1 j (x:=.int .i64 (Int.ofNat len)) (.int _ _) Bk
  ·generalize z x=A at g;cases g;exact O1 j (x:=.int .i64 0) (.int _ _) Bk
  ·generalize z x=A at g;cases g;exact O1 j (x:=.int .i64 0) (.int _ _) Bk
  ·exact trivial
 ·rename_i k e hu;refine Rn λE L M w z a j g=>?_
  split
  ·generalize z x=A at g;cases g;exact O1 j (x:=.int .i64 0) (.int _ _) Bk
  ·rename_i o;split
   ·rename_i G R S;generalize z x=A at g;cases g with
    | @map _ V H =>
     obtain⟨_,B,T,U⟩:=j.obj o _ (j.fresh _ _ _ H) S _ H;have C:G.length=B.size:=by have:=U.length;simpa using this
     have D:(getObj V.b).run I w=.ok (.map B R) w:=by simp[getObj,Sem.run,T]
     exact O1 j (x:=.int .i64 (Int.ofNat G.length)) (.int _ _) (by simp[Builtin.len_,Nv hu,D,goInt,C])
   ·exact trivial
  ·exact trivial
 ·rename_i n e hu;refine Rn λE L M w z a j g=>?_
  exact O1 j (x:=.int .i64 (Int.ofNat n)) (.int _ _) Bk
 ·exact Ns I _
def zum(A:Program)(t B:TypeId)(x:Operand):Ng A (Up A t x) (λz=>do pure (.value (←Builtin.cap_ #[t] B #[z x]))):=by
 unfold Up;split
 ·rename_i e hu;refine Rn λF G H w z a j g=>?_
  split
  ·generalize z x=C at g;cases g;exact O1 j (x:=.int .i64 0) (.int _ _) (by simp[Builtin.cap_,Nv hu,goInt])
  ·rename_i r;generalize z x=C at g;cases g with
   |sl _ _ _ _ D =>
    obtain⟨E,_⟩:=D r rfl;subst E;exact O1 j (.int .i64 _) (by simp[Builtin.cap_,Nv hu,goInt])
  ·exact trivial
 ·exact Ns A _
def zvs{P:Program}{w:World}{a b r:AV}(h:Uv L a b=some r){u v:Value}(hu:VR F a u)(j:VR F b v) :
  ∃A,(if L then Builtin.max2 u v else Builtin.min2 u v).run P w=.ok A w∧VR F r A:=by
 unfold Uv at h;split at h
 ·rename_i k x B y;split at h
  ·rename_i z;have:=ym z;subst this;cases hu;cases j;split at h
   ·split at h
    ·rename_i g;rw[ee]at g;cases h;refine⟨.int k y,?_,.int _ _⟩;have:y>x:=Cb
     simp[Builtin.max2,this]
    ·rename_i g;rw[ee]at g;cases h;refine⟨.int k x,?_,.int _ _⟩;have:¬y>x:=Cb
     simp[Builtin.max2,this]
   ·split at h
    ·rename_i g;rw[ee]at g;cases h;refine⟨.int k y,?_,.int _ _⟩;have:y<x:=Cb
     simp[Builtin.min2,this]
    ·rename_i g;rw[ee]at g;cases h;refine⟨.int k x,?_,.int _ _⟩;have:¬y<x:=Cb
     simp[Builtin.min2,this]
  ·cases h
 ·cases h
def zdy{P:Program}{w:World}{B:CM}{g:Bool}:∀{l:List AV} {a r:AV},Wa g a l=some r→∀{u:Value} {j:List Value},VR B a u→VRs B l j →
  ∃A,(j.foldlM (if g then Builtin.max2 else Builtin.min2) u).run P w=.ok A w∧VR B r A
 |[],a,r,h,u,[],hu,.nil=>by cases h;exact⟨u,N,hu⟩
 |b::l,a,r,h,u,v::j,hu,.cons e C=>by
  unfold Wa at h;split at h
  ·rename_i c D;obtain⟨A,E,F⟩:=zvs (P:=P) (w:=w) D hu e;obtain⟨G,H,I⟩:=zdy (P:=P) (w:=w) h F C;refine⟨G,?_,I⟩;have z:((if g then Builtin.max2 else Builtin.min2) u v).run P w=.ok A w:=by cases g<;>simpa using E
   simp only[List.foldlM_cons,Sem.run_bind,z,Result.andThen_ok,H]
  ·cases h
def zmi(P:Program)(A:Bool)(g:Array Operand)(C:Array TypeId)(D:TypeId) :
  Ng P (Sc A g.toList) (λB=>do pure (.value (←if A then Builtin.max_ C D (g.map B) else Builtin.min_ C D (g.map B)))):=by
 intro O T U w Q B F G;unfold Sc;dsimp only;cases H:(opds g.toList).run Q with
 |none=>exact trivial
 |some I =>
  cases I with
  |nil=>exact trivial
  |cons a l =>
   cases a with
   |int k n =>
    refine lc F λr K=>?_
    have E:=pi G H;have j:(g.map B).toList=g.toList.map B:=Jz ..;generalize R:g.toList.map B=V at E j;cases E with
    |cons e L =>
     obtain⟨S,z,M⟩:=zdy (P:=P) (w:=w) K e L;refine⟨S,?_,M⟩;cases A
     ·simp only[Km,Mp,Builtin.min_,j]at z ⊢;simp only[Sem.run_bind,z,Result.andThen_ok,Sem.run_pure]
     ·simp only[Kw,Builtin.max_,j]at z ⊢;simp only[Sem.run_bind,z,Result.andThen_ok,Sem.run_pure]
   |_=>exact trivial
def ze7{H:CM}{d:TypeDesc}{k:AV}{u:Value}(hu:VR H k u):∀{E j:List (AV×AV×Nat)} {g:List MapEntry} (i:Nat),xj d k E=some j→MR H E g →
  (Instr.findNow d u g i=some none∧MR H j g)∨(∃B y,Instr.findNow d u g i=some (some (B+i,y))∧B<g.length∧MR H j (g.eraseIdx B))
 |[],j,[],i,h,.nil=>by cases h;exact .inl ⟨rfl,.nil⟩
 |(L,M,b)::l,j,e::r,i,h,.cons z F G hm=>by
  unfold xj at h;split at h
  ·rename_i A;cases h;exact .inr ⟨0,e.val,by simp[Instr.findNow,(lz A hu z).1],N,by simpa using hm⟩
  ·rename_i A;split at h
   ·rename_i O I;cases h;rcases ze7 hu (i+1) I hm with ⟨C,D⟩|⟨B,y,C,D,K⟩
    ·exact .inl ⟨by simpa [Instr.findNow,(lz A hu z).1] using C,.cons z F G D⟩
    ·refine .inr ⟨B+1,y,?_,by simpa using D,.cons z F G K⟩;rw[show B+1+i=B+(i+1) from J];simpa [Instr.findNow,(lz A hu z).1] using C
   ·cases h
  ·cases h
def zmo(K:Program)(S:Array TypeId)(z:Array Operand)(T:TypeId):Ng K (xu K S z) (λL=>do pure (.value (←Builtin.delete_ S T (z.map L)))):=by
 unfold xu;split
 ·rename_i st xt s x M C;have O:=Vu M;have D:=Vu C;subst O D;refine Ng.congr (nx:=λL=>do pure (.value (←Builtin.delete_ #[st,xt] T #[L s,L x]))) (λL=>N) ?_;split
  ·rename_i gg e hu;split
   ·rename_i d hd;obtain⟨F,_⟩:=zcv hd;refine We λw0 Y gB w L a b G U hb=>?_
    split
    ·rename_i o;split
     ·rename_i es P hg;split
      ·rename_i gj hs;generalize L s=ps at U;cases U with
       | @map _ V E =>
        obtain⟨I,g,X,q2⟩:=G.obj o _ (G.fresh _ _ _ E) hg _ E;have H:=G.lt _ _ _ E;have A:(getObj V.b).run K w=.ok (.map g P) w:=by simp[getObj,Sem.run,X]
        have B:∀y,(setObj V.b y).run K w=.ok () { w with heap:=w.heap.setIfInBounds V.b y }:=by intro y;simp[setObj,Sem.run,X]
        rcases ze7 hb 0 hs q2 with ⟨Q,R⟩|⟨Z,y,Q,R,p3⟩
        ·refine⟨Y,{ w with heap:=w.heap.setIfInBounds V.b (.map g P) },.tuple #[],CM.le_refl Y,G.putObj E I _ _ ?_ (λ_ _ _ _ e=>An),.tup .nil,.inl ?_⟩
         ·intro L' j;rw[E]at j;cases j;exact⟨I,_,putObj_heap_same w _ H,R⟩
         ·unfold Builtin.delete_;simp only[Ji,Iq,Is,Sem.run_bind,Nv hu,Result.andThen_ok,A,kg hd,mg F Q,B,Sem.run_pure]
        ·refine⟨Y,{ w with heap:=w.heap.setIfInBounds V.b (.map (g.eraseIdxIfInBounds Z) P) },.tuple #[],CM.le_refl Y,G.putObj E I _ _ ?_ (λ_ _ _ _ e=>An),.tup .nil,.inl ?_⟩
         ·intro L' j;rw[E]at j;cases j;refine⟨I,_,putObj_heap_same w _ H,?_⟩;have hj:Z<g.size:=C7
          have:(g.eraseIdxIfInBounds Z).toList=g.toList.eraseIdx Z:=by
           simp[Array.eraseIdxIfInBounds,hj]
          rw[this];exact p3
         ·unfold Builtin.delete_;simp only[Ji,Iq,Is,Sem.run_bind,Nv hu,Result.andThen_ok,A,kg hd,mg F Q,La,B,Sem.run_pure]
      ·exact trivial
     ·exact trivial
    ·exact trivial
   ·exact Ns K _
  ·exact Ns K _
 ·exact Ns K _
end
section
open Go.RowKit (Below)
def z94{w:World}{f:Nat}(h:cq z f=true)(args:Array Value):(callFunc f args).run z w=.ok (.enter f args) w:=by
 unfold cq at h;cases g:z.funcs[f]? with
 |none=>rw[g]at h;cases h
 |some fn =>
  rw[g]at h;simp only[H7,bne_iff_ne,ne_eq]at h;obtain⟨B,A⟩:=h;have j:fn.body≠none:=by intro e;rw[e]at A;cases A
  simp[callFunc,g,B,j]
def ztu{w:World}{gv:Value}(H:VR F E gv){vs:Array Value}(I:VRs F K vs.toList){L:Sem Next}
  (g:∀fn first cap,gv=.func fn first cap→L.run z w=(invoke (.fn fn cap) (first++vs)).run z w):Qj z C F w L (bh z E K):=by
 unfold bh;split
 ·rename_i f first cap
  split
  ·rename_i O;cases H with
   | @fn _ P _ _ j A B D M =>
    cases B with
    |same =>
     refine⟨j.toList++vs.toList++A.toList,(D.append I).append M,.inl ⟨f,rfl,?_⟩⟩;rw[g _ _ _ rfl];have:(j++vs++A)=(j.toList++vs.toList++A.toList).toArray:=N
     rw[←this];exact z94 O _
  ·exact trivial
 ·rename_i l cap;cases H with
  | @fn _ P _ _ j A B D M =>
   cases B with
   |same _ h=>exact absurd rfl (h l)
   | @yield _ R Q =>
    have G:j=#[]:=by
     have:=D.length;exact Kn (by simpa using this.symm)
    subst G;refine⟨vs.toList,I,.inr ⟨l,R,rfl,Q,?_⟩⟩;rw[g _ _ _ rfl];simp[invoke]
 ·exact trivial
theorem zrc {fn : Func} (g : fn.name = "maps.clone") (j : fn.origin = "") : Extern.findNext fn = none ∧ Extern.find fn = some Extern.MapsClone.clone := by
 have z : Extern.allNextRows.lookup "maps.clone" = none := Aa
 have A : Extern.allNextRows.lookup "" = none := Aa
 have B : Extern.allGenericRows.lookup "maps.clone" = none := Aa
 have C : Extern.allTypedRows.lookup "maps.clone" = none := Aa
 have D : Extern.allRows.lookup "maps.clone" = some Extern.MapsClone.clone := Aa
 refine⟨?_,?_⟩
 ·unfold Extern.findNext;dsimp only;rw[g,j,z,A];rfl
 ·unfold Extern.find;dsimp only;rw[g,B,C,D];rfl
def zv8{P:Program}{w:World}{r:Nat}{z:Array MapEntry}(t:TypeId)(A:w.heap[r]?=some (.map z g)) :
  (Extern.MapsClone.clone #[.iface t (.map (some r))]).run P w=.ok (.iface t (.map (some w.heap.size))) (w.alloc (.map z g)):=by
 have e:Extern.MapsClone.clone #[.iface t (.map (some r))]=(getObj r >>= λo=>match o with
   |.map j g=>(_root_.Go.newObj (.map j g) >>= λn=>pure (.iface t (.map (some n))))
   | _ => stuck "maps.clone: a map expected") := rfl
 rw[e];simp[MapKept.run_getObj_map A,Result.andThen,go_sem]
def Zw{P:Program}{w:World}(g:Rel C F B w){f:Nat}(j:vj P f=true){vs:Array Value}(L:VRs F K vs.toList) :
  Qj P C F w (callFunc f vs) (zqg B K):=by
 unfold vj at j;split at j
 ·rename_i fn G;simp only[H7,L9]at j;obtain⟨⟨M,R⟩,S⟩:=j;obtain⟨T,U⟩:=zrc M R;have z:=run_callFunc_extern (P:=P) G (by rw[M];decide) S T U vs w;unfold zqg;split
  ·rename_i t o;split
   ·rename_i V O X
    ·generalize H:vs.toList=l at L;cases L with
     |cons I Y =>
      cases Y;cases I with
      |iface I =>
       cases I with
       | @map _ gg Q =>
        have A:vs=#[.iface t (.map (some gg.b))]:=Mb.1 H;obtain⟨q1,D,Z,q3⟩:=g.obj _ _ (g.fresh _ _ _ Q) X gg Q;obtain⟨p1,p2⟩:=g.push (.map V O) (.map D O) 0 0 (λL' E=>by
         rw[CM.ext_same]at E;cases E;exact⟨g.low.size,D,Wl _ _,q3.mono (CM.le_ext _ (g.next_none 0) (.inr (Lm g.nx)))⟩)
        refine⟨_,_,.iface t (.map (some w.heap.size)),p2,p1,.iface (.map (CM.ext_same _ _ _ _)),.inl ?_⟩;rw[z,A,zv8 t Z];rfl
   ·exact trivial
  ·exact trivial
 ·cases j
def zlq{w:World}{t:TypeId}{g:String}{f:Nat}(h:yk z t g=some f)(v:Value):(method (z.types.size+Made.depth) t v g).run z w=.ok (f,v) w:=by
 unfold yk at h;have hd:z.types.size+Made.depth=(z.types.size+99)+1:=rfl;rw[hd];cases hi:z.info? t with
 |none=>rw[hi]at h;cases h
 |some i =>
  rw[hi]at h;dsimp only at h;cases hm:i.methods.find? (·.name==g) with
  |none=>rw[hm]at h;cases h
  |some m =>
   rw[hm]at h;dsimp only at h;split at h
   ·rename_i C;have j:m.path=#[]:=Array.isEmpty_iff.1 C;unfold method;simp only[Sem.run_bind,bi hi,Result.andThen_ok,hm,j,follow,Sem.run_pure];split at h
    ·rename_i D e A hu;cases h;simp only[A,Sem.run_bind,receiverAt,Nv hu,Result.andThen_ok,Place.get,Sem.run_pure]
    ·cases h
    ·rename_i D d B A hu;cases h;simp only[A,Sem.run_bind,receiverAt,Nv hu,Result.andThen_ok];cases d<;>first|rfl|exact absurd hu (B _)
    ·cases h
   ·cases h
def zqt(z:Program)(c:Call)(o:Oper)(ho:o.op=.call c):Ng z (Zv z c) (λj=>execOp j o):=by
 have G:∀j,execOp j o=(do let d ←resolve j c o.type;invoke d.target d.args):=λj=>by simp[execOp,ho]
 refine Ng.congr (λj=>(G j).symm) ?_;unfold Zv;split
 ·rename_i b hb;have H:∀j,(do let d ←resolve j c o.type;invoke d.target d.args:Sem Next)=builtin b c.argTypes o.type (c.args.map fun | .const _=>true|_=>false) (c.args.map j):=by
   intro j;simp only[resolve,hb];rfl
  refine Ng.congr (λj=>(H j).symm) ?_;split
  ·split
   ·rename_i t x I K;have L:=Vs I;have M:=Vs K;exact Ng.congr (λj=>by rw[L,M];simp[builtin]) (zuj z t o.type x)
   ·exact Ns z _
  ·split
   ·rename_i t x I K;have L:=Vs I;have M:=Vs K;exact Ng.congr (λj=>by rw[L,M];simp[builtin]) (zum z t o.type x)
   ·exact Ns z _
  ·exact Ng.congr (λj=>Cv) (zmi z true c.args c.argTypes o.type)
  ·exact Ng.congr (λj=>Cv) (zmi z false c.args c.argTypes o.type)
  ·exact Ng.congr (λj=>Cv) (zlu z c.argTypes c.args o.type)
  ·exact Ng.congr (λj=>Cv) (zrp z c.argTypes c.args o.type)
  ·exact Ng.congr (λj=>Cv) (zo1 z c.argTypes c.args o.type)
  ·exact Ng.congr (λj=>Cv) (zmo z c.argTypes c.args o.type)
  ·exact Ns z _
 ·rename_i f Y;intro Z gB gC w gD j hR A;dsimp only;split
  ·rename_i gE hg;split
   ·rename_i l F;have C:Qj z Z gB w (do let d ←resolve j c o.type;invoke d.target d.args) (bh z gE l):=by
     refine ztu (A _ _ hg) (vs:=c.args.map j) (by rw[Jz];exact pi A F) (λfn first cap B=>?_);simp only[resolve,Y,B,Deferred.ofValue,Sem.run_bind,Sem.run_pure,Result.andThen_ok]
    unfold x8;split
    ·rename_i f';split
     ·rename_i O;have P:=Zw hR O (vs:=c.args.map j) (by rw[Jz];exact pi A F);have B:=A _ _ hg;generalize Q:j f=gv at B;cases B with
      | @fn _ g' _ _ l' r' R S T =>
       cases R with
       |same =>
        have U:l'=#[]:=Kn (by simpa using S.length.symm);have V:r'=#[]:=Kn (by simpa using T.length.symm);subst U V;have D:(do let d ←resolve j c o.type;invoke d.target d.args:Sem Next).run z w=(callFunc f' (c.args.map j)).run z w:=by
         simp only[resolve,Y,Q,Deferred.ofValue,Sem.run_bind,Sem.run_pure,Result.andThen_ok,invoke];simp
        unfold Qj at P ⊢;split at P
        ·exact trivial
        ·obtain⟨C',w',x,a1,a2,a3,a4⟩:=P;exact⟨C',w',x,a1,a2,a3,by rw[D];exact a4⟩
        ·rename_i t gg g;unfold zqg at g;split at g
         ·split at g<;>cases g
         ·cases g
     ·exact C
    ·exact C
   ·exact trivial
  ·exact trivial
 ·rename_i r gj hr;intro Z gB gC w gD j hR A;dsimp only;split
  ·rename_i t v B;split
   ·rename_i f hm;split
    ·rename_i l F;split
     ·rename_i hc;have E:=A _ _ B;generalize X:j r=pv at E;cases E with
      | @iface _ _ u hu =>
       refine⟨u::c.args.toList.map j,.cons hu (pi A F),.inl ⟨f,rfl,?_⟩⟩;have U:(#[Value.iface t u]++c.args.map j)[0]?=some (Value.iface t u):=by rw[Ju N];rfl
       have V:(#[Value.iface t u]++c.args.map j).extract 1 (#[Value.iface t u]++c.args.map j).size=c.args.map j:=N
       have e3:(#[u]++c.args.map j)=(u::c.args.toList.map j).toArray:=N
       simp only[resolve,hr,X,Sem.run_bind,Sem.run_pure,Result.andThen_ok,invoke,U,V,callMethod,run_program,zlq hm u,e3];exact z94 hc _
     ·exact trivial
    ·exact trivial
   ·exact trivial
  ·exact trivial
def Xd(P:Program)(o:Oper):Ng P (Nq P o.op) (λj=>execOp j o):=by
 generalize g:o.op=op;cases op with
 |move x=>exact Ng.congr (λj=>Ai) (zhx P x)
 |assign x=>exact Ng.congr (λj=>Ai) (zhx P x)
 |pick c a b=>exact Ng.congr (λj=>Ai) (zr4 P c a b)
 |alloc t=>exact Ng.congr (λj=>by simp only[execOp,g]) (zo8 P t)
 |box t x=>exact Ng.congr (λj=>Ai) (zsn P t x)
 |build t z=>exact Ng.congr (λj=>Ai) (zom P t z)
 |buildSlice t n z=>exact Ng.congr (λj=>Ai) (zeo P t n z)
 |load t a=>exact Ng.congr (λj=>Ai) (zrr P t a)
 |store t a x=>exact Ng.congr (λj=>Ai) (znt P t a x)
 |nilCheck x=>exact zhn P x o g
 |binOp op t x y A=>exact zvf P op t A x y o g
 |unOp op t x=>exact Wt P op t x o g
 |convert s d x=>exact Ng.congr (λj=>Ai) (zrx P s d x)
 |makeInterface t x=>exact Ng.congr (λj=>Ai) (zj9 P t x)
 |makeFunc f a b =>
  cases f with
  |yield l=>exact Ns P _
  |_=>exact Ng.congr (λj=>Ai) (zn0 P _ a b (λl e=>An))
 |makeMap t r=>exact Ng.congr (λj=>Ai) (zoj P t r)
 |makeSlice t l c=>exact Ng.congr (λj=>Ai) (zki P t l c)
 |slice t x a b c=>exact Ng.congr (λj=>Ai) (zny P t x a b c)
 |fieldAddr t x f=>exact Ng.congr (λj=>Ai) (zh9 P t x f)
 |field t x f=>exact Ng.congr (λj=>Ai) (zol P t x f)
 |indexAddr t x i=>exact Ng.congr (λj=>Ai) (zfl P t x i)
 |index t x i=>exact Ng.congr (λj=>Ai) (zo2 P t x i)
 |lookup t x i ok=>exact Ng.congr (λj=>Ai) (zna P t x i ok)
 |mapUpdate t m k x=>exact Ng.congr (λj=>Ai) (z98 P t m k x)
 |insert t m k x=>exact Ng.congr (λj=>Ai) (z98 P t m k x)
 |range t x=>exact Ng.congr (λj=>Ai) (zp1 P t x)
 |next B s=>exact Ng.congr (λj=>Ai) (zra P B s o.type)
 |typeAssert x t a ok=>exact Ng.congr (λj=>Ai) (zlp P x t a ok)
 |extract t i=>exact Ng.congr (λj=>Ai) (zje P t i)
 |call c=>exact zqt P c o g
 |_=>exact Ns P _
end
section
open Go.RowKit (Below)
def km(P:Program)(A:World)(E:CM)(w:World)(t:Tgt)(vs:List Value)(v:AV)(B:Heap):Prop :=
 match t with
 |.fn f=>∀cs,∃g w' j z,E.le g∧Rel A g B w'∧VR g v j∧Steps P (lone (Frame.enter P f vs.toArray .normal) cs w) (lone z cs w')∧z.fn=f∧z.leaving P w' (.returned j)
 |.yield l=>∀D,E l 0=some D→∀c cs,∃g w' j f C a b,E.le g∧Rel A g B w'∧VR g v j∧(Instr.yield D.b vs.toArray).run P w=.ok (.round D.b f C a b) w ∧
   Steps P (lone (Frame.round D.b f C a b .normal) (c::cs) w) (lone (c.finish j) cs w')
def Y6(P:Program)(c:Py):Prop :=
 ∀j B C w t g z v A,Rel j B C w→VRs B g z→c t g C=.ok v A→km P j B w t z v A
def zv2(P:Program):Y6 P noO:=λ_ _ _ _ _ _ _ _ _ _ _ h=>Ak
noncomputable def Oj(d:Option Tmp)(a:AV)(E:Tr AV):Tr AV:=match d with
 |none=>E
 |some d=>N8 a (M6 d) E
def zu{n:Nat}{d:Option Tmp}{p:PutF}(h:P7 n d=some p):(∀a E,p.run a E=Oj d a E)∧∀t,d=some t→t<n:=by
 unfold P7 at h;split at h
 ·cases h;exact⟨λ_ _=>rfl,λt e=>An⟩
 ·split at h
  ·rename_i hd;cases h;exact⟨λ_ _=>rfl,λt e=>by cases e;exact hd⟩
  ·cases h
def ER.put{n:Nat}{gj:CM}{E:Tr AV}{a:Act}(h:ER n gj E a.tmps){d:Option Tmp}(hd:∀t,d=some t→t<n){C:AV}{x:Value}(hv:VR gj C x):ER n gj (Oj d C E) (a.put d x).tmps:=by
 obtain⟨h1,h2,h3⟩:=h;cases d with
 |none=>exact⟨h1,h2,h3⟩
 |some d =>
  have gg:(d:Nat)<n:=hd d rfl;refine⟨by show (a.tmps.setIfInBounds d x).size=n;simpa using h1,h2,λt ht=>?_⟩;show zk gj (Mz (M6 t) (N8 C (M6 d) E)) ((a.tmps.setIfInBounds d x).getD t undef);rw[xx];by_cases e:t=d
  ·subst e;rw[Ih rfl];have:(a.tmps.setIfInBounds t x).getD t undef=x:=by
    rw[I6,Array.getElem?_setIfInBounds_self_of_lt (show t<a.tmps.size by rw[h1];exact gg)];rfl
   rw[this];exact hv
  ·rw[Ig e];have:(a.tmps.setIfInBounds d x).getD t undef=a.tmps.getD t undef:=by
    rw[I6,Array.getElem?_setIfInBounds_ne (λq=>e q.symm),←I6]
   rw[this];exact h3 t ht
def zfc{n:Nat}{E:Tr AV}(h:ER n F E v8)(ops:Array Oper)(o:Oper):(Rf ops o).run E=Region.wanted o (yielded ops v8):=by
 obtain⟨I,K,L⟩:=h;unfold Rf Region.wanted;cases O:o.guard with
 |none=>rfl
 |some M =>
  obtain⟨Q,A⟩:=M;dsimp only;unfold yielded;cases hd:(ops[Q]?).bind (·.dst) with
  |none=>rfl
  |some d =>
   dsimp only[Option.bind];split
   ·rename_i j;dsimp only;have g:=L d j;by_cases B:d<v8.size
    ·have z:v8[d]?=some v8[d]:=Je B;have D:v8.getD d undef=v8[d]:=by rw[I6,z];rfl
     rw[D]at g;rw[z];generalize v8[d]=v at g;cases C:Mz (M6 d) E with
     |none =>
      rw[C]at g;have:v=undef:=g;subst this;rfl
     |some G =>
      rw[C]at g;have H:VR F G v:=g;cases H with
      |bool b=>cases b<;>cases A<;>rfl
      |_=>rfl
    ·have z:v8[d]?=none:=Lq (Nat.le_of_not_lt B);have D:v8.getD d undef=undef:=by rw[I6,z];rfl
     rw[D]at g;rw[z];cases C:Mz (M6 d) E with
     |none=>rfl
     |some G =>
      rw[C]at g;have H:VR F G undef:=g;cases H;rfl
   ·rename_i j;have z:v8[d]?=none:=Lq (by rw[I];exact I5 K (Mm (Nat.lt_of_not_le j)));rw[z];rfl
section steps
variable {P : Program} {b : Frame} {a : Act} {k : List Item} {cs : List Frame} {w w' : World} {ops : Array Oper}
def zp8{i:Nat}{rest:List Nat}{o:Oper}(g:ops[i]?=some o)(v:Value):(b.atR a (.inRegion ops (i::rest)::k)).finish v=b.atR (a.put o.dst v) (.inRegion ops rest::k):=by
 rw[Frame.finish_atR,g];rfl
def zpr{i:Nat}{rest:List Nat}{o:Oper}{x:Value}(g:ops[i]?=some o)(hw:Region.wanted o (yielded ops a.tmps)=true)(hd:∀c,o.op≠.defer c)
  (j:(execOp a.eval o).run P w=.ok (.value x) w') :
  step P (lone (b.atR a (.inRegion ops (i::rest)::k)) cs w)=.next (lone (b.atR (a.put o.dst x) (.inRegion ops rest::k)) cs w'):=by
 refine step_lone_go ?_;rw[stepGR_op (b:=b) (k:=k) (cs:=cs) g hw,Oper.semAt_eq _ _ _ hd,←zp8 g];simp[stepG.apply,Sem.runT_eq,j]
def Ws{i:Nat}{rest:List Nat}{o:Oper}(g:ops[i]?=some o)(hw:Region.wanted o (yielded ops a.tmps)=true)(hd:∀c,o.op≠.defer c)
  (j:(execOp a.eval o).run P w=.ok .skip w') :
  step P (lone (b.atR a (.inRegion ops (i::rest)::k)) cs w)=.next (lone (b.atR (a.put o.dst undef) (.inRegion ops rest::k)) cs w'):=by
 refine step_lone_go ?_;rw[stepGR_op (b:=b) (k:=k) (cs:=cs) g hw,Oper.semAt_eq _ _ _ hd,←zp8 g];simp[stepG.apply,Sem.runT_eq,j]
def zr6{i:Nat}{rest:List Nat}{o:Oper}{f:Nat}(g:ops[i]?=some o)(hw:Region.wanted o (yielded ops a.tmps)=true)(hd:∀c,o.op≠.defer c)
  (j:(execOp a.eval o).run P w=.ok (.enter f v8) w') :
  step P (lone (b.atR a (.inRegion ops (i::rest)::k)) cs w)=.next (lone (Frame.enter P f v8 .normal) (b.atR a (.inRegion ops (i::rest)::k)::cs) w'):=by
 refine step_lone_go ?_;rw[stepGR_op (b:=b) (k:=k) (cs:=cs) g hw,Oper.semAt_eq _ _ _ hd];simp[stepG.apply,Sem.runT_eq,j,Frame.atR]
def W4{i:Nat}{rest:List Nat}{o:Oper}{l f:Nat}{x y:Code}(g:ops[i]?=some o)(hw:Region.wanted o (yielded ops a.tmps)=true)(hd:∀c,o.op≠.defer c)
  (j:(execOp a.eval o).run P w=.ok (.round l f v8 x y) w') :
  step P (lone (b.atR a (.inRegion ops (i::rest)::k)) cs w)=.next (lone (Frame.round l f v8 x y .normal) (b.atR a (.inRegion ops (i::rest)::k)::cs) w'):=by
 refine step_lone_go ?_;rw[stepGR_op (b:=b) (k:=k) (cs:=cs) g hw,Oper.semAt_eq _ _ _ hd];simp[stepG.apply,Sem.runT_eq,j]
end steps
def zfk{P:Program}{o:Oper}{E:Tr AV}{H:Heap}(h:(Nq P o.op).run E H≠.no):∀c,o.op≠.defer c:=by
 intro c e;rw[e]at h;exact h rfl
def zgo{P:Program}{c:Py}(hc:Y6 P c){n:Nat}{ops:Array Oper}{i:Nat}{o:Oper}(L:ops[i]?=some o){H:Heap}{w:World}{E:Tr AV}{a:Act}
  (Z:Rel C F H w) (hE:ER n F E a.tmps) (h:(P6 P n ops o).run c E H=.ok I B) (b:Frame) (rest:List Nat) (k:List Item) (cs:List Frame) :
  ∃G w' x av,F.le G∧Rel C G B w'∧VR G av x∧I=Oj o.dst av E∧(∀t,o.dst=some t→t<n) ∧
   Steps P (lone (b.atR a (.inRegion ops (i::rest)::k)) cs w) (lone (b.atR (a.put o.dst x) (.inRegion ops rest::k)) cs w'):=by
 unfold P6 at h;cases hp:P7 n o.dst with
 |none=>rw[hp]at h;cases h
 |some p =>
  rw[hp]at h;dsimp only at h;obtain⟨g,z⟩:=zu hp;have X:=zfc hE ops o;cases T:(Rf ops o).run E with
  |false =>
   rw[T]at h X;cases h;refine⟨F,w,undef,Qs,CM.le_refl F,Z,.tup .nil,g _ _,z,.one ?_⟩;have:=stepR_op_skip (P:=P) (b:=b) (a:=a) (k:=k) (cs:=cs) (w:=w) (ops:=ops) (i:=i) (rest:=rest) (by rw[L];simpa using X.symm);rw[this,L];rfl
  |true =>
   rw[T]at h X;dsimp only at h;have hw:Region.wanted o (yielded ops a.tmps)=true:=X.symm;have Y:=Xd P o C F H w E a.eval Z (tp hE);cases U:(Nq P o.op).run E H with
   |no=>rw[U]at h;cases h
   |val v H2 =>
    rw[U]at h Y;cases h;have A:=zfk (P:=P) (o:=o) (E:=E) (H:=H) (by rw[U];intro e;cases e);obtain⟨G,w',x,Q,R,S,K⟩:=Y;rcases K with K|⟨K,rfl⟩
    ·exact⟨G,w',x,v,Q,R,S,g _ _,z,.one (zpr L hw A K)⟩
    ·exact⟨G,w',undef,v,Q,R,S,g _ _,z,.one (Ws L hw A K)⟩
   |call t V =>
    rw[U]at h Y;dsimp only at h;have A:=zfk (P:=P) (o:=o) (E:=E) (H:=H) (by rw[U];intro e;cases e);cases M:c t V H with
    |no=>rw[M]at h;cases h
    |ok v H2 =>
     rw[M]at h;cases h;obtain⟨vs,hv,O⟩:=Y;have D:=hc _ _ _ _ _ _ _ _ _ Z hv M;rcases O with ⟨f,rfl,j⟩|⟨l,gg,rfl,hL,j⟩
     ·obtain⟨G,w',v',fr,Q,R,S,K,h5,h6⟩:=D (b.atR a (.inRegion ops (i::rest)::k)::cs);refine⟨G,w',v',v,Q,R,S,g _ _,z,.head (zr6 L hw A j) (Steps.trans K (.one ?_))⟩;rw[step_leave_returned h6,zp8 L]
     ·obtain⟨G,w',v',f,tm,x,y,Q,R,S,K,h5⟩:=D gg hL (b.atR a (.inRegion ops (i::rest)::k)) cs;rw[K]at j;refine⟨G,w',v',v,Q,R,S,g _ _,z,.head (W4 L hw A j) ?_⟩;rw[←zp8 L];exact h5
def zn8{P:Program}{c:Py}(K:Y6 P c){n:Nat}{ops:Array Oper}(b:Frame)(k:List Item)(cs:List Frame):∀(l:List Oper) (i:Nat),ops.toList.drop i=l →
  ∀{j:World} {C:CM} {L z:Heap} {w:World} {M A:Tr AV} {a:Act},Rel j C L w→ER n C M a.tmps→(bw P n ops l).run c M L=.ok A z →
  ∃D w' E,C.le D∧Rel j D z w'∧ER n D A E.tmps∧E.defers=a.defers ∧
   Steps P (lone (b.atR a (.inRegion ops (List.range' i l.length)::k)) cs w) (lone (b.atR E (.inRegion ops []::k)) cs w')
 |[],i,g,j,C,L,z,w,M,A,a,F,B,h=>by
  cases h;exact⟨C,w,a,CM.le_refl C,F,B,rfl,.refl _ _⟩
 |o::l,i,g,j,C,L,z,w,M,A,a,F,B,h=>by
  have hi:i<ops.toList.length:=by
   rcases K0 i ops.toList.length with G|G
   ·exact G
   ·rw[List.drop_eq_nil_of_le G]at g;cases g
  rw[Iw hi]at g;injection g with Q g
  have H:ops[i]?=some o:=by rw[←Q];simp at hi ⊢
  unfold bw at h;dsimp only at h;cases I:(P6 P n ops o).run c M L with
  |no=>rw[I]at h;cases h
  |ok E1 H1 =>
   rw[I]at h;dsimp only at h;obtain⟨C1,w1,x,av,O,R,S,T,U,V⟩:=zgo K H F B I b (List.range' (i+1) l.length) k cs;subst T;obtain⟨X,Y,Z,r1,r2,r3,r4,r5⟩:=zn8 K b k cs l (i+1) g (a:=a.put o.dst x) R ((B.mono O).put U S) h;refine⟨X,Y,Z,CM.le_trans O r1,r2,r3,?_,?_⟩
   ·rw[r4];cases o.dst<;>rfl
   ·rw[show (o::l).length=l.length+1 from rfl,List.range'_succ];exact Steps.trans V r5
end
section
def Qv(g:List Nat)(E' E:Tr AV):Prop:=∀t∈g,t≤M8→Mz (M6 t) E'=Mz (M6 t) E
def Zq{x:Operand}{E E':Tr AV}(h:Qv (ma [x]) E' E):(M7 x).run E'=(M7 x).run E:=by
 cases x with
 |tmp t =>
  unfold M7;dsimp only;split
  ·rename_i g;dsimp only;rw[h t (by simp[ma]) (Ik g)]
  ·rfl
 |const v=>unfold M7;dsimp only;split<;>rfl
 |func f=>rfl
 |global j=>rfl
def Qv.opds:∀{l:List Operand} {E E':Tr AV},Qv (ma l) E' E→∀x∈l,(M7 x).run E'=(M7 x).run E
 |[],_,_,_,x,hx=>by cases hx
 |y::l,E,E',h,x,hx=>by
  rcases Ij.1 hx with rfl|hx
  ·refine Zq (λt ht=>h t ?_);cases x<;>simp_all [ma]
  ·refine Qv.opds (l:=l) (λt ht=>h t ?_) x hx;cases y<;>simp_all [ma]
section cong
variable {E E' : Tr AV} {H : Heap}
def opds_cong:∀{l:List Operand},(∀x∈l,(M7 x).run E'=(M7 x).run E)→(opds l).run E'=(opds l).run E
 |[],_=>rfl
 |x::l,h=>by
  simp only[opds];rw[h x N,opds_cong (λy g=>h y Bd)]
def So{x:Operand}{f:Heap→AV→OR}(h:(M7 x).run E'=(M7 x).run E):(Pa x f).run E' H=(Pa x f).run E H:=by
 simp only[Pa];rw[h]
def Vp{x y:Operand}{f:Heap→AV→AV→OR}(h:(M7 x).run E'=(M7 x).run E)(k:(M7 y).run E'=(M7 y).run E):(Rs x y f).run E' H=(Rs x y f).run E H:=by
 simp only[Rs];rw[h,k]
def zf6{x:Option Operand}(h:∀y,x=some y→(M7 y).run E'=(M7 y).run E):(Pe x).run E'=(Pe x).run E:=by
 cases x with
 |none=>rfl
 |some y=>simp only[Pe];rw[h y rfl]
def fillA_cong:∀{g:List Part} {j:List AV},(∀p∈g,p.v.run E'=p.v.run E)→Y5 j g E'=Y5 j g E
 |[],_,_=>rfl
 |p::g,j,h=>by
  simp only[Y5];rw[h p N];split
  ·rfl
  ·split
   ·rfl
   ·split
    ·split
     ·exact fillA_cong (λq z=>h q Ar)
     ·rfl
    ·rfl
def z6v{g:Nat→Option (Nat×Nat)}:∀{l:List (Nat×Operand)} {z:List Part},ae g l=some z→(∀x∈l.map (·.2),(M7 x).run E'=(M7 x).run E)→∀p∈z,p.v.run E'=p.v.run E
 |[],z,h,_,p,j=>by cases h;cases j
 |(i,x)::l,z,h,A,p,j=>by
  simp only[ae]at h;split at h
  ·cases h
  ·split at h
   ·cases h
   ·rename_i r C;cases h;rcases Ij.1 j with rfl|j
    ·exact A x N
    ·exact z6v C (λy B=>A y (by simp at B ⊢;exact .inr B)) p j
end cong
def zr9{c:Call}{E E':Tr AV}{H:Heap}(h:∀x∈c.operands.toList,(M7 x).run E'=(M7 x).run E):(Zv z c).run E' H=(Zv z c).run E H:=by
 have g:∀x∈c.args.toList,(M7 x).run E'=(M7 x).run E:=λx A=>h x (by simp[Call.operands]at A ⊢;exact .inr A)
 unfold Zv;split
 ·split
  ·split
   ·rename_i q;rw[q]at g;unfold Tg;split<;>first|rfl|exact So (g _ N)
   ·rfl
  ·split
   ·rename_i q;rw[q]at g;unfold Up;split<;>first|rfl|exact So (g _ N)
   ·rfl
  ·simp only[Sc];rw[opds_cong g]
  ·simp only[Sc];rw[opds_cong g]
  ·unfold wx;split
   ·rename_i q;rw[q]at g;split
    ·unfold zja;split
     ·split
      ·exact Vp (g _ N) (g _ N)
      ·rfl
     ·rfl
    ·unfold jt;split
     ·split
      ·exact Vp (g _ N) (g _ N)
      ·rfl
     ·rfl
    ·unfold jt;split
     ·split
      ·exact Vp (g _ N) (g _ N)
      ·rfl
     ·rfl
    ·rfl
   ·rfl
  ·unfold ze;split
   ·rename_i q;rw[q]at g;split
    ·split
     ·rfl
     ·split
      ·exact Vp (g _ N) (g _ N)
      ·rfl
    ·rfl
   ·rfl
  ·unfold zm;split
   ·rename_i q;rw[q]at g;split
    ·split
     ·split
      ·exact So (g _ N)
      ·rfl
     ·rfl
    ·rfl
   ·rfl
  ·unfold xu;split
   ·rename_i q;rw[q]at g;split
    ·split
     ·exact Vp (g _ N) (g _ N)
     ·rfl
    ·rfl
   ·rfl
  ·rfl
 ·rename_i f q;have j:(M7 f).run E'=(M7 f).run E:=h f (by simp[Call.operands,q]);dsimp only;rw[j,opds_cong g]
 ·rename_i r B q;have j:(M7 r).run E'=(M7 r).run E:=h r (by simp[Call.operands,q]);dsimp only;rw[j,opds_cong g]
def zh5{o:Op}{E E':Tr AV}{H:Heap}(h:∀x∈o.operands.toList,(M7 x).run E'=(M7 x).run E):(Nq z o).run E' H=(Nq z o).run E H:=by
 unfold Nq;split
 ·exact So (h _ Ac)
 ·exact So (h _ Ac)
 ·rename_i c a b;dsimp only;rw[h c Ac,h a Ac,h b Ac]
 ·split<;>rfl
 ·exact So (h _ Ac)
 ·rename_i t g;have A:∀x∈g.toList.map (·.2),(M7 x).run E'=(M7 x).run E:=λx j=>h x Dc
  unfold rh;split
  ·rfl
  ·split
   ·split
    ·rfl
    ·split
     ·rfl
     ·rename_i q;dsimp only;rw[fillA_cong (z6v q A)]
   ·split
    ·rfl
    ·split
     ·rfl
     ·rename_i q;dsimp only;rw[fillA_cong (z6v q A)]
   ·rfl
 ·rename_i t len g;have A:∀x∈g.toList.map (·.2),(M7 x).run E'=(M7 x).run E:=λx j=>h x Dc
  unfold jf;split
  ·split
   ·rfl
   ·split
    ·rfl
    ·split
     ·split
      ·rfl
      ·rename_i q;dsimp only;rw[fillA_cong (z6v q A)]
     ·rfl
  ·rfl
 ·unfold oo;split<;>first|rfl|exact So (h _ Ac)
 ·unfold we;split<;>first|rfl|exact Vp (h _ Ac) (h _ Ac)
 ·exact So (h _ Ac)
 ·exact Vp (h _ Ac) (h _ Ac)
 ·exact So (h _ Ac)
 ·unfold Tz;split
  ·exact So (h _ Ac)
  ·split<;>first|rfl|exact So (h _ Ac)
  ·exact So (h _ Ac)
  ·split<;>first|rfl|exact So (h _ Ac)
  ·rfl
 ·unfold qc;split<;>first|rfl|exact So (h _ Ac)
 ·rename_i f first cap
  split
  ·rfl
  ·simp only[oj];rw[opds_cong (l:=first.toList) (λx j=>h x (by simp[Op.operands]at j ⊢;exact .inl j)),opds_cong (l:=cap.toList) (λx j=>h x (by simp[Op.operands]at j ⊢;exact .inr j))]
 ·unfold jv;split
  ·rfl
  ·split<;>first|rfl|exact So (h _ Ac)
 ·unfold jx;split
  ·split
   ·rfl
   ·split
    ·rfl
    ·split
     ·exact Vp (h _ Ac) (h _ Ac)
     ·rfl
  ·rfl
 ·rename_i t x F hi G;have B:=h x Ac;have C:(Pe F).run E'=(Pe F).run E:=zf6 (λy e=>h y Et);have D:(Pe hi).run E'=(Pe hi).run E:=zf6 (λy e=>h y Et);have I:(Pe G).run E'=(Pe G).run E:=zf6 (λy e=>h y Et);unfold ep;split
  ·split
   ·rfl
   ·dsimp only;rw[B,C,D]
  ·split
   ·rfl
   ·split
    ·rfl
    ·dsimp only;rw[B,C,D,I]
  ·split
   ·rfl
   ·split
    ·rfl
    ·dsimp only;rw[B,C,D,I]
  ·rfl
 ·unfold qf;split
  ·split
   ·rfl
   ·split<;>first|rfl|exact So (h _ Ac)
  ·rfl
 ·unfold sd;split
  ·split
   ·rfl
   ·split<;>first|rfl|exact So (h _ Ac)
  ·rfl
 ·unfold rf;split
  ·split
   ·rfl
   ·exact Vp (h _ Ac) (h _ Ac)
  ·split
   ·rfl
   ·exact Vp (h _ Ac) (h _ Ac)
  ·rfl
 ·unfold qz;split
  ·exact Vp (h _ Ac) (h _ Ac)
  ·split
   ·exact Vp (h _ Ac) (h _ Ac)
   ·rfl
  ·rfl
 ·unfold m6;split
  ·split
   ·exact Vp (h _ Ac) (h _ Ac)
   ·rfl
  ·rfl
 ·rename_i t m k x;unfold pn;split
  ·split
   ·dsimp only;rw[h m Ac,h k Ac,h x Ac]
   ·rfl
  ·rfl
 ·rename_i t m k x;unfold pn;split
  ·split
   ·dsimp only;rw[h m Ac,h k Ac,h x Ac]
   ·rfl
  ·rfl
 ·unfold rangeF;split<;>first|rfl|exact So (h _ Ac)
 ·unfold ye;split<;>first|rfl|exact So (h _ Ac)
 ·unfold rj;split
  ·rfl
  ·split
   ·rfl
   ·exact So (h _ Ac)
  ·rfl
 ·exact So (h _ Ac)
 ·exact zr9 (λx j=>h x Dc)
 ·rfl
def ln{ops:Array Oper}{o:Oper}{E E':Tr AV}(h:Qv (Sy ops o) E' E):(Rf ops o).run E'=(Rf ops o).run E:=by
 unfold Rf;split
 ·rfl
 ·rename_i A j z;split
  ·rfl
  ·rename_i d hd;split
   ·rename_i g;dsimp only;rw[h d (by simp[Sy,z,hd]) g]
   ·rfl
end
inductive QR (H H2:Heap):OR→OR→Prop where
 |no:QR H H2 .no .no
 |val (v:AV):QR H H2 (.val v H) (.val v H2)
def R6(j:OpF):Prop:=∀z A g,QR A g (j.run z A) (j.run z g)
inductive RR (H:Heap):OR→Prop where
 |no:RR H .no
 |val (v:AV):RR H (.val v H)
def U6(j:OpF):Prop:=∀z g,RR g (j.run z g)
def R6.reads{F:OpF}(h:R6 F):U6 F:=λE H=>by
 have:=h E H H;generalize F.run E H=r at this;cases this with
 |no=>exact .no
 |val v=>exact .val v
def quiet_stuck:R6 Nj:=λ_ _ _=>.no
def reads_stuck:U6 Nj:=λ_ _=>.no
def QR.ret1{H H2:Heap}(o:Option AV):QR H H2 (ret1 H o) (Sv.ret1 H2 o):=by cases o<;>constructor
def RR.ret1{H:Heap}(o:Option AV):RR H (Sv.ret1 H o):=by cases o<;>constructor
def Us{x:Operand}{f:Heap→AV→OR}(h:∀a j g,QR j g (f j a) (f g a)):R6 (Pa x f):=λz j g=>by
 simp only[Pa];cases (M7 x).run z with
 |none=>exact .no
 |some a=>exact h a j g
def yd{x y:Operand}{f:Heap→AV→AV→OR}(h:∀a b j g,QR j g (f j a b) (f g a b)):R6 (Rs x y f):=λz j g=>by
 simp only[Rs];cases (M7 x).run z with
 |none=>exact .no
 |some a =>
  cases (M7 y).run z with
  |none=>exact .no
  |some b=>exact h a b j g
def uf{x:Operand}{f:Heap→AV→OR}(h:∀a g,RR g (f g a)):U6 (Pa x f):=λj g=>by
 simp only[Pa];cases (M7 x).run j with
 |none=>exact .no
 |some a=>exact h a g
def zmb{x y:Operand}{f:Heap→AV→AV→OR}(h:∀a b g,RR g (f g a b)):U6 (Rs x y f):=λj g=>by
 simp only[Rs];cases (M7 x).run j with
 |none=>exact .no
 |some a =>
  cases (M7 y).run j with
  |none=>exact .no
  |some b=>exact h a b g
def zo0(z:Program)(t:TypeId)(g:Array (Nat×Operand)):R6 (rh z t g):=by
 unfold rh;split
 ·exact quiet_stuck
 ·split
  ·split
   ·exact quiet_stuck
   ·split
    ·exact quiet_stuck
    ·intro A B j;dsimp only;split
     ·exact .val _
     ·exact .no
  ·split
   ·exact quiet_stuck
   ·split
    ·exact quiet_stuck
    ·intro A B j;dsimp only;split
     ·exact .val _
     ·exact .no
  ·exact quiet_stuck
def zhp(j g:Heap)(a:AV):QR j g (qn j a) (qn g a):=by
 unfold qn;split<;>constructor
def zj1(g:Program)(t:TypeId)(x:Operand):R6 (qc g t x):=by
 unfold qc;split
 ·exact quiet_stuck
 ·exact Us λa z j=>.val _
 ·exact quiet_stuck
def znd(f:Fn)(x y:Array Operand):R6 (oj f x y):=λj z g=>by
 simp only[oj];split
 ·split<;>constructor
 ·exact .no
def zgu(g:Program)(s:TypeId)(x:Operand)(f:Nat):R6 (qf g s x f):=by
 unfold qf;split
 ·split
  ·exact quiet_stuck
  ·split
   ·exact quiet_stuck
   ·exact quiet_stuck
   ·exact Us λa z j=>Bn
 ·exact quiet_stuck
def zok(g:Program)(s:TypeId)(x:Operand)(f:Nat):R6 (sd g s x f):=by
 unfold sd;split
 ·split
  ·exact quiet_stuck
  ·split
   ·exact Us λa z j=>by
     split
     ·exact .ret1 _
     ·exact .no
   ·exact quiet_stuck
 ·exact quiet_stuck
def zfa(A:Program)(t:TypeId)(x g:Operand):R6 (rf A t x g):=by
 unfold rf;split
 ·split
  ·exact quiet_stuck
  ·refine yd λa b B j=>?_
   split
   ·rename_i len z _ _ n;cases Nat.blt n len
    ·exact .no
    ·dsimp only;split<;>constructor
   ·exact .no
 ·split
  ·exact quiet_stuck
  ·refine yd λa b B j=>?_
   split
   ·split<;>constructor
   ·exact .no
 ·exact quiet_stuck
def znz(z:Program)(t:TypeId)(x g:Operand):R6 (qz z t x g):=by
 unfold qz;split
 ·refine yd λa b A j=>?_
  split
  ·split<;>constructor
  ·exact .no
 ·split
  ·refine yd λa b A j=>?_
   split
   ·split
    ·exact .ret1 _
    ·exact .no
   ·exact .no
  ·exact quiet_stuck
 ·exact quiet_stuck
def zn9(g:Program)(x:Operand)(t:TypeId)(ok:Bool):R6 (rj g x t ok):=by
 unfold rj;split
 ·exact quiet_stuck
 ·split
  ·exact quiet_stuck
  ·refine Us λa z j=>?_
   split
   ·cases ok<;>constructor
   ·split
    ·constructor
    ·cases ok<;>constructor
   ·exact .no
 ·exact quiet_stuck
def zk0(x:Operand)(i:Nat):R6 (zf5 x i):=Us λa j g=>by
 split
 ·exact .ret1 _
 ·exact .no
def zfd{t:TypeId}{x:Operand}{g hi j:Option Operand}(h:yi z t=false):R6 (ep z t x g hi j):=by
 unfold ep;split
 ·split
  ·exact quiet_stuck
  ·intro B C A;dsimp only;split
   ·split
    ·split<;>constructor
    ·exact .no
   ·exact .no
 ·split
  ·exact quiet_stuck
  ·split
   ·exact quiet_stuck
   ·intro B C A;dsimp only;split
    ·exact .ret1 _
    ·split<;>constructor
    ·split<;>constructor
    ·exact .no
 ·rename_i q;simp[yi,q]at h
 ·exact quiet_stuck
def zno(A:Program)(t:TypeId)(x:Operand)(j hi z:Option Operand):U6 (ep A t x j hi z):=by
 cases g:yi A t
 ·exact (zfd g).reads
 ·unfold yi at g;unfold ep;split at g
  ·rename_i q;rw[q];dsimp only;split
   ·exact reads_stuck
   ·split
    ·exact reads_stuck
    ·intro B C;dsimp only;split
     ·split
      ·split
       ·split
        ·exact .ret1 _
        ·exact .no
       ·exact .no
      ·exact .no
     ·exact .no
  ·cases g
def zr8{s d:TypeId}{x:Operand}(hd:i7 z d=false)(g:i7 z s=false):R6 (Tz z s d x):=by
 unfold Tz;split
 ·exact Us λa A j=>Bn
 ·rename_i q _;simp[i7,q]at g
 ·exact Us λa A j=>Bn
 ·rename_i q;simp[i7,q]at hd
 ·exact quiet_stuck
def zr5{s d:TypeId}{x:Operand}(hd:i7 z d=false):U6 (Tz z s d x):=by
 unfold Tz;split
 ·exact uf λa g=>Bn
 ·split
  ·refine uf λa g=>?_
   split
   ·exact .val _
   ·split
    ·split<;>constructor
    ·exact .no
   ·exact .no
  ·exact reads_stuck
 ·exact uf λa g=>Bn
 ·rename_i q;simp[i7,q]at hd
 ·exact reads_stuck
def zri(g:Program)(t:TypeId)(x:Operand):U6 (oo g t x):=by
 unfold oo;split
 ·exact uf λa j=>by
   split
   ·split<;>constructor
   ·exact .no
 ·exact uf λa j=>by
   split
   ·split<;>constructor
   ·exact .no
 ·exact reads_stuck
def zkk(j:Program)(t:TypeId)(x g:Operand)(ok:Bool):U6 (m6 j t x g ok):=by
 unfold m6;split
 ·split
  ·refine zmb λa b z=>?_
   split
   ·exact .no
   ·split<;>constructor
  ·exact reads_stuck
 ·exact reads_stuck
def zm3{t:TypeId}{x:Operand}(h:yx z t=false):R6 (Tg z t x):=by
 unfold Tg;split
 ·exact Us λa j g=>Bn
 ·exact Us λa j g=>Bn
 ·rename_i q;simp[yx,q]at h
 ·exact Us λa j g=>.val _
 ·exact quiet_stuck
def zvo(j:Program)(t:TypeId)(x:Operand):U6 (Tg j t x):=by
 cases g:yx j t
 ·exact (zm3 g).reads
 ·unfold yx at g;unfold Tg;split at g
  ·rename_i q;rw[q];refine uf λa z=>?_
   split
   ·exact .val _
   ·split<;>constructor
   ·exact .no
  ·cases g
def zsq(g:Program)(t:TypeId)(x:Operand):R6 (Up g t x):=by
 unfold Up;split
 ·exact Us λa z j=>Bn
 ·exact quiet_stuck
def zmg(g:Bool)(l:List Operand):R6 (Sc g l):=λz A j=>by
 simp only[Sc];split
 ·exact .ret1 _
 ·exact .no
def zkj{c:Call}:(ve z c=.quiet→R6 (Zv z c))∧(ve z c=.rd→U6 (Zv z c)):=by
 unfold ve Zv;split
 ·rename_i q;rw[q];dsimp only;split
  ·rename_i t g;rw[g];split
   ·rename_i hm;exact⟨λh=>Ak,λ_=>by
     split
     ·exact zvo _ _ _
     ·exact reads_stuck⟩
   ·rename_i hm;refine⟨λ_=>?_,λh=>Ak⟩;split
    ·rename_i e _ ;cases e;exact zm3 (by simpa using hm)
    ·exact quiet_stuck
  ·exact⟨λh=>Ak,λh=>Ak⟩
 ·rename_i q;rw[q];refine⟨λ_=>?_,λh=>Ak⟩;dsimp only;split
  ·exact zsq _ _ _
  ·exact quiet_stuck
 ·rename_i q;rw[q];exact⟨λ_=>zmg _ _,λh=>Ak⟩
 ·rename_i q;rw[q];exact⟨λ_=>zmg _ _,λh=>Ak⟩
 ·exact⟨λh=>Ak,λh=>Ak⟩
def ua{P:Program}{o:Op}:(cls P o=.quiet→R6 (Nq P o))∧(cls P o=.rd→U6 (Nq P o)):=by
 unfold cls;split
 ·exact⟨λ_=>Us λa j g=>.val _,λh=>Ak⟩
 ·exact⟨λ_=>Us λa j g=>.val _,λh=>Ak⟩
 ·refine⟨λ_ A j g=>?_,λh=>Ak⟩;simp only[Nq];split
  ·exact .ret1 _
  ·exact .ret1 _
  ·exact .no
 ·exact⟨λ_=>zo0 _ _ _,λh=>Ak⟩
 ·exact⟨λ_=>Us λa j g=>zhp _ _ _,λh=>Ak⟩
 ·exact⟨λ_=>yd λa b j g=>.ret1 _,λh=>Ak⟩
 ·exact⟨λ_=>Us λa j g=>.ret1 _,λh=>Ak⟩
 ·exact⟨λ_=>zj1 _ _ _,λh=>Ak⟩
 ·rename_i f x y;refine⟨λ_=>?_,λh=>Ak⟩;simp only[Nq];split
  ·exact quiet_stuck
  ·exact znd _ _ _
 ·exact⟨λ_=>zgu _ _ _ _,λh=>Ak⟩
 ·exact⟨λ_=>zok _ _ _ _,λh=>Ak⟩
 ·exact⟨λ_=>zfa _ _ _ _,λh=>Ak⟩
 ·exact⟨λ_=>znz _ _ _ _,λh=>Ak⟩
 ·exact⟨λ_=>zn9 _ _ _ _,λh=>Ak⟩
 ·exact⟨λ_=>zk0 _ _,λh=>Ak⟩
 ·split
  ·exact⟨λh=>Ak,λ_=>zno _ _ _ _ _ _⟩
  ·rename_i h;exact⟨λ_=>zfd Aw,λh=>Ak⟩
 ·split
  ·exact⟨λh=>Ak,λh=>Ak⟩
  ·rename_i hd;split
   ·exact⟨λh=>Ak,λ_=>zr5 (by simpa using hd)⟩
   ·rename_i z;exact⟨λ_=>zr8 (by simpa using hd) Cq,λh=>Ak⟩
 ·exact⟨λh=>Ak,λ_=>zri _ _ _⟩
 ·exact⟨λh=>Ak,λ_=>zkk _ _ _ _ _⟩
 ·exact zkj
 all_goals exact⟨λh=>Ak,λh=>Ak⟩
def z53{P:Program}{n:Nat}{ops:Array Oper}{o:Oper}{k:Py}(h:(P6 P n ops o).run k I B=.ok vV U) :
  ∃v,vV=Oj o.dst v I∧(∀d,o.dst=some d→d<n)∧∀j,Qv (Sy ops o) j I→(P6 P n ops o).run k j B=.ok (Oj o.dst v j) U:=by
 unfold P6 at h ⊢;cases G:P7 n o.dst with
 |none=>rw[G]at h;cases h
 |some p =>
  rw[G]at h;dsimp only at h ⊢;obtain⟨g,A⟩:=zu G;have C:∀j,Qv (Sy ops o) j I→(Nq P o.op).run j B=(Nq P o.op).run I B:=λj z =>
   zh5 (Qv.opds (λt K=>z t (by simp[Sy,K])))
  cases D:(Rf ops o).run I with
  |false =>
   rw[D]at h;cases h;refine⟨Qs,g _ _,A,λj z=>?_⟩;rw[ln z,D];dsimp only;rw[g]
  |true =>
   rw[D]at h;dsimp only at h;cases E:(Nq P o.op).run I B with
   |no=>rw[E]at h;cases h
   |val v L =>
    rw[E]at h;cases h;refine⟨v,g _ _,A,λj z=>?_⟩;rw[ln z,D,C j z,E];dsimp only;rw[g]
   |call t F =>
    rw[E]at h;dsimp only at h;cases H:k t F B with
    |no=>rw[H]at h;cases h
    |ok v L =>
     rw[H]at h;cases h;refine⟨v,g _ _,A,λj z=>?_⟩;rw[ln z,D,C j z,E];dsimp only;rw[H];dsimp only;rw[g]
def z58{P:Program}{n:Nat}{ops:Array Oper}{o:Oper}{k:Py}(A:U6 (Nq P o.op))(h:(P6 P n ops o).run k I B=.ok vV U):U=B:=by
 unfold P6 at h;cases g:P7 n o.dst with
 |none=>rw[g]at h;cases h
 |some p =>
  rw[g]at h;dsimp only at h;cases j:(Rf ops o).run I with
  |false=>rw[j]at h;cases h;rfl
  |true =>
   rw[j]at h;dsimp only at h;have z:=A I B;generalize (Nq P o.op).run I B=r at h z;cases z with
   |no=>cases h
   |val v=>cases h;rfl
def zho{P:Program}{n:Nat}{ops:Array Oper}{o:Oper}{k:Py}(C:R6 (Nq P o.op))(h:(P6 P n ops o).run k I B=.ok vV U)(g:Heap) :
  (P6 P n ops o).run k I g=.ok vV g:=by
 unfold P6 at h ⊢;cases z:P7 n o.dst with
 |none=>rw[z]at h;cases h
 |some p =>
  rw[z]at h;dsimp only at h ⊢;cases A:(Rf ops o).run I with
  |false=>rw[A]at h;cases h;rfl
  |true =>
   rw[A]at h;dsimp only at h ⊢;have j:=C I B g;generalize (Nq P o.op).run I B=r at h j;generalize (Nq P o.op).run I g=D at j ⊢;cases j with
   |no=>cases h
   |val v=>cases h;rfl
def eqAV_spec:∀(n:Nat) (a b:AV),Qh n a b=true→a=b
 |0,_,_,h=>Ak
 |n+1,a,b,h=>by
  have z:∀(x y:List AV),Wh (Qh n) x y=true→x=y:=by
   intro x
   induction x with
   |nil=>intro y j;cases y with
    |nil=>rfl
    |cons _ _=>cases j
   |cons c x A =>
    intro y j;cases y with
    |nil=>cases j
    |cons d y =>
     simp only[Wh]at j;split at j
     ·rename_i B;rw[eqAV_spec n c d B,A y j]
     ·cases j
  have g:∀{x y:Nat},Nat.beq x y=true→x=y:=λh=>Ic h
  unfold Qh at h;split at h
  ·simp only[L9]at h;rw[h]
  ·simp only[H7,mc,L9]at h;rw[ym h.1,h.2]
  ·simp only[H7]at h;rw[g h.1,g h.2]
  ·rfl
  ·simp only[H7]at h;rw[g h.1.1,g h.1.2,g h.2]
  ·rfl
  ·simp only[H7,L9]at h;obtain⟨⟨⟨⟨⟨C,D⟩,E⟩,F⟩,G⟩,H⟩:=h;rw[g C,g D,g E,g F,g G,H]
  ·rfl
  ·rfl
  ·rw[g h]
  ·rfl
  ·simp only[H7]at h;rw[g h.1.1,z _ _ h.1.2,z _ _ h.2]
  ·simp only[H7]at h;rw[g h.1.1,z _ _ h.1.2,z _ _ h.2]
  ·rfl
  ·simp only[H7]at h;rw[g h.1,eqAV_spec n _ _ h.2]
  ·rw[z _ _ h]
  ·rw[z _ _ h]
  ·cases h
def Wg(a b g:Nat):(Nat.lor a b).testBit g=(a.testBit g || b.testBit g):=Nat.testBit_or a b g
def da(i g:Nat):(2^i).testBit g=decide (i=g):=Nat.testBit_two_pow
def ziy{a b:Nat}(h:Nat.beq (Nat.land a b) a=true)(j:Nat)(g:a.testBit j=true):b.testBit j=true:=by
 have e:a &&& b=a:=Ic h;rw[←e,Nat.testBit_and]at g;simp only[H7]at g;exact g.2
def bitsOf_spec:∀{l:List Nat} {t:Nat},t∈l→(zp l).testBit t=true
 |[],_,h=>Ak
 |a::l,t,h=>by
  simp only[zp,Wg,da,Jx,Ii];rcases Ij.1 h with rfl|h
  ·exact .inl rfl
  ·exact .inr (bitsOf_spec h)
def z8g{g:List Nat}:∀{l:List Edge} {z:Nat},(ke g l).testBit z=true↔∃e∈l,Region.binds .any e=true∧(z=e.on∨(g.getD e.on 0).testBit z=true)
 |[],z=>by simp[ke]
 |e::l,z=>by
  simp only[ke];split
  ·rename_i j;simp only[Wg,da,Jx,Ii,z8g,Ij,exists_eq_or_imp,j,true_and];constructor
   ·rintro ((h|h)|h)
    ·exact .inl (.inl h.symm)
    ·exact .inl (.inr h)
    ·exact .inr h
   ·rintro ((h|h)|h)
    ·exact .inl (.inl h.symm)
    ·exact .inl (.inr h)
    ·exact .inr h
  ·rename_i j;simp only[z8g,Ij,exists_eq_or_imp,j,Km,false_and,false_or]
def V5{A:Type}{f:A→Bool}:∀{l:List A} {x:A},x∈Nl f l↔x∈l∧f x=true
 |[],x=>by simp[Nl]
 |a::l,x=>by
  simp only[Nl];split
  ·rename_i h;simp only[Ij,V5];constructor
   ·rintro (rfl|z)
    ·exact⟨.inl rfl,h⟩
    ·exact⟨.inr z.1,z.2⟩
   ·rintro⟨rfl|j,g⟩
    ·exact .inl rfl
    ·exact .inr ⟨j,g⟩
  ·rename_i h;simp only[Ij,V5];constructor
   ·rintro⟨j,g⟩;exact⟨.inr j,g⟩
   ·rintro⟨rfl|j,g⟩
    ·rw[h]at g;cases g
    ·exact⟨j,g⟩
def zjw{z:Type}{f:z→Bool}:∀{l:List z},Tv f l=true→∀x∈l,f x=true
 |[],_,x,g=>Ea
 |a::l,h,x,g=>by
  simp only[Tv]at h;split at h
  ·rename_i j;rcases Ij.1 g with rfl|g
   ·exact j
   ·exact zjw h x g
  ·cases h
structure LOk (P:Program) (ops:Array Oper) (L:List DOp):Prop where
 op:∀x∈L,ops[x.i]?=some x.o∧x.i<ops.size
 all:∀i,i<ops.size→∃x∈L,x.i=i
 inj:∀x∈L,∀y∈L,x.i=y.i→x=y
 cl:∀x∈L,x.c=cls P x.o.op
 lm:∀x∈L,∀t∈Sy ops x.o,x.lm.testBit t=true
 msk:∀x∈L,∀j,x.m.testBit j=true→∃e∈x.o.after.toList,Region.binds .any e=true∧(j=e.on∨∃y∈L,y.i=e.on∧y.m.testBit j=true)
 edge:∀x∈L,∀e∈x.o.after.toList,Region.binds .any e=true→x.m.testBit e.on=true
def zf0(j:Program)(ops:Array Oper):∀(l:List Oper) (g:List Nat) (i:Nat) (z:Nat),(Pq j ops l g i).length=l.length∧∀x,(Pq j ops l g i)[z]?=some x →
  x.i=i+z∧l[z]?=some x.o∧x.c=cls j x.o.op∧x.lm=zp (Sy ops x.o)∧x.m=ke (g++((Pq j ops l g i).take z).map (·.m)) x.o.after.toList
 |[],g,i,z=>⟨rfl,λx h=>by simp[Pq]at h⟩
 |o::l,g,i,0=>⟨Fp,λx h=>by
   simp only[Pq,Iq,Option.some.injEq]at h;subst h;exact⟨rfl,rfl,rfl,rfl,N⟩⟩
 |o::l,g,i,z+1=>⟨Fp,λx h=>by
   simp only[Pq,Is]at h;obtain⟨E,A,B,C,D⟩:=(zf0 j ops l _ (i+1) z).2 x h;refine⟨J,Bi,B,C,?_⟩;rw[D];simp[Pq]⟩
def de(E:Program)(ops:Array Oper):LOk E ops (Pq E ops ops.toList [] 0):=by
 have z:=zf0 E ops ops.toList [] 0;have H:(Pq E ops ops.toList [] 0).length=ops.size:=by rw[(z 0).1];simp
 have hm:∀x∈Pq E ops ops.toList [] 0,∃B,(Pq E ops ops.toList [] 0)[B]?=some x∧x.i=B:=λx j=>by
  obtain⟨B,g⟩:=I3.1 j;exact⟨B,g,by have:=((z B).2 x g).1;omega⟩
 refine⟨λx j=>?_,λi hi=>?_,λx j y I e=>?_,λx j=>?_,λx j t K=>?_,λx j B g=>?_,λx j e F G=>?_⟩
 ·obtain⟨B,g,e⟩:=hm x j;obtain⟨_,L,_⟩:=(z B).2 x g;rw[e];have:B<ops.size:=by
   have:=(H5.1 g).1;omega
  exact⟨De,this⟩
 ·exact ⟨(Pq E ops ops.toList [] 0)[i]' J, K3 _, by
   have:=((z i).2 _ (H8 J)).1;omega⟩
 ·obtain⟨B,g,D⟩:=hm x j;obtain⟨M,C,O⟩:=hm y I;have:B=M:=J
  subst this;rw[g]at C;cases C;rfl
 ·obtain⟨B,g,D⟩:=hm x j;exact ((z B).2 x g).2.2.1
 ·obtain⟨B,g,D⟩:=hm x j;rw[((z B).2 x g).2.2.2.1];exact bitsOf_spec K
 ·obtain⟨i,hi,D⟩:=hm x j;rw[((z i).2 x hi).2.2.2.2]at g;obtain⟨e,F,G,h⟩:=z8g.1 g;refine⟨e,F,G,h.imp id λh=>?_⟩;rw[Ky,H9,J5]at h;cases A:((Pq E ops ops.toList [] 0).take i)[e.on]? with
  |none=>rw[A]at h;simp at h
  |some y =>
   rw[A]at h;have I:=I3.2 ⟨e.on,A⟩;rw[List.getElem?_take]at A;split at A
   ·exact⟨y,I3.2 ⟨_,A⟩,by have:=((z e.on).2 y A).1;omega,h⟩
   ·cases A
 ·obtain⟨i,hi,D⟩:=hm x j;rw[((z i).2 x hi).2.2.2.2];exact z8g.2 ⟨e,F,G,.inl rfl⟩
def dstsOk_spec:∀{l:List DOp} {seen:Nat},yr l seen=true→(∀x∈l,∀d,x.o.dst=some d→seen.testBit d=false)∧∀x∈l,∀y∈l,∀d,x.o.dst=some d→y.o.dst=some d→x=y
 |[],_,_=>⟨λx g=>Ea,λx g=>Ea⟩
 |a::l,seen,h=>by
  simp only[yr]at h;split at h
  ·rename_i z;obtain⟨B,C⟩:=dstsOk_spec h;refine⟨λx g d hd=>?_,λx g y A d hd j=>?_⟩
   ·rcases Ij.1 g with rfl|g
    ·rw[z]at hd;cases hd
    ·exact B x g d hd
   ·rcases Ij.1 g with rfl|g
    ·rw[z]at hd;cases hd
    ·rcases Ij.1 A with rfl|A
     ·rw[z]at j;cases j
     ·exact C x g y A d hd j
  ·rename_i D z;split at h
   ·cases h
   ·rename_i K;obtain⟨B,C⟩:=dstsOk_spec h;have E:∀x∈l,x.o.dst≠some D:=λx g e=>by
     have:=B x g D e;rw[Wg,da]at this;simp at this
    refine⟨λx g d hd=>?_,λx g y A d hd j=>?_⟩
    ·rcases Ij.1 g with rfl|g
     ·rw[z]at hd;cases hd;simpa using K
     ·have:=B x g d hd;rw[Wg]at this;simp only[Bool.or_eq_false_iff]at this;exact this.2
    ·rcases Ij.1 g with F|G<;>rcases Ij.1 A with H|I
     ·rw[F,H]
     ·subst F;rw[z]at hd;cases hd;exact absurd j (E y I)
     ·subst H;rw[z]at j;cases j;exact absurd hd (E x G)
     ·exact C x G y I d hd j
def zc5{x:DOp}:M1 x=true↔x.c=.ch:=by
 unfold M1;constructor
 ·intro h;split at h
  ·assumption
  ·cases h
 ·intro h;rw[h]
def zg3{x:DOp}:znq x=true↔x.c=.quiet:=by
 unfold znq;constructor
 ·intro h;split at h
  ·assumption
  ·cases h
 ·intro h;rw[h]
def ug{x:DOp}{l:List DOp}{seen s:Nat}(h:Oo (x::l) seen g=some s):(∀j,x.m.testBit j=true→seen.testBit j=true)∧seen.testBit x.i=false ∧
  ((x.c=.quiet∧Oo l (Nat.lor (2^x.i) seen) g=some s) ∨
   ((x.c=.rd∨x.c=.al)∧(∀j,g.testBit j=true→x.m.testBit j=true)∧Oo l (Nat.lor (2^x.i) seen) g=some s) ∨
   (x.c=.ch∧(∀j,g.testBit j=true→x.m.testBit j=true)∧Oo l (Nat.lor (2^x.i) seen) (Nat.lor (2^x.i) g)=some s)):=by
 simp only[Oo]at h;split at h
 ·cases h
 ·rename_i E;split at h
  ·cases h
  ·rename_i F;refine⟨λj z=>ziy E j z,by simpa using F,?_⟩;split at h
   ·rename_i A;exact .inl ⟨zg3.1 A,h⟩
   ·rename_i A;split at h
    ·cases h
    ·rename_i C;split at h
     ·rename_i B;exact .inr (.inr ⟨zc5.1 B,λj z=>ziy C j z,h⟩)
     ·rename_i B;refine .inr (.inl ⟨?_,λj z=>ziy C j z,h⟩);cases D:x.c with
      |quiet=>rw[zg3.2 D]at A;cases A
      |rd=>exact .inl rfl
      |al=>exact .inr rfl
      |ch=>rw[zc5.2 D]at B;cases B
def topo_seen:∀{l:List DOp} {seen j s:Nat},Oo l seen j=some s→∀A,s.testBit A=true↔(seen.testBit A=true∨∃x∈l,x.i=A)
 |[],seen,j,s,h,A=>by simp only[Oo,Option.some.injEq]at h;subst h;simp
 |x::l,seen,j,s,h,A=>by
  obtain⟨_,_,z⟩:=ug h;have B:∀g,Oo l (Nat.lor (2^x.i) seen) g=some s→(s.testBit A=true↔(seen.testBit A=true∨∃y∈x::l,y.i=A)):=λg C=>by
   rw[topo_seen C A,Wg,da];simp only[Jx,Ii,Ij,exists_eq_or_imp];constructor
   ·rintro ((h|h)|h)
    ·exact .inr (.inl h)
    ·exact .inl h
    ·exact .inr (.inr h)
   ·rintro (h|h|h)
    ·exact .inl (.inr h)
    ·exact .inl (.inl h)
    ·exact .inr h
  rcases z with ⟨_,z⟩|⟨_,_,z⟩|⟨_,_,z⟩<;>exact B _ z
def topo_new:∀{l:List DOp} {seen j s:Nat},Oo l seen j=some s→∀x∈l,seen.testBit x.i=false
 |[],_,_,_,_,x,z=>by cases z
 |y::l,seen,j,s,h,x,z=>by
  obtain⟨_,C,A⟩:=ug h;rcases Ij.1 z with rfl|z
  ·exact C
  ·have B:∀g,Oo l (Nat.lor (2^y.i) seen) g=some s→seen.testBit x.i=false:=λg D=>by
    have:=topo_new D x z;rw[Wg]at this;simp only[Bool.or_eq_false_iff]at this;exact this.2
   rcases A with ⟨_,A⟩|⟨_,_,A⟩|⟨_,_,A⟩<;>exact B _ A
def topo_chs:∀{l:List DOp} {seen j s:Nat},Oo l seen j=some s→∀x∈l,x.c≠.quiet→∀D,j.testBit D=true→x.m.testBit D=true
 |[],_,_,_,_,_,z=>by cases z
 |y::l,seen,j,s,h,x,z=>by
  intro C D A;obtain⟨_,E,g⟩:=ug h;rcases Ij.1 z with rfl|z
  ·rcases g with ⟨e,g⟩|⟨e,B,g⟩|⟨e,B,g⟩
   ·exact absurd e C
   ·exact B D A
   ·exact B D A
  ·rcases g with ⟨e,g⟩|⟨e,B,g⟩|⟨e,B,g⟩
   ·exact topo_chs g x z C D A
   ·exact topo_chs g x z C D A
   ·exact topo_chs g x z C D (by rw[Wg,A];simp)
def zmu{z g:List DOp}{p:Nat}:∀x∈Xs z g p,x∈z:=λ_ j=>(V5.1 j).1
def zft{z j:List DOp}:∀{l:List DOp} {p:Nat},(∀x∈l,x∈z)→∀x∈zk5 z j l p,x∈z
 |[],_,_,_,g=>Ea
 |c::l,p,h,x,g=>by
  simp only[zk5,Ij,Iy]at g;rcases g with rfl|g|g
  ·exact h _ N
  ·exact zmu x g
  ·exact zft (λy A=>h y Ae) x g
def zsp{j:List DOp}:∀x∈zr j (Nl M1 j),x∈j:=λx g=>by
 simp only[zr,Iy]at g;rcases g with g|g
 ·exact zmu x g
 ·exact zft (λy z=>(V5.1 z).1) x g
end Go.Sv
