/- Texts of the evaluator, of the logic over it, of plain arithmetic. -/
import Derived.AtR
import Derived.Laws.Sem
import Derived.Laws.World
import Derived.KernelRfl
import Derived.Below
import Derived.Laws.Strings
import Derived.Laws.StructEq
import Derived.Lib.Strings
import Derived.Lib.ConvBytes
import Derived.Laws.BytesArg
import Derived.Laws.RangeString
import Derived.MapKept
import Derived.Laws.Append
import Derived.Laws.AppendOwn
import Derived.Laws.Externs
import Derived.RangeFuncIn
import Derived.RangeFuncRecord
set_option linter.unusedSimpArgs false
set_option linter.defProp false
noncomputable section
namespace Go.Sv
abbrev Aa:=@List.getElem?_eq_some_iff
abbrev Ab:=@if_neg
abbrev Ac:=@Bool.and_eq_true
abbrev Ad:=@List.getElem?_set_ne
abbrev Ae:=@List.getD_eq_getElem?_getD
abbrev Af:=@Int.eq_ofNat_of_zero_le
abbrev Ag:=@if_pos
abbrev Ah:=@List.getElem?_set_self
abbrev Ai:=@List.getElem?_eq_getElem
abbrev Aj:=@List.length_append
abbrev Ak:=@Nat.ble_eq_true_of_le
abbrev Al:=@Nat.le_refl
abbrev Am:=@Nat.eq_of_beq_eq_true
abbrev An:=@List.mem_cons
abbrev Ao:=@decide_eq_true_eq
abbrev Aq:=@List.getElem?_append_left
abbrev Ar:=@List.length_cons
abbrev As:=@Nat.le_of_ble_eq_true
abbrev At:=@Nat.mul_le_mul_right
abbrev Au:=@List.getElem?_append_right
abbrev Av:=@List.getElem?_cons_succ
abbrev Aw:=@List.take_of_length_le
abbrev Ax:=@List.getElem?_concat_length
abbrev Ay:=@List.eq_nil_of_length_eq_zero
abbrev Az:=@List.mem_append
abbrev A0:=@List.mem_cons_of_mem
abbrev A6:=@List.getElem?_cons_zero
abbrev A7:=@List.mem_of_getElem?
abbrev A8:=@Int.toNat_natCast
abbrev A9:=@Int.ofNat_eq_natCast
abbrev Ba:=@List.mem_append_right
abbrev Bb:=@Nat.add_mul
abbrev Bc:=@List.length_nil
abbrev Bd:=@Nat.mod_eq_of_lt
abbrev Be:=@Nat.zero_add
abbrev Bg:=@Nat.pow_succ
abbrev Bh:=@Nat.lt_of_lt_of_le
abbrev Bi:=@List.cons_append
abbrev Bj:=@Nat.beq_refl
abbrev Bk:=@Array.getD_eq_getD_getElem?
abbrev Bl:=@decide_eq_false_iff_not
abbrev Bm:=@UInt64.toNat_inj
abbrev Bn:=@Bool.or_eq_true
abbrev Bo:=@UInt64.toNat_ofNat'
abbrev Bq:=@Nat.le_trans
abbrev Br:=@UInt64.le_iff_toNat_le
abbrev Bs:=@UInt64.toNat_add
abbrev Bt:=@List.append_assoc
abbrev Bu:=@Bool.not_eq_true'
abbrev Bv:=@if_true
abbrev Bx:=@Nat.lt_succ_self
abbrev By:=@List.any_eq_true
abbrev Bz:=@List.append_nil
abbrev B0:=@Int.natCast_nonneg
abbrev B1:=@Nat.mul_mod
abbrev B2:=@Nat.mul_comm
abbrev B3:=@List.map_set
abbrev B4:=@Bool.eq_iff_iff
abbrev B5:=@decide_eq_true
abbrev B6:=@List.mem_cons_self
abbrev B7:=@List.getElem?_toArray
abbrev B8:=@List.set_eq_take_append_cons_drop
abbrev B9:=@List.drop_eq_getElem_cons
abbrev Ca:=@UInt64.lt_iff_toNat_lt
abbrev Cb:=@Nat.mul_le_mul
abbrev Cc:=@Option.getD_some
abbrev Cd:=@List.all_eq_true
abbrev Ce:=@List.getElem?_map
abbrev Cg:=@Array.getElem?_eq_getElem
abbrev Ch:=@List.length_set
abbrev Ci:=@List.getElem?_take_of_lt
abbrev Cj:=@Array.toList_map
abbrev Ck:=@List.take_succ_eq_append_getElem
abbrev Cl:=@Option.map_some
abbrev Cm:=@Nat.mod_lt
abbrev Cn:=@Nat.one_mul
abbrev Co:=@Int.emod_eq_of_lt
abbrev Cp:=@List.mem_iff_getElem?
abbrev Cq:=@Nat.mul_assoc
abbrev Cr:=@List.mem_range
abbrev Cs:=@List.mem_iff_getElem
abbrev Ct:=@List.length_take
abbrev Cu:=@Nat.add_assoc
abbrev Cv:=@List.all_cons
abbrev Cw:=@Nat.add_zero
abbrev Cy:=@List.drop_of_length_le
abbrev Cz:=@Nat.min_eq_left
abbrev C3:=@Nat.le_max_left
abbrev C4:=@List.not_mem_nil
abbrev C5:=@Bool.false_eq_true
abbrev C6:=@Array.eq_empty_of_size_eq_zero
abbrev C7:=@Nat.lt_or_ge
abbrev C8:=@List.map_cons
abbrev C9:=@Nat.pow_add
abbrev Da:=@Nat.mul_one
abbrev Db:=@List.drop_zero
abbrev Dc:=@of_decide_eq_true
abbrev Dd:=@Array.size_append
abbrev De:=@List.take_left'
abbrev Df:=@List.replicate_succ
abbrev Dg:=@Nat.zero_mul
abbrev Dh:=@Nat.zero_le
abbrev Di:=@Array.getElem?_append_left
abbrev Dk:=@List.getElem?_eq_none
abbrev Dl:=@Nat.two_pow_pos
abbrev Dm:=@Nat.le_of_eq
abbrev Dp:=@List.mem_append_left
abbrev Dq:=@Nat.le_max_right
abbrev Dr:=@Nat.div_eq_of_lt
abbrev Ds:=@Nat.mul_add
abbrev Dt:=@Nat.div_div_eq_div_mul
abbrev Du:=@BitVec.toNat_ofNat
abbrev Dv:=@if_false
abbrev Dw:=@List.set_append_right
abbrev Dx:=@List.flatMap_cons
abbrev Dy:=@true_and
abbrev Dz:=@beq_iff_eq
abbrev D0:=@Nat.pow_le_pow_right
abbrev D3:=@UInt64.toNat_sub
abbrev D4:=@List.getElem_mem
abbrev D5:=@Array.toList_append
abbrev D6:=@decide_eq_false
abbrev D7:=@UInt64.toNat_or
abbrev D8:=@List.nil_append
abbrev D9:=@List.map_append
abbrev Ea:=@Nat.testBit_eq_decide_div_mod_eq
abbrev Ec:=@Nat.succ_mul
abbrev Ed:=@Nat.le_mul_of_pos_left
abbrev Ee:=@List.any_eq_false
abbrev Eg:=@Array.getElem?_eq_none
abbrev Eh:=@List.replicate_append_replicate
abbrev Ei:=@UInt64.toNat_mul
abbrev Ej:=@List.take_length
abbrev Ek:=@Array.toList_inj
abbrev El:=@Bool.true_and
abbrev Em:=@Nat.le_succ
abbrev En:=@List.take_append_of_le_length
abbrev Eo:=@UInt64.toNat_lt
abbrev Ep:=@Nat.not_lt_zero
abbrev Er:=@Nat.div_le_self
abbrev Es:=@Nat.mul_le_mul_left
abbrev Et:=@Nat.two_pow_add_eq_or_of_lt
abbrev Eu:=@Nat.sub_self
abbrev Ev:=@Nat.le_of_lt
abbrev Ew:=@List.mem_map
abbrev Ey:=@or_false
abbrev Ez:=@Nat.le_of_mul_le_mul_right
abbrev E3:=@List.take_zero
abbrev E4:=@List.take_take
abbrev E5:=@List.set_cons_zero
abbrev E6:=@List.getElem?_drop
abbrev E7:=@Int.tmod_eq_emod_of_nonneg
abbrev E8:=@Nat.mul_left_comm
abbrev E9:=@List.getElem?_set
abbrev Fa:=@List.all_eq_false
abbrev Fb:=@UInt64.not_lt
abbrev Fe:=@Bool.toNat_le
inductive Tr (α:Type) where
 |e
 |n (v:Option α) (l r:Tr α)
structure GetF (α:Type) where run:Tr α→Option α
structure SetF (α:Type) where run:α→Tr α→Tr α
def uv {α:Type}:List Bool→GetF α
 |[]=>⟨fun t=>Tr.rec none (fun v _ _ _ _=>v) t⟩
 |b::p=>match b with
  |true=>⟨fun t=>Tr.rec none (fun _ l _ _ _=>(uv p).run l) t⟩
  |false=>⟨fun t=>Tr.rec none (fun _ _ r _ _=>(uv p).run r) t⟩
def X9 {α:Type}:List Bool→SetF α
 |[]=>⟨fun a t=>Tr.rec (.n (some a) .e .e) (fun _ l r _ _=>.n (some a) l r) t⟩
 |b::p=>match b with
  |true=>⟨fun a t=>Tr.rec (.n none ((X9 p).run a .e) .e) (fun v l r _ _=>.n v ((X9 p).run a l) r) t⟩
  |false=>⟨fun a t=>Tr.rec (.n none .e ((X9 p).run a .e)) (fun v l r _ _=>.n v l ((X9 p).run a r)) t⟩
def Fk {α:Type}(p:List Bool)(t:Tr α):Option α:=(uv p).run t
def Hs {α:Type}(a:α)(p:List Bool)(t:Tr α):Tr α:=(X9 p).run a t
def uy:Nat→Nat→List Bool
 |0,_=>[]
 |f+1,k=>match k with
  |0=>[]
  |k+1=>Nat.beq (Nat.mod k 2) 0::uy f (Nat.div k 2)
def F7 (k:Nat):List Bool:=uy (Nat.succ k) k
def I6:Nat:=1000000000
def Kd {α:Type}:List α→Nat→Tr α→Tr α
 |[],_,t=>t
 |a::l,i,t=>Kd l (i+1) (Hs a (F7 i) t)
inductive AV where
 |bool (b:Bool)
 |int (k:IntKind) (n:Int)
 |str (len n:Nat)
 |nilPtr
 |ptr (o v i:Nat)
 |nilSl
 |sl (o v i len esz:Nat) (room:Option Nat)
 |emp
 |nilMap
 |map (o:Nat)
 |nilFn
 |fn (f:Fn) (first cap:List AV)
 |nilIf
 |iface (t:TypeId) (v:AV)
 |agg (cs:List AV)
 |tup (vs:List AV)
 deriving Inhabited
def AV.cells:AV→Option (List AV)
 |.agg cs=>some cs
 |.tup _=>none
 |v=>some [v]
def Hx:List UInt8→Nat
 |[]=>0
 |b::l=>b.toNat+256*Hx l
def jd:Value→Option AV
 |.bool b=>some (.bool b)
 |.int k n=>some (.int k n)
 |.string s=>some (.str s.data.toList.length (Hx s.data.toList))
 |.pointer none=>some .nilPtr
 |.slice none 0 0=>some .nilSl
 |.map none=>some .nilMap
 |.nilFunc=>some .nilFn
 |.nilIface=>some .nilIf
 |_=>none
def Np:List Value→Option (List AV)
 |[]=>some []
 |v::l=>match jd v with
  |none=>none
  |some a=>match Np l with
   |none=>none
   |some r=>some (a::r)
def Qr:Value→Option AV
 |.agg cs=>(Np cs.toList).map .agg
 |.tuple vs=>if vs.size=0 then some (.tup []) else none
 |v=>jd v
inductive AObj where
 |cells (c:Tr AV) (len ver:Nat) (ro:Bool)
 |map (es:List (AV×AV×Nat)) (clock:Nat)
 |iter (len n pos:Nat)
 |loop (st:LoopState) (pend:Option Code) (f nt:Nat) (env:Tr AV) (ps:Array Tmp) (assign body:Code) (defers:Nat)
 |defd (isOpen:Bool)
structure Heap where
 t:Tr AObj
 next:Nat
def Heap.get (H:Heap)(o:Nat):Option AObj:=Fk (F7 o) H.t
def Heap.put (H:Heap)(o:Nat)(x:AObj):Heap:=⟨Hs x (F7 o) H.t,H.next⟩
def Heap.push (H:Heap)(x:AObj):Heap:=⟨Hs x (F7 H.next) H.t,H.next+1⟩
def Lj (c:Tr AV):Nat→Nat→Option (List AV)
 |_,0=>some []
 |i,n+1=>match Fk (F7 i) c with
  |none=>none
  |some a=>match Lj c (i+1) n with
   |none=>none
   |some l=>some (a::l)
def Jx (H:Heap)(o v i n:Nat):Option (List AV) :=
 match H.get o with
 |some (.cells c len a _)=>match Nat.beq v a with
  |true=>match Nat.ble (Nat.add i n) len with
   |true=>Lj c i n
   |false=>none
  |false=>none
 |_=>none
def Qh (H:Heap)(o v i:Nat)(l:List AV):Option Heap :=
 match H.get o with
 |some (.cells c len a false)=>match Nat.beq v a with
  |true=>match Nat.ble (Nat.add i l.length) len with
   |true=>some (H.put o (.cells (Kd l i c) len a false))
   |false=>none
  |false=>none
 |_=>none
def newObj (H:Heap)(l:List AV):Option (Nat×Heap):=some (H.next,H.push (.cells (Kd l 0 .e) l.length 0 false))
inductive Tgt where
 |fn (f:Nat)
 |yield (l:Nat)
inductive OR where
 |no
 |val (v:AV) (H:Heap)
 |call (t:Tgt) (args:List AV)
structure OpdF where run:Tr AV→Option AV
structure OpF where run:Tr AV→Heap→OR
def Km:AV:=.tup []
def F8 (x:Operand):OpdF :=
 match x with
 |.tmp t=>match Nat.ble t I6 with
  |true=>⟨fun E=>Option.rec (some Km) (fun v=>some v) (Fk (F7 t) E)⟩
  |false=>⟨fun _=>none⟩
 |.const v=>match Qr v with
  |some a=>⟨fun _=>some a⟩
  |none=>⟨fun _=>none⟩
 |.func f=>⟨fun _=>some (.fn (.func f) [] [])⟩
 |.global _=>⟨fun _=>none⟩
structure OpdsF where run:Tr AV→Option (List AV)
def opds:List Operand→OpdsF
 |[]=>⟨fun _=>some []⟩
 |x::l=>⟨fun E=>match (F8 x).run E with
  |none=>none
  |some a=>match (opds l).run E with
   |none=>none
   |some r=>some (a::r)⟩
def Gp:OpF:=⟨fun _ _=>.no⟩
def ret1 (H:Heap)(o:Option AV):OR:=match o with
 |some v=>.val v H
 |none=>.no
def I5 (x:Operand)(f:Heap→AV→OR):OpF:=⟨fun E H=>Option.rec .no (fun a=>f H a) ((F8 x).run E)⟩
def Mp (x y:Operand)(f:Heap→AV→AV→OR):OpF:=⟨fun E H=>Option.rec .no (fun a=>Option.rec .no (fun b=>f H a b) ((F8 y).run E)) ((F8 x).run E)⟩
def H0 (P:Program)(t:TypeId):Option Nat:=(P.info? t).map (·.size)
def Lv (P:Program)(t:TypeId):Option Bool:=match P.underlying t with
 |some (.struct _)|some (.array _ _)=>some true
 |some _=>some false
 |none=>none
def Ln (P:Program)(t:TypeId):Option (List AV):=match P.info? t with
 |some i=>match i.zero with
  |some v=>match Np v.cells.toList with
   |some l=>if l.length=i.size then some l else none
   |none=>none
  |none=>none
 |none=>none
def yp (P:Program)(t:TypeId):Option AV:=match P.info? t with
 |some i=>match i.zero with
  |some v=>Qr v
  |none=>none
 |none=>none
def Q0 (H:Heap)(l:List AV):OR:=match newObj H l with
 |some (o,H')=>.val (.ptr o 0 0) H'
 |none=>.no
def X2:IntKind→Nat
 |.i8=>0 |.i16=>1 |.i32=>2 |.i64=>3 |.u8=>4 |.u16=>5 |.u32=>6 |.u64=>7
def Rm (k k':IntKind):Bool:=Nat.beq (X2 k) (X2 k')
def x8 (a b:Int):Bool:=match a,b with
 |.ofNat x,.ofNat y=>Nat.beq x y
 |.negSucc x,.negSucc y=>Nat.beq x y
 |_,_=>false
def nw (a b:Int):Bool:=match a,b with
 |.ofNat x,.ofNat y=>Nat.blt x y
 |.negSucc x,.negSucc y=>Nat.blt y x
 |.negSucc _,.ofNat _=>true
 |.ofNat _,.negSucc _=>false
def R4:IntKind→Nat
 |.i8=>128 |.u8=>128 |.i16=>32768 |.u16=>32768 |.i32=>2147483648 |.u32=>2147483648
 |.i64=>9223372036854775808 |.u64=>9223372036854775808
def Ok (k:IntKind)(n:Int):Int:=match n with
 |.ofNat m=>match Nat.blt m (R4 k) with
  |true=>.ofNat m
  |false=>k.wrap (.ofNat m)
 |.negSucc m=>k.wrap (.negSucc m)
def Ot (k:IntKind):Nat:=Nat.mul 2 (R4 k)
def U2 (f:Nat→Nat→Nat)(k:IntKind)(a b:Int):Option AV:=match a,b with
 |.ofNat x,.ofNat y=>match Nat.blt x (Ot k) with
  |true=>match Nat.blt y (Ot k) with
   |true=>some (.int k (Ok k (.ofNat (f x y))))
   |false=>none
  |false=>none
 |_,_=>none
def Wq (b:Int):Bool:=match b with
 |.ofNat n=>Nat.beq n 0
 |_=>false
def vn (op:BinOp)(k:IntKind)(a b:Int):Option AV :=
 match op with
 |.add=>some (.int k (Ok k (Int.add a b)))
 |.sub=>some (.int k (Ok k (Int.sub a b)))
 |.mul=>some (.int k (Ok k (Int.mul a b)))
 |.quo=>match Wq b with
  |true=>none
  |false=>some (.int k (Ok k (Int.tdiv a b)))
 |.rem=>match Wq b with
  |true=>none
  |false=>some (.int k (Int.tmod a b))
 |.and=>U2 Nat.land k a b
 |.or=>U2 Nat.lor k a b
 |.xor=>U2 Nat.xor k a b
 |.andNot=>U2 (fun x y=>Nat.xor x (Nat.land x y)) k a b
 |.eql=>some (.bool (x8 a b))
 |.neq=>some (.bool (!(x8 a b)))
 |.lss=>some (.bool (nw a b))
 |.leq=>some (.bool (!(nw b a)))
 |.gtr=>some (.bool (nw b a))
 |.geq=>some (.bool (!(nw a b)))
 |_=>none
def I8 (a b:Nat):Nat:=match Nat.ble a b with
 |true=>a
 |false=>b
def zql (op:BinOp)(k:IntKind)(a:Int)(y:Int):Option AV :=
 match a,y with
 |.ofNat x,.ofNat y=>match op with
  |.shl=>some (.int k (Ok k (.ofNat (Nat.mul x (Nat.pow 2 (I8 y k.bits))))))
  |.shr=>some (.int k (.ofNat (Nat.div x (Nat.pow 2 (I8 y k.bits)))))
  |_=>none
 |_,_=>none
def Pv:Nat→Nat→List Nat
 |0,_=>[]
 |len+1,n=>Nat.mod n 256::Pv len (Nat.div n 256)
def b8:List Nat→List Nat→Bool
 |_,[]=>false
 |[],_::_=>true
 |a::x,b::y=>Nat.blt a b || (Nat.beq a b&&b8 x y)
def zm (op:BinOp)(la a d b:Nat):Option AV :=
 match op with
 |.add=>match Nat.ble (Nat.add la d) I6 with
  |true=>some (.str (Nat.add la d) (Nat.add a (Nat.mul b (Nat.pow 256 la))))
  |false=>none
 |.eql=>some (.bool (Nat.beq la d&&Nat.beq a b))
 |.neq=>some (.bool (!(Nat.beq la d&&Nat.beq a b)))
 |.lss=>some (.bool (b8 (Pv la a) (Pv d b)))
 |.gtr=>some (.bool (!(b8 (Pv la a) (Pv d b) || (Nat.beq la d&&Nat.beq a b))))
 |.leq=>some (.bool (b8 (Pv la a) (Pv d b) || (Nat.beq la d&&Nat.beq a b)))
 |.geq=>some (.bool (!(b8 (Pv la a) (Pv d b))))
 |_=>none
def Te (l:List AV)(off n:Nat):Option (List AV):=match Nat.ble (Nat.add off n) l.length with
 |true=>some ((l.drop off).take n)
 |false=>none
def Wv (g:Bool)(size:Nat)(l:List AV)(off:Nat):Option AV :=
 match g with
 |true=>match Te l off size with
  |some r=>some (.agg r)
  |none=>none
 |false=>l[off]?
def yu (P:Program)(t:TypeId)(l:List AV)(off:Nat):Option AV :=
 match Lv P t,H0 P t with
 |some g,some n=>Wv g n l off
 |_,_=>none
def Xz (P:Program)(f:TypeId→AV→AV→Option Bool)(xs ys:List AV):List Field→Option Bool
 |[]=>some true
 | fd :: l => match fd.name != "_" with
  |true=>match yu P fd.type xs fd.offset,yu P fd.type ys fd.offset with
   |some a,some b=>match f fd.type a b with
    |some true=>Xz P f xs ys l
    |some false=>some false
    |none=>none
   |_,_=>none
  |false=>Xz P f xs ys l
def cz (P:Program)(f:TypeId→AV→AV→Option Bool)(t:TypeId)(n:Nat)(xs d:List AV):List Nat→Option Bool
 |[]=>some true
 |i::l=>match yu P t xs (Nat.mul i n),yu P t d (Nat.mul i n) with
  |some a,some b=>match f t a b with
   |some true=>cz P f t n xs d l
   |some false=>some false
   |none=>none
  |_,_=>none
def Zn (P:Program)(f:TypeId→AV→AV→Option Bool)(t:TypeId)(a b:AV):Option Bool:=match P.underlying t,a,b with
  |some .bool,.bool x,.bool y=>some (x==y)
  |some (.int _),.int k x,.int k' y=>match Rm k k' with
   |true=>some (x8 x y)
   |false=>none
  |some .string,.str la x,.str g y=>some (Nat.beq la g&&Nat.beq x y)
  |some (.pointer _),.nilPtr,.nilPtr=>some true
  |some (.pointer _),.nilPtr,.ptr _ _ _=>some false
  |some (.pointer _),.ptr _ _ _,.nilPtr=>some false
  |some (.interface _),.nilIf,.nilIf=>some true
  |some (.interface _),.nilIf,.iface _ _=>some false
  |some (.interface _),.iface _ _,.nilIf=>some false
  |some (.slice _),.nilSl,.nilSl=>some true
  |some (.slice _),.nilSl,.sl _ _ _ _ _ _=>some false
  |some (.slice _),.sl _ _ _ _ _ _,.nilSl=>some false
  |some (.slice _),.nilSl,.emp=>some false
  |some (.slice _),.emp,.nilSl=>some false
  |some (.map _ _),.nilMap,.nilMap=>some true
  |some (.map _ _),.nilMap,.map _=>some false
  |some (.map _ _),.map _,.nilMap=>some false
  |some (.func _ _ _),.nilFn,.nilFn=>some true
  |some (.func _ _ _),.nilFn,.fn _ _ _=>some false
  |some (.func _ _ _),.fn _ _ _,.nilFn=>some false
  |some (.struct h),.agg xs,.agg d=>match P.stoodInHeld t with
   |true=>none
   |false=>Xz P f xs d h.toList
  |some (.array n e),.agg xs,.agg d=>match H0 P e with
   |some s=>cz P f e s xs d (List.range n)
   |none=>none
  |_,_,_=>none
def eqT (P:Program):Nat→TypeId→AV→AV→Option Bool
 |0=>fun _ _ _=>none
 |d+1=>Zn P (eqT P d)
def zr (P:Program)(g:Bool)(t:TypeId)(a b:AV):Bool:=match a,b with
 |.nilIf,.nilIf=>g
 |.agg _,.agg _=>!(P.eqGuardType P.depth t)
 |_,_=>true
def Ks (P:Program)(g:Bool)(t:TypeId)(a b:AV):Option Bool:=match zr P g t a b with
 |true=>eqT P 20 t a b
 |false=>none
def we:Option Bool→Option AV
 |some b=>some (.bool (!b))
 |none=>none
def sn:Option Bool→Option AV
 |some b=>some (.bool b)
 |none=>none
def Q5:Operand→Bool
 |.const _=>true
 |_=>false
def Im (P:Program)(op:BinOp)(g:Bool)(t:TypeId)(a b:AV):Option AV :=
 match a,b with
 |.int k x,.int k' y=>match op with
  |.shl=>zql .shl k x y
  |.shr=>zql .shr k x y
  |op=>match Rm k k' with
   |true=>vn op k x y
   |false=>none
 |.str la x,.str d y=>zm op la x d y
 |a,b=>match op with
  |.eql=>sn (Ks P g t a b)
  |.neq=>we (Ks P g t a b)
  |_=>none
def unA (op:UnOp)(a:AV):Option AV :=
 match op,a with
 |.neg,.int k n=>some (.int k (Ok k (Int.sub 0 n)))
 |.xor,.int k n=>some (.int k (k.wrap (BitVec.ofInt k.bits (if k.signed then -1 else k.max) ^^^ BitVec.ofInt k.bits n).toNat))
 |.not,.bool b=>some (.bool (!b))
 |_,_=>none
def Nj:List AV→Nat→List AV→List AV
 |cs,_,[]=>cs
 |cs,i,a::l=>Nj (cs.set i a) (i+1) l
structure Part where
 off:Nat
 size:Nat
 v:OpdF
def Xs (cs:List AV):List Part→Tr AV→Option (List AV)
 |[],_=>some cs
 |p::d,E=>match p.v.run E with
  |none=>none
  |some a=>match a.cells with
   |none=>none
   |some l=>match Nat.beq l.length p.size with
    |true=>match Nat.ble (Nat.add p.off p.size) cs.length with
     |true=>Xs (Nj cs p.off l) d E
     |false=>none
    |false=>none
def ae (place:Nat→Option (Nat×Nat)):List (Nat×Operand)→Option (List Part)
 |[]=>some []
 |(i,x)::l=>match place i with
  |none=>none
  |some (o,s)=>match ae place l with
   |none=>none
   |some r=>some (⟨o,s,F8 x⟩::r)
def zcn (P:Program):List Field→Option (List (Nat×Nat))
 |[]=>some []
 |f::l=>match H0 P f.type with
  |none=>none
  |some s=>match zcn P l with
   |none=>none
   |some r=>some ((f.offset,s)::r)
def yd (P:Program)(t:TypeId)(parts:Array (Nat×Operand)):OpF :=
 match Ln P t with
 |none=>Gp
 |some cs=>match P.underlying t with
  |some (.struct fields)=>match zcn P fields.toList with
   |none=>Gp
   |some pl=>match ae (pl[·]?) parts.toList with
    |none=>Gp
    |some a=>⟨fun E H=>match Xs cs a E with
     |some l=>.val (.agg l) H
     |none=>.no⟩
  |some (.array _ elem)=>match H0 P elem with
   |none=>Gp
   |some size=>match ae (fun i=>some (i*size,size)) parts.toList with
    |none=>Gp
    |some a=>⟨fun E H=>match Xs cs a E with
     |some l=>.val (.agg l) H
     |none=>.no⟩
  |_=>Gp
def Mc (l:List AV):Nat→List AV
 |0=>[]
 |n+1=>l++Mc l n
def m9 (P:Program)(t:TypeId)(len:Nat)(parts:Array (Nat×Operand)):OpF :=
 match P.underlying t with
 |some (.slice elem)=>match H0 P elem with
  |none=>Gp
  |some size=>match Ln P elem with
   |none=>Gp
   |some z=>if len*size≤2^20∧0<size then
     match ae (fun i=>some (i*size,size)) parts.toList with
     |none=>Gp
     |some a=>⟨fun E H=>match Xs (Mc z len) a E with
      |some l=>match newObj H l with
       |some (o,H')=>.val (.sl o 0 0 len size (some len)) H'
       |none=>.no
      |none=>.no⟩
    else Gp
 |_=>Gp
def ux (P:Program)(t:TypeId)(x:Operand):OpF :=
 match Lv P t,H0 P t with
 |some true,some n=>I5 x fun H a=>match a with
  |.ptr o v i=>match Jx H o v i n with
   |some l=>.val (.agg l) H
   |none=>.no
  |_=>.no
 |some false,some _=>I5 x fun H a=>match a with
  |.ptr o v i=>match Jx H o v i 1 with
   |some [c]=>.val c H
   |_=>.no
  |_=>.no
 |_,_=>Gp
def zqu (P:Program)(t:TypeId)(x y:Operand):OpF :=
 match H0 P t with
 |some n=>Mp x y fun H a b=>match a with
  |.ptr o v i=>match b.cells with
   |some l=>match Nat.beq l.length n with
    |true=>match Qh H o v i l with
     |some H'=>.val Km H'
     |none=>.no
    |false=>.no
   |none=>.no
  |_=>.no
 |none=>Gp
def ur (H:Heap)(a:AV):OR:=match a with
 |.ptr o v i=>.val (.ptr o v i) H
 |.iface t v=>.val (.iface t v) H
 |.fn (.func f) l c=>.val (.fn (.func f) l c) H
 |.map o=>.val (.map o) H
 |_=>.no
def P8 (P:Program)(src dst:TypeId)(x:Operand):OpF :=
 match P.underlying src,P.underlying dst with
 |some _,some (.int k)=>I5 x fun H a=>match a with
  |.int _ n=>.val (.int k (Ok k n)) H
  |_=>.no
 |some (.slice e),some .string=>match P.underlying e with
  |some (.int .u8)=>I5 x fun H a=>match a with
   |.nilSl=>.val (.str 0 0) H
   |.sl o v i len 1 _=>match Jx H o v i len with
    |some l=>match bytesA l with
     |some n=>.val (.str len n) H
     |none=>.no
    |none=>.no
   |_=>.no
  |_=>Gp
 |some _,some .string=>I5 x fun H a=>match a with
  |.str l n=>.val (.str l n) H
  |_=>.no
 |some _,some (.slice e)=>match P.underlying e,H0 P e with
  |some (.int .u8),some 1=>I5 x fun H a=>match a with
   |.str len n=>match newObj H ((Pv len n).map fun (b:Nat)=>AV.int .u8 (Int.ofNat b)) with
    |some (o,H')=>.val (.sl o 0 0 len 1 none) H'
    |none=>.no
   |_=>.no
  |_,_=>Gp
 |_,_=>Gp
where
 bytesA:List AV→Option Nat
  |[]=>some 0
  |.int .u8 (.ofNat b)::l=>if Nat.blt b 256 then match bytesA l with
   |some n=>some (b+256*n)
   |none=>none
   else none
  |_=>none
def xq (P:Program)(t:TypeId)(x:Operand):OpF :=
 match P.underlying t with
 |some (.interface _)=>Gp
 |some _=>I5 x fun H a=>.val (.iface t a) H
 |none=>Gp
def xp (f:Fn)(first cap:Array Operand):OpF :=
 ⟨fun E H=>match (opds first.toList).run E with
  |some l=>match (opds cap.toList).run E with
   |some r=>.val (.fn f l r) H
   |none=>.no
  |none=>.no⟩
def S0 (H:Heap):OR:=.val (.map H.next) (H.push (.map [] 0))
def nq (P:Program)(t:TypeId)(r:Option Operand):OpF :=
 match r with
 |none=>⟨fun _ H=>S0 H⟩
 |some x=>match P.underlying t with
  |some (.map _ _)=>I5 x fun H a=>match a with
   |.int _ _=>S0 H
   |_=>.no
  |_=>Gp
def nf (P:Program)(t:TypeId)(l c:Operand):OpF :=
 match P.underlying t with
 |some (.slice elem)=>match P.info? elem with
  |none=>Gp
  |some i=>match Ln P elem with
   |none=>Gp
   |some z=>if 0<i.size∧i.bytes≤2^16 then Mp l c fun H a b=>match a,b with
    |.int .i64 (.ofNat l),.int .i64 (.ofNat c)=>match Nat.ble l c with
     |true=>match Nat.ble c 1048576 with
      |true=>match newObj H (Mc z c) with
       |some (o,H')=>.val (.sl o 0 0 l i.size (some c)) H'
       |none=>.no
      |false=>.no
     |false=>.no
    |_,_=>.no
    else Gp
 |_=>Gp
structure OptF where run:Tr AV→Option (Option Nat)
def I7:Option Operand→OptF
 |none=>⟨fun _=>some none⟩
 |some x=>⟨fun E=>match (F8 x).run E with
  |some (.int _ (.ofNat n))=>some (some n)
  |_=>none⟩
def Wh (l h m o v i esz:Nat):AV :=
 match Nat.beq l m with
 |true=>match Nat.beq l 0 with
  |true=>.sl o v i 0 esz (some 0)
  |false=>.emp
 |false=>.sl o v (Nat.add i (Nat.mul l esz)) (Nat.sub h l) esz (some (Nat.sub m l))
def nm (l h a:Nat)(mx:Option Nat)(o v i esz:Nat)(room:Option Nat):Option AV :=
 match Nat.ble l h with
 |false=>none
 |true=>match Nat.ble h a with
  |false=>none
  |true=>match mx with
   |some m=>match Nat.ble h m with
    |false=>none
    |true=>match Nat.ble m a with
     |false=>none
     |true=>some (Wh l h m o v i esz)
   |none=>match room with
    |some r=>some (Wh l h r o v i esz)
    |none=>match Nat.beq l 0 with
     |true=>some (.sl o v i h esz none)
     |false=>match Nat.beq l h with
      |true=>some .emp
      |false=>some (.sl o v (Nat.add i (Nat.mul l esz)) (Nat.sub h l) esz none)
def O2 (size:Nat)(lo hi mx:Option Nat)(o v i len esz:Nat)(room:Option Nat):Option AV :=
 match Nat.beq esz size with
 |false=>none
 |true=>nm (lo.getD 0) (hi.getD len) (room.getD len) mx o v i esz room
def fk (P:Program)(t:TypeId)(x:Operand)(lo hi mx:Option Operand):OpF :=
 match P.underlying t with
 |some .string=>match mx with
  |some _=>Gp
  |none=>⟨fun E H=>match (F8 x).run E,(I7 lo).run E,(I7 hi).run E with
   |some (.str len n),some lo,some hi =>
    let l:=lo.getD 0;let h:=hi.getD len
    match Nat.ble l h with
    |true=>match Nat.ble h len with
     |true=>.val (.str (Nat.sub h l) (Nat.mod (Nat.div n (Nat.pow 256 l)) (Nat.pow 256 (Nat.sub h l)))) H
     |false=>.no
    |false=>.no
   |_,_,_=>.no⟩
 |some (.slice elem)=>if mx.isSome&&hi.isNone then Gp else match H0 P elem with
  |none=>Gp
  |some size=>⟨fun E H=>match (F8 x).run E,(I7 lo).run E,(I7 hi).run E,(I7 mx).run E with
   |some (.sl o v i len esz room),some lo,some hi,some mx=>ret1 H (O2 size lo hi mx o v i len esz room)
   |some .nilSl,some lo,some hi,some none=>match Nat.beq (Nat.add (lo.getD 0) (hi.getD 0)) 0 with
    |true=>.val .nilSl H
    |false=>.no
   |some .emp,some lo,some hi,some none=>match Nat.beq (Nat.add (lo.getD 0) (hi.getD 0)) 0 with
    |true=>.val .emp H
    |false=>.no
   |_,_,_,_=>.no⟩
 |some (.array n elem)=>if mx.isSome&&hi.isNone then Gp else match H0 P elem with
  |none=>Gp
  |some size=>⟨fun E H=>match (F8 x).run E,(I7 lo).run E,(I7 hi).run E,(I7 mx).run E with
   |some (.ptr o v i),some lo,some hi,some mx=>match H.get o with
    |some (.cells _ a d false)=>match Nat.beq v d with
     |true=>match Nat.ble (Nat.add i (Nat.mul n size)) a with
      |true=>ret1 H (O2 size lo hi mx o v i n size (some n))
      |false=>.no
     |false=>.no
    |_=>.no
   |_,_,_,_=>.no⟩
 |_=>Gp
def u7 (P:Program)(s:TypeId)(x:Operand)(f:Nat):OpF :=
 match P.underlying s with
 |some (.struct fields)=>match fields[f]? with
  |none=>Gp
  |some fd=>match H0 P fd.type with
   |none=>Gp
   |some 0=>Gp
   |some _=>let off:=fd.offset;I5 x fun H a=>match a with
    |.ptr o v i=>.val (.ptr o v (Nat.add i off)) H
    |_=>.no
 |_=>Gp
def xl (P:Program)(t:TypeId)(x:Operand)(f:Nat):OpF :=
 match P.underlying t with
 |some (.struct fields)=>match fields[f]? with
  |none=>Gp
  |some fd=>match Lv P fd.type,H0 P fd.type with
   |some g,some n=>let off:=fd.offset;I5 x fun H a=>match a with
    |.agg l=>ret1 H (Wv g n l off)
    |_=>.no
   |_,_=>Gp
 |_=>Gp
def ul (P:Program)(t:TypeId)(x ix:Operand):OpF :=
 match P.underlying t with
 |some (.slice elem)=>match H0 P elem with
  |none=>Gp
  |some size=>Mp x ix fun H a b=>match a,b with
   |.sl o v i len esz _,.int _ (.ofNat n)=>match Nat.blt n len with
    |true=>match Nat.beq esz size with
     |true=>.val (.ptr o v (Nat.add i (Nat.mul n esz))) H
     |false=>.no
    |false=>.no
   |_,_=>.no
 |some (.array len elem)=>match H0 P elem with
  |none=>Gp
  |some size=>Mp x ix fun H a b=>match a,b with
   |.ptr o v i,.int _ (.ofNat n)=>match Nat.blt n len with
    |true=>.val (.ptr o v (Nat.add i (Nat.mul n size))) H
    |false=>.no
   |_,_=>.no
 |_=>Gp
def wg (P:Program)(t:TypeId)(x ix:Operand):OpF :=
 match P.underlying t with
 |some .string=>Mp x ix fun H a b=>match a,b with
  |.str len n,.int _ (.ofNat i)=>match Nat.blt i len with
   |true=>.val (.int .u8 (Int.ofNat (Nat.mod (Nat.div n (Nat.pow 256 i)) 256))) H
   |false=>.no
  |_,_=>.no
 |some (.array len elem)=>match Lv P elem,H0 P elem with
  |some g,some size=>Mp x ix fun H a b=>match a,b with
   |.agg l,.int _ (.ofNat n)=>match Nat.blt n len with
    |true=>ret1 H (Wv g size l (Nat.mul n size))
    |false=>.no
   |_,_=>.no
  |_,_=>Gp
 |_=>Gp
def j2 (d:TypeDesc)(a b:AV):Option Bool:=match d,a,b with
 |.int _,.int k a,.int k' b=>match Rm k k' with
  |true=>some (x8 a b)
  |false=>none
 |.string,.str la a,.str f b=>some (Nat.beq la f&&Nat.beq a b)
 |.bool,.bool a,.bool b=>some (a==b)
 |_,_,_=>none
def Ow (P:Program)(t:TypeId):Option TypeDesc:=match P.underlying t with
 |some .bool=>some .bool
 |some (.int k)=>some (.int k)
 |some .string=>some .string
 |_=>none
def oh (d:TypeDesc)(k:AV):List (AV×AV×Nat)→Option (Option AV)
 |[]=>some none
 |(k',v,_)::l=>match j2 d k k' with
  |some true=>some (some v)
  |some false=>oh d k l
  |none=>none
def np (d:TypeDesc)(k v:AV)(clock:Nat):List (AV×AV×Nat)→Option (List (AV×AV×Nat)×Bool)
 |[]=>some ([(k,v,clock)],true)
 |(k',a,b)::l=>match j2 d k k' with
  |some true=>some ((k,v,b)::l,false)
  |some false=>match np d k v clock l with
   |some (r,n)=>some ((k',a,b)::r,n)
   |none=>none
  |none=>none
def ziq (d:TypeDesc)(k:AV):List (AV×AV×Nat)→Option (List (AV×AV×Nat))
 |[]=>some []
 |(k',a,b)::l=>match j2 d k k' with
  |some true=>some l
  |some false=>match ziq d k l with
   |some r=>some ((k',a,b)::r)
   |none=>none
  |none=>none
def zy9 (H:Heap)(a:AV):Option (List (AV×AV×Nat)):=match a with
 |.nilMap=>some []
 |.map o=>match H.get o with
  |some (.map es _)=>some es
  |_=>none
 |_=>none
def yq (P:Program)(t:TypeId)(x ix:Operand)(ok:Bool):OpF :=
 match P.underlying t with
 |some (.map key elem)=>match Ow P key,yp P elem with
  |some d,some z=>Mp x ix fun H a b=>match zy9 H a with
   |none=>.no
   |some es=>match oh d b es with
    |some (some v)=>.val (if ok then .tup [v,.bool true] else v) H
    |some none=>.val (if ok then .tup [z,.bool false] else z) H
    |none=>.no
  |_,_=>Gp
 |_=>Gp
def uo (P:Program)(t:TypeId)(m k x:Operand):OpF :=
 match P.underlying t with
 |some (.map key _)=>match Ow P key with
  |some d=>⟨fun E H=>match (F8 m).run E,(F8 k).run E,(F8 x).run E with
   |some (.map o),some k,some v=>match H.get o with
    |some (.map es clock)=>match np d k v clock es with
     |some (a,true)=>.val Km (H.put o (.map a (Nat.add clock 1)))
     |some (a,false)=>.val Km (H.put o (.map a clock))
     |none=>.no
    |_=>.no
   |_,_,_=>.no⟩
  |none=>Gp
 |_=>Gp
def rangeF (P:Program)(t:TypeId)(x:Operand):OpF :=
 match P.underlying t with
 |some .string=>I5 x fun H a=>match a with
  |.str len n=>.val (.ptr H.next 0 0) (H.push (.iter len n 0))
  |_=>.no
 |_=>Gp
def Px (x:Operand)(isString:Bool):OpF :=
 if isString then I5 x fun H a=>match a with
  |.ptr o 0 0=>match H.get o with
   |some (.iter len n pos)=>match Nat.blt pos len with
    |true=>match Nat.blt (Nat.mod (Nat.div n (Nat.pow 256 pos)) 256) 128 with
     |true=>.val (.tup [.bool true,.int .i64 (Int.ofNat pos),.int .i32 (Int.ofNat (Nat.mod (Nat.div n (Nat.pow 256 pos)) 256))]) (H.put o (.iter len n (Nat.add pos 1)))
     |false=>.no
    |false=>.val (.tup [.bool false]) H
   |_=>.no
  |_=>.no
 else Gp
def vt (P:Program)(x:Operand)(asserted:TypeId)(ok:Bool):OpF :=
 match P.underlying asserted with
 |some (.interface _)=>Gp
 |some _=>match yp P asserted with
  |none=>Gp
  |some z=>I5 x fun H a=>match a with
   |.nilIf=>if ok then .val (.tup [z,.bool false]) H else .no
   |.iface t v=>match Nat.beq t asserted with
    |true=>.val (if ok then .tup [v,.bool true] else v) H
    |false=>if ok then .val (.tup [z,.bool false]) H else .no
   |_=>.no
 |none=>Gp
def zhl (x:Operand)(i:Nat):OpF:=I5 x fun H a=>match a with
 |.tup l=>ret1 H l[i]?
 |_=>.no
def Ov (P:Program)(t:TypeId)(x:Operand):OpF :=
 match P.underlying t with
 |some .string=>I5 x fun H a=>match a with
  |.str l _=>.val (.int .i64 (Int.ofNat l)) H
  |_=>.no
 |some (.slice _)=>I5 x fun H a=>match a with
  |.sl _ _ _ len _ _=>.val (.int .i64 (Int.ofNat len)) H
  |.nilSl=>.val (.int .i64 0) H
  |.emp=>.val (.int .i64 0) H
  |_=>.no
 |some (.map _ _)=>I5 x fun H a=>match a with
  |.nilMap=>.val (.int .i64 0) H
  |.map o=>match H.get o with
   |some (.map es _)=>.val (.int .i64 (Int.ofNat es.length)) H
   |_=>.no
  |_=>.no
 |some (.array n _)=>I5 x fun H _=>.val (.int .i64 (Int.ofNat n)) H
 |_=>Gp
def Qy (P:Program)(t:TypeId)(x:Operand):OpF :=
 match P.underlying t with
 |some (.slice _)=>I5 x fun H a=>match a with
  |.nilSl=>.val (.int .i64 0) H
  |.sl _ _ _ _ _ (some r)=>.val (.int .i64 (Int.ofNat r)) H
  |_=>.no
 |_=>Gp
def Qu (mx:Bool):AV→AV→Option AV
 |.int k x,.int k' y=>match Rm k k' with
  |true=>match mx with
   |true=>match nw x y with
    |true=>some (.int k y)
    |false=>some (.int k x)
   |false=>match nw y x with
    |true=>some (.int k y)
    |false=>some (.int k x)
  |false=>none
 |_,_=>none
def Vd (mx:Bool):AV→List AV→Option AV
 |a,[]=>some a
 |a,b::l=>match Qu mx a b with
  |some c=>Vd mx c l
  |none=>none
def Nf (mx:Bool)(args:List Operand):OpF:=⟨fun E H=>match (opds args).run E with
 |some (.int k n::l)=>ret1 H (Vd mx (.int k n) l)
 |_=>.no⟩
def Yy (H:Heap)(size:Nat):AV→Option (Nat×List AV)
 |.nilSl=>some (0,[])
 |.emp=>some (0,[])
 |.sl o v i len esz _=>match Nat.beq esz size with
  |true=>match Jx H o v i (Nat.mul len size) with
   |some l=>some (len,l)
   |none=>none
  |false=>none
 |.str len n=>if Nat.beq size 1 then some (len,(Pv len n).map fun (b:Nat)=>AV.int .u8 (Int.ofNat b)) else none
 |_=>none
def Vl (H:Heap)(n size:Nat)(l:List AV):OR :=
 match newObj H l with
 |some (o,H')=>.val (.sl o 0 0 n size none) H'
 |none=>.no
def Qm (H:Heap)(size:Nat)(s:AV)(n:Nat)(new:List AV):OR :=
 match Nat.beq n 0 with
 |true=>match s with
  |.nilSl=>.val .nilSl H
  |.emp=>.val .emp H
  |.sl o v i len esz room=>.val (.sl o v i len esz room) H
  |_=>.no
 |false=>match s with
  |.nilSl=>Vl H n size new
  |.sl o v i len esz room=>match Nat.beq esz size&&Nat.ble len I6 with
   |false=>.no
   |true=>match room with
    |some r=>match Nat.ble (Nat.add len n) r with
     |true=>match Qh H o v (Nat.add i (Nat.mul len esz)) new with
      |some H'=>.val (.sl o v i (Nat.add len n) esz (some r)) H'
      |none=>.no
     |false=>match Jx H o v i (Nat.mul len size) with
      |some f=>Vl H (Nat.add len n) size (f++new)
      |none=>.no
    |none=>match H.get o with
     |some (.cells c a d false)=>match Nat.beq v d with
      |false=>.no
      |true=>match Nat.ble (Nat.add i (Nat.mul (Nat.add len n) esz)) a with
       |true=>match Qh H o v (Nat.add i (Nat.mul len esz)) new with
        |some H'=>.val (.sl o v i (Nat.add len n) esz none) H'
        |none=>.no
       |false=>match Nat.beq i 0 with
        |false=>.no
        |true=>match Nat.beq (Nat.mul len esz) a with
         |false=>.no
         |true=>.val (.sl o (Nat.add d 1) 0 (Nat.add len n) esz none) (H.put o (.cells (Kd new a c) (Nat.add a new.length) (Nat.add d 1) false))
     |_=>.no
  |_=>.no
def zmp (P:Program)(elem:TypeId)(s x:Operand):OpF :=
 match P.info? elem,Ln P elem with
 |some i,some z=>if 0<i.size∧i.bytes≤65536 then Mp s x fun H a b=>match b with
   |.int .i64 (.ofNat n)=>match Nat.ble n 1048576 with
    |true=>Qm H i.size a n (Mc z n)
    |false=>.no
   |_=>.no
  else Gp
 |_,_=>Gp
def ql (P:Program)(elem:TypeId)(s x:Operand):OpF :=
 match P.info? elem,Ln P elem with
 |some i,some _=>if 0<i.size∧i.bytes≤65536 then Mp s x fun H a b=>match Yy H i.size b with
   |some (n,l)=>match Nat.ble n 1048576 with
    |true=>Qm H i.size a n l
    |false=>.no
   |none=>.no
  else Gp
 |_,_=>Gp
def zjm (P:Program)(a:Array TypeId)(args:Array Operand):OpF :=
 match a.toList,args.toList with
 |[st,d],[s,x]=>match P.underlying st,P.underlying d with
  |some (.slice elem),some (.int _)=>zmp P elem s x
  |some (.slice elem),some (.slice _)=>ql P elem s x
  |some (.slice elem),some .string=>ql P elem s x
  |_,_=>Gp
 |_,_=>Gp
def zyr (P:Program)(f:Array TypeId)(args:Array Operand):OpF :=
 match f.toList,args.toList with
 |[st,_],[d,x]=>match P.underlying st with
  |some (.slice elem)=>match H0 P elem with
   |none=>Gp
   |some size=>if 0<size then Mp d x fun H a b=>match Yy H size b with
    |some (n,l)=>match a with
     |.nilSl=>.val (.int .i64 0) H
     |.emp=>.val (.int .i64 0) H
     |.sl o v i len esz _=>match Nat.beq esz size with
      |true=>match Qh H o v i (l.take (Nat.mul (I8 n len) size)) with
       |some H'=>.val (.int .i64 (Int.ofNat (I8 n len))) H'
       |none=>.no
      |false=>.no
     |_=>.no
    |none=>.no
    else Gp
  |_=>Gp
 |_,_=>Gp
def zps (P:Program)(d:Array TypeId)(args:Array Operand):OpF :=
 match d.toList,args.toList with
 |[st],[x]=>match P.underlying st with
  |some (.slice elem)=>match H0 P elem,Ln P elem with
   |some size,some z=>if 0<size then I5 x fun H a=>match a with
    |.nilSl=>.val Km H
    |.emp=>.val Km H
    |.sl o v i len esz _=>match Nat.beq esz size with
     |true=>match Qh H o v i (Mc z len) with
      |some H'=>.val Km H'
      |none=>.no
     |false=>.no
    |_=>.no
    else Gp
   |_,_=>Gp
  |_=>Gp
 |_,_=>Gp
def zjl (P:Program)(g:Array TypeId)(args:Array Operand):OpF :=
 match g.toList,args.toList with
 |[mt,_],[m,k]=>match P.underlying mt with
  |some (.map key _)=>match Ow P key with
   |some d=>Mp m k fun H a b=>match a with
    |.map o=>match H.get o with
     |some (.map es clock)=>match ziq d b es with
      |some f=>.val Km (H.put o (.map f clock))
      |none=>.no
     |_=>.no
    |_=>.no
   |none=>Gp
  |_=>Gp
 |_,_=>Gp
def gq (P:Program)(f:Nat):Bool:=match P.funcs[f]? with
 | some fn => fn.name != "runtime.NumGoroutine" && fn.body.isSome
 |none=>false
def zhw (P:Program)(t:TypeId)(name:String):Option Nat:=match P.info? t with
 |some i=>match i.methods.find? (·.name==name) with
  |some m=>if m.path.isEmpty then match m.func,P.underlying t with
   |some (f,true),some (.pointer _)=>some f
   |some (_,false),some (.pointer _)=>none
   |some (f,false),some _=>some f
   |_,_=>none
   else none
  |none=>none
 |none=>none
def bi (P:Program)(f:AV)(args:List AV):OR:=match f with
 |.fn (.func f) first cap=>if gq P f then .call (.fn f) (first++args++cap) else .no
 |.fn (.yield l) [] _=>.call (.yield l) args
 |_=>.no
def zs (P:Program)(f:Nat):Bool:=match P.funcs[f]? with
 | some fn => fn.name == "maps.clone" && fn.origin == "" && fn.body.isNone
 |none=>false
def ztl (H:Heap):List AV→OR
 |[.iface t (.map o)]=>match H.get o with
  |some (.map es a)=>.val (.iface t (.map H.next)) (H.push (.map es a))
  |_=>.no
 |_=>.no
def zhy (P:Program)(H:Heap)(g:AV)(args:List AV):OR:=match g with
 |.fn (.func f) [] []=>match zs P f with
  |true=>ztl H args
  |false=>bi P g args
 |_=>bi P g args
def Zj (P:Program)(c:Call):OpF :=
 match c.callee with
 |.builtin b=>match b with
  |.len=>match c.argTypes.toList,c.args.toList with
   |[t],[x]=>Ov P t x
   |_,_=>Gp
  |.cap=>match c.argTypes.toList,c.args.toList with
   |[t],[x]=>Qy P t x
   |_,_=>Gp
  |.max=>Nf true c.args.toList
  |.min=>Nf false c.args.toList
  |.append=>zjm P c.argTypes c.args
  |.copy=>zyr P c.argTypes c.args
  |.clear=>zps P c.argTypes c.args
  |.delete=>zjl P c.argTypes c.args
  |_=>Gp
 |.value f=>⟨fun E H=>match (F8 f).run E with
  |some g=>match (opds c.args.toList).run E with
   |some l=>zhy P H g l
   |none=>.no
  |none=>.no⟩
 |.invoke r name=>⟨fun E _=>match (F8 r).run E with
  |some (.iface t v)=>match zhw P t name with
   |some f=>match (opds c.args.toList).run E with
    |some l=>if gq P f then .call (.fn f) (v::l) else .no
    |none=>.no
   |none=>.no
  |_=>.no⟩
def Gw (P:Program)(o:Op):OpF :=
 match o with
 |.move x |.assign x=>I5 x fun H a=>.val a H
 |.pick c a b=>⟨fun E H=>match (F8 c).run E with
  |some (.bool true)=>ret1 H ((F8 a).run E)
  |some (.bool false)=>ret1 H ((F8 b).run E)
  |_=>.no⟩
 |.alloc t=>match Ln P t with
  |some l=>⟨fun _ H=>Q0 H l⟩
  |none=>Gp
 |.box _ x=>I5 x fun H a=>match a.cells with
  |some l=>Q0 H l
  |none=>.no
 |.build t parts=>yd P t parts
 |.buildSlice t len parts=>m9 P t len parts
 |.load t a=>ux P t a
 |.store t a x=>zqu P t a x
 |.nilCheck x=>I5 x ur
 |.binOp op t x y _=>let g:=Q5 x || Q5 y;Mp x y fun H a b=>ret1 H (Im P op g t a b)
 |.unOp op _ x=>I5 x fun H a=>ret1 H (unA op a)
 |.convert s d x=>P8 P s d x
 |.makeInterface t x=>xq P t x
 |.makeFunc f first cap=>match f with
  |.yield _=>Gp
  |f=>xp f first cap
 |.makeMap t r=>nq P t r
 |.makeSlice t l c=>nf P t l c
 |.slice t x lo hi mx=>fk P t x lo hi mx
 |.fieldAddr s x f=>u7 P s x f
 |.field t x f=>xl P t x f
 |.indexAddr t x i=>ul P t x i
 |.index t x i=>wg P t x i
 |.lookup t x i ok=>yq P t x i ok
 |.mapUpdate t m k x |.insert t m k x=>uo P t m k x
 |.range t x=>rangeF P t x
 |.next it s=>Px it s
 |.typeAssert x _ t ok=>vt P x t ok
 |.extract t i=>zhl t i
 |.call c=>Zj P c
 |_=>Gp
inductive RV where
 |no
 |ok (v:AV) (H:Heap)
abbrev J2:=Tgt→List AV→Heap→RV
inductive OE where
 |no
 |ok (E:Tr AV) (H:Heap)
structure SeqF where run:J2→Tr AV→Heap→OE
structure PutF where run:AV→Tr AV→Tr AV
def Jv (n:Nat)(d:Option Tmp):Option PutF :=
 match d with
 |none=>some ⟨fun _ E=>E⟩
 |some d=>if d<n then some ⟨fun a E=>Hs a (F7 d) E⟩ else none
structure GuardF where run:Tr AV→Bool
def Lq (ops:Array Oper)(o:Oper):GuardF :=
 match o.guard with
 |none=>⟨fun _=>true⟩
 |some (j,want)=>match (ops[j]?).bind (·.dst) with
  |none=>⟨fun _=>false⟩
  |some d=>if d≤I6 then ⟨fun E=>match Fk (F7 d) E with
   |some (.bool b)=>match b with
    |true=>want
    |false=>!want
   |_=>false⟩ else ⟨fun _=>false⟩
def Js (P:Program)(n:Nat)(ops:Array Oper)(o:Oper):SeqF :=
 match Jv n o.dst with
 |none=>⟨fun _ _ _=>.no⟩
 |some p=>⟨fun c E H=>Bool.rec (.ok (p.run Km E) H)
   (OR.rec .no (fun v H'=>.ok (p.run v E) H') (fun t args=>RV.rec .no (fun v H'=>.ok (p.run v E) H') (c t args H)) ((Gw P o.op).run E H))
   ((Lq ops o).run E)⟩
def bh (P:Program)(n:Nat)(ops:Array Oper):List Oper→SeqF
 |[]=>⟨fun _ E H=>.ok E H⟩
 |o::l=>⟨fun c E H=>OE.rec .no (fun a H'=>(bh P n ops l).run c a H') ((Js P n ops o).run c E H)⟩
inductive Cls where
 |quiet|rd|ch|al
def zno (P:Program)(t:TypeId):Bool:=match P.underlying t with
 |some (.map _ _)=>true
 |_=>false
def znx (P:Program)(t:TypeId):Bool:=match P.underlying t with
 |some (.array _ _)=>true
 |_=>false
def qi (P:Program)(t:TypeId):Bool:=match P.underlying t with
 |some (.slice _)=>true
 |_=>false
def y8 (P:Program)(c:Call):Cls:=match c.callee with
 |.builtin .len=>match c.argTypes.toList with
  |[t]=>if zno P t then .rd else .quiet
  |_=>.ch
 |.builtin .cap |.builtin .max |.builtin .min=>.quiet
 |_=>.ch
def cls (P:Program)(o:Op):Cls :=
 match o with
 |.move _ |.assign _ |.pick _ _ _ |.build _ _ |.nilCheck _ |.binOp _ _ _ _ _ |.unOp _ _ _ |.makeInterface _ _ |.makeFunc _ _ _ |.fieldAddr _ _ _
 |.field _ _ _ |.indexAddr _ _ _ |.index _ _ _ |.typeAssert _ _ _ _ |.extract _ _=>.quiet
 |.slice t _ _ _ _=>if znx P t then .rd else .quiet
 |.convert s d _=>if qi P d then .ch else if qi P s then .rd else .quiet
 |.load _ _ |.lookup _ _ _ _=>.rd
 |.call c=>y8 P c
 |.alloc _ |.box _ _ |.buildSlice _ _ _ |.makeSlice _ _ _ |.makeMap _ _=>.al
 |_=>.ch
def ni (acc:List Nat):List Edge→Nat
 |[]=>0
 |e::l=>match Region.binds .any e with
  |true=>Nat.lor (Nat.lor (2^e.on) (acc.getD e.on 0)) (ni acc l)
  |false=>ni acc l
def zpz:List Nat→Nat
 |[]=>0
 |t::l=>Nat.lor (2^t) (zpz l)
def ny:List Operand→List Nat
 |[]=>[]
 |.tmp t::l=>t::ny l
 |_::l=>ny l
def N6 (ops:Array Oper)(o:Oper):List Nat :=
 ny o.op.operands.toList++(match o.guard with
  |some (j,_)=>((ops[j]?).bind (·.dst)).toList
  |none=>[])
structure DOp where
 o:Oper
 i:Nat
 m:Nat
 lm:Nat
 c:Cls
def Ji (P:Program)(ops:Array Oper):List Oper→List Nat→Nat→List DOp
 |[],_,_=>[]
 |o::l,acc,i=>⟨o,i,ni acc o.after.toList,zpz (N6 ops o),cls P o.op⟩::Ji P ops l (acc++[ni acc o.after.toList]) (i+1)
def Fy (x:DOp):Bool:=match x.c with
 |.ch=>true
 |_=>false
def Nz (x:DOp):Bool:=match x.c with
 |.rd=>true
 |.al=>true
 |_=>false
def zrx (x:DOp):Bool:=match x.c with
 |.quiet=>true
 |_=>false
def zu4 (x y:DOp):Bool:=match y.o.dst with
 |none=>true
 |some d=>match Nat.testBit x.lm d with
  |false=>true
  |true=>match Nat.beq x.i y.i with
   |true=>!(Nz x)
   |false=>match Nat.testBit x.m y.i with
    |true=>true
    |false=>match Nat.testBit y.m x.i with
     |true=>!(Nz x)
     |false=>false
def Pe {α:Type}(f:α→Bool):List α→Bool
 |[]=>true
 |a::l=>match f a with
  |true=>Pe f l
  |false=>false
def jm (L:List DOp):Bool:=Pe (fun x=>Pe (zu4 x) L) L
def zoo:List DOp→Nat→Bool
 |[],_=>true
 |x::l,seen=>match x.o.dst with
  |none=>zoo l seen
  |some d=>match Nat.testBit seen d with
   |true=>false
   |false=>zoo l (Nat.lor (2^d) seen)
def Ic:List DOp→Nat→Nat→Option Nat
 |[],seen,_=>some seen
 |x::l,seen,a=>match Nat.beq (Nat.land x.m seen) x.m with
  |false=>none
  |true=>match Nat.testBit seen x.i with
   |true=>none
   |false=>match zrx x with
    |true=>Ic l (Nat.lor (2^x.i) seen) a
    |false=>match Nat.beq (Nat.land a x.m) a with
     |false=>none
     |true=>match Fy x with
      |true=>Ic l (Nat.lor (2^x.i) seen) (Nat.lor (2^x.i) a)
      |false=>Ic l (Nat.lor (2^x.i) seen) a
def Gr {α:Type}(f:α→Bool):List α→List α
 |[]=>[]
 |a::l=>match f a with
  |true=>a::Gr f l
  |false=>Gr f l
def rk (x:DOp):List DOp→Nat
 |[]=>0
 |c::l=>match Nat.testBit x.m c.i with
  |true=>Nat.succ (rk x l)
  |false=>rk x l
def Xc (L chain:List DOp)(p:Nat):List DOp:=Gr (fun x=>match Fy x with
 |true=>false
 |false=>Nat.beq (rk x chain) p) L
def zn0 (L chain:List DOp):List DOp→Nat→List DOp
 |[],_=>[]
 |c::rest,p=>c::(Xc L chain p++zn0 L chain rest (p+1))
def zy3 (L chain:List DOp):List DOp:=Xc L chain 0++zn0 L chain chain 1
def Uy {α:Type}(f:α→α→Bool):List α→List α→Bool
 |[],[]=>true
 |a::l,b::r=>match f a b with
  |true=>Uy f l r
  |false=>false
 |_,_=>false
def J7:Nat→AV→AV→Bool
 |0,_,_=>false
 |n+1,a,b=>match a,b with
  |.bool x,.bool y=>x==y
  |.int k x,.int k' y=>Rm k k'&&x8 x y
  |.str l x,.str m y=>Nat.beq l m&&Nat.beq x y
  |.nilPtr,.nilPtr=>true
  |.ptr o v i,.ptr d h i'=>Nat.beq o d&&Nat.beq v h&&Nat.beq i i'
  |.nilSl,.nilSl=>true
  |.sl o v i l e r,.sl d h i' l' p r'=>Nat.beq o d&&Nat.beq v h&&Nat.beq i i'&&Nat.beq l l'&&Nat.beq e p&&r==r'
  |.emp,.emp=>true
  |.nilMap,.nilMap=>true
  |.map o,.map d=>Nat.beq o d
  |.nilFn,.nilFn=>true
  |.fn (.func f) x y,.fn (.func g) x' j=>Nat.beq f g&&Uy (J7 n) x x'&&Uy (J7 n) y j
  |.fn (.yield f) x y,.fn (.yield g) x' j=>Nat.beq f g&&Uy (J7 n) x x'&&Uy (J7 n) y j
  |.nilIf,.nilIf=>true
  |.iface t v,.iface q h=>Nat.beq t q&&J7 n v h
  |.agg x,.agg y=>Uy (J7 n) x y
  |.tup x,.tup y=>Uy (J7 n) x y
  |_,_=>false
def Gq:AV→Option Nat
 |.ptr o _ _=>some o
 |.sl o _ _ _ _ _=>some o
 |.map o=>some o
 |_=>none
def Jg (id:Nat):AV→AV
 |.ptr _ v i=>.ptr id v i
 |.sl _ v i l e r=>.sl id v i l e r
 |.map _=>.map id
 |v=>v
def zrf (c c':Tr AV)(len:Nat):Bool:=match Lj c 0 len,Lj c' 0 len with
 |some l,some l'=>Uy (J7 30) l l'
 |_,_=>false
def eqObj:AObj→AObj→Bool
 |.cells c len f ro,.cells c' a d g=>Nat.beq len a&&Nat.beq f d&&ro==g&&zrf c c' len
 |.map [] k,.map [] k'=>Nat.beq k k'
 |_,_=>false
def Rp {α:Type}(b:Bool)(x y:α):Bool:=match b with
 |true=>true
 |false=>@decide (x=y) (Classical.propDecidable _)
def zzb (v d:AV)(H H':Heap):Bool:=match Gq v with
 |none=>false
 |some id=>match Rp (J7 30 v (Jg id d)) v (Jg id d) with
  |false=>false
  |true=>match H.get id,H'.get H.next with
   |some a,some b=>Rp (eqObj a b) a b
   |_,_=>false
structure ChkF where run:Tr AV→Heap→Bool
def Vm (P:Program)(ops:Array Oper)(x:DOp):ChkF :=
 match x.o.dst with
 |none=>⟨fun _ _=>false⟩
 |some d=>⟨fun E H=>match (Lq ops x.o).run E with
  |false=>true
  |true=>match Fk (F7 d) E with
   |none=>false
   |some v=>match (Gw P x.o.op).run E H with
    |.val a H'=>match x.c with
     |.al=>zzb v a H H'
     |_=>Rp (J7 30 v a) v a
    |_=>false⟩
def gw (P:Program)(ops:Array Oper):List DOp→ChkF
 |[]=>⟨fun _ _=>true⟩
 |x::l=>⟨fun E H=>match (Vm P ops x).run E H with
  |true=>(gw P ops l).run E H
  |false=>false⟩
def Ob (P:Program)(n:Nat)(ops:Array Oper):List DOp→List DOp→SeqF
 |[],_=>⟨fun _ E H=>.ok E H⟩
 |x::l,pend=>match x.c with
  |.quiet=>⟨fun k E H=>OE.rec .no (fun E1 H1=>(Ob P n ops l pend).run k E1 H1) ((Js P n ops x.o).run k E H)⟩
  |.rd=>⟨fun k E H=>OE.rec .no (fun E1 H1=>(Ob P n ops l (x::pend)).run k E1 H1) ((Js P n ops x.o).run k E H)⟩
  |.al=>⟨fun k E H=>OE.rec .no (fun E1 H1=>Bool.rec .no ((Ob P n ops l (x::pend)).run k E1 H1) ((gw P ops (x::pend)).run E1 H1)) ((Js P n ops x.o).run k E H)⟩
  |.ch =>
   let pend':=Gr (fun y=>!(Nat.testBit x.m y.i)) pend
   ⟨fun k E H=>OE.rec .no (fun E1 H1=>Bool.rec .no ((Ob P n ops l pend').run k E1 H1) ((gw P ops pend').run E1 H1)) ((Js P n ops x.o).run k E H)⟩
def zy1 (n:Nat)(L ord:List DOp):Bool:=match Ic ord 0 0 with
 |none=>false
 |some s=>match Nat.beq s (Nat.sub (2^n) 1) with
  |false=>false
  |true=>match zoo L 0 with
   |false=>false
   |true=>jm L
def ue (P:Program)(n:Nat)(ops:Array Oper):SeqF :=
 let L:=Ji P ops ops.toList [] 0;let chain:=Gr Fy L;let ord:=zy3 L chain
 match zy1 ops.size L ord with
 |true=>Ob P n ops ord []
 |false=>⟨fun _ _ _=>.no⟩
inductive Ex where
 |normal
 |exit (id:Nat)
 |ret
inductive Res where
 |no
 |ok (x:Ex) (E:Tr AV) (D:List Nat) (H:Heap)
structure CodeF where run:J2→Nat→Option Nat→Tr AV→List Nat→Heap→Res
def xo:CodeF:=⟨fun _ _ _ _ _ _=>.no⟩
def Wp (f:Tr AV→List Nat→Heap→Res):Nat→Tr AV→List Nat→Heap→Res
 |0,_,_,_=>.no
 |m+1,E,D,H=>match f E D H with
  |.no=>.no
  |.ok x a d H'=>match x with
   |.normal=>Wp f m a d H'
   |x=>.ok x a d H'
def zfr (f n:Nat)(a:Array Tmp)(assign body:Code)(ro:Option Nat)(E:Tr AV)(D:List Nat)(H:Heap):Option (Nat×List Nat×Heap) :=
 match ro with
 |none=>some (Nat.add H.next 1,H.next::D,(H.push (.defd true)).push (.loop .ready none f n E a assign body H.next))
 |some l=>match H.get l with
  |some (.loop _ _ _ _ _ _ _ _ d)=>some (H.next,D,H.push (.loop .ready none f n E a assign body d))
  |_=>none
def exOf:Code→Option Ex
 |.ret=>some .ret
 |.exit id=>some (.exit id)
 |_=>none
def zlv (l:Nat)(H:Heap):Option (Option Code×Heap):=match H.get l with
 |some (.loop st pend f n E g a b d)=>match st with
  |.busy=>none
  |_=>some (pend,H.put l (.loop .exhausted pend f n E g a b d))
 |_=>none
def I0 (P:Program)(f n:Nat):Code→CodeF
 |.skip=>⟨fun _ _ _ E D H=>.ok .normal E D H⟩
 |.region _ ops draw =>
  let s:=match draw with
   |true=>ue P n ops
   |false=>bh P n ops ops.toList
  ⟨fun k _ _ E D H=>match s.run k E H with
   |.no=>.no
   |.ok h H'=>.ok .normal h D H'⟩
 |.seq a b=>⟨fun k m ro E D H=>Res.rec .no (fun x h d H'=>Ex.rec ((I0 P f n b).run k m ro h d H') (fun id=>.ok (.exit id) h d H') (.ok .ret h d H') x)
   ((I0 P f n a).run k m ro E D H)⟩
 |.cond c a b=>⟨fun k m ro E D H=>match (F8 c).run E with
  |some (.bool t)=>match t with
   |true=>(I0 P f n a).run k m ro E D H
   |false=>(I0 P f n b).run k m ro E D H
  |_=>.no⟩
 |.block id c=>⟨fun k m ro E D H=>match (I0 P f n c).run k m ro E D H with
  |.no=>.no
  |.ok x h d H'=>match x with
   |.exit j=>match Nat.beq j id with
    |true=>.ok .normal h d H'
    |false=>.ok (.exit j) h d H'
   |x=>.ok x h d H'⟩
 |.loop c=>⟨fun k m ro E D H=>Wp ((I0 P f n c).run k m ro) m E D H⟩
 |.rangeFunc g p a b=>⟨fun k _ ro E D H=>match (F8 g).run E with
  |none=>.no
  |some gv=>match zfr f n p a b ro E D H with
   |none=>.no
   |some (l,d,H')=>match bi P gv [.fn (.yield l) [] []] with
    |.call (.fn g) args=>match k (.fn g) args H' with
     |.no=>.no
     |.ok _ q=>match zlv l q with
      |none=>.no
      |some (none,o)=>.ok .normal E d o
      |some (some c,o)=>match exOf c with
       |none=>.no
       |some x=>.ok x E d o
    |_=>.no⟩
 |.exit id=>⟨fun _ _ _ E D H=>.ok (.exit id) E D H⟩
 |.scope c=>⟨fun k m ro E D H=>(I0 P f n c).run k m ro E D H⟩
 |.label _=>⟨fun _ _ _ E D H=>.ok .normal E D H⟩
 |.ret=>⟨fun _ _ _ E D H=>.ok .ret E D H⟩
 |_=>xo
structure ResF where run:Tr AV→Heap→Option AV
def resF (P:Program)(r:ResultVar):ResF :=
 match r with
 |.tmp t=>⟨fun E _=>(F8 (.tmp t)).run E⟩
 |.cell a t=>match Lv P t,H0 P t with
  |some true,some n=>⟨fun E H=>match (F8 (.tmp a)).run E with
   |some (.ptr o v i)=>match Jx H o v i n with
    |some l=>some (.agg l)
    |none=>none
   |_=>none⟩
  |some false,some _=>⟨fun E H=>match (F8 (.tmp a)).run E with
   |some (.ptr o v i)=>match Jx H o v i 1 with
    |some [c]=>some c
    |_=>none
   |_=>none⟩
  |_,_=>⟨fun _ _=>none⟩
structure RessF where run:Tr AV→Heap→Option (List AV)
def oz (P:Program):List ResultVar→RessF
 |[]=>⟨fun _ _=>some []⟩
 |r::l=>⟨fun E H=>match (resF P r).run E H with
  |none=>none
  |some a=>match (oz P l).run E H with
   |none=>none
   |some b=>some (a::b)⟩
def uq:List Nat→Heap→Option Heap
 |[],H=>some H
 |d::l,H=>match H.get d with
  |some (.defd true)=>uq l (H.put d (.defd false))
  |_=>none
structure FunF where run:J2→Nat→List AV→Heap→RV
def oc (P:Program)(f:Nat):FunF :=
 match P.funcs[f]? with
 |none=>⟨fun _ _ _ _=>.no⟩
 |some fn=>match fn.body with
  |none=>⟨fun _ _ _ _=>.no⟩
  |some body=>if fn.ntmps≤I6 then
   ⟨fun k m args H=>match Nat.ble args.length fn.ntmps with
    |false=>.no
    |true=>match (I0 P f fn.ntmps body).run k m none (Kd args 0 .e) [] H with
     |.no=>.no
     |.ok x E D H'=>match x with
      |.exit _=>.no
      |_=>match uq D H' with
       |none=>.no
       |some a=>match (oz P fn.results.toList).run E a with
        |some [v]=>.ok v a
        |some l=>.ok (.tup l) a
        |none=>.no⟩
   else ⟨fun _ _ _ _=>.no⟩
def zyb:List Tmp→List AV→Nat→Tr AV→Option (Tr AV)
 |[],[],_,E=>some E
 |p::d,a::as,n,E=>match Nat.blt p n with
  |true=>zyb d as n (Hs a (F7 p) E)
  |false=>none
 |_,_,_,_=>none
def zts (l:Nat)(H:Heap):Option Heap:=match H.get l with
 |some (.loop .ready pend f n E g a b d)=>some (H.put l (.loop .busy pend f n E g a b d))
 |_=>none
def zi2 (l:Nat)(x:Ex)(H:Heap):RV:=match H.get l with
 |some (.loop _ _ f n E g a b d)=>match x with
  |.normal=>.ok (.bool true) (H.put l (.loop .ready none f n E g a b d))
  |.ret=>.ok (.bool false) (H.put l (.loop .done (some .ret) f n E g a b d))
  |.exit id=>.ok (.bool false) (H.put l (.loop .done (some (.exit id)) f n E g a b d))
 |_=>.no
def K8 (P:Program)(O:J2):Nat→J2
 |0=>fun _ _ _=>.no
 |m+1=>fun t args H=>match t with
  |.fn f=>match O (.fn f) args H with
   |.ok v H'=>.ok v H'
   |.no=>(oc P f).run (K8 P O m) m args H
  |.yield l=>match H.get l with
   |some (.loop .ready none f n E g a b _)=>match zyb g.toList args n E with
    |none=>.no
    |some E1=>match (I0 P f n a).run (K8 P O m) m (some l) E1 [] H with
     |.ok .normal h [] j=>match zts l j with
      |none=>.no
      |some d=>match (I0 P f n b).run (K8 P O m) m (some l) h [] d with
       |.no=>.no
       |.ok x _ D o=>match D with
        |[]=>zi2 l x o
        |_=>.no
     |_=>.no
   |_=>.no
end Go.Sv
end
namespace Go.Sv
open Go.RowKit (Below)
section tries
variable {α : Type}
def Rs (p:List Bool):Fk p (Tr.e:Tr α)=none:=by
 cases p with
 |nil=>rfl
 |cons b p=>cases b<;>rfl
def yo (p:List Bool)(v:Option α)(l r:Tr α):Fk (true::p) (.n v l r)=Fk p l:=rfl
def u9 (p:List Bool)(v:Option α)(l r:Tr α):Fk (false::p) (.n v l r)=Fk p r:=rfl
def zlu (a:α):Hs a [] .e=.n (some a) .e .e:=rfl
def zmm (a:α)(p:List Bool):Hs a (true::p) .e=.n none (Hs a p .e) .e:=rfl
def zn2 (a:α)(p:List Bool):Hs a (false::p) .e=.n none .e (Hs a p .e):=rfl
def zun (a:α)(p:List Bool)(v:Option α)(l r:Tr α):Hs a (true::p) (.n v l r)=.n v (Hs a p l) r:=rfl
def zt6 (a:α)(p:List Bool)(v:Option α)(l r:Tr α):Hs a (false::p) (.n v l r)=.n v l (Hs a p r):=rfl
def z39 (a:α):∀(p:List Bool) (t:Tr α),Fk p (Hs a p t)=some a
 |[],.e=>rfl
 |[],.n _ _ _=>rfl
 |true::p,.e=>by rw[zmm,yo];exact z39 a p _
 |false::p,.e=>by rw[zn2,u9];exact z39 a p _
 |true::p,.n v l r=>by rw[zun,yo];exact z39 a p _
 |false::p,.n v l r=>by rw[zt6,u9];exact z39 a p _
def z6c (a:α):∀(p q:List Bool) (t:Tr α),p≠q→Fk q (Hs a p t)=Fk q t
 |[],[],_,h=>absurd rfl h
 |[],true::q,.e,_=>by rw[zlu,yo,Rs,Rs]
 |[],false::q,.e,_=>by rw[zlu,u9,Rs,Rs]
 |[],true::q,.n _ _ _,_=>rfl
 |[],false::q,.n _ _ _,_=>rfl
 |true::p,[],.e,_=>rfl
 |false::p,[],.e,_=>rfl
 |true::p,[],.n _ _ _,_=>rfl
 |false::p,[],.n _ _ _,_=>rfl
 |true::p,true::q,.e,h=>by rw[zmm,yo,z6c a p q _ (fun e=>h (by rw[e])),Rs,Rs]
 |true::p,false::q,.e,_=>by rw[zmm,u9,Rs,Rs]
 |false::p,true::q,.e,_=>by rw[zn2,yo,Rs,Rs]
 |false::p,false::q,.e,h=>by rw[zn2,u9,z6c a p q _ (fun e=>h (by rw[e])),Rs,Rs]
 |true::p,true::q,.n _ l _,h=>by rw[zun,yo,yo];exact z6c a p q l (fun e=>h (by rw[e]))
 |true::p,false::q,.n _ _ _,_=>rfl
 |false::p,true::q,.n _ _ _,_=>rfl
 |false::p,false::q,.n _ _ r,h=>by rw[zt6,u9,u9];exact z6c a p q r (fun e=>h (by rw[e]))
def pathF_inj:∀(f g j k:Nat),j<f→k<g→uy f j=uy g k→j=k
 |0,_,j,k,l,_,_=>by omega
 |_,0,j,k,_,hk,_=>by omega
 |f+1,g+1,0,0,_,_,_=>rfl
 |f+1,g+1,0,k+1,_,_,h=>by simp[uy] at h
 |f+1,g+1,j+1,0,_,_,h=>by simp[uy] at h
 |f+1,g+1,j+1,k+1,l,hk,h=>by
  simp only[uy,List.cons.injEq] at h;obtain⟨a,d⟩:=h;have m:Nat.div j 2=j/2:=rfl;have o:Nat.div k 2=k/2:=rfl;have p:Nat.mod j 2=j%2:=rfl;have r:Nat.mod k 2=k%2:=rfl;rw[m,o] at d;rw[p,r] at a;have:=pathF_inj f g (j/2) (k/2) (by omega) (by omega) d;have q:∀x:Nat,Nat.beq x 0=true↔x=0:=fun x=>by cases x<;>simp[Nat.beq]
  have s:(j%2=0↔k%2=0):=by
   rw[←q,←q,a]
  omega
def zwj {j k:Nat}(h:F7 j=F7 k):j=k :=
 pathF_inj _ _ j k (Bx _) (Bx _) h
def zhs {j k:Nat}(a:α)(t:Tr α) :
  Fk (F7 k) (Hs a (F7 j) t)=if k=j then some a else Fk (F7 k) t:=by
 by_cases h:k=j
 ·subst h;rw[Ag rfl];exact z39 a _ t
 ·rw[Ab h];exact z6c a _ _ t (fun e=>h (zwj e.symm))
def zbu (j:Nat)(a:α)(t:Tr α):Fk (F7 j) (Hs a (F7 j) t)=some a:=z39 a _ t
def w9 {j k:Nat}(h:k≠j)(a:α)(t:Tr α) :
  Fk (F7 k) (Hs a (F7 j) t)=Fk (F7 k) t:=by rw[zhs,Ab h]
def get_ofList:∀(l:List α) (i:Nat) (t:Tr α) (k:Nat),
  Fk (F7 k) (Kd l i t)=if i≤k∧k<i+l.length then l[k - i]? else Fk (F7 k) t
 |[],i,t,k=>by simp only[Kd,Bc];rw[Ab (by omega)]
 |a::l,i,t,k=>by
  simp only[Ar];rw[Kd,get_ofList l (i+1) _ k];by_cases d:i+1≤k∧k<i+1+l.length
  ·rw[Ag d,Ag (by omega)];have:k - i=(k - (i+1))+1:=by omega
   rw[this,Av]
  ·rw[Ab d,zhs];by_cases f:k=i
   ·subst f;rw[Ag rfl,Ag (by omega)];simp
   ·rw[Ab f,Ab (by omega)]
end tries
def cg {c:Tr AV}:∀{n i:Nat} {l:List AV},Lj c i n=some l→l.length=n∧∀j,j<n→Fk (F7 (i+j)) c=l[j]?
 |0,i,l,h=>by
  simp only[Lj,Option.some.injEq] at h;subst h;exact⟨rfl,fun j d=>by omega⟩
 |n+1,i,l,h=>by
  simp only[Lj] at h;split at h
  ·cases h
  ·rename_i a f;split at h
   ·cases h
   ·rename_i r g;cases h;obtain⟨m,o⟩:=cg g;refine⟨by simp[m],fun j d=>?_⟩;cases j with
    |zero=>simpa using f
    |succ j=>have:=o j (by omega);rw[Av,←this];congr 2;omega
structure Loc where
 b:Nat
 d:Nat
 n:Nat
 sz:Nat
structure CM where
 f:Nat→Nat→Option Loc
 nx:Nat
instance:CoeFun CM (fun _=>Nat→Nat→Option Loc):=⟨CM.f⟩
def CM.keep (C C':CM):Prop:=∀o v L,C o v=some L→C' o v=some L
structure CM.le (C C':CM):Prop where
 keep:C.keep C'
 nx:C.nx≤C'.nx
 new:∀o v L,C' o v=some L→(∃v' L',C o v'=some L')∨C.nx≤o
def CM.le_refl (C:CM):C.le C:=⟨fun _ _ _ h=>h,Al _,fun _ v L h=>.inl ⟨v,L,h⟩⟩
def CM.le_trans {A B C:CM}(h:A.le B)(k:B.le C):A.le C:=by
 refine⟨fun o v L e=>k.keep o v L (h.keep o v L e),Bq h.nx k.nx,fun o v L e=>?_⟩;rcases k.new o v L e with ⟨v',L',e'⟩|e'
 ·exact h.new o v' L' e'
 ·exact .inr (Bq h.nx e')
inductive FR (C:CM):Fn→Fn→Prop where
 |same (f:Fn) (h:∀l,f≠.yield l):FR C f f
 |yield {l:Nat} {L:Loc} (h:C l 0=some L):FR C (.yield l) (.yield L.b)
def FR.mono {C C':CM}(h:C.keep C'){f g:Fn}:FR C f g→FR C' f g
 |.same f hf=>.same f hf
 |.yield e=>.yield (h _ _ _ e)
def AV.one:AV→Bool
 |.agg _=>false
 |.tup _=>false
 |_=>true
mutual
inductive VR (C:CM):AV→Value→Prop where
 |bool (b:Bool):VR C (.bool b) (.bool b)
 |int (k:IntKind) (n:Int):VR C (.int k n) (.int k n)
 |str {len n:Nat} {s:ByteArray} (h1:s.data.toList.length=len) (h2:Hx s.data.toList=n):VR C (.str len n) (.string s)
 |nilPtr:VR C .nilPtr (.pointer none)
 |ptr {o v i:Nat} {L:Loc} (h:C o v=some L):VR C (.ptr o v i) (.pointer (some ⟨L.b,L.d+i,none⟩))
 |nilSl:VR C .nilSl (.slice none 0 0)
 |sl {o v i len esz:Nat} {room:Option Nat} {L:Loc} {cap:Nat} (h:C o v=some L) (h1:i+len*esz≤L.n) (h2:L.d+i+cap*esz≤L.sz) (h3:len≤cap)
   (h4:∀r,room=some r→cap=r∧i+r*esz≤L.n) (h5:room=none→L.d+i+cap*esz=L.sz) :
   VR C (.sl o v i len esz room) (.slice (some ⟨L.b,L.d+i,none⟩) len cap)
 |emp {a:Addr} {cap:Nat}:VR C .emp (.slice (some a) 0 cap)
 |nilMap:VR C .nilMap (.map none)
 |map {o:Nat} {L:Loc} (h:C o 0=some L):VR C (.map o) (.map (some L.b))
 |nilFn:VR C .nilFn .nilFunc
 |fn {f g:Fn} {l r:List AV} {l' r':Array Value} (h:FR C f g) (hl:VRs C l l'.toList) (hr:VRs C r r'.toList):VR C (.fn f l r) (.func g l' r')
 |nilIf:VR C .nilIf .nilIface
 |iface {t:TypeId} {a:AV} {v:Value} (h:VR C a v):VR C (.iface t a) (.iface t v)
 |agg {l:List AV} {vs:Array Value} (h:VRs C l vs.toList) (h1:∀a∈l,a.one=true):VR C (.agg l) (.agg vs)
 |tup {l:List AV} {vs:Array Value} (h:VRs C l vs.toList):VR C (.tup l) (.tuple vs)
inductive VRs (C:CM):List AV→List Value→Prop where
 |nil:VRs C [] []
 |cons {a:AV} {v:Value} {l:List AV} {r:List Value} (h:VR C a v) (hs:VRs C l r):VRs C (a::l) (v::r)
end
mutual
def VR.mono' {C C':CM}(h:C.keep C'):∀{a:AV} {v:Value},VR C a v→VR C' a v
 |_,_,.bool b=>.bool b
 |_,_,.int k n=>.int k n
 |_,_,.str h1 h2=>.str h1 h2
 |_,_,.nilPtr=>.nilPtr
 |_,_,.ptr e=>.ptr (h _ _ _ e)
 |_,_,.nilSl=>.nilSl
 |_,_,.sl e h1 h2 h3 h4 h5=>.sl (h _ _ _ e) h1 h2 h3 h4 h5
 |_,_,.emp=>.emp
 |_,_,.nilMap=>.nilMap
 |_,_,.map e=>.map (h _ _ _ e)
 |_,_,.nilFn=>.nilFn
 |_,_,.fn hf hl hr=>.fn (hf.mono h) (VRs.mono' h hl) (VRs.mono' h hr)
 |_,_,.nilIf=>.nilIf
 |_,_,.iface e=>.iface (VR.mono' h e)
 |_,_,.agg e h1=>.agg (VRs.mono' h e) h1
 |_,_,.tup e=>.tup (VRs.mono' h e)
def VRs.mono' {C C':CM}(h:C.keep C'):∀{l:List AV} {r:List Value},VRs C l r→VRs C' l r
 |_,_,.nil=>.nil
 |_,_,.cons e es=>.cons (VR.mono' h e) (VRs.mono' h es)
end
def VR.mono {C C':CM}(h:C.le C'){a:AV}{v:Value}(k:VR C a v):VR C' a v:=k.mono' h.keep
def VRs.mono {C C':CM}(h:C.le C'){a:List AV}{v:List Value}(k:VRs C a v):VRs C' a v:=k.mono' h.keep
def VRs.length {C:CM}:∀{l:List AV} {r:List Value},VRs C l r→l.length=r.length
 |_,_,.nil=>rfl
 |_,_,.cons _ es=>by simp[VRs.length es]
def VRs.get {C:CM}:∀{l:List AV} {r:List Value},VRs C l r→∀{i:Nat} {a:AV},l[i]?=some a→∃v,r[i]?=some v∧VR C a v
 |_,_,.nil,i,a,h=>by simp at h
 |_,_,.cons e es,0,a,h=>by simp only[A6,Option.some.injEq] at h;subst h;exact⟨_,rfl,e⟩
 |_,_,.cons e es,i+1,a,h=>by simp only[Av] at h ⊢;exact VRs.get es h
def VRs.mk {C:CM}:∀{l:List AV} {r:List Value},l.length=r.length→(∀(i:Nat) (a:AV),l[i]?=some a→∃v,r[i]?=some v∧VR C a v)→VRs C l r
 |[],[],_,_=>.nil
 |[],_::_,h,_=>by simp at h
 |_::_,[],h,_=>by simp at h
 |a::l,v::r,h,k=>by
  obtain⟨v',hv,hr⟩:=k 0 a rfl;simp only[A6,Option.some.injEq] at hv;subst hv;exact .cons hr (VRs.mk (by simpa using h) (fun i a hi=>by have:=k (i+1) a (by simpa using hi);simpa using this))
def VRs.append {C:CM}:∀{l:List AV} {r:List Value} {l':List AV} {r':List Value},VRs C l r→VRs C l' r'→VRs C (l++l') (r++r')
 |_,_,_,_,.nil,k=>k
 |_,_,_,_,.cons e es,k=>.cons e (VRs.append es k)
def VRs.drop {C:CM}:∀{l:List AV} {r:List Value},VRs C l r→∀n,VRs C (l.drop n) (r.drop n)
 |_,_,h,0=>h
 |_,_,.nil,_+1=>.nil
 |_,_,.cons _ es,n+1=>VRs.drop es n
def VRs.take {C:CM}:∀{l:List AV} {r:List Value},VRs C l r→∀n,VRs C (l.take n) (r.take n)
 |_,_,_,0=>.nil
 |_,_,.nil,_+1=>.nil
 |_,_,.cons e es,n+1=>.cons e (VRs.take es n)
def VR.one {C:CM}{a:AV}{v:Value}(h:VR C a v):v.oneCell'=a.one:=by cases h<;>rfl
def zod {C:CM}{v:Value}{a:AV}(h:jd v=some a):VR C a v∧a.one=true:=by
 unfold jd at h;split at h<;>first
  |(cases h;done)
  |(cases h;exact⟨by constructor<;>rfl,rfl⟩)
  |(cases h;exact⟨by constructor,rfl⟩)
def S7 {C:CM}:∀{l:List Value} {r:List AV},Np l=some r→VRs C r l∧∀a∈r,a.one=true
 |[],r,h=>by cases h;exact⟨.nil,by simp⟩
 |v::l,r,h=>by
  simp only[Np] at h;split at h
  ·cases h
  ·rename_i a d;split at h
   ·cases h
   ·rename_i r' f;cases h;obtain⟨g,j⟩:=S7 (C:=C) f;obtain⟨m,o⟩:=zod (C:=C) d;exact⟨.cons m g,by simpa using ⟨o,j⟩⟩
def zil {C:CM}{v:Value}{a:AV}(h:Qr v=some a):VR C a v:=by
 unfold Qr at h;split at h
 ·rename_i cs;cases d:Np cs.toList with
  |none=>simp[d] at h
  |some r =>
   simp only[d,Cl,Option.some.injEq] at h;subst h;obtain⟨f,g⟩:=S7 (C:=C) d;exact .agg f g
 ·rename_i vs;split at h
  ·rename_i j;cases h;have:vs=#[]:=C6 j;subst this;exact .tup .nil
  ·cases h
 ·exact (zod h).1
def VR.cells {C:CM}{a:AV}{v:Value}(h:VR C a v){l:List AV}(hl:a.cells=some l):VRs C l v.cells.toList∧∀x∈l,x.one=true:=by
 cases h with
 |agg h h1=>simp only[AV.cells,Option.some.injEq] at hl;subst hl;exact⟨by simpa [Value.cells] using h,h1⟩
 |tup h=>simp[AV.cells] at hl
 |_=>simp only[AV.cells,Option.some.injEq] at hl;subst hl;exact⟨by simp only[Value.cells];exact .cons (by constructor<;>assumption) .nil,by simp[AV.one]⟩
def Ve (C:CM)(c:Tr AV)(len:Nat)(vs:Array Value)(d:Nat):Prop :=
 ∀i,i<len→∃a,Fk (F7 i) c=some a∧a.one=true∧∃v,vs[d+i]?=some v∧VR C a v
inductive MR (C:CM):List (AV×AV×Nat)→List MapEntry→Prop where
 |nil:MR C [] []
 |cons {k v:AV} {b:Nat} {e:MapEntry} {l:List (AV×AV×Nat)} {r:List MapEntry} (hk:VR C k e.key) (hv:VR C v e.val) (hb:e.born=b) (h:MR C l r):MR C ((k,v,b)::l) (e::r)
def OVR (C:CM)(a:Option AV)(v:Value):Prop:=match a with
 |some a=>VR C a v
 |none=>v=undef
def ER (n:Nat)(C:CM)(E:Tr AV)(a:Array Value):Prop :=
 a.size=n∧n≤I6∧∀t,t≤I6→OVR C (Fk (F7 t) E) (a.getD t undef)
def Iy (B:Nat)(C:CM)(w:World)(o:Nat):AObj→Prop
 |.cells c len h ro=>∀L,C o h=some L→L.n=len∧(ro=false→B≤L.b)∧L.d+len≤L.sz∧∃vs e lo hi,w.heap[L.b]?=some (.cells vs e (lo,hi))∧L.sz≤vs.size ∧
   (∀i,L.d≤i→i<L.sz→¬(lo≤i∧i<hi))∧Ve C c len vs L.d
 |.map es m=>∀L,C o 0=some L→B≤L.b∧∃g:Array MapEntry,w.heap[L.b]?=some (.map g m)∧MR C es g.toList
 |.iter len n pos=>∀L,C o 0=some L→B≤L.b∧L.d=0∧∃s:ByteArray,w.heap[L.b]?=some (.stringIter s pos)∧s.data.toList.length=len∧Hx s.data.toList=n
 |.loop st pend f n E p a b d=>∀L,C o 0=some L→B≤L.b∧∃j l,C d 0=some l∧w.heap[L.b]?=some (.loop { state:=st,pending:=pend,fn:=f,tmps:=j,params:=p,assign:=a,body:=b,defers:=l.b })∧ER n C E j
 |.defd op=>∀L,C o 0=some L→B≤L.b∧w.heap[L.b]?=some (.deferred (if op then some [] else none))
structure Rel (w0:World) (C:CM) (H:Heap) (w:World):Prop where
 nx:C.nx=H.next
 low:Below w0.heap.size w0 w
 fresh:∀o v L,C o v=some L→o<H.next
 lt:∀o v L,C o v=some L→L.b<w.heap.size
 excl:∀o v L o' v' L',C o v=some L→C o' v'=some L'→L.b=L'.b→w0.heap.size≤L.b→o=o'
 obj:∀o ob,o<H.next→H.get o=some ob→Iy w0.heap.size C w o ob
 top:∀o c len ver ro,o<H.next→H.get o=some (.cells c len ver ro)→∀v L,C o v=some L→v≤ver
end Go.Sv
namespace Go.Sv
open Go.RowKit (Below)
def CM.ext (C:CM)(o v:Nat)(L:Loc):CM:=⟨fun o' v'=>if o'=o∧v'=v then some L else C o' v',max C.nx (o+1)⟩
def CM.ext_same (C:CM)(o v:Nat)(L:Loc):C.ext o v L o v=some L:=by simp[CM.ext]
def CM.ext_ne (C:CM){o v o' v':Nat}(L:Loc)(h:¬(o'=o∧v'=v)):C.ext o v L o' v'=C o' v':=by simp only[CM.ext];rw[Ab h]
def CM.le_ext {C:CM}{o v:Nat}(L:Loc)(h:C o v=none)(hn:(∃v' L',C o v'=some L')∨C.nx≤o):C.le (C.ext o v L):=by
 refine⟨fun o' v' L' h'=>?_,C3 _ _,fun o' v' L' h'=>?_⟩
 ·by_cases e:o'=o∧v'=v
  ·obtain⟨rfl,rfl⟩:=e;rw[h] at h';cases h'
  ·rw[CM.ext_ne C L e];exact h'
 ·by_cases e:o'=o∧v'=v
  ·obtain⟨rfl,rfl⟩:=e;exact hn
  ·rw[CM.ext_ne C L e] at h';exact .inl ⟨v',L',h'⟩
def MR.mono' {C C':CM}(h:C.keep C'):∀{l:List (AV×AV×Nat)} {r:List MapEntry},MR C l r→MR C' l r
 |_,_,.nil=>.nil
 |_,_,.cons hk hv hb hs=>.cons (hk.mono' h) (hv.mono' h) hb (MR.mono' h hs)
def OVR.mono' {C C':CM}(h:C.keep C'){a:Option AV}{v:Value}(k:OVR C a v):OVR C' a v:=by
 cases a with
 |none=>exact k
 |some a=>exact VR.mono' h k
def ER.mono' {C C':CM}(h:C.keep C'){n:Nat}{E:Tr AV}{tm:Array Value}(k:ER n C E tm):ER n C' E tm :=
 ⟨k.1,k.2.1,fun t ht=>(k.2.2 t ht).mono' h⟩
def Ve.mono' {C C':CM}(h:C.keep C'){c:Tr AV}{len:Nat}{vs:Array Value}{d:Nat}(k:Ve C c len vs d):Ve C' c len vs d :=
 fun i hi=>let ⟨a,h1,h2,v,h3,h4⟩:=k i hi;⟨a,h1,h2,v,h3,h4.mono' h⟩
def MR.mono {C C':CM}(h:C.le C'){l:List (AV×AV×Nat)}{r:List MapEntry}(k:MR C l r):MR C' l r:=k.mono' h.keep
def ER.mono {C C':CM}(h:C.le C'){n:Nat}{E:Tr AV}{tm:Array Value}(k:ER n C E tm):ER n C' E tm:=k.mono' h.keep
def Ve.mono {C C':CM}(h:C.le C'){c:Tr AV}{len:Nat}{vs:Array Value}{d:Nat}(k:Ve C c len vs d):Ve C' c len vs d:=k.mono' h.keep
def Iy.frame' {B:Nat}{C C':CM}{w w':World}{o:Nat}{ob:AObj}(h:Iy B C w o ob)(hc:C.keep C')(hn:∀v L,C' o v=some L→C o v=some L)
  (hb:∀v L,C o v=some L→w'.heap[L.b]?=w.heap[L.b]?):Iy B C' w' o ob:=by
 cases ob with
 |cells c len af ro =>
  intro L hL;have aa:=hn _ _ hL;obtain⟨h1,h2,h3,vs,e,lo,hi,h4,h5,h6,h7⟩:=h L aa;exact⟨h1,h2,h3,vs,e,lo,hi,by rw[hb _ _ aa];exact h4,h5,h6,h7.mono' hc⟩
 |map es ck =>
  intro L hL;have aa:=hn _ _ hL;obtain⟨h1,ad,h2,h3⟩:=h L aa;exact⟨h1,ad,by rw[hb _ _ aa];exact h2,h3.mono' hc⟩
 |iter len n pos =>
  intro L hL;have aa:=hn _ _ hL;obtain⟨h1,h0,s,h2,h3⟩:=h L aa;exact⟨h1,h0,s,by rw[hb _ _ aa];exact h2,h3⟩
 |loop st pend f n E ps a b d =>
  intro L hL;have aa:=hn _ _ hL;obtain⟨h1,tm,Ld,h2,h3,h4⟩:=h L aa;exact⟨h1,tm,Ld,hc _ _ _ h2,by rw[hb _ _ aa];exact h3,h4.mono' hc⟩
 |defd op =>
  intro L hL;have aa:=hn _ _ hL;obtain⟨h1,h2⟩:=h L aa;exact⟨h1,by rw[hb _ _ aa];exact h2⟩
def Iy.frame {B:Nat}{C C':CM}{w w':World}{o:Nat}{ob:AObj}(h:Iy B C w o ob)(hc:C.le C')(hn:∀v L,C' o v=some L→C o v=some L)
  (hb:∀v L,C o v=some L→w'.heap[L.b]?=w.heap[L.b]?):Iy B C' w' o ob:=h.frame' hc.keep hn hb
def Heap.get_push_same (H:Heap)(x:AObj):(H.push x).get H.next=some x:=zbu _ _ _
def Heap.get_push_ne (H:Heap)(x:AObj){o:Nat}(ho:o<H.next):(H.push x).get o=H.get o :=
 w9 (by omega) _ _
def Heap.get_put_same (H:Heap)(o:Nat)(x:AObj):(H.put o x).get o=some x:=zbu _ _ _
def Heap.get_put_ne (H:Heap){o o':Nat}(x:AObj)(aa:o'≠o):(H.put o x).get o'=H.get o':=w9 aa _ _
def z7c (w:World)(x:Obj){k:Nat}(h:k<w.heap.size):(w.alloc x).heap[k]?=w.heap[k]?:=Below.heap_alloc w x k h
def V3 (w:World)(x:Obj):(w.alloc x).heap[w.heap.size]?=some x:=by
 show (w.heap.push x)[w.heap.size]?=some x;simp
def Rel.next_none {w0:World}{C:CM}{H:Heap}{w:World}(h:Rel w0 C H w)(v:Nat):C H.next v=none:=by
 cases e:C H.next v with
 |none=>rfl
 |some L=>have:=h.fresh _ _ _ e;omega
def Rel.push {w0:World}{C:CM}{H:Heap}{w:World}(h:Rel w0 C H w)(ob:AObj)(x:Obj)(n sz:Nat)
  (af:Iy w0.heap.size (C.ext H.next 0 ⟨w.heap.size,0,n,sz⟩) (w.alloc x) H.next ob) :
  Rel w0 (C.ext H.next 0 ⟨w.heap.size,0,n,sz⟩) (H.push ob) (w.alloc x)∧C.le (C.ext H.next 0 ⟨w.heap.size,0,n,sz⟩):=by
 have hle:C.le (C.ext H.next 0 ⟨w.heap.size,0,n,sz⟩):=CM.le_ext _ (h.next_none 0) (.inr (Dm h.nx));refine⟨⟨by show max C.nx (H.next+1)=H.next+1;rw[h.nx];exact Nat.max_eq_right (Em _),h.low.alloc h.low.size x,?_,?_,?_,?_,?_⟩,hle⟩
 ·intro o v L hL;show o<H.next+1;by_cases e:o=H.next∧v=0
  ·omega
  ·rw[CM.ext_ne _ _ e] at hL;have:=h.fresh _ _ _ hL;omega
 ·intro o v L hL;rw[World.size_alloc];by_cases e:o=H.next∧v=0
  ·obtain⟨rfl,rfl⟩:=e;rw[CM.ext_same] at hL;cases hL;exact Bx _
  ·rw[CM.ext_ne _ _ e] at hL;have:=h.lt _ _ _ hL;omega
 ·intro o v L o' v' L' hL aa hb hB;by_cases e:o=H.next∧v=0<;>by_cases e':o'=H.next∧v'=0
  ·omega
  ·obtain⟨rfl,rfl⟩:=e;rw[CM.ext_same] at hL;cases hL;rw[CM.ext_ne _ _ e'] at aa;have:=h.lt _ _ _ aa;dsimp at hb;omega
  ·obtain⟨rfl,rfl⟩:=e';rw[CM.ext_same] at aa;cases aa;rw[CM.ext_ne _ _ e] at hL;have:=h.lt _ _ _ hL;dsimp at hb;omega
  ·rw[CM.ext_ne _ _ e] at hL;rw[CM.ext_ne _ _ e'] at aa;exact h.excl _ _ _ _ _ _ hL aa hb hB
 ·intro o ob' ho hg;by_cases e:o=H.next
  ·subst e;rw[Heap.get_push_same] at hg;cases hg;exact af
  ·have ad:o<H.next:=by have:o<H.next+1:=ho;omega
   rw[Heap.get_push_ne _ _ ad] at hg;refine (h.obj _ _ ad hg).frame hle (fun v L hL=>?_) (fun v L hL=>z7c _ _ (h.lt _ _ _ hL))
   rwa [CM.ext_ne _ _ (by omega)] at hL
 ·intro o c len ag ro ho hg v L hL;by_cases e:o=H.next
  ·subst e;by_cases ev:v=0
   ·omega
   ·rw[CM.ext_ne _ _ (by omega)] at hL;have:=h.fresh _ _ _ hL;omega
  ·have ad:o<H.next:=by have:o<H.next+1:=ho;omega
   rw[Heap.get_push_ne _ _ ad] at hg;rw[CM.ext_ne _ _ (by omega)] at hL;exact h.top _ _ _ _ _ ad hg _ _ hL
def Rel.put {w0:World}{C:CM}{H:Heap}{w w':World}(h:Rel w0 C H w){o:Nat}(ho:o<H.next)(ob:AObj)(af:Below w0.heap.size w0 w')
  (aj:w.heap.size≤w'.heap.size) (ao:∀o' v L,o'≠o→C o' v=some L→w'.heap[L.b]?=w.heap[L.b]?) (ap:Iy w0.heap.size C w' o ob)
  (ag:∀c len ad ro,ob=.cells c len ad ro→∀v L,C o v=some L→v≤ad):Rel w0 C (H.put o ob) w':=by
 refine⟨h.nx,af,h.fresh,fun o v L hL=>Bh (h.lt o v L hL) aj,h.excl,?_,?_⟩
 ·intro o' ob' aa hg;by_cases e:o'=o
  ·subst e;rw[Heap.get_put_same] at hg;cases hg;exact ap
  ·have ah:o'<H.next:=aa;rw[Heap.get_put_ne H ob e] at hg;exact (h.obj _ _ aa hg).frame (CM.le_refl C) (fun v L hL=>hL) (fun v L hL=>ao _ _ _ e hL)
 ·intro o' c len ad ro aa hg v L hL;by_cases e:o'=o
  ·subst e;rw[Heap.get_put_same] at hg;cases hg;exact ag _ _ _ _ rfl v L hL
  ·have ah:o'<H.next:=aa;rw[Heap.get_put_ne H ob e] at hg;exact h.top _ _ _ _ _ aa hg _ _ hL
def Rel.drew {w0:World}{C:CM}{H:Heap}{w:World}(h:Rel w0 C H w):Rel w0 C H w.drew :=
 ⟨h.nx,h.low.drew,h.fresh,h.lt,h.excl,fun o ob ho hg=>(h.obj o ob ho hg).frame (CM.le_refl C) (fun _ _ hL=>hL) (fun _ _ _=>rfl),h.top⟩
def z9r (P:Program)(w:World)(a:Addr):∀(n i:Nat) (acc:Array Value) (r:List Value),r.length=n→(∀j,j<n→w.cell? (a.add (i+j))=r[j]?) →
  (loadCellsFrom a i n acc).run P w=.ok (acc++r.toArray) w
 |0,i,acc,r,d,_=>by
  have:r=[]:=Ay d;subst this;simp[loadCellsFrom]
 |n+1,i,acc,r,d,h=>by
  cases r with
  |nil=>simp at d
  |cons v r =>
   have f:w.cell? (a.add i)=some v:=by simpa using h 0 (by omega)
   simp only[loadCellsFrom,Sem.run_bind,run_load,f,Result.andThen_ok];rw[z9r P w a n (i+1) (acc.push v) r (by simpa using d) (fun j g=>by
    have:=h (j+1) (by omega);rw[show i+1+j=i+(j+1) from by omega,this,Av])]
   simp
def zab (P:Program)(w:World)(a:Addr)(n:Nat)(r:List Value)(d:r.length=n)(h:∀j,j<n→w.cell? (a.add j)=r[j]?) :
  (loadCells a n).run P w=.ok r.toArray w:=by
 unfold loadCells;rw[z9r P w a n 0 #[] r d (fun j f=>by rw[Be];exact h j f)];simp
def ei (b d i j:Nat):(⟨b,d+i,none⟩:Addr).add j=⟨b,d+(i+j),none⟩:=by
 unfold Addr.add;by_cases h:j=0
 ·subst h;simp
 ·rw[Ab h];simp[Cu]
def zhp {w:World}{b i:Nat}{vs:Array Value}{e:TypeId}{fz:Nat×Nat}(h:w.heap[b]?=some (.cells vs e fz)):w.cell? ⟨b,i,none⟩=vs[i]?:=by
 simp[World.cell?,h]
def Rel.read {w0:World}{C:CM}{H:Heap}{w:World}(h:Rel w0 C H w)(P:Program){o v i n:Nat}{l:List AV}(hr:Jx H o v i n=some l){L:Loc}(hL:C o v=some L) :
  ∃vs:List Value,(loadCells ⟨L.b,L.d+i,none⟩ n).run P w=.ok vs.toArray w∧VRs C l vs∧(∀a∈l,a.one=true)∧l.length=n∧i+n≤L.n ∧
   (∀j,j<n→w.cell? ⟨L.b,L.d+(i+j),none⟩=vs[j]?):=by
 unfold Jx at hr;split at hr
 ·rename_i c len ao ro hg;split at hr
  ·rename_i hv;have af:=Am hv;subst af;split at hr
   ·rename_i hle;have aj:i+n≤len:=As hle;have ag:=h.obj o _ (h.fresh _ _ _ hL) hg;obtain⟨h1,_,h3,vs,e,lo,hi,h4,h5,h6,h7⟩:=ag L hL;obtain⟨k1,k2⟩:=cg hr;have hex:∀j,j<n→∃a,l[j]?=some a∧a.one=true∧∃x,vs[L.d+(i+j)]?=some x∧VR C a x:=by
     intro j hj;obtain⟨a,q1,q2,x,q3,q4⟩:=h7 (i+j) (by omega);exact⟨a,by rw[←k2 j hj];exact q1,q2,x,q3,q4⟩
    have ap:L.d+(i+n)≤vs.size:=by omega
    let r:List Value:=(List.range n).map fun j=>vs.getD (L.d+(i+j)) undef
    have ah:r.length=n:=by simp[r]
    have aa:∀j,j<n→vs[L.d+(i+j)]?=r[j]?:=by
     intro j hj;simp only[r,Ce,List.getElem?_range hj,Cl];rw[Cg (by omega),Bk,Cg (by omega)];rfl
    refine⟨r,?_,?_,?_,k1,by omega,?_⟩
    ·exact zab P w _ n r ah (fun j hj=>by rw[ei,zhp h4];exact aa j hj)
    ·refine VRs.mk (by omega) (fun j a hj=>?_);have ad:j<n:=by have:=(Aa.1 hj).1;omega
     obtain⟨a',q1,_,x,q3,q4⟩:=hex j ad;rw[hj] at q1;cases q1;exact⟨x,by rw[←aa j ad];exact q3,q4⟩
    ·intro a ha;obtain⟨j,hj,rfl⟩:=List.getElem_of_mem ha;obtain⟨a',q1,q2,_⟩:=hex j (by omega);rw[Ai hj] at q1;cases q1;exact q2
    ·intro j hj;rw[zhp h4];exact aa j hj
   ·cases hr
  ·cases hr
 ·cases hr
def z8u (P:Program)(a:Addr):∀(r:List Value) (i:Nat) (w:World) (vs:Array Value) (e:TypeId) (lo hi:Nat),a.spot=none→w.heap[a.block]?=some (.cells vs e (lo,hi)) →
  (∀v∈r,v.oneCell'=true)→a.off+i+r.length≤vs.size→(∀j,a.off+i≤j→j<a.off+i+r.length→¬(lo≤j∧j<hi)) →
  ∃w' f,(storeCells a r i).run P w=.ok () w'∧w'.heap[a.block]?=some (.cells f e (lo,hi))∧f.size=vs.size∧(∀k,k≠a.block→w'.heap[k]?=w.heap[k]?) ∧
   w'.heap.size=w.heap.size∧w'.os=w.os∧w'.tape=w.tape∧w'.output=w.output∧(∀j,f[j]?=if a.off+i≤j∧j<a.off+i+r.length then r[j - (a.off+i)]? else vs[j]?)
 |[],i,w,vs,e,lo,hi,_,m,_,_,_=>by
  refine⟨w,vs,rfl,m,rfl,fun _ _=>rfl,rfl,rfl,rfl,rfl,fun j=>?_⟩;rw[Ab (by simp)]
 |v::r,i,w,vs,e,lo,hi,A,m,hv,q,s=>by
  simp only[Ar] at q s;have d:a.add i=⟨a.block,a.off+i,none⟩:=by
   unfold Addr.add;by_cases h:i=0
   ·subst h;simp;cases a;simp_all
   ·rw[Ab h]
  have g : w.cell? (a.add i) = some (vs[a.off + i]'(by omega)) := by
   rw[d,zhp m,Cg]
  have y:w.frozen? (a.add i)=false:=by
   rw[d];simp only[World.frozen?,m];have:=s (a.off+i) (by omega) (by omega);simp only[Bool.and_eq_false_iff,Bl];omega
  have o:(store (a.add i) v).run P w=.ok () (w.setCell (a.add i) v):=by
   rw[run_store P w _ v .plain (hv v (by simp)),g];simp[y]
  have p:(w.setCell (a.add i) v).heap[a.block]?=some (.cells (vs.setIfInBounds (a.off+i) v) e (lo,hi)):=by
   rw[d];simp only[World.setCell,Array.getElem?_modify,Bv,m,Cl];simp
  obtain⟨w',f,B,C,D,E,F,G,H,I,J⟩:=z8u P a r (i+1) (w.setCell (a.add i) v) _ e lo hi A p (fun x K=>hv x (by simp[K]))
   (by rw[Array.size_setIfInBounds];omega) (fun j z l=>s j (by omega) (by omega))
  refine⟨w',f,?_,C,by rw[D,Array.size_setIfInBounds],?_,?_,G,H,I,?_⟩
  ·simp only[storeCells,Sem.run_bind,o,Result.andThen_ok];exact B
  ·intro k hk;rw[E k hk];exact Below.heap_setCell w (a.add i) v k (by rw[d];exact hk)
  ·rw[F,World.size_setCell]
  ·intro j;rw[J j];by_cases z:a.off+(i+1)≤j∧j<a.off+(i+1)+r.length
   ·rw[Ag z,Ag (by simp only[Ar];omega)];have:j - (a.off+i)=(j - (a.off+(i+1)))+1:=by omega
    rw[this,Av]
   ·rw[Ab z,Array.getElem?_setIfInBounds];by_cases l:a.off+i=j
    ·subst l;rw[Ag rfl,Ag (by omega),Ag (by simp only[Ar];omega)];simp
    ·rw[Ab l,Ab (by simp only[Ar];omega)]
def VRs.get' {C:CM}{l:List AV}{r:List Value}(h:VRs C l r){i:Nat}(hi:i<l.length):∃a v,l[i]?=some a∧r[i]?=some v∧VR C a v:=by
 obtain⟨v,h1,h2⟩:=h.get (Ai hi);exact⟨_,v,Ai hi,h1,h2⟩
def VRs.one {C:CM}:∀{l:List AV} {r:List Value},VRs C l r→(∀a∈l,a.one=true)→∀v∈r,v.oneCell'=true
 |_,_,.nil,_,v,hv=>by simp at hv
 |_,_,.cons e es,h,v,hv=>by
  rcases An.1 hv with rfl|hv
  ·rw[e.one];exact h _ (by simp)
  ·exact VRs.one es (fun a ha=>h a (by simp[ha])) v hv
def Ve.lay {C:CM}{c:Tr AV}{len aa:Nat}{vs ad:Array Value}{d i:Nat}{l:List AV}{r:List Value}(h:Ve C c len vs d)(hv:VRs C l r)(h1:∀a∈l,a.one=true)
  (hi:i≤len) (_hle:i+l.length≤aa) (ah:aa≤len∨aa=i+l.length)
  (ag:∀j,ad[j]?=if d+i≤j∧j<d+i+r.length then r[j - (d+i)]? else vs[j]?):Ve C (Kd l i c) aa ad d:=by
 intro k hk;rw[get_ofList l i c k];have hlen:=hv.length;rw[ag];by_cases af:i≤k∧k<i+l.length
 ·rw[Ag af,Ag (by omega)];obtain⟨a,v,q1,q2,q3⟩:=hv.get' (i:=k - i) (by omega);refine⟨a,q1,h1 a (A7 q1),v,?_,q3⟩;rw[show d+k - (d+i)=k - i from by omega];exact q2
 ·rw[Ab af,Ab (by omega)];exact h k (by omega)
def Rel.write {w0:World}{C:CM}{H H':Heap}{w:World}(h:Rel w0 C H w)(P:Program){o v i:Nat}{l:List AV}(hw:Qh H o v i l=some H'){L:Loc}(hL:C o v=some L)
  {r:List Value} (hr:VRs C l r) (h1:∀a∈l,a.one=true):∃w',(storeCells ⟨L.b,L.d+i,none⟩ r).run P w=.ok () w'∧Rel w0 C H' w':=by
 unfold Qh at hw;split at hw
 ·rename_i c len ar hg;split at hw
  ·rename_i hv;have af:=Am hv;subst af;split at hw
   ·rename_i hle;have ad:i+l.length≤len:=As hle;cases hw;have ho:=h.fresh _ _ _ hL;have ag:=h.obj o _ ho hg;obtain⟨q1,q2,q3,vs,e,lo,hi,q4,q5,q6,q7⟩:=ag L hL;have aw:=hr.length;obtain⟨w',ah,k1,k2,k3,k4,k5,k6,k7,k8,k9⟩:=z8u P ⟨L.b,L.d+i,none⟩ r 0 w vs e lo hi rfl q4 (hr.one h1) (by dsimp;omega) (fun j hj aj=>by dsimp at hj aj;exact q6 j (by omega) (by omega));refine⟨w',k1,h.put ho _ ?_ (by omega) ?_ ?_ ?_⟩
    ·exact h.low.trans ⟨k6,k7,k8,by omega,fun k hk=>k4 k (by dsimp;have:=q2 rfl;omega)⟩
    ·intro o' v' L' ao aa;refine k4 _ (fun e'=>ao ?_);exact (h.excl _ _ _ _ _ _ hL aa e'.symm (q2 rfl)).symm
    ·intro L' aa;rw[hL] at aa;cases aa;refine⟨q1,q2,q3,ah,e,lo,hi,k2,by omega,q6,q7.lay hr h1 (by omega) ad (.inl (Al _)) (fun j=>?_)⟩;rw[k9 j];rfl
    ·intro c' ap aq ax he v' L' aa;cases he;exact h.top _ _ _ _ _ ho hg _ _ aa
   ·cases hw
  ·cases hw
 ·cases hw
def Rel.newRow {w0:World}{C:CM}{H H':Heap}{w:World}(h:Rel w0 C H w){l:List AV}{o:Nat}(hn:newObj H l=some (o,H'))(e:TypeId)(fz:Nat×Nat){vs:Array Value}
  (hle:l.length≤vs.size) (hv:VRs C l (vs.toList.take l.length)) (h1:∀a∈l,a.one=true) (ad:∀i,i<vs.size→¬(fz.1≤i∧i<fz.2)) :
  ∃C',C.le C'∧Rel w0 C' H' (w.alloc (.cells vs e fz))∧C' o 0=some ⟨w.heap.size,0,l.length,vs.size⟩:=by
 unfold Sv.newObj at hn;cases hn;have aa:C.le (C.ext H.next 0 ⟨w.heap.size,0,l.length,vs.size⟩):=CM.le_ext _ (h.next_none 0) (.inr (Dm h.nx));refine⟨C.ext H.next 0 ⟨w.heap.size,0,l.length,vs.size⟩,aa,(h.push _ _ l.length vs.size ?_).1,CM.ext_same _ _ _ _⟩;intro L hL;rw[CM.ext_same] at hL;cases hL;refine⟨rfl,fun _=>h.low.size,by dsimp;omega,vs,e,fz.1,fz.2,V3 _ _,Al _,fun i _ hi=>ad i hi,?_⟩;intro k hk;rw[get_ofList l 0 .e k,Ag (by omega)];obtain⟨a,v,q1,q2,q3⟩:=hv.get' (i:=k) hk;refine⟨a,by simpa using q1,h1 a (A7 q1),v,?_,q3.mono aa⟩;rw[Ci hk] at q2;simpa using q2
end Go.Sv
namespace Go.Sv
open Go.RowKit (Below)
section sem
variable {P : Program} {w : World}
def Hg {t:TypeId}{d:TypeDesc}(h:P.underlying t=some d):(underlying t).run P w=.ok d w:=by
 simp[underlying,h]
def Z3 {t:TypeId}{i:TypeInfo}(h:P.info? t=some i):(typeInfo t).run P w=.ok i w:=by
 simp[typeInfo,h]
def Lp {t:TypeId}{n:Nat}(h:H0 P t=some n):(sizeOf t).run P w=.ok n w:=by
 unfold H0 at h;cases hi:P.info? t with
 |none=>simp[hi] at h
 |some i=>simp only[hi,Cl,Option.some.injEq] at h;simp[sizeOf,Z3 hi,h]
def z9j {t:TypeId}{b:Bool}(h:Lv P t=some b):(isAgg t).run P w=.ok b w:=by
 unfold Lv at h;cases hu:P.underlying t with
 |none=>simp[hu] at h
 |some d=>cases d<;>simp[hu] at h<;>subst h<;>simp[isAgg,Hg hu]
def q9 {t:TypeId}{l:List AV}(h:Ln P t=some l):∃v i,(zeroValue t).run P w=.ok v w∧Np v.cells.toList=some l∧P.info? t=some i∧l.length=i.size:=by
 unfold Ln at h;cases hi:P.info? t with
 |none=>simp[hi] at h
 |some i =>
  simp only[hi] at h;cases a:i.zero with
  |none=>simp[a] at h
  |some v =>
   simp only[a] at h;cases d:Np v.cells.toList with
   |none=>simp[d] at h
   |some r =>
    simp only[d] at h;split at h
    ·cases h;rename_i f;exact⟨v,i,by simp[zeroValue,Z3 hi,a],d,rfl,f⟩
    ·cases h
def zqh {t:TypeId}{a:AV}(h:yp P t=some a):∃v,(zeroValue t).run P w=.ok v w∧Qr v=some a:=by
 unfold yp at h;cases hi:P.info? t with
 |none=>simp[hi] at h
 |some i =>
  simp only[hi] at h;cases d:i.zero with
  |none=>simp[d] at h
  |some v=>simp only[d] at h;exact⟨v,by simp[zeroValue,Z3 hi,d],h⟩
end sem
def mq (C:CM)(E:Tr AV)(ρ:Operand→Value):Prop:=∀x a,(F8 x).run E=some a→VR C a (ρ x)
def xg {n:Nat}{C:CM}{E:Tr AV}{a:Act}(h:ER n C E a.tmps):mq C E a.eval:=by
 intro x o d;cases x with
 |tmp t =>
  unfold F8 at d;dsimp only at d;split at d
  ·rename_i j;have:=h.2.2 t (As j);dsimp only at d;show VR C o (a.tmps.getD t undef);cases m:Fk (F7 t) E with
   |none=>rw[m] at d this;cases d;rw[show a.tmps.getD t undef=undef from this];exact .tup .nil
   |some b=>rw[m] at d this;cases d;exact this
  ·cases d
 |const v =>
  unfold F8 at d;dsimp only at d;split at d
  ·rename_i b j;cases d;exact zil j
  ·cases d
 |global g=>cases d
 |func f=>cases d;exact .fn (.same _ (fun l e=>by cases e)) .nil .nil
def vd {C:CM}{E:Tr AV}{ρ:Operand→Value}(h:mq C E ρ):∀{xs:List Operand} {l:List AV},(opds xs).run E=some l→VRs C l (xs.map ρ)
 |[],l,d=>by cases d;exact .nil
 |x::xs,l,d=>by
  unfold opds at d;dsimp only at d;split at d
  ·cases d
  ·rename_i a f;split at d
   ·cases d
   ·rename_i r g;cases d;exact .cons (h _ _ f) (vd h g)
def Zk (P:Program)(d:World)(C:CM)(w:World)(nx:Sem Next)(v:AV)(H':Heap):Prop :=
 ∃a w' x,C.le a∧Rel d a H' w'∧VR a v x∧(nx.run P w=.ok (.value x) w'∨(nx.run P w=.ok .skip w'∧x=undef))
def vz (P:Program)(C:CM)(w:World)(nx:Sem Next)(t:Tgt)(args:List AV):Prop :=
 ∃vs:List Value,VRs C args vs∧((∃f,t=.fn f∧nx.run P w=.ok (.enter f vs.toArray) w)∨(∃l L,t=.yield l∧C l 0=some L∧nx.run P w=(Instr.yield L.b vs.toArray).run P w))
def Ka (P:Program)(a:World)(C:CM)(w:World)(nx:Sem Next):OR→Prop
 |.no=>True
 |.val v H'=>Zk P a C w nx v H'
 |.call t args=>vz P C w nx t args
def Gm (P:Program)(f:OpF)(nx:(Operand→Value)→Sem Next):Prop :=
 ∀a C H w E ρ,Rel a C H w→mq C E ρ→Ka P a C w (nx ρ) (f.run E H)
def Gz (P:Program)(nx:(Operand→Value)→Sem Next):Gm P Gp nx:=fun _ _ _ _ _ _ _ _=>trivial
def L6 {P:Program}{x:Operand}{f:Heap→AV→OR}{nx:(Operand→Value)→Sem Next}
  (h:∀d C H w ρ a,Rel d C H w→VR C a (ρ x)→Ka P d C w (nx ρ) (f H a)):Gm P (I5 x f) nx:=by
 intro d C H w E ρ g j;show Ka P d C w (nx ρ) (Option.rec OR.no (fun a=>f H a) ((F8 x).run E));cases l:(F8 x).run E with
 |none=>exact trivial
 |some a=>exact h _ _ _ _ _ _ g (j _ _ l)
def Ux {P:Program}{x y:Operand}{f:Heap→AV→AV→OR}{nx:(Operand→Value)→Sem Next}
  (h:∀d C H w ρ a b,Rel d C H w→VR C a (ρ x)→VR C b (ρ y)→Ka P d C w (nx ρ) (f H a b)):Gm P (Mp x y f) nx:=by
 intro d C H w E ρ j g;show Ka P d C w (nx ρ) (Option.rec OR.no (fun a=>Option.rec OR.no (fun b=>f H a b) ((F8 y).run E)) ((F8 x).run E));cases l:(F8 x).run E with
 |none=>exact trivial
 |some a =>
  cases m:(F8 y).run E with
  |none=>exact trivial
  |some b=>exact h _ _ _ _ _ _ _ j (g _ _ l) (g _ _ m)
def Is {P:Program}{d:World}{C:CM}{H:Heap}{w:World}{nx:Sem Next}{v:AV}{x:Value}(f:Rel d C H w)(hv:VR C v x)(a:nx.run P w=.ok (.value x) w) :
  Zk P d C w nx v H:=⟨C,w,x,CM.le_refl C,f,hv,.inl a⟩
def zl7 (P:Program)(x:Operand):Gm P (I5 x fun H a=>.val a H) (fun ρ=>pure (.value (ρ x))) :=
 L6 fun _ _ _ _ _ _ d hv=>Is d hv rfl
def zvf (P:Program)(c a b:Operand):Gm P (Gw P (.pick c a b)) (fun ρ=>do pure (.value (if ←asBool (ρ c) then ρ a else ρ b))):=by
 intro l C H w E ρ j g;show Ka P l C w _ (match (F8 c).run E with
  |some (.bool true)=>ret1 H ((F8 a).run E)
  |some (.bool false)=>ret1 H ((F8 b).run E)
  |_=>.no)
 split
 ·rename_i h;have d:=g _ _ h;cases m:(F8 a).run E with
  |none=>exact trivial
  |some v =>
   have hv:=g _ _ m;refine Is j hv ?_;cases f:ρ c<;>rw[f] at d<;>cases d;simp[asBool,f]
 ·rename_i h;have d:=g _ _ h;cases o:(F8 b).run E with
  |none=>exact trivial
  |some v =>
   have hv:=g _ _ o;refine Is j hv ?_;cases f:ρ c<;>rw[f] at d<;>cases d;simp[asBool,f]
 ·exact trivial
def zov {P:Program}{j:World}{C:CM}{H:Heap}{w:World}(m:Rel j C H w)(t:TypeId){l:List AV}{cs:Array Value}(hv:VRs C l cs.toList)(p:∀a∈l,a.one=true)
  {nx:Sem Next} (d:nx.run P w=.ok (.value (.pointer (some ⟨w.heap.size,0,none⟩))) (w.alloc (.cells cs t))):Ka P j C w nx (Q0 H l):=by
 unfold Q0;cases q:newObj H l with
 |none=>exact trivial
 |some r =>
  obtain⟨o,H'⟩:=r;have hlen:l.length=cs.toList.length:=hv.length;have f:l.length=cs.size:=by simpa using hlen
  obtain⟨s,hle,g,h⟩:=m.newRow q t (0,0) (vs:=cs) (by omega) (by rw[hlen,Ej];exact hv) p (by simp);exact⟨s,_,_,hle,g,by simpa using VR.ptr (i:=0) h,.inl d⟩
def zs0 (P:Program)(t:TypeId):Gm P (Gw P (.alloc t)) (fun _=>do pure (.value (←Instr.alloc t true (.tuple #[])))):=by
 intro a C H w E ρ d o;show Ka P a C w _ (OpF.run (match Ln P t with
  |some l=>⟨fun _ H=>Q0 H l⟩
  |none=>Gp) E H)
 cases f:Ln P t with
 |none=>exact trivial
 |some l =>
  obtain⟨v,i,g,h,p,q⟩:=q9 (w:=w) f;obtain⟨j,m⟩:=S7 (C:=C) h;refine zov d t j m ?_;simp[Instr.alloc,g,newVar,newRow]
def Uu (P:Program)(t:TypeId)(x:Operand):Gm P (Gw P (.box t x)) (fun ρ=>do pure (.value (←Instr.box t (ρ x)))):=by
 refine L6 fun j C H w ρ a d hv=>?_
 cases f:a.cells with
 |none=>exact trivial
 |some l =>
  obtain⟨g,h⟩:=hv.cells f;exact zov d t g h (by simp[Instr.box,newVar,newRow])
def zwi (P:Program)(t:TypeId)(x:Operand):Gm P (ux P t x) (fun ρ=>do pure (.value (←Instr.loadAt t (ρ x)))):=by
 unfold ux;split
 ·rename_i n g p;refine L6 fun s C H w ρ a d hv=>?_
  split
  ·rename_i o v i;split
   ·rename_i l h;generalize y:ρ x=z at hv;cases hv with
    |ptr j =>
     obtain⟨vs,q,m,r,A,_⟩:=d.read P h j;refine Is d (.agg (vs:=vs.toArray) (by simpa using m) r) ?_;simp[Instr.loadAt,Instr.sureAddr,loadVar,z9j g,Lp p,q]
   ·exact trivial
  ·exact trivial
 ·rename_i n g p;refine L6 fun s C H w ρ a d hv=>?_
  split
  ·rename_i o v i;split
   ·rename_i c h;generalize y:ρ x=z at hv;cases hv with
    |ptr j =>
     obtain⟨vs,q,m,r,A,D,B⟩:=d.read P h j;have f:=B 0 (by omega)
     match vs,m with
     |[u],.cons hu .nil =>
      refine Is d hu ?_;simp only[Cw,A6] at f;simp[Instr.loadAt,Instr.sureAddr,loadVar,z9j g,f]
   ·exact trivial
  ·exact trivial
 ·exact Gz P _
def zsw (P:Program)(t:TypeId)(x y:Operand):Gm P (zqu P t x y) (fun ρ=>do Instr.storeAt t (ρ x) (ρ y);pure .skip):=by
 unfold zqu;split
 ·rename_i n f;refine Ux fun z C H w ρ a b g hv h=>?_
  split
  ·rename_i o v i;split
   ·rename_i l j;split
    ·rename_i m;split
     ·rename_i H' hw;generalize A:ρ x=B at hv;cases hv with
      |ptr p =>
       obtain⟨d,q⟩:=h.cells j;obtain⟨w',r,s⟩:=g.write P hw p d q;refine⟨C,w',undef,CM.le_refl C,s,.tup .nil,.inr ⟨?_,rfl⟩⟩;have hlen:(ρ y).cells.size=n:=by have:=d.length;have:=Am m;simp at *;omega
       simp[Instr.storeAt,Instr.sureAddr,storeVar,Lp f,hlen,r]
     ·exact trivial
    ·exact trivial
   ·exact trivial
  ·exact trivial
 ·exact Gz P _
def zkq (P:Program)(x:Operand)(o:Oper)(ho:o.op=.nilCheck x):Gm P (I5 x ur) (fun ρ=>execOp ρ o):=by
 refine L6 fun m C H w ρ a g hv=>?_
 unfold ur;split
 ·generalize f:ρ x=j at hv;have d:=hv;cases hv with
  |ptr l=>exact Is g d (by simp[execOp,ho,f])
 ·generalize f:ρ x=j at hv;have d:=hv;cases hv with
  |iface h=>exact Is g d (by simp[execOp,ho,f])
 ·generalize f:ρ x=j at hv;have d:=hv;cases hv with
  |fn h=>cases h with
   |same=>exact Is g d (by simp[execOp,ho,f])
 ·generalize f:ρ x=j at hv;have d:=hv;cases hv with
  |map l=>exact Is g d (by simp[execOp,ho,f])
 ·exact trivial
end Go.Sv
namespace Go.Sv
open Go.RowKit (Below)
def z7x {k k':IntKind}(h:Rm k k'=true):k=k':=by
 cases k<;>cases k'<;>first|rfl|(exact absurd h (by decide))
def xy (a b:Int):x8 a b=(a==b):=by
 cases a<;>cases b
 ·rename_i x y;show Nat.beq x y=_;rw[B4];simp[Nat.beq_eq];omega
 ·show false=_;symm;rw[beq_eq_false_iff_ne];intro h;cases h
 ·show false=_;symm;rw[beq_eq_false_iff_ne];intro h;cases h
 ·rename_i x y;show Nat.beq x y=_;rw[B4];simp[Nat.beq_eq]
def Lf {a b:Nat}:Nat.blt a b=decide (a<b):=by
 rw[B4];simp[Nat.blt,Nat.ble_eq];omega
def du (a b:Int):nw a b=decide (a<b):=by
 cases a<;>cases b
 ·rename_i x y;show Nat.blt x y=_;rw[Lf,decide_eq_decide];simp
 ·rename_i x y;show false=_;symm;rw[Bl];have:=Int.negSucc_lt_zero y;simp;omega
 ·rename_i x y;show true=_;symm;rw[decide_eq_true_iff];have:=Int.negSucc_lt_zero x;simp;omega
 ·rename_i x y;show Nat.blt y x=_;rw[Lf,decide_eq_decide];omega
def z8e (k:IntKind):2^k.bits=Ot k:=by cases k<;>rfl
def Vb (k:IntKind)(n:Int):Ok k n=k.wrap n:=by
 cases n with
 |negSucc m=>rfl
 |ofNat m =>
  unfold Ok;dsimp only;split
  ·rename_i h;have a:m<R4 k:=by rw[Lf] at h;simpa using h
   cases k<;>simp only[R4] at a<;>simp only[IntKind.wrap,IntKind.bits,IntKind.signed]<;>simp<;>omega
  ·rfl
def zt3 (b:Int):Wq b=true↔b=0:=by
 cases b with
 |ofNat n=>simp[Wq,Nat.beq_eq]
 |negSucc n=>simp[Wq]
section bits
variable {k : IntKind} {x y : Nat}
def og (w x:Nat):BitVec.ofInt w (Int.ofNat x)=BitVec.ofNat w x:=by
 show BitVec.ofInt w ((x:Nat):Int)=_;exact BitVec.ofInt_natCast w x
def Zg (a:x<Ot k)(d:y<Ot k):(BitVec.ofInt k.bits (Int.ofNat x) &&& BitVec.ofInt k.bits (Int.ofNat y)).toNat=Nat.land x y:=by
 rw[←z8e] at a d;rw[og,og,BitVec.toNat_and,Du,Du,Bd a,Bd d];rfl
def j4 (a:x<Ot k)(d:y<Ot k):(BitVec.ofInt k.bits (Int.ofNat x) ||| BitVec.ofInt k.bits (Int.ofNat y)).toNat=Nat.lor x y:=by
 rw[←z8e] at a d;rw[og,og,BitVec.toNat_or,Du,Du,Bd a,Bd d];rfl
def W3 (a:x<Ot k)(d:y<Ot k):(BitVec.ofInt k.bits (Int.ofNat x) ^^^ BitVec.ofInt k.bits (Int.ofNat y)).toNat=Nat.xor x y:=by
 rw[←z8e] at a d;rw[og,og,BitVec.toNat_xor,Du,Du,Bd a,Bd d];rfl
def zs7 (a:x<Ot k)(_hy:y<Ot k) :
  (BitVec.ofInt k.bits (Int.ofNat x) &&& ~~~(BitVec.ofInt k.bits (Int.ofNat y))).toNat=Nat.xor x (Nat.land x y):=by
 rw[←z8e] at a;rw[og,og];apply Nat.eq_of_testBit_eq;intro i;rw[BitVec.testBit_toNat,BitVec.getLsbD_and,BitVec.getLsbD_not,BitVec.getLsbD_ofNat,BitVec.getLsbD_ofNat];show _=(x ^^^ (x &&& y)).testBit i;rw[Nat.testBit_xor,Nat.testBit_and];by_cases hi:i<k.bits
 ·simp only[hi,decide_true,El];cases x.testBit i<;>cases y.testBit i<;>rfl
 ·have:x.testBit i=false:=Nat.testBit_lt_two_pow (Bh a (D0 (by omega) (by omega)));simp[this,hi]
end bits
def zjf (a b:Nat):I8 a b=min a b:=by
 unfold I8;split
 ·rename_i h;have:=As h;omega
 ·rename_i h;have:¬a≤b:=fun d=>by rw[Ak d] at h;cases h
  omega
def zce {P:Program}{w:World}{f:Nat→Nat→Nat}{op:BinOp}{k:IntKind}{a b:Int}{v:AV}(h:U2 f k a b=some v)
  (j:∀x y:Nat,x<Ot k→y<Ot k→(Op.intBits op k (Int.ofNat x) (Int.ofNat y)).run P w=.ok (.int k (k.wrap (Int.ofNat (f x y)))) w) :
  ∃n,v=.int k n∧(Op.intBits op k a b).run P w=.ok (.int k n) w:=by
 unfold U2 at h;split at h
 ·rename_i x y;split at h
  ·rename_i d;split at h
   ·rename_i g;cases h;rw[Lf] at d g;exact⟨_,rfl,by rw[j x y (by simpa using d) (by simpa using g),Vb]⟩
   ·cases h
  ·cases h
 ·cases h
def zvj (P:Program)(w:World){op:BinOp}{k:IntKind}{a b:Int}{v:AV}(t:TypeId)(h:vn op k a b=some v) :
  ∃x,(binOp op t (.int k a) (.int k b)).run P w=.ok x w∧∀C,VR C v x:=by
 cases op<;>simp only[vn] at h
 case add=>cases h;exact⟨_,by simp[binOp,Op.intArith];rfl,fun C=>by rw[Vb];exact .int k _⟩
 case sub=>cases h;exact⟨_,by simp[binOp,Op.intArith];rfl,fun C=>by rw[Vb];exact .int k _⟩
 case mul=>cases h;exact⟨_,by simp[binOp,Op.intArith];rfl,fun C=>by rw[Vb];exact .int k _⟩
 case quo =>
  split at h
  ·cases h
  ·rename_i j;cases h;have l:b≠0:=fun e=>by rw[(zt3 b).2 e] at j;cases j
   exact⟨.int k (k.wrap (a.tdiv b)),by simp[binOp,Op.intDiv,l],fun C=>by rw[Vb];exact .int k _⟩
 case rem =>
  split at h
  ·cases h
  ·rename_i j;cases h;have l:b≠0:=fun e=>by rw[(zt3 b).2 e] at j;cases j
   exact⟨.int k (a.tmod b),by simp[binOp,Op.intDiv,l],fun C=>.int k _⟩
 case and =>
  obtain⟨n,rfl,d⟩:=zce (P:=P) (w:=w) (op:=.and) h (fun x y f g=>by simp only[Op.intBits,Zg f g];rfl);exact⟨_,by simpa [binOp] using d,fun C=>.int k n⟩
 case or =>
  obtain⟨n,rfl,d⟩:=zce (P:=P) (w:=w) (op:=.or) h (fun x y f g=>by simp only[Op.intBits,j4 f g];rfl);exact⟨_,by simpa [binOp] using d,fun C=>.int k n⟩
 case xor =>
  obtain⟨n,rfl,d⟩:=zce (P:=P) (w:=w) (op:=.xor) h (fun x y f g=>by simp only[Op.intBits,W3 f g];rfl);exact⟨_,by simpa [binOp] using d,fun C=>.int k n⟩
 case andNot =>
  obtain⟨n,rfl,d⟩:=zce (P:=P) (w:=w) (op:=.andNot) h (fun x y f g=>by simp only[Op.intBits,zs7 f g];rfl);exact⟨_,by simpa [binOp] using d,fun C=>.int k n⟩
 case eql=>cases h;exact⟨_,by simp[binOp,Op.intCmp];rfl,fun C=>by rw[xy];exact .bool _⟩
 case neq=>cases h;exact⟨.bool (a != b),by simp[binOp,Op.intCmp],fun C=>by rw[xy];exact .bool _⟩
 case lss=>cases h;exact⟨_,by simp[binOp,Op.intCmp];rfl,fun C=>by rw[du];exact .bool _⟩
 case gtr=>cases h;exact⟨_,by simp[binOp,Op.intCmp];rfl,fun C=>by rw[du];exact .bool _⟩
 case leq =>
  cases h;refine⟨.bool (decide (a≤b)),by simp[binOp,Op.intCmp],fun C=>?_⟩;rw[du,show (!decide (b<a))=decide (a≤b) from by rw[B4];simp];exact .bool _
 case geq =>
  cases h;refine⟨.bool (decide (a ≥ b)),by simp[binOp,Op.intCmp],fun C=>?_⟩;rw[du,show (!decide (a<b))=decide (a ≥ b) from by rw[B4];simp];exact .bool _
 all_goals cases h
def zi5 (P:Program)(w:World){op:BinOp}(d:op=.shl∨op=.shr){k k':IntKind}{a b:Int}{v:AV}(t:TypeId)(h:zql op k a b=some v) :
  ∃x,(binOp op t (.int k a) (.int k' b)).run P w=.ok x w∧∀C,VR C v x:=by
 unfold zql at h;split at h
 ·rename_i x y;rcases d with rfl|rfl
  ·simp only[Option.some.injEq] at h;subst h;refine⟨.int k (k.wrap (Int.ofNat x*2^(min y k.bits))),?_,fun C=>?_⟩
   ·have:¬((Int.ofNat y)<0):=by simp
    simp only[binOp,Op.shift];rw[Ab this];rfl
   ·rw[Vb,zjf];have:Int.ofNat (x.mul (Nat.pow 2 (min y k.bits)))=Int.ofNat x*2^(min y k.bits):=by
     show ((x*2^(min y k.bits):Nat):Int)=_;simp
    rw[this];exact .int k _
  ·simp only[Option.some.injEq] at h;subst h;refine⟨.int k ((Int.ofNat x).fdiv (2^(min y k.bits))),?_,fun C=>?_⟩
   ·have:¬((Int.ofNat y)<0):=by simp
    simp only[binOp,Op.shift];rw[Ab this];rfl
   ·rw[zjf];have:Int.ofNat (x.div (Nat.pow 2 (min y k.bits)))=(Int.ofNat x).fdiv (2^(min y k.bits)):=by
     show ((x/2^(min y k.bits):Nat):Int)=((x:Nat):Int).fdiv (2^(min y k.bits));have e:((2:Int)^(min y k.bits))=((2^(min y k.bits):Nat):Int):=by simp
     rw[e,Int.fdiv_eq_ediv_of_nonneg _ (B0 _)];rfl
    rw[this];exact .int k _
 ·cases h
end Go.Sv
namespace Go.Sv
open Go.RowKit (Below)
def packL_append:∀a b:List UInt8,Hx (a++b)=Hx a+Hx b*256^a.length
 |[],b=>by simp[Hx]
 |x::a,b=>by
  simp only[Bi,Hx,packL_append a b,Ar,Bg];rw[Ds,Cu,B2 (256^a.length) 256,E8 256]
def packL_inj:∀{a b:List UInt8},a.length=b.length→Hx a=Hx b→a=b
 |[],[],_,_=>rfl
 |[],_::_,h,_=>by simp at h
 |_::_,[],h,_=>by simp at h
 |x::a,y::b,h,k=>by
  simp only[Hx] at k;have g:=x.toNat_lt;have j:=y.toNat_lt;have d:x.toNat=y.toNat:=by omega
  have f:Hx a=Hx b:=by omega
  rw[packL_inj (by simpa using h) f,UInt8.toNat_inj.1 d]
def packL_drop:∀(i:Nat) (l:List UInt8),Hx (l.drop i)=Hx l/256^i
 |0,l=>by simp
 |i+1,[]=>by simp[Hx]
 |i+1,b::l=>by
  rw[List.drop_succ_cons,packL_drop i l];have a:=b.toNat_lt;simp only[Hx,Bg];rw[B2 (256^i) 256,←Dt]
  congr 1
  omega
def packL_take:∀(i:Nat) (l:List UInt8),Hx (l.take i)=Hx l%256^i
 |0,l=>by simp[Hx,Nat.mod_one]
 |i+1,[]=>by simp[Hx]
 |i+1,b::l=>by
  rw[List.take_succ_cons];simp only[Hx];rw[packL_take i l,Bg,B2 (256^i) 256];have a:=b.toNat_lt;rw[Nat.mod_mul,Nat.add_mul_mod_self_left,Bd a,Nat.add_mul_div_left _ _ (by omega),Dr a,Be]
def zi8 {l:List UInt8}{i:Nat}{b:UInt8}(h:l[i]?=some b):Hx l/256^i%256=b.toNat:=by
 rw[←packL_drop];have hi:=(Aa.1 h).1;rw[B9 hi,Hx,(Aa.1 h).2];have a:=b.toNat_lt;omega
def unpack_pack:∀l:List UInt8,Pv l.length (Hx l)=l.map (·.toNat)
 |[]=>rfl
 |b::l=>by
  have f:=b.toNat_lt;simp only[Ar,Pv,Hx,C8];have a:Nat.mod (b.toNat+256*Hx l) 256=b.toNat:=by show (b.toNat+256*Hx l)%256=_;omega
  have d:Nat.div (b.toNat+256*Hx l) 256=Hx l:=by show (b.toNat+256*Hx l)/256=_;omega
  rw[a,d,unpack_pack l]
def less_spec:∀a b:List UInt8,Op.bytesLess a b=b8 (a.map (·.toNat)) (b.map (·.toNat))
 |_,[]=>by simp[Op.bytesLess,b8]
 |[],_::_=>by simp[Op.bytesLess,b8]
 |x::a,y::b=>by
  simp only[Op.bytesLess,b8,C8,less_spec a b,Lf];have d:decide (x<y)=decide (x.toNat<y.toNat):=by rw[decide_eq_decide];exact UInt8.lt_iff_toNat_lt
  have f:(x==y)=Nat.beq x.toNat y.toNat:=by
   rw[B4];simp[Nat.beq_eq,UInt8.toNat_inj]
  rw[d,f]
def zfc {a b:ByteArray}:(a.toList==b.toList)=(Nat.beq a.data.toList.length b.data.toList.length&&Nat.beq (Hx a.data.toList) (Hx b.data.toList)):=by
 rw[ByteArray.toList_eq,ByteArray.toList_eq,B4];simp only[Dz,Ac,Nat.beq_eq];exact⟨fun h=>by rw[h];exact⟨rfl,rfl⟩,fun ⟨d,f⟩=>packL_inj d f⟩
def zvw {a b:ByteArray}:Op.bytesLess a.toList b.toList=b8 (Pv a.data.toList.length (Hx a.data.toList)) (Pv b.data.toList.length (Hx b.data.toList)):=by
 rw[ByteArray.toList_eq,ByteArray.toList_eq,less_spec,unpack_pack,unpack_pack]
def zk4 (a b:ByteArray):(a++b).data.toList=a.data.toList++b.data.toList:=by
 simp
def zwh (P:Program)(w:World){op:BinOp}{x y:ByteArray}{v:AV}(t:TypeId)
  (h:zm op x.data.toList.length (Hx x.data.toList) y.data.toList.length (Hx y.data.toList)=some v) :
  ∃u,(binOp op t (.string x) (.string y)).run P w=.ok u w∧∀C,VR C v u:=by
 have g:binOp op t (.string x) (.string y)=Op.stringOp op x y∨op=.shl∨op=.shr:=by cases op<;>simp[binOp]
 rcases g with g|rfl|rfl
 ·rw[g];have he:=zfc (a:=x) (b:=y);have f:=zvw (a:=x) (b:=y);unfold Op.stringOp;cases op<;>simp only[zm] at h
  case add =>
   split at h
   ·rename_i hle;cases h;have d:=As hle;have j:x.size+y.size≤I6:=d;refine⟨.string (x++y),?_,fun C=>.str ?_ ?_⟩
    ·dsimp only;rw[Ab]
     ·rfl
     ·simp only[IntKind.max,IntKind.signed,IntKind.bits,Bv];unfold I6 at j;omega
    ·rw[zk4,Aj];rfl
    ·rw[zk4,packL_append];rfl
   ·cases h
  case eql=>cases h;exact⟨_,rfl,fun C=>by rw[←he];exact .bool _⟩
  case neq=>cases h;exact⟨_,rfl,fun C=>by rw[←he];exact .bool _⟩
  case lss=>cases h;exact⟨_,rfl,fun C=>by rw[←f];exact .bool _⟩
  case leq=>cases h;exact⟨_,rfl,fun C=>by rw[←f,←he];exact .bool _⟩
  case gtr=>cases h;exact⟨_,rfl,fun C=>by rw[←f,←he];exact .bool _⟩
  case geq=>cases h;exact⟨_,rfl,fun C=>by rw[←f];exact .bool _⟩
  all_goals cases h
 ·simp[zm] at h
 ·simp[zm] at h
end Go.Sv
namespace Go.Sv
open Go.RowKit (Below)
def zxq {C:CM}{l r:List AV}{off n:Nat}(h:Te l off n=some r){vs:Array Value}(hv:VRs C l vs.toList)(f:∀a∈l,a.one=true) :
  VRs C r (vs.extract off (off+n)).toList∧(∀a∈r,a.one=true)∧r.length=n:=by
 unfold Te at h;split at h
 ·rename_i g;have d:=As g;cases h;have e:(vs.extract off (off+n)).toList=(vs.toList.drop off).take n:=by
   rw[Array.toList_extract,List.extract_eq_take_drop,Nat.add_sub_cancel_left]
  refine⟨by rw[e];exact (hv.drop off).take n,fun a j=>f a (List.mem_of_mem_drop (List.mem_of_mem_take j)),?_⟩;have hle:off+n≤l.length:=d;simp;omega
 ·cases h
def zfl {P:Program}{w:World}{C:CM}{t:TypeId}{g:Bool}{n:Nat}(j:Lv P t=some g)(m:H0 P t=some n){l:List AV}{off:Nat}{a:AV}(h:Wv g n l off=some a)
  {vs:Array Value} (hv:VRs C l vs.toList) (o:∀a∈l,a.one=true):∃v,(part t vs off).run P w=.ok v w∧VR C a v:=by
 unfold Wv at h;cases g with
 |true =>
  simp only at h;cases d:Te l off n with
  |none=>rw[d] at h;cases h
  |some r =>
   rw[d] at h;cases h;obtain⟨p,q,_⟩:=zxq d hv o;exact⟨_,by simp[part,z9j j,Lp m],.agg p q⟩
 |false =>
  simp only at h;obtain⟨v,s,x⟩:=hv.get h;have f:vs[off]?=some v:=by simpa using s
  exact⟨v,by simp[part,z9j j,f],x⟩
def zcs {P:Program}{w:World}{C:CM}{t:TypeId}{l:List AV}{off:Nat}{a:AV}(h:yu P t l off=some a)
  {vs:Array Value} (hv:VRs C l vs.toList) (d:∀a∈l,a.one=true):∃v,(part t vs off).run P w=.ok v w∧VR C a v:=by
 unfold yu at h;split at h
 ·rename_i g n f j;exact zfl f j h hv d
 ·cases h
def zjo {P:Program}{t:TypeId}{a:Array Field}(h:P.underlying t=some (.struct a)):P.fieldsOf t=a:=by simp[Program.fieldsOf,h]
def rj (d:Nat)(t:TypeId)(n:Nat)(xs f:Array Value):List Nat→Sem Bool
 |[]=>pure true
 |i::l=>do
  let a ←part t xs (i*n);let b ←part t f (i*n);let r ←Op.equalIn d t a b
  if (!r)=true then pure false else rj d t n xs f l
def zfm {P:Program}(w:World)(d:Nat){t e:TypeId}{n s:Nat}(xs f:Array Value)(m:P.underlying t=some (.array n e))(o:H0 P e=some s) :
  (Op.equalIn (d+1) t (.agg xs) (.agg f)).run P w=(rj d e s xs f (List.range n)).run P w:=by
 simp only[Op.equalIn,Sem.run_bind,Hg m,Result.andThen_ok,Lp o,Std.Legacy.Range.forIn_eq_forIn_range'];have:List.range' 0 n=List.range n:=List.range_eq_range'.symm;simp only[Std.Legacy.Range.size,Nat.sub_zero,Nat.add_sub_cancel,Nat.div_one,this];generalize List.range n=l
 induction l generalizing w with
 |nil=>simp[rj]
 |cons i l p =>
  simp only[List.forIn_cons,rj,Sem.run_bind,Sem.run_ite];generalize (part e xs (i*s)).run P w=q;cases q with
  |ok a g =>
   simp only[Result.andThen_ok];generalize (part e f (i*s)).run P g=y;cases y with
   |ok b h =>
    simp only[Result.andThen_ok];generalize (Op.equalIn d e a b).run P h=z;cases z with
    |ok r j =>
     cases r
     ·simp only[Result.andThen_ok,Bool.not_false,Bv,Sem.run_pure]
     ·simp only[Result.andThen_ok,Bool.not_true,C5,Dv,Sem.run_pure];exact p j
    |halt x j=>simp[Result.andThen]
   |halt x h=>simp[Result.andThen]
  |halt x g=>simp[Result.andThen]
def zi0 {P:Program}{w:World}{C:CM}{d:Nat}{f:TypeId→AV→AV→Option Bool}
  (hf:∀t a b r x y,f t a b=some r→VR C a x→VR C b y→(Op.equalIn d t x y).run P w=.ok r w)
  {xs ys:List AV} {us vs:Array Value} (hx:VRs C xs us.toList) (hx1:∀a∈xs,a.one=true) (hy:VRs C ys vs.toList) (hy1:∀a∈ys,a.one=true) :
  ∀{fs:List Field} {r:Bool},Xz P f xs ys fs=some r→(Op.eqFields d us vs fs).run P w=.ok r w
 |[],r,h=>by cases h;rfl
 |fd::fs,r,h=>by
  unfold Xz at h;split at h
  ·rename_i hn
   have hn' : fd.name ≠ "_" := by simpa using hn
   split at h
   ·rename_i a b ha hb;obtain⟨u,q1,q2⟩:=zcs (w:=w) ha hx hx1;obtain⟨v,q3,q4⟩:=zcs (w:=w) hb hy hy1;split at h
    ·rename_i he;have:=hf _ _ _ _ _ _ he q2 q4;simp only[Op.eqFields,Ag hn',Sem.run_bind,q1,q3,this,Result.andThen_ok];simpa using zi0 hf hx hx1 hy hy1 h
    ·rename_i he;have:=hf _ _ _ _ _ _ he q2 q4;cases h;simp only[Op.eqFields,Ag hn',Sem.run_bind,q1,q3,this,Result.andThen_ok];simp
    ·cases h
   ·cases h
  ·rename_i hn
   have hn' : fd.name = "_" := by simpa using hn
   simp only[Op.eqFields,hn',ne_eq,not_true_eq_false,Dv];exact zi0 hf hx hx1 hy hy1 h
def zoi {P:Program}{w:World}{C:CM}{d:Nat}{f:TypeId→AV→AV→Option Bool}{t:TypeId}{n:Nat}
  (p:∀t a b r x y,f t a b=some r→VR C a x→VR C b y→(Op.equalIn d t x y).run P w=.ok r w)
  {xs q:List AV} {s vs:Array Value} (z:VRs C xs s.toList) (g:∀a∈xs,a.one=true) (A:VRs C q vs.toList) (j:∀a∈q,a.one=true) :
  ∀{l:List Nat} {r:Bool},cz P f t n xs q l=some r→(rj d t n s vs l).run P w=.ok r w
 |[],r,h=>by cases h;rfl
 |i::l,r,h=>by
  unfold cz at h;split at h
  ·rename_i a b E F;obtain⟨u,G,B⟩:=zcs (w:=w) E z g;obtain⟨v,H,D⟩:=zcs (w:=w) F A j;have m:(part t s (i*n)).run P w=.ok u w:=G;have o:(part t vs (i*n)).run P w=.ok v w:=H;split at h
   ·rename_i he;have:=p _ _ _ _ _ _ he B D;simp only[rj,Sem.run_bind,m,o,this,Result.andThen_ok];simpa using zoi p z g A j h
   ·rename_i he;have:=p _ _ _ _ _ _ he B D;cases h;simp only[rj,Sem.run_bind,m,o,this,Result.andThen_ok];simp
   ·cases h
  ·cases h
set_option maxHeartbeats 1000000 in
def Uh {P:Program}{w:World}{C:CM}{d:Nat}{f:TypeId→AV→AV→Option Bool}
  (p:∀t a b r x y,f t a b=some r→VR C a x→VR C b y→(Op.equalIn d t x y).run P w=.ok r w)
  {t:TypeId} {a b:AV} {r:Bool} {x y:Value} (h:Zn P f t a b=some r) (g:VR C a x) (j:VR C b y):(Op.equalIn (d+1) t x y).run P w=.ok r w:=by
  unfold Zn at h;split at h
  case h_1 hu=>cases h;cases g;cases j;simp[Op.equalIn,Hg hu]
  case h_2 hu =>
   split at h
   ·rename_i hk;cases h;cases g;cases j;have:=z7x hk;subst this;simp[Op.equalIn,Hg hu,xy]
   ·cases h
  case h_3 hu =>
   cases h;cases g with
   |str q z =>
    cases j with
    |str A B =>
     subst q z A B;rw[←zfc,←beq_toListBytes];simp[Op.equalIn,Hg hu]
  case h_21 hu =>
   split at h
   ·cases h
   ·rename_i o;cases g with
    |agg g l =>
     cases j with
     |agg j m =>
      rw[run_equalIn_struct w d t _ _ (by rw[zjo hu];exact hu) (by simpa using o),zjo hu];exact zi0 p g l j m h
  case h_22 hu =>
   split at h
   ·rename_i s o;cases g with
    |agg g l =>
     cases j with
     |agg j m =>
      rw[zfm w d _ _ hu o];exact zoi p g l j m h
   ·cases h
  case h_23=>cases h
  all_goals
   rename_i hu;cases h;cases g;cases j;simp[Op.equalIn,Hg hu]
def ztw {P:Program}{w:World}{C:CM}(d:Nat):∀(n:Nat) (t:TypeId) (a b:AV) (r:Bool) (x y:Value),eqT P n t a b=some r→VR C a x→VR C b y →
  (Op.equalIn (d+n) t x y).run P w=.ok r w
 |0,_,_,_,_,_,_,h,_,_=>by cases h
 |n+1,_,_,_,_,_,_,h,f,g=>Uh (fun t a b r x y=>ztw d n t a b r x y) h f g
end Go.Sv
namespace Go.Sv
open Go.RowKit (Below)
def ze0 {P:Program}{w:World}(op:BinOp)(t:TypeId)(x y:Operand){a b:Value}(f:¬(a=.nilIface∧b=.nilIface))(g:∀c d,¬(a=.agg c∧b=.agg d)) :
  (eqGuard op t x y a b).run P w=.ok () w:=by
 unfold eqGuard;split<;>first
  |rfl
  | (rw [Ab (by decide)]
     split
     ·exact absurd ⟨rfl,rfl⟩ f
     ·exact absurd ⟨rfl,rfl⟩ (g _ _)
     ·rfl)
def zpi {P:Program}{w:World}(op:BinOp)(t:TypeId)(x y:Operand)(k k':IntKind)(a b:Int):(eqGuard op t x y (.int k a) (.int k' b)).run P w=.ok () w :=
 ze0 op t x y (fun h=>by cases h.1) (fun _ _ h=>by cases h.1)
def zl1 {P:Program}{w:World}{C:CM}(op:BinOp)(t:TypeId)(x y:Operand){a b:AV}{u v:Value}(hu:VR C a u)(hv:VR C b v)
  (f:zr P (Q5 x || Q5 y) t a b=true):(eqGuard op t x y u v).run P w=.ok () w:=by
 by_cases g:u=.nilIface∧v=.nilIface
 ·obtain⟨rfl,rfl⟩:=g;cases hu;cases hv;have l:(Q5 x || Q5 y)=true:=f;unfold eqGuard;split<;>first
   |rfl
   | (rw [Ab (by decide)]
      dsimp only;rw[Ag]
      ·rfl
      ·cases x<;>cases y<;>simp_all [Q5])
 ·by_cases j:∃c d,u=.agg c∧v=.agg d
  ·obtain⟨c,d,rfl,rfl⟩:=j;cases hu;cases hv;exact run_eqGuard_agg w op t x y c d (by simpa [zr] using f)
  ·exact ze0 op t x y g (fun c d h=>j ⟨c,d,h⟩)
def zwu {t:TypeId}{C:CM}{a b:AV}{u v:Value}(hu:VR C a u)(hv:VR C b v)(d:∀k x k' y,¬(a=.int k x∧b=.int k' y))(f:∀l x m y,¬(a=.str l x∧b=.str m y)) :
  binOp .eql t u v=(do pure (.bool (←Op.equal t u v)))∧binOp .neq t u v=(do pure (.bool (!(←Op.equal t u v)))):=by
 cases hu<;>cases hv<;>first
  |exact⟨rfl,rfl⟩
  |exact absurd ⟨rfl,rfl⟩ (d _ _ _ _)
  |exact absurd ⟨rfl,rfl⟩ (f _ _ _ _)
def zu1 {P:Program}{w:World}{C:CM}{g:Bool}{t:TypeId}{a b:AV}{r:Bool}(h:Ks P g t a b=some r){u v:Value}(hu:VR C a u)(hv:VR C b v) :
  zr P g t a b=true∧(Op.equal t u v).run P w=.ok r w:=by
 unfold Ks at h;split at h
 ·rename_i d;exact⟨d,ztw 9980 20 t a b r u v h hu hv⟩
 ·cases h
def zzf {P:Program}{w:World}{C:CM}{op:BinOp}{t:TypeId}(x y:Operand){a b r:AV}(h:Im P op (Q5 x || Q5 y) t a b=some r){u v:Value}(hu:VR C a u)(hv:VR C b v) :
  (eqGuard op t x y u v).run P w=.ok () w∧∃z,(binOp op t u v).run P w=.ok z w∧VR C r z:=by
 unfold Im at h;split at h
 ·cases hu;cases hv;refine⟨zpi op t x y _ _ _ _,?_⟩;split at h
  ·obtain⟨z,d,f⟩:=zi5 P w (.inl rfl) t h;exact⟨z,d,f C⟩
  ·obtain⟨z,d,f⟩:=zi5 P w (.inr rfl) t h;exact⟨z,d,f C⟩
  ·split at h
   ·rename_i hk;have:=z7x hk;subst this;obtain⟨z,d,f⟩:=zvj P w t h;exact⟨z,d,f C⟩
   ·cases h
 ·cases hu with
  |str d f =>
   cases hv with
   |str j o =>
    subst d f j o;refine⟨ze0 op t x y (fun h=>by cases h.1) (fun _ _ h=>by cases h.1),?_⟩;obtain⟨z,d,f⟩:=zwh P w t h;exact⟨z,d,f C⟩
 ·rename_i p q;have g:=zwu (t:=t) hu hv (fun k x k' y e=>p k x k' y e.1 e.2) (fun l x m y e=>q l x m y e.1 e.2);split at h
  ·cases he:Ks P (Q5 x || Q5 y) t a b with
   |none=>rw[he] at h;cases h
   |some s =>
    rw[he] at h;cases h;obtain⟨d,f⟩:=zu1 (w:=w) he hu hv;exact⟨zl1 _ t x y hu hv d,.bool s,by rw[g.1];simp[f],.bool s⟩
  ·cases he:Ks P (Q5 x || Q5 y) t a b with
   |none=>rw[he] at h;cases h
   |some s =>
    rw[he] at h;cases h;obtain⟨d,f⟩:=zu1 (w:=w) he hu hv;exact⟨zl1 _ t x y hu hv d,.bool (!s),by rw[g.2];simp[f],.bool (!s)⟩
  ·cases h
def qv {P:Program}{d:World}{C:CM}{H:Heap}{w:World}{nx:Sem Next}{o:Option AV}(f:Rel d C H w)
  (h:∀a,o=some a→∃z,nx.run P w=.ok (.value z) w∧VR C a z):Ka P d C w nx (ret1 H o):=by
 cases o with
 |none=>exact trivial
 |some a=>obtain⟨z,g,j⟩:=h a rfl;exact Is f j g
def zx0 (P:Program)(op:BinOp)(t d:TypeId)(x y:Operand)(o:Oper)(ho:o.op=.binOp op t x y d):Gm P (Gw P (.binOp op t x y d)) (fun ρ=>execOp ρ o):=by
 refine Ux fun q C H w ρ a b f g h=>qv f fun r j=>?_
 obtain⟨l,z,m,p⟩:=zzf (w:=w) x y j g h;exact⟨z,by simp[execOp,ho,l,m],p⟩
def Xu (P:Program)(op:UnOp)(t:TypeId)(x:Operand)(o:Oper)(ho:o.op=.unOp op t x):Gm P (Gw P (.unOp op t x)) (fun ρ=>execOp ρ o):=by
 refine L6 fun l C H w ρ a j d=>qv j fun r f=>?_
 unfold unA at f;split at f
 ·rename_i k n;cases f;generalize g:ρ x=h at d;cases d;exact⟨.int k (k.wrap (0 - n)),by simp[execOp,ho,g,Op.unary,Op.intArith],by rw[Vb];exact .int _ _⟩
 ·rename_i k n;cases f;generalize g:ρ x=h at d;cases d;exact⟨.int k (k.wrap (BitVec.ofInt k.bits (if k.signed then -1 else k.max) ^^^ BitVec.ofInt k.bits n).toNat),by simp[execOp,ho,g,Op.unary,Op.intBits],.int _ _⟩
 ·rename_i b;cases f;generalize g:ρ x=h at d;cases d;exact⟨.bool (!b),by simp[execOp,ho,g,Op.unary],.bool _⟩
 ·cases f
def VRs.set {C:CM}:∀{l:List AV} {r:List Value},VRs C l r→∀(i:Nat) {a:AV} {v:Value},VR C a v→VRs C (l.set i a) (r.set i v)
 |_,_,.nil,_,_,_,_=>.nil
 |_,_,.cons _ es,0,_,_,h=>.cons h es
 |_,_,.cons e es,i+1,_,_,h=>.cons e (VRs.set es i h)
def js {l:List AV}(h:∀a∈l,a.one=true){i:Nat}{a:AV}(f:a.one=true):∀b∈l.set i a,b.one=true:=by
 intro b g;rcases List.mem_or_eq_of_mem_set g with d|d
 ·exact h b d
 ·rw[d];exact f
def zpu {C:CM}{off:Nat}:∀(l:List AV) (r:List Value) (cs:List AV) (d:Array Value) (j:Nat),VRs C l r→(∀a∈l,a.one=true)→VRs C cs d.toList→(∀a∈cs,a.one=true) →
  VRs C (Nj cs (off+j) l) ((r.zipIdx j).foldl (fun cs (c,j)=>cs.setIfInBounds (off+j) c) d).toList∧(∀a∈Nj cs (off+j) l,a.one=true)
 |[],_,cs,d,j,.nil,_,h,f=>⟨h,f⟩
 |a::l,v::r,cs,d,j,.cons e es,g,h,f=>by
  simp only[Nj,List.zipIdx_cons,List.foldl_cons];have:=zpu (off:=off) l r (cs.set (off+j) a) (d.setIfInBounds (off+j) v) (j+1) es (fun b m=>g b (by simp[m]))
   (by rw[Array.toList_setIfInBounds];exact h.set _ e) (js f (g a (by simp)))
  rw[show off+j+1=off+(j+1) from by omega];exact this
def zvo (v:Array Value)(off:Nat)(a:Array Value):v.zipIdx.foldl (fun cs (c,j)=>cs.setIfInBounds (off+j) c) a=(v.toList.zipIdx 0).foldl (fun cs (c,j)=>cs.setIfInBounds (off+j) c) a:=by
 rw[←Array.foldl_toList,Array.toList_zipIdx]
def z6k {place:Nat→Option (Nat×Nat)}:∀{l:List (Nat×Operand)} {p:List Part},ae place l=some p →
  ∀{C:CM} {E:Tr AV} {ρ:Operand→Value},mq C E ρ→∀{cs r:List AV} {f:Array Value},Xs cs p E=some r→VRs C cs f.toList→(∀a∈cs,a.one=true) →
  ∃vs,Instr.fill place f (l.map fun (i,x)=>(i,ρ x))=some vs∧VRs C r vs.toList∧(∀a∈r,a.one=true)
 |[],p,h,C,E,ρ,w,cs,r,f,d,hv,y=>by
  cases h;cases d;exact⟨f,rfl,hv,y⟩
 |(i,x)::l,p,h,C,E,ρ,w,cs,r,f,d,hv,y=>by
  simp only[ae] at h;split at h
  ·cases h
  ·rename_i o s z;split at h
   ·cases h
   ·rename_i I A;cases h;simp only[Xs] at d;split at d
    ·cases d
    ·rename_i a J;split at d
     ·cases d
     ·rename_i q K;split at d
      ·rename_i hlen;split at d
       ·rename_i hle;have g:q.length=s:=Am hlen;have G:o+s≤cs.length:=As hle;obtain⟨H,L⟩:=(w _ _ J).cells K;have B:=H.length;have D:=hv.length;have F:=zpu (off:=o) q _ cs f 0 H L hv y;rw[Cw] at F;obtain⟨vs,M,N,O⟩:=z6k A w d F.1 F.2;refine⟨vs,?_,N,O⟩;have P:(ρ x).cells.size=s:=by rw[←g,B];simp
        have j:¬((decide ((ρ x).cells.size≠s) || decide (o+(ρ x).cells.size>f.size))=true):=by
         intro m;simp only[ne_eq,Bn,Ao] at m;rcases m with m|m
         ·exact m P
         ·simp at D;omega
        rw[C8];simp only[Instr.fill,z];rw[Ab j,zvo];exact M
       ·cases d
      ·cases d
def zei {P:Program}{w:World}:∀{l:List Field} {r:List (Nat×Nat)},zcn P l=some r →
  (l.mapM fun f=>do pure (f.offset,←sizeOf f.type):Sem (List (Nat×Nat))).run P w=.ok r w
 |[],r,h=>by cases h;rfl
 |f::l,r,h=>by
  simp only[zcn] at h;split at h
  ·cases h
  ·rename_i s a;split at h
   ·cases h
   ·rename_i r' d;cases h;simp only[List.mapM_cons,Sem.run_bind,Lp a,Result.andThen_ok,Sem.run_pure,zei d]
def zrm (P:Program)(t:TypeId)(parts:Array (Nat×Operand)):Gm P (yd P t parts) (fun ρ=>do pure (.value (←Instr.build t (parts.map fun (i,x)=>(i,ρ x))))):=by
 unfold yd;split
 ·exact Gz P _
 ·rename_i cs A;split
  ·rename_i fields hu;split
   ·exact Gz P _
   ·rename_i pl d;split
    ·exact Gz P _
    ·rename_i B a;intro D C H w E ρ g h;dsimp only;split
     ·rename_i l j;obtain⟨v,i,m,o,F,G⟩:=q9 (w:=w) A;obtain⟨p,q⟩:=S7 (C:=C) o;obtain⟨vs,r,s,y⟩:=z6k a h j p q;refine Is g (.agg s y) ?_;have hm:(fields.mapM fun f=>do pure (f.offset,←sizeOf f.type):Sem (Array (Nat×Nat))).run P w=.ok pl.toArray w:=by
       rw[Array.mapM_eq_mapM_toList];simp only[Sem.run_map,zei d,Result.andThen_ok]
      have z:Instr.fill (pl.toArray[·]?) v.cells (parts.map fun (i,x)=>(i,ρ x)).toList=some vs:=by
       rw[Cj];have:(fun i:Nat=>pl.toArray[i]?)=(fun i:Nat=>pl[i]?):=by funext i;simp
       rw[this];exact r
      simp only[Instr.build,Sem.run_bind,m,Hg hu,hm,Result.andThen_ok,z,Sem.run_pure]
     ·exact trivial
  ·rename_i n elem hu;split
   ·exact Gz P _
   ·rename_i size I;split
    ·exact Gz P _
    ·rename_i B a;intro D C H w E ρ g h;dsimp only;split
     ·rename_i l j;obtain⟨v,i,m,o,F,G⟩:=q9 (w:=w) A;obtain⟨p,q⟩:=S7 (C:=C) o;obtain⟨vs,r,s,y⟩:=z6k a h j p q;refine Is g (.agg s y) ?_;have z:Instr.fill (fun i=>some (i*size,size)) v.cells (parts.map fun (i,x)=>(i,ρ x)).toList=some vs:=by
       rw[Cj];exact r
      simp only[Instr.build,Sem.run_bind,m,Hg hu,Lp I,Result.andThen_ok,z,Sem.run_pure]
     ·exact trivial
  ·exact Gz P _
end Go.Sv
namespace Go.Sv
open Go.RowKit (Below)
def z5x (l:List AV):∀n,(Mc l n).length=n*l.length
 |0=>by simp[Mc]
 |n+1=>by rw[Mc,Aj,z5x l n,Ec];omega
def su {l:List AV}(h:∀a∈l,a.one=true):∀n,∀a∈Mc l n,a.one=true
 |0,a,d=>by simp[Mc] at d
 |n+1,a,d=>by
  rw[Mc,Az] at d;rcases d with d|d
  ·exact h a d
  ·exact su h n a d
def My (l:List Value):Nat→List Value
 |0=>[]
 |n+1=>l++My l n
def ug {C:CM}{l:List AV}{r:List Value}(h:VRs C l r):∀n,VRs C (Mc l n) (My r n)
 |0=>.nil
 |n+1=>h.append (ug h n)
def zjb (l:List Value):∀n,(My l n).length=n*l.length
 |0=>by simp[My]
 |n+1=>by rw[My,Aj,zjb l n,Ec];omega
def zt2 (l:List Value):∀(n i:Nat),i<n*l.length→(My l n)[i]?=l[i%l.length]?
 |0,i,h=>by simp at h
 |n+1,i,h=>by
  rw[Ec] at h;rw[My];by_cases hi:i<l.length
  ·rw[Aq hi,Bd hi]
  ·have d:0<l.length:=by
    rcases Nat.eq_zero_or_pos l.length with a|a
    ·rw[a] at h;omega
    ·exact a
   rw[Au (by omega),zt2 l n _ (by omega),Nat.mod_eq_sub_mod (by omega:l.length≤i)]
def zo (z:Array Value)(n:Nat):((Array.range (n*z.size)).map fun i=>z[i%z.size]!).toList=My z.toList n:=by
 apply List.ext_getElem?;intro i;rw[Cj,Ce];by_cases hi:i<n*z.size
 ·rw[zt2 _ _ _ (by simpa using hi)];have d:0<z.size:=by
   rcases Nat.eq_zero_or_pos z.size with a|a
   ·rw[a] at hi;omega
   ·exact a
  have hm:i%z.size<z.size:=Cm _ d;simp[hi,hm,getElem!_pos]
 ·have f:(My z.toList n).length≤i:=by rw[zjb];simp;omega
  rw[Dk f,Dk (by simpa using hi)];rfl
def po (f:Nat→Value):(Array.range 0).map f=#[]:=by simp
def zcw (off:Nat):∀(q:List (Value×Nat)) (a:Array Value),(q.foldl (fun cs (c,j)=>cs.setIfInBounds (off+j) c) a).size=a.size
 |[],_=>rfl
 |x::q,a=>by rw[List.foldl_cons,zcw off q];simp
def zk6 {pl:Nat→Option (Nat×Nat)}:∀{d:List (Nat×Value)} {a b:Array Value},Instr.fill pl a d=some b→b.size=a.size
 |[],_,_,h=>by cases h;rfl
 |(i,v)::d,a,b,h=>by
  simp only[Instr.fill] at h;split at h
  ·cases h
  ·split at h
   ·cases h
   ·rw[zk6 h,←Array.foldl_toList,zcw]
def zuj {P:Program}{p:World}{C:CM}{H H':Heap}{w:World}(q:Rel p C H w)(t:TypeId){l:List AV}{o len esz:Nat}{cs:Array Value}(s:newObj H l=some (o,H'))
  (hv:VRs C l cs.toList) (x:∀a∈l,a.one=true) {cap:Nat} (A:cap*esz=l.length) (hle:len≤cap)
  {nx:Sem Next} (f:nx.run P w=.ok (.value (.slice (some ⟨w.heap.size,0,none⟩) len cap)) (w.alloc (.cells cs t))):Zk P p C w nx (.sl o 0 0 len esz (some cap)) H':=by
 have hlen:l.length=cs.toList.length:=hv.length;have g:l.length=cs.size:=by simpa using hlen
 obtain⟨y,d,j,m⟩:=q.newRow s t (0,0) (vs:=cs) (by omega) (by rw[hlen,Ej];exact hv) x (by simp);have hmul:len*esz≤cap*esz:=At _ hle;refine⟨y,_,_,d,j,?_,.inl f⟩;have:=VR.sl (i:=0) (len:=len) (esz:=esz) (room:=some cap) (cap:=cap) m (by dsimp;omega) (by dsimp;omega) hle (fun r z=>by cases z;exact⟨rfl,by dsimp;omega⟩) (fun h=>by cases h);simpa using this
def zh2 (P:Program)(t:TypeId)(len:Nat)(parts:Array (Nat×Operand)) :
  Gm P (m9 P t len parts) (fun ρ=>do pure (.value (←Instr.buildSlice t len (parts.map fun (i,x)=>(i,ρ x))))):=by
 unfold m9;split
 ·rename_i elem hu;split
  ·exact Gz P _
  ·rename_i size h;split
   ·exact Gz P _
   ·rename_i z F;split
    ·rename_i a;obtain⟨G,y⟩:=a;split
     ·exact Gz P _
     ·rename_i U j;intro V C H w E ρ I J;dsimp only;split
      ·rename_i l K;split
       ·rename_i o H' L;obtain⟨v,i,M,N,O,W⟩:=q9 (w:=w) F;obtain⟨m,Q⟩:=S7 (C:=C) N;have p:v.cells.size=size:=by
         have d:=m.length;unfold H0 at h;rw[O] at h;simp at h d;omega
        have R:z.length=size:=by have d:=m.length;simp at d;omega
        have f:VRs C (Mc z len) ((Array.range (len*size)).map fun i=>v.cells[i%v.cells.size]!).toList:=by
         rw[←p,zo];exact ug m len
        obtain⟨vs,A,B,S⟩:=z6k j J K f (su Q len);have q:l.length=len*size:=by
         have d:=B.length;have T:=zk6 A;simp at T d;omega
        refine zuj I elem L B S q.symm (Al _) ?_;have D:Instr.fill (fun i=>some (i*size,size)) ((Array.range (len*size)).map fun i=>v.cells[i%v.cells.size]!) (parts.map fun (i,x)=>(i,ρ x)).toList=some vs:=by
         rw[Cj];exact A
        have g:¬(len*size>2^24):=by omega
        simp only[Instr.buildSlice,Sem.run_bind,Hg hu,Lp h,Result.andThen_ok,Sem.run_ite,Ab g];by_cases r:len*size=0
        ·rw[Ag r];have s:Instr.fill (fun i=>some (i*size,size)) ((Array.range (len*size)).map fun i=>(#[]:Array Value)[i%(#[]:Array Value).size]!) (parts.map fun (i,x)=>(i,ρ x)).toList=some vs:=by
          rw[←D,r,po,po]
         simp only[Sem.run_pure,Result.andThen_ok,s,newRow,Sem.run_bind,run_newObj];rfl
        ·rw[Ab r];simp only[Sem.run_bind,M,Sem.run_pure,Result.andThen_ok,D,newRow,run_newObj];rfl
       ·exact trivial
      ·exact trivial
    ·exact Gz P _
 ·exact Gz P _
def zm2 (P:Program)(t:TypeId)(l c:Operand):Gm P (nf P t l c) (fun ρ=>do pure (.value (←Instr.makeSlice t (ρ l) (ρ c)))):=by
 unfold nf;split
 ·rename_i elem hu;split
  ·exact Gz P _
  ·rename_i i hi;split
   ·exact Gz P _
   ·rename_i z F;split
    ·rename_i d;obtain⟨s,g⟩:=d;refine Ux fun U C H w ρ a b G A B=>?_
     split
     ·rename_i x y;split
      ·rename_i h;split
       ·rename_i I;split
        ·rename_i o H' J;have f:x≤y:=As h;have m:y≤1048576:=As I;obtain⟨v,j,K,L,D,M⟩:=q9 (w:=w) F;obtain⟨E,N⟩:=S7 (C:=C) L;rw[hi] at D;cases D;have p:v.cells.size=i.size:=by have q:=E.length;simp at q;omega
         generalize ρ l=pl at A;generalize ρ c=V at B;cases A;cases B;refine zuj G elem J (cs:=(Array.range (y*i.size)).map fun k=>v.cells[k%v.cells.size]!) (by rw[←p,zo];exact ug E y) (su N y) (by rw[z5x,M]) f ?_;have q:IntKind.i64.wrap (Int.ofNat x)=Int.ofNat x:=by simp only[IntKind.wrap,IntKind.bits,IntKind.signed];simp;omega
         have O:IntKind.i64.wrap (Int.ofNat y)=Int.ofNat y:=by simp only[IntKind.wrap,IntKind.bits,IntKind.signed];simp;omega
         have W:i.bytes*y≤65536*1048576:=Cb g m;have Q:¬((decide (Int.ofNat y<0) || decide ((i.bytes:Int)*Int.ofNat y>2^48) || decide (Int.ofNat x<0) || decide (Int.ofNat x>Int.ofNat y))=true):=by
          have R:((i.bytes:Int)*Int.ofNat y)=((i.bytes*y:Nat):Int):=by simp
          rw[R];simp only[Bn,Ao,not_or];refine⟨⟨⟨by simp,by simp;omega⟩,by simp⟩,by simp;omega⟩
         simp only[Instr.makeSlice,Sem.run_bind,Hg hu,Z3 hi,asInt,asIntOf,Sem.run_pure,Result.andThen_ok,q,O,Sem.run_ite,Ab Q,run_askRoom,Lp (show H0 P elem=some i.size from by simp[H0,hi])];have S:(Int.ofNat y).toNat=y:=rfl;have T:(Int.ofNat x).toNat=x:=rfl;rw[S,T];by_cases r:y*i.size=0
         ·rw[Ag r];simp only[Sem.run_pure,Result.andThen_ok,newRow,Sem.run_bind,run_newObj];have:((Array.range (y*i.size)).map fun k=>(#[]:Array Value)[k%(#[]:Array Value).size]!)=((Array.range (y*i.size)).map fun k=>v.cells[k%v.cells.size]!):=by rw[r,po,po]
          rw[this];rfl
         ·rw[Ab r];simp only[Sem.run_bind,K,Sem.run_pure,Result.andThen_ok,newRow,run_newObj];rfl
        ·exact trivial
       ·exact trivial
      ·exact trivial
     ·exact trivial
    ·exact Gz P _
 ·exact Gz P _
def zmd (P:Program)(t:TypeId)(x:Operand):Gm P (xq P t x) (fun ρ=>do pure (.value (←Instr.makeInterface t (ρ x)))):=by
 unfold xq;split
 ·exact Gz P _
 ·rename_i d f hu;refine L6 fun j C H w ρ a g h=>Is g (.iface h) ?_
  simp only[Instr.makeInterface,Sem.run_bind,Hg hu,Result.andThen_ok];cases d<;>first|rfl|exact absurd hu (f _)
 ·exact Gz P _
def zqn (P:Program)(f:Fn)(first cap:Array Operand)(d:∀l,f≠.yield l):Gm P (xp f first cap) (fun ρ=>do pure (.value (←Instr.makeFunc f (first.map ρ) (cap.map ρ)))):=by
 intro m C H w E ρ g a;unfold xp;dsimp only;split
 ·rename_i l h;split
  ·rename_i r j;refine Is g (.fn (.same f d) (l':=first.map ρ) (r':=cap.map ρ) ?_ ?_) rfl
   ·rw[Cj];exact vd a h
   ·rw[Cj];exact vd a j
  ·exact trivial
 ·exact trivial
def zlj {P:Program}{d:World}{C:CM}{H:Heap}{w:World}(f:Rel d C H w){nx:Sem Next}(a:nx.run P w=.ok (.value (.map (some w.heap.size))) (w.alloc (.map #[] 0))) :
  Ka P d C w nx (S0 H):=by
 unfold S0;obtain⟨h,j⟩:=f.push (.map [] 0) (.map #[] 0) 0 0 (fun L g=>by
  rw[CM.ext_same] at g;cases g;exact⟨f.low.size,#[],V3 _ _,.nil⟩)
 exact⟨_,_,_,j,h,.map (CM.ext_same _ _ _ _),.inl a⟩
def zsj (P:Program)(t:TypeId)(r:Option Operand):Gm P (nq P t r) (fun ρ=>do pure (.value (←Instr.makeMap t (r.map ρ)))):=by
 unfold nq;split
 ·intro g C H w E ρ d j;exact zlj d (by simp[Instr.makeMap])
 ·rename_i x;split
  ·rename_i k e hu;refine L6 fun g C H w ρ a d f=>?_
   split
   ·generalize h:ρ x=l at f;cases f;exact zlj d (by simp[Instr.makeMap,Hg hu,h,asInt,asIntOf])
   ·exact trivial
  ·exact Gz P _
def zik (P:Program)(t:TypeId)(x:Operand)(f:Nat):Gm P (u7 P t x f) (fun ρ=>do pure (.value (←Instr.fieldAt t (ρ x) f))):=by
 unfold u7;split
 ·rename_i fields hu;split
  ·exact Gz P _
  ·rename_i fd h;split
   ·exact Gz P _
   ·exact Gz P _
   ·rename_i n j l;refine L6 fun q C H w ρ a m g=>?_
    split
    ·rename_i o v i;generalize r:ρ x=s at g;cases g with
     |ptr p =>
      refine Is m (.ptr (i:=i+fd.offset) p) ?_;have d:n≠0:=j;simp[Instr.fieldAt,Hg hu,h,Instr.sureAddr,fieldPlace,Lp l,d,ei]
    ·exact trivial
 ·exact Gz P _
def zsq (P:Program)(t:TypeId)(x:Operand)(f:Nat):Gm P (xl P t x f) (fun ρ=>do pure (.value (←Instr.field t (ρ x) f))):=by
 unfold xl;split
 ·rename_i fields hu;split
  ·exact Gz P _
  ·rename_i fd j;split
   ·rename_i g n l m;refine L6 fun y C H w ρ a o d=>?_
    split
    ·generalize A:ρ x=B at d;cases d with
     |agg d h =>
      refine qv o fun r p=>?_
      obtain⟨z,q,s⟩:=zfl (w:=w) l m p d h;exact⟨z,by simp[Instr.field,Hg hu,j,asAgg,q],s⟩
    ·exact trivial
   ·exact Gz P _
 ·exact Gz P _
end Go.Sv
namespace Go.Sv
open Go.RowKit (Below)
def tr {l c:Nat}(e:Nat)(h:l≤c):l*e+(c - l)*e=c*e:=by
 rw[←Bb];congr 1;omega
def Ue (r:Option Nat)(v:Option Value):Prop:=match r with
 |none=>v=none
 |some n=>∃k,v=some (.int k (Int.ofNat n))
def Rr {C:CM}{E:Tr AV}{ρ:Operand→Value}(a:mq C E ρ){x:Option Operand}{r:Option Nat}(h:(I7 x).run E=some r):Ue r (x.map ρ):=by
 cases x with
 |none=>cases h;rfl
 |some x =>
  unfold I7 at h;dsimp only at h;split at h
  ·rename_i k n d;cases h;have:=a _ _ d;generalize hv:ρ x=v at this;cases this;exact⟨k,by simp[hv]⟩
  ·cases h
def jg {P:Program}{w:World}(k:IntKind){n y:Nat}(c:BoundsCode)(h:n≤y):(Instr.sliceBound (.int k (Int.ofNat n)) y c).run P w=.ok n w:=by
 have:(0:Int)≤Int.ofNat n∧Int.ofNat n≤(y:Int):=⟨by simp,by simp;omega⟩;simp only[Instr.sliceBound,asIntOf,Sem.run_bind,Sem.run_pure,Result.andThen_ok,Sem.run_ite,Ag this];rfl
def z3h {P:Program}{w:World}(isSlice:Bool){len cap:Nat}{lo hi mx:Option Nat}{a b c:Option Value}(g:Ue lo a)(o:Ue hi b)(p:Ue mx c)
  (hm:mx.isSome=true→hi.isSome=true) (d:lo.getD 0≤hi.getD len) (f:hi.getD len≤mx.getD cap) (j:mx.getD cap≤cap) :
  (Instr.sliceBounds isSlice len cap a b c).run P w=.ok (lo.getD 0,hi.getD len,mx.getD cap) w:=by
 cases mx with
 |none =>
  cases p;simp only[Option.getD_none] at f j;cases hi with
  |none =>
   cases o;cases lo with
   |none=>cases g;simp[Instr.sliceBounds]
   |some l =>
    obtain⟨k,rfl⟩:=g;simp only[Cc,Option.getD_none] at d;simp only[Instr.sliceBounds,Sem.run_bind,Sem.run_pure,Result.andThen_ok,jg k _ d,Option.getD]
  |some h =>
   obtain⟨k,rfl⟩:=o;simp only[Cc] at d f;cases lo with
   |none=>cases g;simp only[Instr.sliceBounds,Sem.run_bind,Sem.run_pure,Result.andThen_ok,jg k _ f,Option.getD]
   |some l =>
    obtain⟨k',rfl⟩:=g;simp only[Cc] at d;simp only[Instr.sliceBounds,Sem.run_bind,Sem.run_pure,Result.andThen_ok,jg k _ f,jg k' _ d,Option.getD]
 |some m =>
  obtain⟨q,rfl⟩:=p;simp only[Cc] at f j;cases hi with
  |none=>simp at hm
  |some h =>
   obtain⟨k,rfl⟩:=o;simp only[Cc] at d f;cases lo with
   |none=>cases g;simp only[Instr.sliceBounds,Sem.run_bind,Sem.run_pure,Result.andThen_ok,jg q _ j,jg k _ f,Option.getD]
   |some l =>
    obtain⟨k',rfl⟩:=g;simp only[Cc] at d;simp only[Instr.sliceBounds,Sem.run_bind,Sem.run_pure,Result.andThen_ok,jg q _ j,jg k _ f,jg k' _ d,Option.getD]
def zlf {C:CM}{o v i esz l h m:Nat}{L:Loc}(f:C o v=some L)(g:l≤h)(j:h≤m)(w:i+m*esz≤L.n)(x:L.d+i+m*esz≤L.sz) :
  VR C (Wh l h m o v i esz) (.slice (some (if m=l then ⟨L.b,L.d+i,none⟩ else (⟨L.b,L.d+i,none⟩:Addr).add (l*esz))) (h - l) (m - l)):=by
 unfold Wh;split
 ·rename_i he;have a:l=m:=Am he;subst a;have:h=l:=by omega
  subst this;rw[Ag rfl,Eu];split
  ·exact .sl f (by omega) (by omega) (Al _) (fun r d=>by cases d;exact⟨rfl,by omega⟩) (fun e=>by cases e)
  ·exact .emp
 ·rename_i he;have a:¬m=l:=fun e=>by rw[e,Bj] at he;cases he
  rw[Ab a,ei];have y:=tr esz (Bq g j);have z:=tr esz g;have A:h*esz≤m*esz:=At _ j;have p:Nat.add i (Nat.mul l esz)=i+l*esz:=rfl;have q:Nat.sub h l=h - l:=rfl;have s:Nat.sub m l=m - l:=rfl;rw[p,q,s];exact .sl f (by omega) (by omega) (by omega) (fun r d=>by cases d;exact⟨rfl,by omega⟩) (fun e=>by cases e)
def zf8 {C:CM}{o v i len esz l h cap:Nat}{room mx:Option Nat}{r:AV}{L:Loc}(w:C o v=some L)(J:i+len*esz≤L.n)(G:L.d+i+cap*esz≤L.sz)(K:len≤cap)
  (H:∀r,room=some r→cap=r∧i+r*esz≤L.n) (M:room=none→L.d+i+cap*esz=L.sz) (d:nm l h (room.getD len) mx o v i esz room=some r) :
  l≤h∧h≤mx.getD cap∧mx.getD cap≤cap ∧
  VR C r (.slice (some (if mx.getD cap=l then ⟨L.b,L.d+i,none⟩ else (⟨L.b,L.d+i,none⟩:Addr).add (l*esz))) (h - l) (mx.getD cap - l)):=by
 unfold nm at d;split at d
 ·cases d
 ·rename_i x;have a:l≤h:=As x;split at d
  ·cases d
  ·rename_i y;have f:h≤room.getD len:=As y;have z:room.getD len≤cap∧i+room.getD len*esz≤L.n:=by
    cases room with
    |none=>exact⟨K,J⟩
    |some r=>obtain⟨p,q⟩:=H r rfl;exact⟨by simp[p],q⟩
   split at d
   ·rename_i m;split at d
    ·cases d
    ·rename_i A;have j:h≤m:=As A;split at d
     ·cases d
     ·rename_i B;have s:m≤room.getD len:=As B;cases d;have p:m*esz≤room.getD len*esz:=At _ s;have q:m*esz≤cap*esz:=At _ (by omega);exact⟨a,j,by simp;omega,zlf w a j (by omega) (by omega)⟩
   ·split at d
    ·rename_i rr;cases d;obtain⟨p,q⟩:=H rr rfl;subst p;exact⟨a,f,Al _,zlf w a f q G⟩
    ·have D:=M rfl;simp only[Option.getD_none] at f ⊢;have Q:h*esz≤len*esz:=At _ f;split at d
     ·rename_i I;have E:l=0:=Am I;subst E;cases d;refine⟨a,by omega,Al _,?_⟩;have e:(if cap=0 then (⟨L.b,L.d+i,none⟩:Addr) else (⟨L.b,L.d+i,none⟩:Addr).add (0*esz))=⟨L.b,L.d+i,none⟩:=by
       split
       ·rfl
       ·rw[ei];simp
      rw[e];exact .sl w (by omega) (by simpa using G) (by omega) (fun r F=>by cases F) (fun _=>by simpa using D)
     ·rename_i I;split at d
      ·rename_i g;have e:l=h:=Am g;subst e;cases d;refine⟨a,by omega,Al _,?_⟩;rw[Eu];exact .emp
      ·rename_i g;have N:¬l=h:=fun e=>by rw[e,Bj] at g;cases g
       cases d;refine⟨a,by omega,Al _,?_⟩;rw[Ab (by omega),ei];have p:=tr esz (show l≤cap by omega);have q:=tr esz a;have O:Nat.add i (Nat.mul l esz)=i+l*esz:=rfl;have P:Nat.sub h l=h - l:=rfl;rw[O,P];exact .sl w (by omega) (by omega) (by omega) (fun r F=>by cases F) (fun _=>by omega)
def zcc {α β:Type}(f:α→β)(x:Option α):(x.map f).isSome=x.isSome:=by cases x<;>rfl
def Ue.isSome {r:Option Nat}{v:Option Value}(h:Ue r v):r.isSome=v.isSome:=by
 cases r with
 |none=>rw[show v=none from h];rfl
 |some n=>obtain⟨k,rfl⟩:=h;rfl
def zsd (P:Program)(t:TypeId)(x:Operand)(lo hi mx:Option Operand) :
  Gm P (fk P t x lo hi mx) (fun ρ=>do pure (.value (←Instr.sliceAt t (ρ x) (lo.map ρ) (hi.map ρ) (mx.map ρ)))):=by
 unfold fk;split
 ·rename_i hu;split
  ·exact Gz P _
  ·intro w0 C H w E ρ y f;dsimp only;split
   ·rename_i len n l h z A B;split
    ·rename_i h1;split
     ·rename_i h2;have Q:l.getD 0≤h.getD len:=As h1;have D:h.getD len≤len:=As h2;have hv:=f _ _ z;have g:=Rr f A;have d:=Rr f B;generalize ρ x=O at hv;cases hv with
      | @str _ _ s F G =>
       subst F G;have p:=z3h (P:=P) (w:=w) false (len:=s.size) (cap:=s.size) (mx:=none) (c:=none) g d rfl (by simp) Q (by simpa using D) (by simp);refine Is y (x:=.string (s.extract (l.getD 0) (h.getD s.size))) (.str ?_ ?_) ?_
       ·rw[Lib.extract_data];have:(s.data.toList.length)=s.size:=rfl;simp;rw[this] at D;omega
       ·rw[Lib.extract_data,packL_take,packL_drop];rfl
       ·simp only[Instr.sliceAt,Sem.run_bind,Hg hu,Result.andThen_ok,Instr.slice,Option.map_none,Option.isSome_none];simp[p]
     ·exact trivial
    ·exact trivial
   ·exact trivial
 ·rename_i elem hu;split
  ·exact Gz P _
  ·rename_i R;split
   ·exact Gz P _
   ·rename_i size I;intro w0 C H w E ρ y f;dsimp only;split
    ·rename_i o v i len esz room l h m z A B hm;refine qv y fun r q=>?_
     have hv:=f _ _ z;have g:=Rr f A;have d:=Rr f B;have j:=Rr f hm;generalize ρ x=O at hv;cases hv with
     | @sl _ _ _ _ _ _ L cap J q1 q2 q3 q4 q5 =>
      unfold O2 at q;split at q
      ·cases q
      ·rename_i S;have K:esz=size:=Am S;subst K;obtain⟨T,U,V,W⟩:=zf8 J q1 q2 q3 q4 q5 q;have p:=z3h (P:=P) (w:=w) true (len:=len) (cap:=cap) g d j (by
        rw[j.isSome,d.isSome,zcc,zcc];intro e;cases hi<;>simp_all) T U V
       refine⟨_,?_,W⟩;simp only[Instr.sliceAt,Sem.run_bind,Hg hu,Result.andThen_ok,Instr.slice,p,Lp I,Sem.run_pure,Cl];split<;>simp_all
    ·rename_i l h z A B hm;split
     ·rename_i X;have Y:l.getD 0+h.getD 0=0:=Am X;have hv:=f _ _ z;have g:=Rr f A;have d:=Rr f B;have j:=Rr f hm;generalize ρ x=O at hv;cases hv;have p:=z3h (P:=P) (w:=w) true (len:=0) (cap:=0) g d j (by simp) (by omega) (by simp;omega) (by simp);refine Is y .nilSl ?_;have F:l.getD 0=0:=by omega
      have G:h.getD 0=0:=by omega
      rw[F,G] at p;simp only[Instr.sliceAt,Sem.run_bind,Hg hu,Result.andThen_ok,Instr.slice,p,Lp I,Sem.run_pure];simp
     ·exact trivial
    ·rename_i l h z A B hm;split
     ·rename_i X;have Y:l.getD 0+h.getD 0=0:=Am X;have hv:=f _ _ z;have g:=Rr f A;have d:=Rr f B;have j:=Rr f hm;generalize ρ x=O at hv;cases hv with
      | @emp a cap =>
       have p:=z3h (P:=P) (w:=w) true (len:=0) (cap:=cap) g d j (by simp) (by omega) (by simp;omega) (by simp);have F:l.getD 0=0:=by omega
       have G:h.getD 0=0:=by omega
       rw[F,G] at p;refine Is y (x:=.slice (some (if cap=0 then a else a.add 0)) 0 cap) .emp ?_;simp only[Instr.sliceAt,Sem.run_bind,Hg hu,Result.andThen_ok,Instr.slice,p,Lp I,Sem.run_pure];simp;split<;>rfl
     ·exact trivial
    ·exact trivial
 ·rename_i n elem hu;split
  ·exact Gz P _
  ·rename_i R;split
   ·exact Gz P _
   ·rename_i size I;intro w0 C H w E ρ y f;dsimp only;split
    ·rename_i o v i l h m z A B hm;split
     ·rename_i c M Z hg;split
      ·rename_i aa;split
       ·rename_i hle;have af:i+n*size≤M:=As hle;have N:v=Z:=Am aa;subst N;refine qv y fun r q=>?_
        have hv:=f _ _ z;have g:=Rr f A;have d:=Rr f B;have j:=Rr f hm;generalize ρ x=O at hv;cases hv with
        | @ptr _ _ _ L J =>
         unfold O2 at q;simp only[Bj] at q;have ad:=y.obj o _ (y.fresh _ _ _ J) hg;obtain⟨p1,_,p3,_⟩:=ad L J;obtain⟨T,U,V,W⟩:=zf8 (cap:=n) (len:=n) (room:=some n) J (by omega) (by omega) (Al _) (fun r q=>by cases q;exact⟨rfl,by omega⟩) (fun e=>by cases e) q;have p:=z3h (P:=P) (w:=w) false (len:=n) (cap:=n) g d j (by
          rw[j.isSome,d.isSome,zcc,zcc];intro e;cases hi<;>simp_all) T U V
         refine⟨_,?_,W⟩;simp only[Instr.sliceAt,Instr.sureAddr,Sem.run_bind,Hg hu,Result.andThen_ok,p,Lp I,Sem.run_pure]
       ·exact trivial
      ·exact trivial
     ·exact trivial
    ·exact trivial
 ·exact Gz P _
end Go.Sv
namespace Go.Sv
open Go.RowKit (Below)
def zhq (P:Program)(t:TypeId)(x ix:Operand):Gm P (ul P t x ix) (fun ρ=>do pure (.value (←Instr.indexAt t (ρ x) (ρ ix)))):=by
 unfold ul;split
 ·rename_i elem hu;split
  ·exact Gz P _
  ·rename_i size h;refine Ux fun r C H w ρ a b j d f=>?_
   split
   ·rename_i o v i len esz room k n;split
    ·rename_i g;split
     ·rename_i he;have l:n<len:=by rw[Lf] at g;simpa using g
      have m:esz=size:=Am he;subst m;generalize ρ x=s at d;generalize ρ ix=y at f;cases f;cases d with
      |sl p =>
       refine Is j (.ptr (i:=i+n*esz) p) ?_;have q:(0:Int)≤Int.ofNat n∧Int.ofNat n<(len:Int):=⟨by simp,by simp;omega⟩;simp only[Instr.indexAt,asIntOf,Sem.run_bind,Sem.run_pure,Result.andThen_ok,Hg hu,Sem.run_ite,Ag q,Lp h];rw[ei];rfl
     ·exact trivial
    ·exact trivial
   ·exact trivial
 ·rename_i len elem hu;split
  ·exact Gz P _
  ·rename_i size h;refine Ux fun r C H w ρ a b j d f=>?_
   split
   ·rename_i o v i k n;split
    ·rename_i g;have l:n<len:=by rw[Lf] at g;simpa using g
     generalize ρ x=s at d;generalize ρ ix=y at f;cases f;cases d with
     |ptr p =>
      refine Is j (.ptr (i:=i+n*size) p) ?_;have q:(0:Int)≤Int.ofNat n∧Int.ofNat n<(len:Int):=⟨by simp,by simp;omega⟩;simp only[Instr.indexAt,asIntOf,Instr.sureAddr,Sem.run_bind,Sem.run_pure,Result.andThen_ok,Hg hu,Sem.run_ite,Ag q,Lp h];rw[ei];rfl
    ·exact trivial
   ·exact trivial
 ·exact Gz P _
def zrs (P:Program)(t:TypeId)(x ix:Operand):Gm P (wg P t x ix) (fun ρ=>do pure (.value (←Instr.index t (ρ x) (ρ ix)))):=by
 unfold wg;split
 ·rename_i hu;refine Ux fun B C H w ρ a b m d h=>?_
  split
  ·rename_i len n k i;split
   ·rename_i j;have f:i<len:=by rw[Lf] at j;simpa using j
    generalize ρ x=D at d;generalize ρ ix=E at h;cases h;cases d with
    | @str _ _ s o F =>
     subst o F;have hi:i<s.size:=f;have p:s.data.toList[i]?=some s[i]:=by
      rw[Ai (by simpa using f)];rfl
     have G:=zi8 p;refine Is m (x:=.int .u8 s[i].toNat) ?_ ?_
     ·have:Int.ofNat (Nat.mod (Nat.div (Hx s.data.toList) (Nat.pow 256 i)) 256)=(s[i].toNat:Int):=by
       show ((Hx s.data.toList/256^i%256:Nat):Int)=_;rw[G]
      rw[this];exact .int _ _
     ·simp only[Instr.index,asIntOf,Sem.run_bind,Sem.run_pure,Result.andThen_ok,Hg hu];have I:(0:Int)≤Int.ofNat i:=by simp
      rw[Ag I];have:s[(Int.ofNat i).toNat]?=some s[i]:=by
       show s[i]?=some s[i];simp[hi]
      rw[this];rfl
   ·exact trivial
  ·exact trivial
 ·rename_i len elem hu;split
  ·rename_i g size p A;refine Ux fun B C H w ρ a b m d h=>?_
   split
   ·rename_i l k n;split
    ·rename_i j;have f:n<len:=by rw[Lf] at j;simpa using j
     generalize ρ x=D at d;generalize ρ ix=E at h;cases h;cases d with
     |agg d q =>
      refine qv m fun r J=>?_
      obtain⟨z,K,L⟩:=zfl (w:=w) p A J d q;refine⟨z,?_,L⟩;have o:(0:Int)≤Int.ofNat n∧Int.ofNat n<(len:Int):=⟨by simp,by simp;omega⟩;have y:(part elem _ ((Int.ofNat n).toNat*size)).run P w=.ok z w:=K;simp only[Instr.index,asIntOf,Sem.run_bind,Sem.run_pure,Result.andThen_ok,Hg hu,Sem.run_ite,Ag o,Lp A,y]
    ·exact trivial
   ·exact trivial
  ·exact Gz P _
 ·exact Gz P _
def zi4 {C:CM}:∀{l:List AV} {n:Nat} {vs:List Value},P8.bytesA l=some n→VRs C l vs→∃bs:List UInt8,bs.length=l.length∧Hx bs=n∧vs=bs.map (fun b=>Value.int .u8 (b.toNat:Int))
 |[],n,_,h,.nil=>by cases h;exact⟨[],rfl,rfl,rfl⟩
 |a::l,n,_,h,.cons e es=>by
  unfold P8.bytesA at h;split at h
  ·rename_i d;cases d
  ·rename_i b l' d;cases d;split at h
   ·rename_i f;split at h
    ·rename_i m hm;cases h;have g:b<256:=by rw[Lf] at f;simpa using f
     cases e;obtain⟨bs,j,o,p⟩:=zi4 hm es;have hu:(UInt8.ofNat b).toNat=b:=by simp;omega
     exact⟨UInt8.ofNat b::bs,by simp[j],by rw[Hx,hu,o],by rw[C8,hu,p];rfl⟩
    ·cases h
   ·cases h
  ·cases h
def zia (bs:List UInt8):(strOfNums (bs.map fun b=>(b.toNat:Int))).data.toList=bs:=by
 simp[strOfNums,Function.comp_def]
def zmt (w:World)(e:TypeId)(s:ByteArray):Lib.bytesWorld w e s=w.drew.alloc (.cells (Lib.bytesCells w e s) e ((Lib.bytesCells w e s).size,(Lib.bytesCells w e s).size+1)):=by
 have a:(Lib.bytesWorld w e s).heap=(w.drew.alloc (.cells (Lib.bytesCells w e s) e ((Lib.bytesCells w e s).size,(Lib.bytesCells w e s).size+1))).heap:=by
  apply Array.ext_getElem?;intro i;rcases Nat.lt_trichotomy i w.heap.size with h|h|h
  ·rw[Lib.bytesWorld_at_old w e s i h,z7c w.drew _ (show i<w.drew.heap.size from h)];rfl
  ·subst h;rw[Lib.bytesWorld_at_new];exact (V3 w.drew _).symm
  ·rw[Eg (by rw[Lib.bytesWorld_size];omega),Eg (by rw[World.size_alloc];show w.heap.size+1≤i;omega)]
 show ({ heap:=(Lib.bytesWorld w e s).heap,tape:=w.tape,drawn:=w.drawn+1,os:=w.os,output:=w.output }:World)=_;rw[a];rfl
def zw6 (P:Program)(src dst:TypeId)(x:Operand):Gm P (P8 P src dst x) (fun ρ=>do pure (.value (←convert src dst (ρ x)))):=by
 unfold P8;split
 ·rename_i s k m hd;refine L6 fun D C H w ρ a g f=>?_
  split
  ·rename_i k' n;generalize ρ x=A at f;cases f;refine Is g (x:=.int k (k.wrap n)) (by rw[Vb];exact .int _ _) ?_;simp only[convert,Sem.run_bind,Hg m,Hg hd,Result.andThen_ok,Conv.intToInt,Sem.run_pure]
  ·exact trivial
 ·rename_i e m hd;split
  ·rename_i he;refine L6 fun D C H w ρ a g f=>?_
   split
   ·generalize ρ x=A at f;cases f;refine Is g (x:=.string .empty) (.str rfl rfl) ?_;simp only[Sem.run_bind,run_convert_bytes_nil w src e m he 0 0 dst hd,Result.andThen_ok,Sem.run_pure]
   ·rename_i o v i len room;split
    ·rename_i l M;split
     ·rename_i n B;generalize ρ x=A at f;cases f with
      | @sl _ _ _ _ _ _ L cap N =>
       obtain⟨vs,K,E,X,Y,Z,O⟩:=g.read P M N;obtain⟨bs,q1,Q,R⟩:=zi4 B E;have z:bs.length=len:=by omega
       refine Is g (x:=.string (strOfNums (bs.map fun b=>(b.toNat:Int)))) (.str (by rw[zia,z]) (by rw[zia,Q])) ?_;have F:=run_convert_bytes_arg (P:=P) w src e m he L.b (L.d+i) len cap (bs.map fun b=>(b.toNat:Int)) (by simp[z]) (fun j S=>by
        rw[Cu,O j S,R];simp[Ce,Ai (show j<bs.length by omega),List.getD]) dst hd
       simp only[Sem.run_bind,F,Result.andThen_ok,Sem.run_pure]
     ·exact trivial
    ·exact trivial
   ·exact trivial
  ·exact Gz P _
 ·rename_i s T m hd;refine L6 fun D C H w ρ a g f=>?_
  split
  ·rename_i l n;have G:=f;generalize U:ρ x=A at f;cases f;refine Is g G ?_;rw[U];cases s<;>simp_all [convert,Hg m,Hg hd]
  ·exact trivial
 ·rename_i s e m hd;split
  ·rename_i he hz;refine L6 fun D C H w ρ a g f=>?_
   split
   ·rename_i len n;split
    ·rename_i o H' B;generalize ρ x=A at f;cases f with
     | @str _ _ d K E =>
      subst K E;rw[unpack_pack] at B;have hlen:d.size≤grownCap w d.size 0 e:=grownCap_ge w d.size 0 e;have h:VRs C ((d.data.toList.map (·.toNat)).map fun (b:Nat)=>AV.int .u8 (Int.ofNat b)) (d.data.toList.map fun b=>Value.int .u8 (b.toNat:Int)):=by
       generalize d.data.toList=q
       induction q with
       |nil=>exact .nil
       |cons b q V=>exact .cons (.int _ _) V
      have p:(Lib.bytesCells w e d).size=grownCap w d.size 0 e:=by simp[Lib.bytesCells];omega
      have y:((d.data.toList.map (·.toNat)).map fun (b:Nat)=>AV.int .u8 (Int.ofNat b)).length=d.size:=by simp
      obtain⟨W,hle,I,J⟩:=g.drew.newRow B e ((Lib.bytesCells w e d).size,(Lib.bytesCells w e d).size+1) (vs:=Lib.bytesCells w e d) (by rw[y,p];exact hlen)
       (by
        rw[y];have:(Lib.bytesCells w e d).toList.take d.size=d.data.toList.map fun b=>Value.int .u8 (b.toNat:Int):=by
         simp only[Lib.bytesCells,D5,Cj];rw[En (by simp),Aw (by simp)]
        rw[this];exact h)
       (by intro a f;simp only[Ew] at f;obtain⟨b,_,rfl⟩:=f;rfl) (fun i hi=>by dsimp;omega)
      refine⟨W,_,.slice (some ⟨w.heap.size,0,none⟩) d.size (grownCap w d.size 0 e),hle,I,?_,.inl ?_⟩
      ·have:=VR.sl (i:=0) (len:=d.size) (esz:=1) (room:=none) (cap:=grownCap w d.size 0 e) J (by rw[y];dsimp only;omega) (by rw[p];dsimp only;omega) hlen (fun r F=>by cases F) (fun _=>by rw[p];simp);simpa using this
      ·simp only[Sem.run_bind,Lib.run_convert_string_bytes w src dst e d m hd he,Result.andThen_ok,Sem.run_pure,zmt]
    ·exact trivial
   ·exact trivial
  ·exact Gz P _
 ·exact Gz P _
def zmv (P:Program)(x:Operand)(i:Nat):Gm P (zhl x i) (fun ρ=>do pure (.value (←Instr.extract (ρ x) i))):=by
 unfold zhl;refine L6 fun m C H w ρ a g d=>?_
 split
 ·generalize ρ x=o at d;cases d with
  | @tup _ vs d =>
   refine qv g fun r h=>?_
   obtain⟨v,j,l⟩:=d.get h;have f:vs[i]?=some v:=by simpa using j
   exact⟨v,by simp[Instr.extract,f],l⟩
 ·exact trivial
def zr0 (P:Program)(x:Operand)(q asserted:TypeId)(ok:Bool):Gm P (vt P x asserted ok) (fun ρ=>do pure (.value (←Instr.typeAssert (ρ x) q asserted ok))):=by
 unfold vt;split
 ·exact Gz P _
 ·rename_i d f hu;split
  ·exact Gz P _
  ·rename_i z r;refine L6 fun y C H w ρ a m g=>?_
   obtain⟨p,j,o⟩:=zqh (w:=w) r;have l:=zil (C:=C) o;split
   ·generalize ρ x=s at g;cases g;cases ok with
    |false=>exact trivial
    |true =>
     refine Is m (x:=.tuple #[p,.bool false]) (.tup (.cons l (.cons (.bool _) .nil))) ?_;simp only[Instr.typeAssert,Sem.run_bind,Hg hu,Result.andThen_ok];cases d<;>first|(simp[j];done)|exact absurd hu (f _)
   ·rename_i t v;generalize ρ x=s at g;cases g with
    | @iface _ _ u g =>
     split
     ·rename_i he;have h:t=asserted:=Am he;subst h;cases ok with
      |false =>
       refine Is m (x:=u) g ?_;simp only[Instr.typeAssert,Sem.run_bind,Hg hu,Result.andThen_ok];cases d<;>first|(simp;done)|exact absurd hu (f _)
      |true =>
       refine Is m (x:=.tuple #[u,.bool true]) (.tup (.cons g (.cons (.bool _) .nil))) ?_;simp only[Instr.typeAssert,Sem.run_bind,Hg hu,Result.andThen_ok];cases d<;>first|(simp;done)|exact absurd hu (f _)
     ·rename_i he;have h:¬t=asserted:=fun e=>by rw[e,Bj] at he;cases he
      cases ok with
      |false=>exact trivial
      |true =>
       refine Is m (x:=.tuple #[p,.bool false]) (.tup (.cons l (.cons (.bool _) .nil))) ?_;simp only[Instr.typeAssert,Sem.run_bind,Hg hu,Result.andThen_ok];cases d<;>first|(simp[j,h];done)|exact absurd hu (f _)
   ·exact trivial
 ·exact Gz P _
end Go.Sv
namespace Go.Sv
open Go.RowKit (Below)
def ze7 {P:Program}{t:TypeId}{d:TypeDesc}(h:Ow P t=some d):P.underlying t=some d∧(d=.bool∨(∃k,d=.int k)∨d=.string):=by
 unfold Ow at h;split at h
 ·rename_i hu;cases h;exact⟨hu,.inl rfl⟩
 ·rename_i k hu;cases h;exact⟨hu,.inr (.inl ⟨k,rfl⟩)⟩
 ·rename_i hu;cases h;exact⟨hu,.inr (.inr rfl)⟩
 ·cases h
def mz {P:Program}{w:World}{t:TypeId}{d:TypeDesc}(h:Ow P t=some d)(e:Bool)(v:Value):(Instr.checkKey e 10000 t v).run P w=.ok () w:=by
 obtain⟨hu,hd⟩:=ze7 h;show (Instr.checkKey e (9999+1) t v).run P w=_;unfold Instr.checkKey;simp only[Sem.run_bind,Hg hu,Result.andThen_ok];rcases hd with rfl|⟨k,rfl⟩|rfl<;>rfl
def ot {C:CM}{d:TypeDesc}{a b:AV}{r:Bool}(h:j2 d a b=some r){u v:Value}(hu:VR C a u)(hv:VR C b v) :
  Instr.sameNow d u v=some r∧(r=true→Instr.sameBits 10000 v u=true):=by
 unfold j2 at h;split at h
 ·split at h
  ·rename_i hk;have:=z7x hk;subst this;cases h;cases hu;cases hv;rename_i _ p x y _;refine⟨by simp[Instr.sameNow,xy],fun e=>?_⟩;rw[xy] at e;have:x=y:=by simpa using e
   subst this;simp[Instr.sameBits]
  ·cases h
 ·cases h;cases hu with
  | @str _ _ s g j =>
   cases hv with
   | @str _ _ f l m =>
    subst g j l m;rw[←zfc,←beq_toListBytes];refine⟨by simp[Instr.sameNow],fun e=>?_⟩;have:s=f:=by
     have o:s.data.toList=f.data.toList:=by rw[beq_toListBytes] at e;rw[←ByteArray.toList_eq,←ByteArray.toList_eq];simpa using e
     exact ByteArray.ext (Ek.1 o)
    subst this;simp only[Instr.sameBits];rw[beq_toListBytes];simp
 ·cases h;cases hu;cases hv;rename_i x y;refine⟨by simp[Instr.sameNow],fun e=>?_⟩;have:x=y:=by simpa using e
  subst this;simp[Instr.sameBits]
 ·cases h
def zfu {C:CM}{d:TypeDesc}{k:AV}{u:Value}(hu:VR C k u):∀{es:List (AV×AV×Nat)} {f:List MapEntry} {r:Option AV} (i:Nat),oh d k es=some r→MR C es f →
  match r with
  |none=>Instr.findNow d u f i=some none
  |some a=>∃j v,Instr.findNow d u f i=some (some (j,v))∧VR C a v
 |[],[],r,i,h,.nil=>by cases h;rfl
 |(k',p,b)::l,e::_,r,i,h,.cons hk hv q hm=>by
  unfold oh at h;split at h
  ·rename_i g;cases h;exact⟨i,e.val,by simp[Instr.findNow,(ot g hu hk).1],hv⟩
  ·rename_i g;have:=zfu hu (i+1) h hm;cases r with
   |none=>simpa [Instr.findNow,(ot g hu hk).1] using this
   |some a =>
    obtain⟨j,v,m,o⟩:=this;exact⟨j,v,by simpa [Instr.findNow,(ot g hu hk).1] using m,o⟩
  ·cases h
def ms {P:Program}{w:World}{t:TypeId}{d:TypeDesc}(hu:P.underlying t=some d){k:Value}{es:List MapEntry}{r:Option (Nat×Value)}(h:Instr.findNow d k es 0=some r) :
  (Instr.findKey t k es).run P w=.ok r w:=by
 simp[Instr.findKey,Hg hu,h]
def zpo (P:Program)(t:TypeId)(x ix:Operand)(ok:Bool):Gm P (yq P t x ix ok) (fun ρ=>do pure (.value (←Instr.lookup t (ρ x) (ρ ix) ok))):=by
 unfold yq;split
 ·rename_i key elem hu;split
  ·rename_i d z hd O;refine Ux fun S C H w ρ a b E F M=>?_
   split
   ·exact trivial
   ·rename_i es g;obtain⟨l,_⟩:=ze7 hd;obtain⟨G,y,J⟩:=zqh (w:=w) O;have A:=zil (C:=C) J;have B:∃f:Array MapEntry,MR C es f.toList∧((ρ x=.map none∧f=#[])∨∃b s,ρ x=.map (some b)∧w.heap[b]?=some (.map f s)):=by
     unfold zy9 at g;split at g
     ·cases g;generalize ρ x=Q at F;cases F;exact⟨#[],.nil,.inl ⟨rfl,rfl⟩⟩
     ·rename_i o;split at g
      ·rename_i R s D;cases g;generalize ρ x=Q at F;cases F with
       |map N =>
        obtain⟨_,f,p,I⟩:=E.obj o _ (E.fresh _ _ _ N) D _ N;exact⟨f,I,.inr ⟨_,_,rfl,p⟩⟩
      ·cases g
     ·cases g
    obtain⟨f,hm,m⟩:=B;split
    ·rename_i v K;obtain⟨j,u,p,I⟩:=zfu M 0 K hm;have h:(Instr.lookup t (ρ x) (ρ ix) ok).run P w=.ok (if ok then .tuple #[u,.bool true] else u) w:=by
      unfold Instr.lookup;rcases m with ⟨q,rfl⟩|⟨r,s,q,L⟩
      ·simp only[Sem.run_bind,Hg hu,Result.andThen_ok,q,mz hd,ms l p,Sem.run_pure]
      ·have D:(getObj r).run P w=.ok (.map f s) w:=by simp[getObj,Sem.run,L]
       simp only[Sem.run_bind,Hg hu,Result.andThen_ok,q,D,mz hd,ms l p,Sem.run_pure]
     refine Is E (x:=if ok then .tuple #[u,.bool true] else u) ?_ (by simp only[Sem.run_bind,h,Result.andThen_ok,Sem.run_pure]);cases ok with
     |true=>exact .tup (.cons I (.cons (.bool _) .nil))
     |false=>exact I
    ·rename_i K;have p:=zfu M 0 K hm;have h:(Instr.lookup t (ρ x) (ρ ix) ok).run P w=.ok (if ok then .tuple #[G,.bool false] else G) w:=by
      unfold Instr.lookup;rcases m with ⟨q,rfl⟩|⟨r,s,q,L⟩
      ·simp only[Sem.run_bind,Hg hu,Result.andThen_ok,q,mz hd,ms l p,Sem.run_pure,y]
      ·have D:(getObj r).run P w=.ok (.map f s) w:=by simp[getObj,Sem.run,L]
       simp only[Sem.run_bind,Hg hu,Result.andThen_ok,q,D,mz hd,ms l p,Sem.run_pure,y]
     refine Is E (x:=if ok then .tuple #[G,.bool false] else G) ?_ (by simp only[Sem.run_bind,h,Result.andThen_ok,Sem.run_pure]);cases ok with
     |true=>exact .tup (.cons A (.cons (.bool _) .nil))
     |false=>exact A
    ·exact trivial
  ·exact Gz P _
 ·exact Gz P _
def zd8 (w:World){r k:Nat}(x:Obj)(h:k≠r):({ w with heap:=w.heap.setIfInBounds r x }:World).heap[k]?=w.heap[k]?:=by
 show (w.heap.setIfInBounds r x)[k]?=_;rw[Array.getElem?_setIfInBounds_ne (by omega)]
def putObj_heap_same (w:World){r:Nat}(x:Obj)(h:r<w.heap.size):({ w with heap:=w.heap.setIfInBounds r x }:World).heap[r]?=some x:=by
 show (w.heap.setIfInBounds r x)[r]?=_;simp[h]
def Rel.putObj {w0:World}{C:CM}{H:Heap}{w:World}(h:Rel w0 C H w){o v:Nat}{L:Loc}(hL:C o v=some L)(hB:w0.heap.size≤L.b)(ob:AObj)(x:Obj)
  (af:Iy w0.heap.size C { w with heap:=w.heap.setIfInBounds L.b x } o ob) (ad:∀c len aa ro,ob≠.cells c len aa ro):Rel w0 C (H.put o ob) { w with heap:=w.heap.setIfInBounds L.b x }:=by
 refine h.put (h.fresh _ _ _ hL) ob (h.low.trans ⟨rfl,rfl,rfl,by simp,fun k hk=>zd8 w x (by omega)⟩) (by simp) ?_ af (fun c len aa ro e=>absurd e (ad c len aa ro));intro o' v' L' ag ah;refine zd8 w x (fun e=>ag ?_);exact (h.excl _ _ _ _ _ _ hL ah e.symm hB).symm
def MR.length {C:CM}:∀{es:List (AV×AV×Nat)} {aa:List MapEntry},MR C es aa→es.length=aa.length
 |_,_,.nil=>rfl
 |_,_,.cons _ _ _ h=>by simp[MR.length h]
def zbp {C:CM}{d:TypeDesc}{k v:AV}{u x:Value}(hu:VR C k u)(m:VR C v x){q:Nat}:∀{es f:List (AV×AV×Nat)} {a:List MapEntry} {n:Bool} (i:Nat),np d k v q es=some (f,n)→MR C es a →
  match n with
  |true=>Instr.findNow d u a i=some none∧MR C f (a++[{ key:=u,val:=x,born:=q }])
  |false=>∃j e y,Instr.findNow d u a i=some (some (j+i,y))∧a[j]?=some e∧Instr.sameBits 10000 e.key u=true∧MR C f (a.modify j fun e=>{ e with key:=u,val:=x })
 |[],f,[],n,i,h,.nil=>by
  cases h;exact⟨rfl,.cons hu m rfl .nil⟩
 |(k',F,b)::l,f,e::r,n,i,h,.cons hk hv o hm=>by
  unfold np at h;split at h
  ·rename_i p;cases h;obtain⟨g,s⟩:=ot p hu hk;exact⟨0,e,e.val,by simp[Instr.findNow,g],rfl,s rfl,by simpa using MR.cons (e:={ e with key:=u,val:=x }) hu m o hm⟩
  ·rename_i p;obtain⟨g,_⟩:=ot p hu hk;split at h
   ·rename_i r' G w;cases h;have:=zbp hu m (i+1) w hm;cases n with
    |true=>exact⟨by simpa [Instr.findNow,g] using this.1,.cons hk hv o this.2⟩
    |false =>
     obtain⟨j,z,y,A,B,D,E⟩:=this;refine⟨j+1,z,y,?_,by simpa using B,D,by simpa using MR.cons hk hv o E⟩;rw[show j+1+i=j+(i+1) from by omega];simpa [Instr.findNow,g] using A
   ·cases h
  ·cases h
def zb5 (P:Program)(t:TypeId)(m k x:Operand):Gm P (uo P t m k x) (fun ρ=>do Instr.mapUpdate t (ρ m) (ρ k) (ρ x);pure .skip):=by
 unfold uo;split
 ·rename_i key elem hu;split
  ·rename_i d hd;obtain⟨q,_⟩:=ze7 hd;intro X C H w E ρ r G;dsimp only;split
   ·rename_i o Y Z hm hk R;have s:=G _ _ hm;have z:=G _ _ hk;have A:=G _ _ R;split
    ·rename_i es D S;generalize T:ρ m=pm at s;cases s with
     |map l =>
      rename_i L;obtain⟨F,f,O,Q⟩:=r.obj o _ (r.fresh _ _ _ l) S _ l;have B:=r.lt _ _ _ l;have g:(getObj L.b).run P w=.ok (.map f D) w:=by simp[getObj,Sem.run,O]
      have h:∀y,(setObj L.b y).run P w=.ok () { w with heap:=w.heap.setIfInBounds L.b y }:=by intro y;simp[setObj,Sem.run,O]
      split
      ·rename_i I J;obtain⟨K,M⟩:=zbp z A 0 J Q;refine⟨C,{ w with heap:=w.heap.setIfInBounds L.b (.map (f.push { key:=ρ k,val:=ρ x,born:=D }) (D+1)) },undef,CM.le_refl C,r.putObj l F _ _ ?_ (fun _ _ _ _ e=>by cases e),.tup .nil,.inr ⟨?_,rfl⟩⟩
       ·intro U a;rw[l] at a;cases a;exact⟨F,_,putObj_heap_same w _ B,by rw[Array.toList_push];exact M⟩
       ·simp only[Instr.mapUpdate,Sem.run_bind,Hg hu,Result.andThen_ok,g,mz hd,ms q K,h,Sem.run_pure]
      ·rename_i I J;obtain⟨j,e,y,K,M,V,W⟩:=zbp z A 0 J Q;have N:f[j]?=some e:=by simpa using M
       refine⟨C,{ w with heap:=w.heap.setIfInBounds L.b (.map (f.modify j fun e=>{ e with key:=ρ k,val:=ρ x }) D) },undef,CM.le_refl C,r.putObj l F _ _ ?_ (fun _ _ _ _ e=>by cases e),.tup .nil,.inr ⟨?_,rfl⟩⟩
       ·intro U a;rw[l] at a;cases a;exact⟨F,_,putObj_heap_same w _ B,by rw[Array.toList_modify];exact W⟩
       ·have p:(Instr.keyThatStays e.key (ρ k)).run P w=.ok (ρ k) w:=by simp[Instr.keyThatStays,V]
        simp only[Instr.mapUpdate,Sem.run_bind,Hg hu,Result.andThen_ok,g,mz hd,ms q K,Cw,N,Cl,Cc,p,h,Sem.run_pure]
      ·exact trivial
    ·exact trivial
   ·exact trivial
  ·exact Gz P _
 ·exact Gz P _
def zsp (P:Program)(t:TypeId)(x:Operand):Gm P (rangeF P t x) (fun ρ=>do pure (.value (←Instr.range t (ρ x)))):=by
 unfold rangeF;split
 ·rename_i hu;refine L6 fun o C H w ρ a d f=>?_
  split
  ·rename_i len n;generalize ρ x=p at f;cases f with
   | @str _ _ s h j =>
    obtain⟨l,m⟩:=d.push (.iter len n 0) (.stringIter s 0) 0 0 (fun L g=>by
     rw[CM.ext_same] at g;cases g;exact⟨d.low.size,rfl,s,V3 _ _,h,j⟩)
    refine⟨_,_,.pointer (some ⟨w.heap.size,0,none⟩),m,l,by simpa using VR.ptr (i:=0) (CM.ext_same C H.next 0 ⟨w.heap.size,0,0,0⟩),.inl ?_⟩;simp only[Instr.range,Sem.run_bind,Hg hu,Sem.run_pure,Result.andThen_ok,run_newObj];rfl
  ·exact trivial
 ·exact Gz P _
def zvr (P:Program)(x:Operand)(isString:Bool)(ty:TypeId):Gm P (Px x isString) (fun ρ=>do pure (.value (←Instr.next (ρ x) isString ty))):=by
 unfold Px;split
 ·rename_i O;subst O;refine L6 fun R C H w ρ a h I=>?_
  split
  ·rename_i o;split
   ·rename_i len n pos Q;generalize ρ x=S at I;cases I with
    | @ptr _ _ _ L j =>
     obtain⟨J,l,s,K,M,N⟩:=h.obj o _ (h.fresh _ _ _ j) Q _ j;have B:=h.lt _ _ _ j;have f:(getObj L.b).run P w=.ok (.stringIter s pos) w:=by simp[getObj,Sem.run,K]
     have m:∀y,(setObj L.b y).run P w=.ok () { w with heap:=w.heap.setIfInBounds L.b y }:=by intro y;simp[setObj,Sem.run,K]
     have g:(⟨L.b,L.d+0,none⟩:Addr)=⟨L.b,0,none⟩:=by rw[l]
     rw[g];split
     ·rename_i p;have q:pos<len:=by rw[Lf] at p;simpa using p
      have d:pos<s.size:=by have:s.data.toList.length=s.size:=rfl;omega
      split
      ·rename_i D;have E:s.data.toList[pos]?=some s[pos]:=by
        rw[Ai (by rw[M];exact q)];rfl
       have r:=zi8 E;rw[N] at r;have F:Nat.mod (Nat.div n (Nat.pow 256 pos)) 256=s[pos].toNat:=r;rw[F] at D ⊢;have G:s[pos].toNat<128:=by rw[Lf] at D;simpa using D
       have z:=decode_ascii s pos d G;refine⟨C,{ w with heap:=w.heap.setIfInBounds L.b (.stringIter s (pos+1)) },.tuple #[.bool true,goInt pos,.int .i32 (s[pos].toNat:Int)],CM.le_refl C,
        h.putObj j J _ _ ?_ (fun _ _ _ _ e=>by cases e),.tup (.cons (.bool _) (.cons (.int _ _) (.cons (.int _ _) .nil))),.inl ?_⟩
       ·intro T A;rw[j] at A;cases A;exact⟨J,l,s,putObj_heap_same w _ B,M,N⟩
       ·simp only[Instr.next,Sem.run_bind,f,Result.andThen_ok,Ag d,z,m,Sem.run_pure]
      ·exact trivial
     ·rename_i p;have q:¬pos<len:=by rw[Lf] at p;simpa using p
      have d:¬pos<s.size:=by have:s.data.toList.length=s.size:=rfl;omega
      refine Is h (x:=.tuple #[.bool false]) (.tup (.cons (.bool _) .nil)) ?_;simp only[Instr.next,Sem.run_bind,f,Result.andThen_ok,Ab d,Sem.run_pure]
   ·exact trivial
  ·exact trivial
 ·exact Gz P _
end Go.Sv
namespace Go.Sv
open Go.RowKit (Below)
def Rel.bump {w0:World}{C:CM}{H:Heap}{w w':World}(h:Rel w0 C H w){o aa len:Nat}{c:Tr AV}(ho:o<H.next)(ap:∃v L,C o v=some L)(hg:H.get o=some (.cells c len aa false))(L':Loc)(c':Tr AV)(ag:Nat)
  (aj:Below w0.heap.size w0 w') (aq:w.heap.size≤w'.heap.size) (ar:L'.b<w'.heap.size) (hex:∀o' v L,C o' v=some L→L.b=L'.b→o'=o)
  (aw:∀o' v L,o'≠o→C o' v=some L→w'.heap[L.b]?=w.heap[L.b]?) (ax:Iy w0.heap.size (C.ext o (aa+1) L') w' o (.cells c' ag (aa+1) false)) :
  Rel w0 (C.ext o (aa+1) L') (H.put o (.cells c' ag (aa+1) false)) w'∧C.le (C.ext o (aa+1) L'):=by
 have ah:C o (aa+1)=none:=by
  cases e:C o (aa+1) with
  |none=>rfl
  |some L=>have:=h.top _ _ _ _ _ ho hg _ _ e;omega
 have hle:C.le (C.ext o (aa+1) L'):=CM.le_ext _ ah (.inl ap);refine⟨⟨by show max C.nx (o+1)=H.next;rw[h.nx];exact Nat.max_eq_left ho,aj,?_,?_,?_,?_,?_⟩,hle⟩
 ·intro o' v L hL;by_cases e:o'=o∧v=aa+1
  ·rw[e.1];exact ho
  ·rw[CM.ext_ne _ _ e] at hL;exact h.fresh _ _ _ hL
 ·intro o' v L hL;by_cases e:o'=o∧v=aa+1
  ·obtain⟨rfl,rfl⟩:=e;rw[CM.ext_same] at hL;cases hL;exact ar
  ·rw[CM.ext_ne _ _ e] at hL;exact Bh (h.lt _ _ _ hL) aq
 ·intro o1 v1 L1 o2 v2 L2 h1 h2 hb hB;by_cases e1:o1=o∧v1=aa+1<;>by_cases e2:o2=o∧v2=aa+1
  ·rw[e1.1,e2.1]
  ·obtain⟨rfl,rfl⟩:=e1;rw[CM.ext_same] at h1;cases h1;rw[CM.ext_ne _ _ e2] at h2;exact (hex _ _ _ h2 hb.symm).symm
  ·obtain⟨rfl,rfl⟩:=e2;rw[CM.ext_same] at h2;cases h2;rw[CM.ext_ne _ _ e1] at h1;exact hex _ _ _ h1 hb
  ·rw[CM.ext_ne _ _ e1] at h1;rw[CM.ext_ne _ _ e2] at h2;exact h.excl _ _ _ _ _ _ h1 h2 hb hB
 ·intro o' ob af ad;by_cases e:o'=o
  ·subst e;rw[Heap.get_put_same] at ad;cases ad;exact ax
  ·have ao:o'<H.next:=af;rw[Heap.get_put_ne H _ e] at ad;exact (h.obj _ _ af ad).frame hle (fun v L hL=>by rwa [CM.ext_ne _ _ (fun q=>e q.1)] at hL) (fun v L hL=>aw _ _ _ e hL)
 ·intro o' c1 ay az aA af ad v L hL;by_cases e:o'=o
  ·subst e;rw[Heap.get_put_same] at ad;cases ad;by_cases e2:v=aa+1
   ·omega
   ·rw[CM.ext_ne _ _ (by omega)] at hL;have:=h.top _ _ _ _ _ ho hg _ _ hL;omega
  ·have ao:o'<H.next:=af;rw[Heap.get_put_ne H _ e] at ad;rw[CM.ext_ne _ _ (fun q=>e q.1)] at hL;exact h.top _ _ _ _ _ af ad _ _ hL
structure AppX (P:Program) (w:World) (elem:TypeId) (size:Nat) (xt:TypeId) (x:Value) (n:Nat) (news:Array Value):Prop where
 und:∃d,P.underlying xt=some d∧((d=.string∨∃e,d=.slice e)∧(Builtin.lenOf x).run P w=.ok n w∧(∀w',w'.heap=w.heap→(Builtin.firstCells size n x).run P w'=.ok news w')
  ∨ (∃k,d=.int k)∧x=.int .i64 (Int.ofNat n)∧n≤1048576∧0<size∧∃zv,(∀w',(zeroValue elem).run P w'=.ok zv w')∧(∃i,P.info? elem=some i∧i.bytes≤65536)∧news=Builtin.zeroCells zv.cells n∧zv.cells.size=size)
def zen (z:Array Value):Builtin.zeroCells z 0=#[]:=by simp[Builtin.zeroCells]
def zt {P:Program}{w w':World}{st p elem ty:TypeId}{size n len cap:Nat}{base:Option Addr}{x:Value}{news:Array Value}(hu:P.underlying st=some (.slice elem))(q:H0 P elem=some size)
  (s:AppX P w elem size p x n news) (hle:len+n≤cap)
  (f:match base with
   |none=>w'=w
   |some a=>(storeCells (a.add (len*size)) news.toList).run P w=.ok () w') :
  (Builtin.append_ #[st,p] ty #[.slice base len cap,x]).run P w=.ok (.slice base (len+n) cap) w':=by
 obtain⟨d,hd,g⟩:=s.und;unfold Builtin.append_;rcases g with ⟨j,hlen,y⟩|⟨⟨k,rfl⟩,rfl,z,r,G,A,⟨i,hi,l⟩,rfl,B⟩
 ·rcases j with rfl|⟨e,rfl⟩
  all_goals
   simp only[B7,A6,Av,Sem.run_bind,Hg hu,Hg hd,Lp q,Result.andThen_ok,Sem.run_pure,C5,Dv,hlen,Sem.run_ite,Ag hle,Bool.not_false,Bv,y w rfl];cases base with
   |none=>subst f;rfl
   |some a=>simp only[Sem.run_bind,f,Result.andThen_ok,Sem.run_pure]
 ·have C:IntKind.i64.wrap (Int.ofNat n)=Int.ofNat n:=by simp only[IntKind.wrap,IntKind.bits,IntKind.signed];simp;omega
  have D:¬(Int.ofNat n<0):=by simp
  have E:¬(Int.ofNat n*(i.bytes:Int)>2^48):=by
   have:(Int.ofNat n*(i.bytes:Int))=((n*i.bytes:Nat):Int):=by simp
   rw[this];have:n*i.bytes≤1048576*65536:=Cb z l;omega
  simp only[B7,A6,Av,Sem.run_bind,Hg hu,Hg hd,Lp q,Result.andThen_ok,Sem.run_pure,Bv,asInt,asIntOf,C,Sem.run_ite,Ab D,Z3 hi,Ab E,Bool.not_true,C5,Dv];have F:(Int.ofNat n).toNat=n:=rfl;rw[F,Ag hle];by_cases m:n*size=0
  ·have o:n=0:=by
    rcases Nat.mul_eq_zero.1 m with h|h
    ·exact h
    ·omega
   subst o;rw[zen] at f;rw[Ag m];simp only[Result.andThen_ok];cases base with
   |none=>subst f;rfl
   |some a=>simp only[Sem.run_bind,f,Result.andThen_ok,Sem.run_pure]
  ·rw[Ab m];simp only[A,Result.andThen_ok];cases base with
   |none=>subst f;rfl
   |some a=>simp only[Sem.run_bind,f,Result.andThen_ok,Sem.run_pure]
def z6p {P:Program}{w:World}{st F elem ty:TypeId}{i:TypeInfo}{n len cap:Nat}{base:Option Addr}{x y:Value}{olds news:Array Value}(hu:P.underlying st=some (.slice elem))(hi:P.info? elem=some i)
  (I:AppX P w elem i.size F x n news) (z:cap<len+n) (r:i.bytes≤65536) (p:len+n≤2000000000) (A:∀w',(zeroValue elem).run P w'=.ok y w')
  (hold:(Builtin.firstCells i.size len (.slice base len cap)).run P w.drew=.ok olds w.drew) :
  (Builtin.append_ #[st,F] ty #[.slice base len cap,x]).run P w =
   .ok (.slice (some ⟨w.heap.size,0,none⟩) (len+n) (grownCap w (len+n) cap elem)) (w.drew.alloc (.cells (olds++news++Builtin.zeroCells y.cells (grownCap w (len+n) cap elem - (len+n))) elem)):=by
 have G:H0 P elem=some i.size:=by simp[H0,hi]
 obtain⟨d,hd,q⟩:=I.und;have l:¬(len+n≤cap):=by omega
 have m:¬(Builtin.nextslicecap (len+n) cap*i.bytes>2^48):=by
  have R:(len+n)*i.bytes≤2000000000*65536:=Cb p r;have:=growslice_fits (bytes:=i.bytes) z (by omega);omega
 have o:¬(((len+n:Nat):Int)>IntKind.i64.max):=by
  simp only[IntKind.max,IntKind.signed,IntKind.bits,Bv];omega
 have f:(Question.appendCap (len+n) cap elem).forced=false:=rfl;unfold Builtin.append_;rcases q with ⟨B,hlen,J⟩|⟨⟨k,rfl⟩,rfl,K,H,C,s,⟨j,S,_⟩,rfl,L⟩
 ·have g:(Builtin.firstCells i.size len (.slice base len cap)).run P { w with drawn:=w.drawn+1 }=.ok olds { w with drawn:=w.drawn+1 }:=hold;rcases B with rfl|⟨e,rfl⟩
  all_goals
   simp only[B7,A6,Av,Sem.run_bind,Hg hu,Hg hd,Lp G,Result.andThen_ok,Sem.run_pure,C5,Dv,hlen,Sem.run_ite,Ab l,Z3 hi,o,false_and,Ab m,run_choose,f,run_askRoom];simp only[g,Result.andThen_ok,Bool.not_false,Bv,J { w with drawn:=w.drawn+1 } rfl,A,newRow,Sem.run_bind,run_newObj,Sem.run_pure];rfl
 ·obtain rfl:C=y:=by have a:=s w;rw[A w] at a;cases a;rfl
  have M:IntKind.i64.wrap (Int.ofNat n)=Int.ofNat n:=by simp only[IntKind.wrap,IntKind.bits,IntKind.signed];simp;omega
  have N:¬(Int.ofNat n<0):=by simp
  have O:¬(Int.ofNat n*(i.bytes:Int)>2^48):=by
   have:(Int.ofNat n*(i.bytes:Int))=((n*i.bytes:Nat):Int):=by simp
   rw[this];have:n*i.bytes≤1048576*65536:=Cb K r;omega
  simp only[B7,A6,Av,Sem.run_bind,Hg hu,Hg hd,Lp G,Result.andThen_ok,Sem.run_pure,Bv,asInt,asIntOf,M,Sem.run_ite,Ab N,Z3 hi,Ab O,Bool.not_true,C5,Dv];have Q:(Int.ofNat n).toNat=n:=rfl;rw[Q,Ab l];simp only[o,false_and,Dv,Result.andThen_ok,Ab m,run_choose,f,C5,run_askRoom];have g:(Builtin.firstCells i.size len (.slice base len cap)).run P { w with drawn:=w.drawn+1 }=.ok olds { w with drawn:=w.drawn+1 }:=hold;simp only[g,Result.andThen_ok];by_cases D:n*i.size=0
  ·have E:n=0:=by
    rcases Nat.mul_eq_zero.1 D with h|h
    ·exact h
    ·omega
   subst E;rw[Ag D];simp only[Sem.run_pure,Result.andThen_ok,zen,A,newRow,Sem.run_bind,run_newObj];rfl
  ·rw[Ab D];simp only[Sem.run_bind,s,Sem.run_pure,Result.andThen_ok,newRow,run_newObj];rfl
def zfp {P:Program}{t:TypeId}{l:List AV}(h:Ln P t=some l):∃v i,(∀w',(zeroValue t).run P w'=.ok v w')∧Np v.cells.toList=some l∧P.info? t=some i∧l.length=i.size:=by
 unfold Ln at h;cases hi:P.info? t with
 |none=>simp[hi] at h
 |some i =>
  simp only[hi] at h;cases a:i.zero with
  |none=>simp[a] at h
  |some v =>
   simp only[a] at h;cases d:Np v.cells.toList with
   |none=>simp[d] at h
   |some r =>
    simp only[d] at h;split at h
    ·cases h;rename_i f;exact⟨v,i,fun w'=>by simp[zeroValue,Z3 hi,a],d,rfl,f⟩
    ·cases h
def zau {l r:List Value}{n:Nat}(h:l.length=n):(l++r).take n=l:=by rw[←h];simp
def zwt {P:Program}{j:World}{C:CM}{H:Heap}{w:World}(m:Rel j C H w){elem:TypeId}{i:TypeInfo}{n:Nat}{l:List AV}{cs:Array Value}{cap:Nat}(d:n≤cap)
  (z:l.length=n*i.size) (p:cs.size=cap*i.size) (hv:VRs C l (cs.toList.take l.length)) (q:∀a∈l,a.one=true) {nx:Sem Next}
  (f:nx.run P w=.ok (.value (.slice (some ⟨w.heap.size,0,none⟩) n cap)) (w.drew.alloc (.cells cs elem))):Ka P j C w nx (Vl H n i.size l):=by
 unfold Vl;cases s:newObj H l with
 |none=>exact trivial
 |some r =>
  obtain⟨o,H'⟩:=r;have hm:n*i.size≤cap*i.size:=At _ d;obtain⟨x,hle,g,h⟩:=m.drew.newRow s elem (0,0) (vs:=cs) (by omega) hv q (by simp);refine⟨x,_,_,hle,g,?_,.inl f⟩;have:=VR.sl (i:=0) (len:=n) (esz:=i.size) (room:=none) (cap:=cap) h (by dsimp only;omega) (by dsimp only;omega) d (fun r y=>by cases y) (fun _=>by dsimp only;omega);simpa using this
def zos {P:Program}{w0:World}{C:CM}{H:Heap}{w:World}(A:Rel w0 C H w){st xt elem ty:TypeId}{i:TypeInfo}(hu:P.underlying st=some (.slice elem))(hi:P.info? elem=some i)(ad:0<i.size)
  (R:i.bytes≤65536) {z:List AV} (hz:Ln P elem=some z) {s:AV} {sv x:Value} (hs:VR C s sv) {n:Nat} {new:List AV} {news:Array Value} (K:AppX P w elem i.size xt x n news) (hn:n≤1048576)
  (p:VRs C new news.toList) (B:∀a∈new,a.one=true) (hlen:new.length=n*i.size) :
  Ka P w0 C w (do pure (.value (←Builtin.append_ #[st,xt] ty #[sv,x]))) (Qm H i.size s n new):=by
 have F:H0 P elem=some i.size:=by simp[H0,hi]
 obtain⟨zv,j,S,ax,af,aM⟩:=zfp hz;rw[hi] at af;cases af;have T:zv.cells.size=i.size:=by
  have:=(S7 (C:=C) ax).1.length;simp at this;omega
 have D:news.size=n*i.size:=by have:=p.length;simp at this;omega
 unfold Qm;split
 ·rename_i h0;have ag:n=0:=Am h0;subst ag;have ah:news=#[]:=C6 (by omega);subst ah;split
  ·cases hs;have f:=zt (ty:=ty) (base:=none) (len:=0) (cap:=0) (w':=w) hu F K (by omega) rfl;exact Is A .nilSl (by simp only[Sem.run_bind,f,Result.andThen_ok,Sem.run_pure])
  ·cases hs with
   | @emp a cap =>
    have f:=zt (ty:=ty) (base:=some a) (len:=0) (cap:=cap) (w':=w) hu F K (by omega) rfl;exact Is A (x:=.slice (some a) 0 cap) .emp (by simp only[Sem.run_bind,f,Result.andThen_ok,Sem.run_pure])
  ·rename_i o v k len esz room;have ay:=hs;cases hs with
   | @sl _ _ _ _ _ _ L cap E q1 q2 q3 =>
    have f:=zt (ty:=ty) (base:=some ⟨L.b,L.d+k,none⟩) (len:=len) (cap:=cap) (w':=w) hu F K (by omega) rfl;exact Is A ay (by simp only[Sem.run_bind,f,Result.andThen_ok,Sem.run_pure];rfl)
  ·exact trivial
 ·rename_i h0;have ag:n≠0:=fun e=>by rw[e] at h0;cases h0
  split
  ·cases hs;have G:=grownCap_ge w (0+n) 0 elem;refine zwt A (elem:=elem) (cap:=grownCap w (0+n) 0 elem) (cs:=#[]++news++Builtin.zeroCells zv.cells (grownCap w (0+n) 0 elem - (0+n))) (by omega) hlen ?_ ?_ B ?_
   ·rw[Dd,Dd,size_zeroCells,T,D];have:=tr i.size (show 0+n≤grownCap w (0+n) 0 elem from G);simp at this ⊢;omega
   ·rw[D5,D5,zau (by simp;omega)];simpa using p
   ·have:=z6p (ty:=ty) (base:=none) (len:=0) (cap:=0) (olds:=#[]) hu hi K (by omega) R (by omega) S (by simp[Builtin.firstCells]);simp only[Sem.run_bind,this,Result.andThen_ok,Sem.run_pure,Be]
  ·rename_i o v k len esz room;split
   ·exact trivial
   ·rename_i he;rw[Ac] at he;have O:len≤I6:=As he.2;have az:esz=i.size:=Am he.1;subst az;cases hs with
    | @sl _ _ _ _ _ _ L cap E q1 q2 q3 q4 q5 =>
     have I:(⟨L.b,L.d+k,none⟩:Addr).add (len*i.size)=⟨L.b,L.d+(k+len*i.size),none⟩:=ei _ _ _ _;have hmul:(len+n)*i.size=len*i.size+n*i.size:=Bb _ _ _;have hold:∀y,Jx H o v k (len*i.size)=some y→∃olds:Array Value,(Builtin.firstCells i.size len (.slice (some ⟨L.b,L.d+k,none⟩) len cap)).run P w.drew=.ok olds w.drew∧VRs C y olds.toList∧(∀a∈y,a.one=true)∧y.length=len*i.size:=by
      intro y f;obtain⟨vs,p1,J,p3,p4,_,_⟩:=A.drew.read P f E;exact⟨vs.toArray,by simpa [Builtin.firstCells] using p1,by simpa using J,p3,p4⟩
     split
     ·rename_i r;obtain⟨aj,U⟩:=q4 r rfl;subst aj;split
      ·rename_i hle;have q:len+n≤cap:=As hle;split
       ·rename_i H' hw;have V:Qh H o v (k+len*i.size) new=some H':=hw;obtain⟨w',p1,J⟩:=A.write P V E p B;have aA:(len+n)*i.size≤cap*i.size:=At _ q;refine⟨C,w',.slice (some ⟨L.b,L.d+k,none⟩) (len+n) cap,CM.le_refl C,J,.sl E (show k+(len+n)*i.size≤L.n by omega) q2 q (fun r f=>by cases f;exact⟨rfl,U⟩) (fun e=>by cases e),.inl ?_⟩;simp only[Sem.run_bind,zt (w':=w') (base:=some ⟨L.b,L.d+k,none⟩) hu F K q (by dsimp only;rw[I];exact p1),Result.andThen_ok,Sem.run_pure]
       ·exact trivial
      ·rename_i hle;have aB:cap<len+n:=by
        rcases C7 cap (len+n) with h|h
        ·exact h
        ·rw[show Nat.ble (Nat.add len n) cap=true from Ak h] at hle;cases hle
       split
       ·rename_i y f;obtain⟨olds,p1,J,p3,p4⟩:=hold y f;have M:olds.size=len*i.size:=by have:=J.length;simp at this;omega
        have G:=grownCap_ge w (len+n) cap elem;refine zwt A (elem:=elem) (cap:=grownCap w (len+n) cap elem) (cs:=olds++news++Builtin.zeroCells zv.cells (grownCap w (len+n) cap elem - (len+n))) G ?_ ?_ ?_ ?_ ?_
        ·rw[Aj,p4,hlen];exact hmul.symm
        ·rw[Dd,Dd,size_zeroCells,T,D,M];have:=tr i.size G;omega
        ·rw[D5,D5,zau (by simp;omega)];exact J.append p
        ·intro a ha;rcases Az.1 ha with h|h
         ·exact p3 a h
         ·exact B a h
        ·have:=z6p (ty:=ty) (base:=some ⟨L.b,L.d+k,none⟩) hu hi K aB R (by unfold I6 at O;omega) S p1;simp only[Sem.run_bind,this,Result.andThen_ok,Sem.run_pure]
       ·exact trivial
     ·have W:=q5 rfl;split
      ·rename_i c d aC G;split
       ·exact trivial
       ·rename_i hv;have aD:v=aC:=Am hv;subst aD;have ho:=A.fresh _ _ _ E;have aE:=A.obj o _ ho G;obtain⟨p1,J,p3,vs,e,lo,ao,p4,p5,p6,p7⟩:=aE L E;split
        ·rename_i hle;have q:k+(len+n)*i.size≤d:=As hle;have Q:len+n≤cap:=by
          have:(len+n)*i.size≤cap*i.size:=by omega
          exact Ez this ad
         split
         ·rename_i H' hw;have V:Qh H o v (k+len*i.size) new=some H':=hw;obtain⟨w',r1,r2⟩:=A.write P V E p B;refine⟨C,w',.slice (some ⟨L.b,L.d+k,none⟩) (len+n) cap,CM.le_refl C,r2,.sl E (show k+(len+n)*i.size≤L.n by omega) q2 Q (fun r f=>by cases f) (fun _=>W),.inl ?_⟩;simp only[Sem.run_bind,zt (w':=w') (base:=some ⟨L.b,L.d+k,none⟩) hu F K Q (by dsimp only;rw[I];exact r1),Result.andThen_ok,Sem.run_pure]
         ·exact trivial
        ·rename_i aK;split
         ·exact trivial
         ·rename_i hk;have aF:k=0:=Am hk;subst aF;split
          ·exact trivial
          ·rename_i ap;have X:len*i.size=d:=Am ap;by_cases hc:len+n≤cap
           ·
            have aA:(len+n)*i.size≤cap*i.size:=At _ hc;obtain⟨w',aG,r1,r2,r3,r4,r5,r6,r7,r8,r9⟩:=z8u P ⟨L.b,L.d+(0+len*i.size),none⟩ news.toList 0 w vs e lo ao rfl p4 (p.one B) (by simp;omega)
             (fun j hj N=>by simp at hj N;exact p6 j (by omega) (by omega))
            obtain⟨Y,q⟩:=A.bump ho ⟨_,_,E⟩ G ⟨L.b,L.d,d+new.length,L.sz⟩ (Kd new d c) (d+new.length) (w':=w')
             (A.low.trans ⟨r6,r7,r8,by omega,fun j hj=>r4 j (by dsimp only;have:=J rfl;omega)⟩) (by omega) (show L.b<w'.heap.size by rw[r5];exact A.lt _ _ _ E)
             (fun o' v' L' g hb=>(A.excl _ _ _ _ _ _ E g hb.symm (J rfl)).symm)
             (fun o' v' L' aH g=>r4 _ (fun e'=>aH (A.excl _ _ _ _ _ _ E g e'.symm (J rfl)).symm))
             (by
              intro L' g;rw[CM.ext_same] at g;cases g;refine⟨rfl,fun _=>J rfl,by dsimp only;omega,aG,e,lo,ao,r2,by dsimp only;omega,p6,?_⟩;refine Ve.mono (CM.le_ext _ ?_ (.inl ⟨_,_,E⟩)) (p7.lay p B (Al _) (Al _) (.inr rfl) (fun j=>?_))
              ·cases e':C o (v+1) with
               |none=>rfl
               |some aI=>have:=A.top _ _ _ _ _ ho G _ _ e';omega
              ·rw[r9 j];have:L.d+(0+len*i.size)+0=L.d+d:=by omega
               simp only[this])
            refine⟨_,w',.slice (some ⟨L.b,L.d+0,none⟩) (len+n) cap,q,Y,?_,.inl ?_⟩
            ·exact VR.sl (L:=⟨L.b,L.d,d+new.length,L.sz⟩) (i:=0) (len:=len+n) (esz:=i.size) (room:=none) (cap:=cap) (CM.ext_same C o (v+1) ⟨L.b,L.d,d+new.length,L.sz⟩)
              (by dsimp only;omega) (by dsimp only;omega) hc (fun r f=>by cases f) (fun _=>by dsimp only;omega)
            ·simp only[Sem.run_bind,zt (w':=w') (base:=some ⟨L.b,L.d+0,none⟩) hu F K hc (by dsimp only;rw[I];exact r1),Result.andThen_ok,Sem.run_pure]
           ·
            have f:∃y,Jx H o v 0 (len*i.size)=some y:=by
             unfold Jx;rw[G];have hb:Nat.ble (Nat.add 0 (len*i.size)) d=true:=Ak (by show 0+len*i.size≤d;omega);simp only[Bj,hb];have:∀m a,a+m≤d→∃l,Lj c a m=some l:=by
              intro m
              induction m with
              |zero=>intro a _;exact⟨[],rfl⟩
              |succ m ih =>
               intro a ha;obtain⟨x1,Z,_⟩:=p7 a (by omega);obtain⟨l1,y2⟩:=ih (a+1) (by omega);exact⟨x1::l1,by simp only[Lj,Z,y2]⟩
             exact this _ 0 (by omega)
            obtain⟨y,f⟩:=f;obtain⟨olds,s1,s2,s3,s4⟩:=hold y f;have M:olds.size=len*i.size:=by have:=s2.length;simp at this;omega
            have aq:=grownCap_ge w (len+n) cap elem;have ar:=z6p (ty:=ty) (base:=some ⟨L.b,L.d+0,none⟩) hu hi K (by omega) R (by unfold I6 at O;omega) S s1;have aN:=tr i.size aq;have aw:(olds++news++Builtin.zeroCells zv.cells (grownCap w (len+n) cap elem - (len+n))).size=grownCap w (len+n) cap elem*i.size:=by
             rw[Dd,Dd,size_zeroCells,T,D,M];omega
            obtain⟨Y,q⟩:=A.bump ho ⟨_,_,E⟩ G ⟨w.heap.size,0,d+new.length,grownCap w (len+n) cap elem*i.size⟩ (Kd new d c) (d+new.length)
             (w':=w.drew.alloc (.cells (olds++news++Builtin.zeroCells zv.cells (grownCap w (len+n) cap elem - (len+n))) elem))
             (A.low.drew.alloc A.low.size _) (by rw[World.size_alloc,World.size_drew];omega) (by rw[World.size_alloc,World.size_drew];dsimp only;omega)
             (fun o' v' L' g hb=>by have:=A.lt _ _ _ g;dsimp only at hb;omega)
             (fun o' v' L' _ g=>z7c w.drew _ (A.lt _ _ _ g))
             (by
              intro L' g;rw[CM.ext_same] at g;cases g;refine⟨rfl,fun _=>A.low.size,by dsimp only;omega,_,elem,0,0,V3 w.drew _,by rw[aw];exact Al _,fun _ _ _=>by omega,?_⟩;have aa:C o (v+1)=none:=by
               cases e':C o (v+1) with
               |none=>rfl
               |some aI=>have:=A.top _ _ _ _ _ ho G _ _ e';omega
              refine Ve.mono (CM.le_ext _ aa (.inl ⟨_,_,E⟩)) ?_;obtain⟨g1,g2⟩:=cg (show Lj c 0 (len*i.size)=some y by
               unfold Jx at f;rw[G] at f;dsimp only at f;split at f
               ·split at f
                ·exact f
                ·cases f
               ·cases f)
              intro j hj;rw[get_ofList new d c j,Be];by_cases N:d≤j∧j<d+new.length
              ·rw[Ag N];obtain⟨a,x1,Z,y2,y3⟩:=p.get' (i:=j - d) (by omega);refine⟨a,Z,B a (A7 Z),x1,?_,y3⟩;rw[Di (by rw[Dd];omega),Array.getElem?_append_right (by omega),M,X];simpa using y2
              ·rw[Ab N];have aJ:j<len*i.size:=by omega
               have:=g2 j aJ;rw[Be] at this;obtain⟨a,x1,Z,y2,y3⟩:=s2.get' (i:=j) (by omega);rw[Z] at this;refine⟨a,this,s3 a (A7 Z),x1,?_,y3⟩;rw[Di (by rw[Dd];omega),Di (by omega)];simpa using y2)
            refine⟨_,_,.slice (some ⟨w.heap.size,0,none⟩) (len+n) (grownCap w (len+n) cap elem),q,Y,?_,.inl ?_⟩
            ·have:=VR.sl (i:=0) (len:=len+n) (esz:=i.size) (room:=none) (cap:=grownCap w (len+n) cap elem) (CM.ext_same C o (v+1) ⟨w.heap.size,0,d+new.length,grownCap w (len+n) cap elem*i.size⟩)
              (by dsimp only;omega) (by dsimp only;omega) aq (fun r f=>by cases f) (fun _=>by dsimp only;omega)
             simpa using this
            ·simp only[Sem.run_bind,ar,Result.andThen_ok,Sem.run_pure]
      ·exact trivial
  ·exact trivial
end Go.Sv
namespace Go.Sv
open Go.RowKit (Below)
def zo2 {w w':World}(h:w'.heap=w.heap)(a:Addr):w'.cell? a=w.cell? a:=by simp[World.cell?,h]
def zl2 {P:Program}{B:World}{C:CM}{H:Heap}{w:World}(D:Rel B C H w){size:Nat}{b:AV}{x:Value}(f:VR C b x){n:Nat}{l:List AV}(h:Yy H size b=some (n,l)) :
  ∃vs:List Value,VRs C l vs∧(∀a∈l,a.one=true)∧l.length=n*size∧(Builtin.lenOf x).run P w=.ok n w ∧
   ∀m,m≤n→∀w',w'.heap=w.heap→(Builtin.firstCells size m x).run P w'=.ok (vs.take (m*size)).toArray w':=by
 unfold Yy at h;split at h
 ·cases h;cases f;exact⟨[],.nil,by simp,by simp,rfl,fun m hm w' _=>by simp[Builtin.firstCells]⟩
 ·cases h;cases f with
  | @emp a cap =>
   refine⟨[],.nil,by simp,by simp,rfl,fun m hm w' _=>?_⟩;have:m=0:=by omega
   subst this;simp only[Builtin.firstCells,Dg];rw[zab P w' a 0 [] rfl (fun j y=>by omega)];rfl
 ·rename_i o v i len esz room;split at h
  ·rename_i he;have p:esz=size:=Am he;subst p;split at h
   ·rename_i l' E;cases h;cases f with
    | @sl _ _ _ _ _ _ L cap F =>
     obtain⟨vs,_,g,G,z,_,I⟩:=D.read P E F;refine⟨vs,g,G,z,rfl,fun m hm w' hw=>?_⟩;have J:m*esz≤n*esz:=At _ hm;have K:vs.length=n*esz:=by have O:=g.length;have Q:l.length=n*esz:=z;omega
     simp only[Builtin.firstCells];refine zab P w' _ _ _ (by simp;omega) (fun j y=>?_);rw[ei,zo2 hw,I j (show j<Nat.mul n esz by show j<n*esz;omega),Ci y]
   ·cases h
  ·cases h
 ·rename_i len R;split at h
  ·rename_i r;cases h;have d:size=1:=Am r;subst d;cases f with
   | @str _ _ s M g =>
    subst M g;rw[unpack_pack];refine⟨s.data.toList.map fun b=>Value.int .u8 (b.toNat:Int),?_,?_,by simp,rfl,fun m hm w' _=>?_⟩
    ·generalize s.data.toList=q
     induction q with
     |nil=>exact .nil
     |cons b q N=>exact .cons (.int _ _) N
    ·intro a A;simp only[Ew] at A;obtain⟨b,_,rfl⟩:=A;rfl
    ·simp only[Builtin.firstCells,Sem.run_pure]
     congr 1
     apply Ek.1;rw[Cj,Lib.extract_data];simp
  ·cases h
 ·cases h
def Gm.congr {P:Program}{f:OpF}{nx aa:(Operand→Value)→Sem Next}(h:∀ρ,nx ρ=aa ρ)(s:Gm P f nx):Gm P f aa:=fun w0 C H w E ρ hR hρ=>by rw[←h ρ];exact s w0 C H w E ρ hR hρ
def Uc {α:Type}{a:Array α}{x y:α}(h:a.toList=[x,y]):a=#[x,y]:=Ek.1 h
def Uo {α:Type}{a:Array α}{x:α}(h:a.toList=[x]):a=#[x]:=Ek.1 h
def zpx (P:Program)(R:Array TypeId)(args:Array Operand)(ty:TypeId):Gm P (zjm P R args) (fun ρ=>do pure (.value (←Builtin.append_ R ty (args.map ρ)))):=by
 unfold zjm;split
 ·rename_i st E s x F o;have G:=Uc F;have p:=Uc o;subst G p;refine Gm.congr (nx:=fun ρ=>do pure (.value (←Builtin.append_ #[st,E] ty #[ρ s,ρ x]))) (fun ρ=>by simp) ?_;have key:∀elem,P.underlying st=some (.slice elem)→∀d,P.underlying E=some d→(d=.string∨∃e,d=.slice e)→Gm P (ql P elem s x) (fun ρ=>do pure (.value (←Builtin.append_ #[st,E] ty #[ρ s,ρ x]))):=by
   intro elem hu d hd I;unfold ql;split
   ·rename_i i z hi y;split
    ·rename_i J;obtain⟨f,g⟩:=J;refine Ux fun U C H w ρ a b A K B=>?_
     split
     ·rename_i n l V;split
      ·rename_i L;have h:n≤1048576:=As L;obtain⟨vs,S,W,X,Y,Z⟩:=zl2 (P:=P) A B V;have aa:vs.length=n*i.size:=by have:=S.length;omega
       refine zos A hu hi f g y K (news:=vs.toArray) ⟨d,hd,.inl ⟨I,Y,fun w' hw=>?_⟩⟩ h (by simpa using S) W X;rw[Z n (Al _) w' hw,Aw (by omega)]
      ·exact trivial
     ·exact trivial
    ·exact Gz P _
   ·exact Gz P _
  split
  ·rename_i elem k hu q;unfold zmp;split
   ·rename_i i z hi y;split
    ·rename_i J;obtain⟨f,g⟩:=J;refine Ux fun U C H w ρ a b A K B=>?_
     split
     ·rename_i n;split
      ·rename_i L;have h:n≤1048576:=As L;obtain⟨D,j,M,N,r,O⟩:=zfp y;rw[hi] at r;cases r;obtain⟨T,k2⟩:=S7 (C:=C) N;have Q:D.cells.size=i.size:=by have:=T.length;simp at this;omega
       have m:VRs C (Mc z n) (Builtin.zeroCells D.cells n).toList:=by
        unfold Builtin.zeroCells;rw[zo];exact ug T n
       generalize ρ x=px at B;cases B;exact zos A hu hi f g y K (news:=Builtin.zeroCells D.cells n) ⟨_,q,.inr ⟨⟨_,rfl⟩,rfl,h,f,D,M,⟨i,hi,g⟩,rfl,Q⟩⟩ h m (su k2 n) (by rw[z5x,O])
      ·exact trivial
     ·exact trivial
    ·exact Gz P _
   ·exact Gz P _
  ·rename_i elem e hu q;exact key elem hu _ q (.inr ⟨e,rfl⟩)
  ·rename_i elem hu q;exact key elem hu _ q (.inl rfl)
  ·exact Gz P _
 ·exact Gz P _
def zw3 (P:Program)(D:Array TypeId)(args:Array Operand)(ty:TypeId):Gm P (zyr P D args) (fun ρ=>do pure (.value (←Builtin.copy_ D ty (args.map ρ)))):=by
 unfold zyr;split
 ·rename_i st J s x m f;have p:=Uc m;have g:=Uc f;subst p g;refine Gm.congr (nx:=fun ρ=>do pure (.value (←Builtin.copy_ #[st,J] ty #[ρ s,ρ x]))) (fun ρ=>by simp) ?_;split
  ·rename_i elem hu;split
   ·exact Gz P _
   ·rename_i size q;split
    ·rename_i E;refine Ux fun S C H w ρ a b j d K=>?_
     split
     ·rename_i n l M;obtain⟨vs,F,N,T,r,y⟩:=zl2 (P:=P) j K M;have O:vs.length=n*size:=by have:=F.length;omega
      split
      ·generalize ρ s=G at d;cases d;refine Is j (x:=.int .i64 0) (.int _ _) ?_;have h:=y 0 (Dh _) w rfl;have z:Nat.min n 0=0:=Nat.min_zero n;unfold Builtin.copy_;simp only[B7,A6,Av,Sem.run_bind,Hg hu,Result.andThen_ok,r,Lp q,z,h,Sem.run_pure];rfl
      ·generalize ρ s=G at d;cases d with
       | @emp U cap =>
        refine Is j (x:=.int .i64 0) (.int _ _) ?_;have h:=y 0 (Dh _) w rfl;have z:Nat.min n 0=0:=Nat.min_zero n;unfold Builtin.copy_;simp only[B7,A6,Av,Sem.run_bind,Hg hu,Result.andThen_ok,r,Lp q,z,h,Sem.run_pure];simp[storeCells,goInt]
      ·rename_i o v i len esz room;split
       ·rename_i he;have A:esz=size:=Am he;subst A;split
        ·rename_i H' hw;generalize ρ s=G at d;cases d with
         | @sl _ _ _ _ _ _ L cap Q V W X =>
          have hm:I8 n len=Nat.min n len:=zjf n len;have h:=y (Nat.min n len) (Nat.min_le_left _ _) w rfl;obtain⟨w',I,R⟩:=j.write P hw Q (F.take _) (fun a d=>N a (List.mem_of_mem_take d));rw[hm] at I ⊢;refine⟨C,w',.int .i64 (Int.ofNat (Nat.min n len)),CM.le_refl C,R,.int _ _,.inl ?_⟩;unfold Builtin.copy_;have B:(storeCells ⟨L.b,L.d+i,none⟩ (vs.take (Nat.min n len*esz))).run P w=.ok () w':=I;simp only[B7,A6,Av,Sem.run_bind,Hg hu,Result.andThen_ok,r,Lp q,h,Sem.run_pure,B];rfl
        ·exact trivial
       ·exact trivial
      ·exact trivial
     ·exact trivial
    ·exact Gz P _
  ·exact Gz P _
 ·exact Gz P _
def zr5 (P:Program)(D:Array TypeId)(args:Array Operand)(ty:TypeId):Gm P (zps P D args) (fun ρ=>do pure (.value (←Builtin.clear_ D ty (args.map ρ)))):=by
 unfold zps;split
 ·rename_i st x h d;have l:=Uo h;have f:=Uo d;subst l f;refine Gm.congr (nx:=fun ρ=>do pure (.value (←Builtin.clear_ #[st] ty #[ρ x]))) (fun ρ=>by simp) ?_;split
  ·rename_i elem hu;split
   ·rename_i size z R J;split
    ·rename_i E;refine L6 fun S C H w ρ a m g=>?_
     split
     ·generalize ρ x=F at g;cases g;refine Is m (x:=.tuple #[]) (.tup .nil) ?_;simp[Builtin.clear_,Hg hu]
     ·generalize ρ x=F at g;cases g with
      | @emp T cap =>
       refine Is m (x:=.tuple #[]) (.tup .nil) ?_;simp[Builtin.clear_,Hg hu]
     ·rename_i o v i len esz room;split
      ·rename_i he;have p:esz=size:=Am he;subst p;split
       ·rename_i H' hw;generalize ρ x=F at g;cases g with
        | @sl _ _ _ _ _ _ L cap K U V W =>
         obtain⟨q,j,r,s,M,N⟩:=zfp J;obtain⟨O,Q⟩:=S7 (C:=C) s;obtain⟨w',y,G⟩:=m.write P hw K (ug O len) (su Q len);by_cases A:len=0
         ·subst A;have:w'=w:=by
           have:(storeCells ⟨L.b,L.d+i,none⟩ (My q.cells.toList 0)).run P w=.ok () w:=rfl;rw[this] at y;cases y;rfl
          subst this;exact⟨C,w',.tuple #[],CM.le_refl C,G,.tup .nil,.inl (by simp[Builtin.clear_,Hg hu])⟩
         ·refine⟨C,w',.tuple #[],CM.le_refl C,G,.tup .nil,.inl ?_⟩;unfold Builtin.clear_;have B:(Builtin.zeroCells q.cells len).toList=My q.cells.toList len:=by unfold Builtin.zeroCells;exact zo _ _
          obtain⟨I,rfl⟩:∃k,len=k+1:=⟨len - 1,by omega⟩;simp only[B7,A6,Sem.run_bind,Hg hu,Result.andThen_ok,r,Sem.run_pure,B,y]
       ·exact trivial
      ·exact trivial
     ·exact trivial
    ·exact Gz P _
   ·exact Gz P _
  ·exact Gz P _
 ·exact Gz P _
def zzw (P:Program)(t ty:TypeId)(x:Operand):Gm P (Ov P t x) (fun ρ=>do pure (.value (←Builtin.len_ #[t] ty #[ρ x]))):=by
 unfold Ov;split
 ·rename_i hu;refine L6 fun l C H w ρ a f d=>?_
  split
  ·generalize ρ x=g at d;cases d with
   | @str _ _ s p q =>
    subst p q;exact Is f (x:=.int .i64 (Int.ofNat s.size)) (.int _ _) (by simp[Builtin.len_,Hg hu,goInt])
  ·exact trivial
 ·rename_i e hu;refine L6 fun l C H w ρ a f d=>?_
  split
  ·rename_i o v i len esz room;generalize ρ x=g at d;cases d with
   |sl=>exact Is f (x:=.int .i64 (Int.ofNat len)) (.int _ _) (by simp[Builtin.len_,Hg hu,goInt])
  ·generalize ρ x=g at d;cases d;exact Is f (x:=.int .i64 0) (.int _ _) (by simp[Builtin.len_,Hg hu,goInt])
  ·generalize ρ x=g at d;cases d;exact Is f (x:=.int .i64 0) (.int _ _) (by simp[Builtin.len_,Hg hu,goInt])
  ·exact trivial
 ·rename_i k e hu;refine L6 fun l C H w ρ a f d=>?_
  split
  ·generalize ρ x=g at d;cases d;exact Is f (x:=.int .i64 0) (.int _ _) (by simp[Builtin.len_,Hg hu,goInt])
  ·rename_i o;split
   ·rename_i es r y;generalize ρ x=g at d;cases d with
    | @map _ L m =>
     obtain⟨_,h,z,A⟩:=f.obj o _ (f.fresh _ _ _ m) y _ m;have hlen:es.length=h.size:=by have:=A.length;simpa using this
     have j:(getObj L.b).run P w=.ok (.map h r) w:=by simp[getObj,Sem.run,z]
     exact Is f (x:=.int .i64 (Int.ofNat es.length)) (.int _ _) (by simp[Builtin.len_,Hg hu,j,goInt,hlen])
   ·exact trivial
  ·exact trivial
 ·rename_i n e hu;refine L6 fun l C H w ρ a f d=>?_
  exact Is f (x:=.int .i64 (Int.ofNat n)) (.int _ _) (by simp[Builtin.len_,Hg hu,goInt])
 ·exact Gz P _
def zza (P:Program)(t ty:TypeId)(x:Operand):Gm P (Qy P t x) (fun ρ=>do pure (.value (←Builtin.cap_ #[t] ty #[ρ x]))):=by
 unfold Qy;split
 ·rename_i e hu;refine L6 fun l C H w ρ a f d=>?_
  split
  ·generalize ρ x=g at d;cases d;exact Is f (x:=.int .i64 0) (.int _ _) (by simp[Builtin.cap_,Hg hu,goInt])
  ·rename_i r;generalize ρ x=g at d;cases d with
   |sl _ _ _ _ h =>
    obtain⟨j,_⟩:=h r rfl;subst j;exact Is f (.int .i64 _) (by simp[Builtin.cap_,Hg hu,goInt])
  ·exact trivial
 ·exact Gz P _
def Uj {P:Program}{w:World}{C:CM}{mx:Bool}{a b r:AV}(h:Qu mx a b=some r){u v:Value}(hu:VR C a u)(hv:VR C b v) :
  ∃z,(if mx then Builtin.max2 u v else Builtin.min2 u v).run P w=.ok z w∧VR C r z:=by
 unfold Qu at h;split at h
 ·rename_i k x k' y;split at h
  ·rename_i hk;have:=z7x hk;subst this;cases hu;cases hv;split at h
   ·split at h
    ·rename_i d;rw[du] at d;cases h;refine⟨.int k y,?_,.int _ _⟩;have:y>x:=by simpa using d
     simp[Builtin.max2,this]
    ·rename_i d;rw[du] at d;cases h;refine⟨.int k x,?_,.int _ _⟩;have:¬y>x:=by simpa using d
     simp[Builtin.max2,this]
   ·split at h
    ·rename_i d;rw[du] at d;cases h;refine⟨.int k y,?_,.int _ _⟩;have:y<x:=by simpa using d
     simp[Builtin.min2,this]
    ·rename_i d;rw[du] at d;cases h;refine⟨.int k x,?_,.int _ _⟩;have:¬y<x:=by simpa using d
     simp[Builtin.min2,this]
  ·cases h
 ·cases h
def zgd {P:Program}{w:World}{C:CM}{mx:Bool}:∀{l:List AV} {a r:AV},Vd mx a l=some r→∀{u:Value} {vs:List Value},VR C a u→VRs C l vs →
  ∃z,(vs.foldlM (if mx then Builtin.max2 else Builtin.min2) u).run P w=.ok z w∧VR C r z
 |[],a,r,h,u,[],hu,.nil=>by cases h;exact⟨u,by simp,hu⟩
 |b::l,a,r,h,u,v::vs,hu,.cons e es=>by
  unfold Vd at h;split at h
  ·rename_i c f;obtain⟨z,g,j⟩:=Uj (P:=P) (w:=w) f hu e;obtain⟨m,o,p⟩:=zgd (P:=P) (w:=w) h j es;refine⟨m,?_,p⟩;have d:((if mx then Builtin.max2 else Builtin.min2) u v).run P w=.ok z w:=by cases mx<;>simpa using g
   simp only[List.foldlM_cons,Sem.run_bind,d,Result.andThen_ok,o]
  ·cases h
def zqy (P:Program)(mx:Bool)(args:Array Operand)(g:Array TypeId)(ty:TypeId) :
  Gm P (Nf mx args.toList) (fun ρ=>do pure (.value (←if mx then Builtin.max_ g ty (args.map ρ) else Builtin.min_ g ty (args.map ρ)))):=by
 intro s C H w E ρ h j;unfold Nf;dsimp only;cases m:(opds args.toList).run E with
 |none=>exact trivial
 |some o =>
  cases o with
  |nil=>exact trivial
  |cons a l =>
   cases a with
   |int k n =>
    refine qv h fun r p=>?_
    have hv:=vd j m;have d:(args.map ρ).toList=args.toList.map ρ:=Cj ..;generalize x:args.toList.map ρ=L at hv d;cases hv with
    |cons e es =>
     obtain⟨z,f,q⟩:=zgd (P:=P) (w:=w) p e es;refine⟨z,?_,q⟩;cases mx
     ·simp only[C5,Dv,Builtin.min_,d] at f ⊢;simp only[Sem.run_bind,f,Result.andThen_ok,Sem.run_pure]
     ·simp only[Bv,Builtin.max_,d] at f ⊢;simp only[Sem.run_bind,f,Result.andThen_ok,Sem.run_pure]
   |_=>exact trivial
def zg7 {C:CM}{d:TypeDesc}{k:AV}{u:Value}(hu:VR C k u):∀{es f:List (AV×AV×Nat)} {a:List MapEntry} (i:Nat),ziq d k es=some f→MR C es a →
  (Instr.findNow d u a i=some none∧MR C f a)∨(∃j y,Instr.findNow d u a i=some (some (j+i,y))∧j<a.length∧MR C f (a.eraseIdx j))
 |[],f,[],i,h,.nil=>by cases h;exact .inl ⟨rfl,.nil⟩
 |(k',w,b)::l,f,e::r,i,h,.cons hk hv p hm=>by
  unfold ziq at h;split at h
  ·rename_i g;cases h;exact .inr ⟨0,e.val,by simp[Instr.findNow,(ot g hu hk).1],by simp,by simpa using hm⟩
  ·rename_i g;split at h
   ·rename_i r' q;cases h;rcases zg7 hu (i+1) q hm with ⟨m,o⟩|⟨j,y,m,o,s⟩
    ·exact .inl ⟨by simpa [Instr.findNow,(ot g hu hk).1] using m,.cons hk hv p o⟩
    ·refine .inr ⟨j+1,y,?_,by simpa using o,.cons hk hv p s⟩;rw[show j+1+i=j+(i+1) from by omega];simpa [Instr.findNow,(ot g hu hk).1] using m
   ·cases h
  ·cases h
def zol (P:Program)(J:Array TypeId)(args:Array Operand)(ty:TypeId):Gm P (zjl P J args) (fun ρ=>do pure (.value (←Builtin.delete_ J ty (args.map ρ)))):=by
 unfold zjl;split
 ·rename_i st N s x D m;have E:=Uc D;have p:=Uc m;subst E p;refine Gm.congr (nx:=fun ρ=>do pure (.value (←Builtin.delete_ #[st,N] ty #[ρ s,ρ x]))) (fun ρ=>by simp) ?_;split
  ·rename_i key e hu;split
   ·rename_i d hd;obtain⟨r,_⟩:=ze7 hd;refine Ux fun X C H w ρ a b z K O=>?_
    split
    ·rename_i o;split
     ·rename_i es F Q;split
      ·rename_i R S;generalize ρ s=Y at K;cases K with
       | @map _ L q =>
        obtain⟨B,f,M,T⟩:=z.obj o _ (z.fresh _ _ _ q) Q _ q;have A:=z.lt _ _ _ q;have h:(getObj L.b).run P w=.ok (.map f F) w:=by simp[getObj,Sem.run,M]
        have l:∀y,(setObj L.b y).run P w=.ok () { w with heap:=w.heap.setIfInBounds L.b y }:=by intro y;simp[setObj,Sem.run,M]
        rcases zg7 O 0 S T with ⟨G,I⟩|⟨j,y,G,I,U⟩
        ·refine⟨C,{ w with heap:=w.heap.setIfInBounds L.b (.map f F) },.tuple #[],CM.le_refl C,z.putObj q B _ _ ?_ (fun _ _ _ _ e=>by cases e),.tup .nil,.inl ?_⟩
         ·intro V g;rw[q] at g;cases g;exact⟨B,_,putObj_heap_same w _ A,I⟩
         ·unfold Builtin.delete_;simp only[B7,A6,Av,Sem.run_bind,Hg hu,Result.andThen_ok,h,mz hd,ms r G,l,Sem.run_pure]
        ·refine⟨C,{ w with heap:=w.heap.setIfInBounds L.b (.map (f.eraseIdxIfInBounds j) F) },.tuple #[],CM.le_refl C,z.putObj q B _ _ ?_ (fun _ _ _ _ e=>by cases e),.tup .nil,.inl ?_⟩
         ·intro V g;rw[q] at g;cases g;refine⟨B,_,putObj_heap_same w _ A,?_⟩;have W:j<f.size:=by simpa using I
          have:(f.eraseIdxIfInBounds j).toList=f.toList.eraseIdx j:=by
           simp[Array.eraseIdxIfInBounds,W]
          rw[this];exact U
         ·unfold Builtin.delete_;simp only[B7,A6,Av,Sem.run_bind,Hg hu,Result.andThen_ok,h,mz hd,ms r G,Cw,l,Sem.run_pure]
      ·exact trivial
     ·exact trivial
    ·exact trivial
   ·exact Gz P _
  ·exact Gz P _
 ·exact Gz P _
end Go.Sv
namespace Go.Sv
open Go.RowKit (Below)
def zbx {P:Program}{w:World}{f:Nat}(h:gq P f=true)(args:Array Value):(callFunc f args).run P w=.ok (.enter f args) w:=by
 unfold gq at h;cases a:P.funcs[f]? with
 |none=>rw[a] at h;cases h
 |some fn =>
  rw[a] at h;simp only[Ac,bne_iff_ne,ne_eq] at h;obtain⟨j,g⟩:=h;have d:fn.body≠none:=by intro e;rw[e] at g;cases g
  simp[callFunc,a,j,d]
def Uq {P:Program}{q:World}{C:CM}{w:World}{g:AV}{gv:Value}(o:VR C g gv){args:List AV}{vs:Array Value}(hv:VRs C args vs.toList){nx:Sem Next}
  (a:∀fn first cap,gv=.func fn first cap→nx.run P w=(invoke (.fn fn cap) (first++vs)).run P w):Ka P q C w nx (bi P g args):=by
 unfold bi;split
 ·rename_i f first cap
  split
  ·rename_i r;cases o with
   | @fn _ s _ _ l' r' d j p =>
    cases d with
    |same =>
     refine⟨l'.toList++vs.toList++r'.toList,(j.append hv).append p,.inl ⟨f,rfl,?_⟩⟩;rw[a _ _ _ rfl];have:(l'++vs++r')=(l'.toList++vs.toList++r'.toList).toArray:=by simp
     rw[←this];exact zbx r _
  ·exact trivial
 ·rename_i l cap;cases o with
  | @fn _ s _ _ l' r' d j p =>
   cases d with
   |same _ h=>exact absurd rfl (h l)
   | @yield _ L x =>
    have m:l'=#[]:=by
     have:=j.length;exact C6 (by simpa using this.symm)
    subst m;refine⟨vs.toList,hv,.inr ⟨l,L,rfl,x,?_⟩⟩;rw[a _ _ _ rfl];simp[invoke]
 ·exact trivial
theorem zwg {fn : Func} (h1 : fn.name = "maps.clone") (h2 : fn.origin = "") : Extern.findNext fn = none ∧ Extern.find fn = some Extern.MapsClone.clone := by
 have e1 : Extern.allNextRows.lookup "maps.clone" = none := by kernel_rfl
 have e2 : Extern.allNextRows.lookup "" = none := by kernel_rfl
 have e3 : Extern.allGenericRows.lookup "maps.clone" = none := by kernel_rfl
 have e4 : Extern.allTypedRows.lookup "maps.clone" = none := by kernel_rfl
 have e5 : Extern.allRows.lookup "maps.clone" = some Extern.MapsClone.clone := by kernel_rfl
 refine⟨?_,?_⟩
 ·unfold Extern.findNext;dsimp only;rw[h1,h2,e1,e2];rfl
 ·unfold Extern.find;dsimp only;rw[h1,e3,e4,e5];rfl
def Ut {P:Program}{w:World}{r:Nat}{es:Array MapEntry}{clock:Nat}(t:TypeId)(hb:w.heap[r]?=some (.map es clock)) :
  (Extern.MapsClone.clone #[.iface t (.map (some r))]).run P w=.ok (.iface t (.map (some w.heap.size))) (w.alloc (.map es clock)):=by
 have e:Extern.MapsClone.clone #[.iface t (.map (some r))]=(getObj r >>= fun o=>match o with
   |.map entries clock=>(_root_.Go.newObj (.map entries clock) >>= fun n=>pure (.iface t (.map (some n))))
   | _ => stuck "maps.clone: a map expected") := rfl
 rw[e];simp[MapKept.run_getObj_map hb,Result.andThen,go_sem]
def We {P:Program}{s:World}{C:CM}{H:Heap}{w:World}(a:Rel s C H w){f:Nat}(d:zs P f=true){args:List AV}{vs:Array Value}(hv:VRs C args vs.toList) :
  Ka P s C w (callFunc f vs) (ztl H args):=by
 unfold zs at d;split at d
 ·rename_i fn p;simp only[Ac,Dz] at d;obtain⟨⟨x,A⟩,B⟩:=d;obtain⟨D,E⟩:=zwg x A;have g:=run_callFunc_extern (P:=P) p (by rw[x];decide) B D E vs w;unfold ztl;split
  ·rename_i t o;split
   ·rename_i es y F
    ·generalize q:vs.toList=l at hv;cases hv with
     |cons r G =>
      cases G;cases r with
      |iface r =>
       cases r with
       | @map _ L z =>
        have h:vs=#[.iface t (.map (some L.b))]:=Ek.1 q;obtain⟨N,j,I,J⟩:=a.obj _ _ (a.fresh _ _ _ z) F L z;obtain⟨K,M⟩:=a.push (.map es y) (.map j y) 0 0 (fun O m=>by
         rw[CM.ext_same] at m;cases m;exact⟨a.low.size,j,V3 _ _,J.mono (CM.le_ext _ (a.next_none 0) (.inr (Dm a.nx)))⟩)
        refine⟨_,_,.iface t (.map (some w.heap.size)),M,K,.iface (.map (CM.ext_same _ _ _ _)),.inl ?_⟩;rw[g,h,Ut t I];rfl
   ·exact trivial
  ·exact trivial
 ·cases d
def zqv {P:Program}{w:World}{t:TypeId}{name:String}{f:Nat}(h:zhw P t name=some f)(v:Value):(method (P.types.size+Made.depth) t v name).run P w=.ok (f,v) w:=by
 unfold zhw at h;have hd:P.types.size+Made.depth=(P.types.size+99)+1:=rfl;rw[hd];cases hi:P.info? t with
 |none=>rw[hi] at h;cases h
 |some i =>
  rw[hi] at h;dsimp only at h;cases hm:i.methods.find? (·.name==name) with
  |none=>rw[hm] at h;cases h
  |some m =>
   rw[hm] at h;dsimp only at h;split at h
   ·rename_i l;have a:m.path=#[]:=Array.isEmpty_iff.1 l;unfold method;simp only[Sem.run_bind,Z3 hi,Result.andThen_ok,hm,a,follow,Sem.run_pure];split at h
    ·rename_i o e g hu;cases h;simp only[g,Sem.run_bind,receiverAt,Hg hu,Result.andThen_ok,Place.get,Sem.run_pure]
    ·cases h
    ·rename_i o d j g hu;cases h;simp only[g,Sem.run_bind,receiverAt,Hg hu,Result.andThen_ok];cases d<;>first|rfl|exact absurd hu (j _)
    ·cases h
   ·cases h
def zvx (P:Program)(c:Call)(o:Oper)(ho:o.op=.call c):Gm P (Zj P c) (fun ρ=>execOp ρ o):=by
 have hex:∀ρ,execOp ρ o=(do let d ←resolve ρ c o.type;invoke d.target d.args):=fun ρ=>by simp[execOp,ho]
 refine Gm.congr (fun ρ=>(hex ρ).symm) ?_;unfold Zj;split
 ·rename_i b R;have s:∀ρ,(do let d ←resolve ρ c o.type;invoke d.target d.args:Sem Next)=builtin b c.argTypes o.type (c.args.map fun | .const _=>true|_=>false) (c.args.map ρ):=by
   intro ρ;simp only[resolve,R];rfl
  refine Gm.congr (fun ρ=>(s ρ).symm) ?_;split
  ·split
   ·rename_i t x y z;have A:=Uo y;have ex:=Uo z;exact Gm.congr (fun ρ=>by rw[A,ex];simp[builtin]) (zzw P t o.type x)
   ·exact Gz P _
  ·split
   ·rename_i t x y z;have A:=Uo y;have ex:=Uo z;exact Gm.congr (fun ρ=>by rw[A,ex];simp[builtin]) (zza P t o.type x)
   ·exact Gz P _
  ·exact Gm.congr (fun ρ=>by simp[builtin]) (zqy P true c.args c.argTypes o.type)
  ·exact Gm.congr (fun ρ=>by simp[builtin]) (zqy P false c.args c.argTypes o.type)
  ·exact Gm.congr (fun ρ=>by simp[builtin]) (zpx P c.argTypes c.args o.type)
  ·exact Gm.congr (fun ρ=>by simp[builtin]) (zw3 P c.argTypes c.args o.type)
  ·exact Gm.congr (fun ρ=>by simp[builtin]) (zr5 P c.argTypes c.args o.type)
  ·exact Gm.congr (fun ρ=>by simp[builtin]) (zol P c.argTypes c.args o.type)
  ·exact Gz P _
 ·rename_i f M;intro N C H w E ρ O h;dsimp only;split
  ·rename_i g Q;split
   ·rename_i l q;have j:Ka P N C w (do let d ←resolve ρ c o.type;invoke d.target d.args) (bi P g l):=by
     refine Uq (h _ _ Q) (vs:=c.args.map ρ) (by rw[Cj];exact vd h q) (fun fn first cap hv=>?_);simp only[resolve,M,hv,Deferred.ofValue,Sem.run_bind,Sem.run_pure,Result.andThen_ok]
    unfold zhy;split
    ·rename_i S;split
     ·rename_i B;have hk:=We O B (vs:=c.args.map ρ) (by rw[Cj];exact vd h q);have hv:=h _ _ Q;generalize D:ρ f=gv at hv;cases hv with
      | @fn _ g' _ _ l' r' F G I =>
       cases F with
       |same =>
        have J:l'=#[]:=C6 (by simpa using G.length.symm);have K:r'=#[]:=C6 (by simpa using I.length.symm);subst J K;have m:(do let d ←resolve ρ c o.type;invoke d.target d.args:Sem Next).run P w=(callFunc S (c.args.map ρ)).run P w:=by
         simp only[resolve,M,D,Deferred.ofValue,Sem.run_bind,Sem.run_pure,Result.andThen_ok,invoke];simp
        unfold Ka at hk ⊢;split at hk
        ·exact trivial
        ·obtain⟨T,w',x,U,V,W,X⟩:=hk;exact⟨T,w',x,U,V,W,by rw[m];exact X⟩
        ·rename_i t args a;unfold ztl at a;split at a
         ·split at a<;>cases a
         ·cases a
     ·exact j
    ·exact j
   ·exact trivial
  ·exact trivial
 ·rename_i r name Y;intro N C H w E ρ O h;dsimp only;split
  ·rename_i t v hv;split
   ·rename_i f hm;split
    ·rename_i l q;split
     ·rename_i Z;have p:=h _ _ hv;generalize L:ρ r=pv at p;cases p with
      | @iface _ _ u hu =>
       refine⟨u::c.args.toList.map ρ,.cons hu (vd h q),.inl ⟨f,rfl,?_⟩⟩;have J:(#[Value.iface t u]++c.args.map ρ)[0]?=some (Value.iface t u):=by rw[Di (by simp)];rfl
       have K:(#[Value.iface t u]++c.args.map ρ).extract 1 (#[Value.iface t u]++c.args.map ρ).size=c.args.map ρ:=by simp
       have e3:(#[u]++c.args.map ρ)=(u::c.args.toList.map ρ).toArray:=by simp
       simp only[resolve,Y,L,Sem.run_bind,Sem.run_pure,Result.andThen_ok,invoke,J,K,callMethod,run_program,zqv hm u,e3];exact zbx Z _
     ·exact trivial
    ·exact trivial
   ·exact trivial
  ·exact trivial
def X5 (P:Program)(o:Oper):Gm P (Gw P o.op) (fun ρ=>execOp ρ o):=by
 generalize ho:o.op=op;cases op with
 |move x=>exact Gm.congr (fun ρ=>by simp[execOp,ho]) (zl7 P x)
 |assign x=>exact Gm.congr (fun ρ=>by simp[execOp,ho]) (zl7 P x)
 |pick c a b=>exact Gm.congr (fun ρ=>by simp[execOp,ho]) (zvf P c a b)
 |alloc t=>exact Gm.congr (fun ρ=>by simp only[execOp,ho]) (zs0 P t)
 |box t x=>exact Gm.congr (fun ρ=>by simp[execOp,ho]) (Uu P t x)
 |build t g=>exact Gm.congr (fun ρ=>by simp[execOp,ho]) (zrm P t g)
 |buildSlice t n g=>exact Gm.congr (fun ρ=>by simp[execOp,ho]) (zh2 P t n g)
 |load t a=>exact Gm.congr (fun ρ=>by simp[execOp,ho]) (zwi P t a)
 |store t a x=>exact Gm.congr (fun ρ=>by simp[execOp,ho]) (zsw P t a x)
 |nilCheck x=>exact zkq P x o ho
 |binOp op t x y h=>exact zx0 P op t h x y o ho
 |unOp op t x=>exact Xu P op t x o ho
 |convert s d x=>exact Gm.congr (fun ρ=>by simp[execOp,ho]) (zw6 P s d x)
 |makeInterface t x=>exact Gm.congr (fun ρ=>by simp[execOp,ho]) (zmd P t x)
 |makeFunc f a b =>
  cases f with
  |yield l=>exact Gz P _
  |_=>exact Gm.congr (fun ρ=>by simp[execOp,ho]) (zqn P _ a b (fun l e=>by cases e))
 |makeMap t r=>exact Gm.congr (fun ρ=>by simp[execOp,ho]) (zsj P t r)
 |makeSlice t l c=>exact Gm.congr (fun ρ=>by simp[execOp,ho]) (zm2 P t l c)
 |slice t x a b c=>exact Gm.congr (fun ρ=>by simp[execOp,ho]) (zsd P t x a b c)
 |fieldAddr t x f=>exact Gm.congr (fun ρ=>by simp[execOp,ho]) (zik P t x f)
 |field t x f=>exact Gm.congr (fun ρ=>by simp[execOp,ho]) (zsq P t x f)
 |indexAddr t x i=>exact Gm.congr (fun ρ=>by simp[execOp,ho]) (zhq P t x i)
 |index t x i=>exact Gm.congr (fun ρ=>by simp[execOp,ho]) (zrs P t x i)
 |lookup t x i ok=>exact Gm.congr (fun ρ=>by simp[execOp,ho]) (zpo P t x i ok)
 |mapUpdate t m k x=>exact Gm.congr (fun ρ=>by simp[execOp,ho]) (zb5 P t m k x)
 |insert t m k x=>exact Gm.congr (fun ρ=>by simp[execOp,ho]) (zb5 P t m k x)
 |range t x=>exact Gm.congr (fun ρ=>by simp[execOp,ho]) (zsp P t x)
 |next it s=>exact Gm.congr (fun ρ=>by simp[execOp,ho]) (zvr P it s o.type)
 |typeAssert x t a ok=>exact Gm.congr (fun ρ=>by simp[execOp,ho]) (zr0 P x t a ok)
 |extract t i=>exact Gm.congr (fun ρ=>by simp[execOp,ho]) (zmv P t i)
 |call c=>exact zvx P c o ho
 |_=>exact Gz P _
end Go.Sv
namespace Go.Sv
open Go.RowKit (Below)
def zpc (P:Program)(h:World)(C:CM)(w:World)(t:Tgt)(vs:List Value)(v:AV)(H':Heap):Prop :=
 match t with
 |.fn f=>∀cs,∃d w' g fr,C.le d∧Rel h d H' w'∧VR d v g∧Steps P (lone (Frame.enter P f vs.toArray .normal) cs w) (lone fr cs w')∧fr.fn=f∧fr.leaving P w' (.returned g)
 |.yield l=>∀L,C l 0=some L→∀c cs,∃d w' g f j a b,C.le d∧Rel h d H' w'∧VR d v g∧(Instr.yield L.b vs.toArray).run P w=.ok (.round L.b f j a b) w ∧
   Steps P (lone (Frame.round L.b f j a b .normal) (c::cs) w) (lone (c.finish g) cs w')
def bm (P:Program)(c:J2):Prop :=
 ∀d C H w t args vs v H',Rel d C H w→VRs C args vs→c t args H=.ok v H'→zpc P d C w t vs v H'
noncomputable def H9 (d:Option Tmp)(a:AV)(E:Tr AV):Tr AV:=match d with
 |none=>E
 |some d=>Hs a (F7 d) E
def zbh {n:Nat}{d:Option Tmp}{p:PutF}(h:Jv n d=some p):(∀a E,p.run a E=H9 d a E)∧∀t,d=some t→t<n:=by
 unfold Jv at h;split at h
 ·cases h;exact⟨fun _ _=>rfl,fun t e=>by cases e⟩
 ·split at h
  ·rename_i hd;cases h;exact⟨fun _ _=>rfl,fun t e=>by cases e;exact hd⟩
  ·cases h
def ER.put {n:Nat}{C:CM}{E:Tr AV}{a:Act}(h:ER n C E a.tmps){d:Option Tmp}(hd:∀t,d=some t→t<n){av:AV}{x:Value}(hv:VR C av x):ER n C (H9 d av E) (a.put d x).tmps:=by
 obtain⟨h1,h2,h3⟩:=h;cases d with
 |none=>exact⟨h1,h2,h3⟩
 |some d =>
  have aa:(d:Nat)<n:=hd d rfl;refine⟨by show (a.tmps.setIfInBounds d x).size=n;simpa using h1,h2,fun t ht=>?_⟩;show OVR C (Fk (F7 t) (Hs av (F7 d) E)) ((a.tmps.setIfInBounds d x).getD t undef);rw[zhs];by_cases e:t=d
  ·subst e;rw[Ag rfl];have:(a.tmps.setIfInBounds t x).getD t undef=x:=by
    rw[Bk,Array.getElem?_setIfInBounds_self_of_lt (show t<a.tmps.size by rw[h1];exact aa)];rfl
   rw[this];exact hv
  ·rw[Ab e];have:(a.tmps.setIfInBounds d x).getD t undef=a.tmps.getD t undef:=by
    rw[Bk,Array.getElem?_setIfInBounds_ne (fun q=>e q.symm),←Bk]
   rw[this];exact h3 t ht
def zhz {n:Nat}{C:CM}{E:Tr AV}{g:Array Value}(h:ER n C E g)(ops:Array Oper)(o:Oper):(Lq ops o).run E=Region.wanted o (yielded ops g):=by
 obtain⟨x,y,z⟩:=h;unfold Lq Region.wanted;cases B:o.guard with
 |none=>rfl
 |some A =>
  obtain⟨j,want⟩:=A;dsimp only;unfold yielded;cases hd:(ops[j]?).bind (·.dst) with
  |none=>rfl
  |some d =>
   dsimp only[Option.bind];split
   ·rename_i hle;dsimp only;have f:=z d hle;by_cases m:d<g.size
    ·have l:g[d]?=some g[d]:=Cg m;have q:g.getD d undef=g[d]:=by rw[Bk,l];rfl
     rw[q] at f;rw[l];generalize g[d]=v at f;cases p:Fk (F7 d) E with
     |none =>
      rw[p] at f;have:v=undef:=f;subst this;rfl
     |some r =>
      rw[p] at f;have s:VR C r v:=f;cases s with
      |bool b=>cases b<;>cases want<;>rfl
      |_=>rfl
    ·have l:g[d]?=none:=Eg (Nat.le_of_not_lt m);have q:g.getD d undef=undef:=by rw[Bk,l];rfl
     rw[q] at f;rw[l];cases p:Fk (F7 d) E with
     |none=>rfl
     |some r =>
      rw[p] at f;have s:VR C r undef:=f;cases s;rfl
   ·rename_i hle;have l:g[d]?=none:=Eg (by rw[x];exact Bq y (Ev (Nat.lt_of_not_le hle)));rw[l];rfl
section steps
variable {P : Program} {b : Frame} {a : Act} {k : List Item} {cs : List Frame} {w w' : World} {ops : Array Oper}
def zue {i:Nat}{rest:List Nat}{o:Oper}(ho:ops[i]?=some o)(v:Value):(b.atR a (.inRegion ops (i::rest)::k)).finish v=b.atR (a.put o.dst v) (.inRegion ops rest::k):=by
 rw[Frame.finish_atR,ho];rfl
def zut {i:Nat}{rest:List Nat}{o:Oper}{x:Value}(ho:ops[i]?=some o)(hw:Region.wanted o (yielded ops a.tmps)=true)(hd:∀c,o.op≠.defer c)
  (d:(execOp a.eval o).run P w=.ok (.value x) w') :
  step P (lone (b.atR a (.inRegion ops (i::rest)::k)) cs w)=.next (lone (b.atR (a.put o.dst x) (.inRegion ops rest::k)) cs w'):=by
 refine step_lone_go ?_;rw[stepGR_op (b:=b) (k:=k) (cs:=cs) ho hw,Oper.semAt_eq _ _ _ hd,←zue ho];simp[stepG.apply,Sem.runT_eq,d]
def W5 {i:Nat}{rest:List Nat}{o:Oper}(ho:ops[i]?=some o)(hw:Region.wanted o (yielded ops a.tmps)=true)(hd:∀c,o.op≠.defer c)
  (d:(execOp a.eval o).run P w=.ok .skip w') :
  step P (lone (b.atR a (.inRegion ops (i::rest)::k)) cs w)=.next (lone (b.atR (a.put o.dst undef) (.inRegion ops rest::k)) cs w'):=by
 refine step_lone_go ?_;rw[stepGR_op (b:=b) (k:=k) (cs:=cs) ho hw,Oper.semAt_eq _ _ _ hd,←zue ho];simp[stepG.apply,Sem.runT_eq,d]
def zvu {i:Nat}{rest:List Nat}{o:Oper}{f:Nat}{args:Array Value}(ho:ops[i]?=some o)(hw:Region.wanted o (yielded ops a.tmps)=true)(hd:∀c,o.op≠.defer c)
  (d:(execOp a.eval o).run P w=.ok (.enter f args) w') :
  step P (lone (b.atR a (.inRegion ops (i::rest)::k)) cs w)=.next (lone (Frame.enter P f args .normal) (b.atR a (.inRegion ops (i::rest)::k)::cs) w'):=by
 refine step_lone_go ?_;rw[stepGR_op (b:=b) (k:=k) (cs:=cs) ho hw,Oper.semAt_eq _ _ _ hd];simp[stepG.apply,Sem.runT_eq,d,Frame.atR]
def Ya {i:Nat}{rest:List Nat}{o:Oper}{l f:Nat}{d:Array Value}{x y:Code}(ho:ops[i]?=some o)(hw:Region.wanted o (yielded ops a.tmps)=true)(hd:∀c,o.op≠.defer c)
  (g:(execOp a.eval o).run P w=.ok (.round l f d x y) w') :
  step P (lone (b.atR a (.inRegion ops (i::rest)::k)) cs w)=.next (lone (Frame.round l f d x y .normal) (b.atR a (.inRegion ops (i::rest)::k)::cs) w'):=by
 refine step_lone_go ?_;rw[stepGR_op (b:=b) (k:=k) (cs:=cs) ho hw,Oper.semAt_eq _ _ _ hd];simp[stepG.apply,Sem.runT_eq,g]
end steps
def zi6 {P:Program}{o:Oper}{E:Tr AV}{H:Heap}(h:(Gw P o.op).run E H≠.no):∀c,o.op≠.defer c:=by
 intro c e;rw[e] at h;exact h rfl
def zi1 {P:Program}{c:J2}(V:bm P c){n:Nat}{ops:Array Oper}{i:Nat}{o:Oper}(ho:ops[i]?=some o){M:World}{C:CM}{H H':Heap}{w:World}{E R:Tr AV}{a:Act}
  (N:Rel M C H w) (S:ER n C E a.tmps) (h:(Js P n ops o).run c E H=.ok R H') (b:Frame) (rest:List Nat) (k:List Item) (cs:List Frame) :
  ∃r w' x T,C.le r∧Rel M r H' w'∧VR r T x∧R=H9 o.dst T E∧(∀t,o.dst=some t→t<n) ∧
   Steps P (lone (b.atR a (.inRegion ops (i::rest)::k)) cs w) (lone (b.atR (a.put o.dst x) (.inRegion ops rest::k)) cs w'):=by
 unfold Js at h;cases O:Jv n o.dst with
 |none=>rw[O] at h;cases h
 |some p =>
  rw[O] at h;dsimp only at h;obtain⟨d,j⟩:=zbh O;have J:=zhz S ops o;cases G:(Lq ops o).run E with
  |false =>
   rw[G] at h J;cases h;refine⟨C,w,undef,Km,CM.le_refl C,N,.tup .nil,d _ _,j,.one ?_⟩;have:=stepR_op_skip (P:=P) (b:=b) (a:=a) (k:=k) (cs:=cs) (w:=w) (ops:=ops) (i:=i) (rest:=rest) (by rw[ho];simpa using J.symm);rw[this,ho];rfl
  |true =>
   rw[G] at h J;dsimp only at h;have hw:Region.wanted o (yielded ops a.tmps)=true:=J.symm;have K:=X5 P o M C H w E a.eval N (xg S);cases I:(Gw P o.op).run E H with
   |no=>rw[I] at h;cases h
   |val v W =>
    rw[I] at h K;cases h;have m:=zi6 (P:=P) (o:=o) (E:=E) (H:=H) (by rw[I];intro e;cases e);obtain⟨r,w',x,B,D,F,s⟩:=K;rcases s with s|⟨s,rfl⟩
    ·exact⟨r,w',x,v,B,D,F,d _ _,j,.one (zut ho hw m s)⟩
    ·exact⟨r,w',undef,v,B,D,F,d _ _,j,.one (W5 ho hw m s)⟩
   |call t args =>
    rw[I] at h K;dsimp only at h;have m:=zi6 (P:=P) (o:=o) (E:=E) (H:=H) (by rw[I];intro e;cases e);cases z:c t args H with
    |no=>rw[z] at h;cases h
    |ok v W =>
     rw[z] at h;cases h;obtain⟨vs,hv,A⟩:=K;have q:=V _ _ _ _ _ _ _ _ _ N hv z;rcases A with ⟨f,rfl,g⟩|⟨l,L,rfl,X,g⟩
     ·obtain⟨r,w',Q,fr,B,D,F,s,U,Y⟩:=q (b.atR a (.inRegion ops (i::rest)::k)::cs);refine⟨r,w',Q,v,B,D,F,d _ _,j,.head (zvu ho hw m g) (Steps.trans s (.one ?_))⟩;rw[step_leave_returned Y,zue ho]
     ·obtain⟨r,w',Q,f,Z,x,y,B,D,F,s,U⟩:=q L X (b.atR a (.inRegion ops (i::rest)::k)) cs;rw[s] at g;refine⟨r,w',Q,v,B,D,F,d _ _,j,.head (Ya ho hw m g) ?_⟩;rw[←zue ho];exact U
def zo1 {P:Program}{c:J2}(z:bm P c){n:Nat}{ops:Array Oper}(b:Frame)(k:List Item)(cs:List Frame):∀(l:List Oper) (i:Nat),ops.toList.drop i=l →
  ∀{f:World} {C:CM} {H H':Heap} {w:World} {E g:Tr AV} {a:Act},Rel f C H w→ER n C E a.tmps→(bh P n ops l).run c E H=.ok g H' →
  ∃m w' p,C.le m∧Rel f m H' w'∧ER n m g p.tmps∧p.defers=a.defers ∧
   Steps P (lone (b.atR a (.inRegion ops (List.range' i l.length)::k)) cs w) (lone (b.atR p (.inRegion ops []::k)) cs w')
 |[],i,d,f,C,H,H',w,E,g,a,q,j,h=>by
  cases h;exact⟨C,w,a,CM.le_refl C,q,j,rfl,.refl _ _⟩
 |o::l,i,d,f,C,H,H',w,E,g,a,q,j,h=>by
  have hi:i<ops.toList.length:=by
   rcases C7 i ops.toList.length with r|r
   ·exact r
   ·rw[List.drop_eq_nil_of_le r] at d;cases d
  rw[B9 hi] at d;injection d with ho d
  have s:ops[i]?=some o:=by rw[←ho];simp at hi ⊢
  unfold bh at h;dsimp only at h;cases y:(Js P n ops o).run c E H with
  |no=>rw[y] at h;cases h
  |ok E1 H1 =>
   rw[y] at h;dsimp only at h;obtain⟨S,T,x,U,A,B,D,F,G,I⟩:=zi1 z s q j y b (List.range' (i+1) l.length) k cs;subst F;obtain⟨J,K,L,M,N,O,Q,R⟩:=zo1 z b k cs l (i+1) d (a:=a.put o.dst x) B ((j.mono A).put G D) h;refine⟨J,K,L,CM.le_trans A M,N,O,?_,?_⟩
   ·rw[Q];cases o.dst<;>rfl
   ·rw[show (o::l).length=l.length+1 from rfl,List.range'_succ];exact Steps.trans I R
end Go.Sv
namespace Go.Sv
def Kw (a:List Nat)(E' E:Tr AV):Prop:=∀t∈a,t≤I6→Fk (F7 t) E'=Fk (F7 t) E
def Wo {x:Operand}{E E':Tr AV}(h:Kw (ny [x]) E' E):(F8 x).run E'=(F8 x).run E:=by
 cases x with
 |tmp t =>
  unfold F8;dsimp only;split
  ·rename_i hle;dsimp only;rw[h t (by simp[ny]) (As hle)]
  ·rfl
 |const v=>unfold F8;dsimp only;split<;>rfl
 |func f=>rfl
 |global g=>rfl
def Kw.opds:∀{l:List Operand} {E E':Tr AV},Kw (ny l) E' E→∀x∈l,(F8 x).run E'=(F8 x).run E
 |[],_,_,_,x,hx=>by cases hx
 |y::l,E,E',h,x,hx=>by
  rcases An.1 hx with rfl|hx
  ·refine Wo (fun t ht=>h t ?_);cases x<;>simp_all [ny]
  ·refine Kw.opds (l:=l) (fun t ht=>h t ?_) x hx;cases y<;>simp_all [ny]
section cong
variable {E E' : Tr AV} {H : Heap}
def opds_cong:∀{l:List Operand},(∀x∈l,(F8 x).run E'=(F8 x).run E)→(opds l).run E'=(opds l).run E
 |[],_=>rfl
 |x::l,h=>by
  simp only[opds];rw[h x (by simp),opds_cong (fun y a=>h y (by simp[a]))]
def Ng {x:Operand}{f:Heap→AV→OR}(h:(F8 x).run E'=(F8 x).run E):(I5 x f).run E' H=(I5 x f).run E H:=by
 simp only[I5];rw[h]
def Tb {x y:Operand}{f:Heap→AV→AV→OR}(h:(F8 x).run E'=(F8 x).run E)(k:(F8 y).run E'=(F8 y).run E):(Mp x y f).run E' H=(Mp x y f).run E H:=by
 simp only[Mp];rw[h,k]
def zk5 {x:Option Operand}(h:∀y,x=some y→(F8 y).run E'=(F8 y).run E):(I7 x).run E'=(I7 x).run E:=by
 cases x with
 |none=>rfl
 |some y=>simp only[I7];rw[h y rfl]
def fillA_cong:∀{a:List Part} {cs:List AV},(∀p∈a,p.v.run E'=p.v.run E)→Xs cs a E'=Xs cs a E
 |[],_,_=>rfl
 |p::a,cs,h=>by
  simp only[Xs];rw[h p (by simp)];split
  ·rfl
  ·split
   ·rfl
   ·split
    ·split
     ·exact fillA_cong (fun q d=>h q (by simp[d]))
     ·rfl
    ·rfl
def z8k {place:Nat→Option (Nat×Nat)}:∀{l:List (Nat×Operand)} {d:List Part},ae place l=some d→(∀x∈l.map (·.2),(F8 x).run E'=(F8 x).run E)→∀p∈d,p.v.run E'=p.v.run E
 |[],d,h,_,p,a=>by cases h;cases a
 |(i,x)::l,d,h,f,p,a=>by
  simp only[ae] at h;split at h
  ·cases h
  ·split at h
   ·cases h
   ·rename_i r j;cases h;rcases An.1 a with rfl|a
    ·exact f x (by simp)
    ·exact z8k j (fun y g=>f y (by simp at g ⊢;exact .inr g)) p a
end cong
def zvb {P:Program}{c:Call}{E E':Tr AV}{H:Heap}(h:∀x∈c.operands.toList,(F8 x).run E'=(F8 x).run E):(Zj P c).run E' H=(Zj P c).run E H:=by
 have a:∀x∈c.args.toList,(F8 x).run E'=(F8 x).run E:=fun x g=>h x (by simp[Call.operands] at g ⊢;exact .inr g)
 unfold Zj;split
 ·split
  ·split
   ·rename_i q;rw[q] at a;unfold Ov;split<;>first|rfl|exact Ng (a _ (by simp))
   ·rfl
  ·split
   ·rename_i q;rw[q] at a;unfold Qy;split<;>first|rfl|exact Ng (a _ (by simp))
   ·rfl
  ·simp only[Nf];rw[opds_cong a]
  ·simp only[Nf];rw[opds_cong a]
  ·unfold zjm;split
   ·rename_i q;rw[q] at a;split
    ·unfold zmp;split
     ·split
      ·exact Tb (a _ (by simp)) (a _ (by simp))
      ·rfl
     ·rfl
    ·unfold ql;split
     ·split
      ·exact Tb (a _ (by simp)) (a _ (by simp))
      ·rfl
     ·rfl
    ·unfold ql;split
     ·split
      ·exact Tb (a _ (by simp)) (a _ (by simp))
      ·rfl
     ·rfl
    ·rfl
   ·rfl
  ·unfold zyr;split
   ·rename_i q;rw[q] at a;split
    ·split
     ·rfl
     ·split
      ·exact Tb (a _ (by simp)) (a _ (by simp))
      ·rfl
    ·rfl
   ·rfl
  ·unfold zps;split
   ·rename_i q;rw[q] at a;split
    ·split
     ·split
      ·exact Ng (a _ (by simp))
      ·rfl
     ·rfl
    ·rfl
   ·rfl
  ·unfold zjl;split
   ·rename_i q;rw[q] at a;split
    ·split
     ·exact Tb (a _ (by simp)) (a _ (by simp))
     ·rfl
    ·rfl
   ·rfl
  ·rfl
 ·rename_i f q;have d:(F8 f).run E'=(F8 f).run E:=h f (by simp[Call.operands,q]);dsimp only;rw[d,opds_cong a]
 ·rename_i r j q;have d:(F8 r).run E'=(F8 r).run E:=h r (by simp[Call.operands,q]);dsimp only;rw[d,opds_cong a]
def zjq {P:Program}{o:Op}{E E':Tr AV}{H:Heap}(h:∀x∈o.operands.toList,(F8 x).run E'=(F8 x).run E):(Gw P o).run E' H=(Gw P o).run E H:=by
 unfold Gw;split
 ·exact Ng (h _ (by simp[Op.operands]))
 ·exact Ng (h _ (by simp[Op.operands]))
 ·rename_i c a b;dsimp only;rw[h c (by simp[Op.operands]),h a (by simp[Op.operands]),h b (by simp[Op.operands])]
 ·split<;>rfl
 ·exact Ng (h _ (by simp[Op.operands]))
 ·rename_i t parts;have g:∀x∈parts.toList.map (·.2),(F8 x).run E'=(F8 x).run E:=fun x d=>h x (by simpa [Op.operands] using d)
  unfold yd;split
  ·rfl
  ·split
   ·split
    ·rfl
    ·split
     ·rfl
     ·rename_i q;dsimp only;rw[fillA_cong (z8k q g)]
   ·split
    ·rfl
    ·split
     ·rfl
     ·rename_i q;dsimp only;rw[fillA_cong (z8k q g)]
   ·rfl
 ·rename_i t len parts;have g:∀x∈parts.toList.map (·.2),(F8 x).run E'=(F8 x).run E:=fun x d=>h x (by simpa [Op.operands] using d)
  unfold m9;split
  ·split
   ·rfl
   ·split
    ·rfl
    ·split
     ·split
      ·rfl
      ·rename_i q;dsimp only;rw[fillA_cong (z8k q g)]
     ·rfl
  ·rfl
 ·unfold ux;split<;>first|rfl|exact Ng (h _ (by simp[Op.operands]))
 ·unfold zqu;split<;>first|rfl|exact Tb (h _ (by simp[Op.operands])) (h _ (by simp[Op.operands]))
 ·exact Ng (h _ (by simp[Op.operands]))
 ·exact Tb (h _ (by simp[Op.operands])) (h _ (by simp[Op.operands]))
 ·exact Ng (h _ (by simp[Op.operands]))
 ·unfold P8;split
  ·exact Ng (h _ (by simp[Op.operands]))
  ·split<;>first|rfl|exact Ng (h _ (by simp[Op.operands]))
  ·exact Ng (h _ (by simp[Op.operands]))
  ·split<;>first|rfl|exact Ng (h _ (by simp[Op.operands]))
  ·rfl
 ·unfold xq;split<;>first|rfl|exact Ng (h _ (by simp[Op.operands]))
 ·rename_i f first cap
  split
  ·rfl
  ·simp only[xp];rw[opds_cong (l:=first.toList) (fun x d=>h x (by simp[Op.operands] at d ⊢;exact .inl d)),opds_cong (l:=cap.toList) (fun x d=>h x (by simp[Op.operands] at d ⊢;exact .inr d))]
 ·unfold nq;split
  ·rfl
  ·split<;>first|rfl|exact Ng (h _ (by simp[Op.operands]))
 ·unfold nf;split
  ·split
   ·rfl
   ·split
    ·rfl
    ·split
     ·exact Tb (h _ (by simp[Op.operands])) (h _ (by simp[Op.operands]))
     ·rfl
  ·rfl
 ·rename_i t x lo hi mx;have j:=h x (by simp[Op.operands]);have p:(I7 lo).run E'=(I7 lo).run E:=zk5 (fun y e=>h y (by simp[Op.operands,e]));have r:(I7 hi).run E'=(I7 hi).run E:=zk5 (fun y e=>h y (by simp[Op.operands,e]));have s:(I7 mx).run E'=(I7 mx).run E:=zk5 (fun y e=>h y (by simp[Op.operands,e]));unfold fk;split
  ·split
   ·rfl
   ·dsimp only;rw[j,p,r]
  ·split
   ·rfl
   ·split
    ·rfl
    ·dsimp only;rw[j,p,r,s]
  ·split
   ·rfl
   ·split
    ·rfl
    ·dsimp only;rw[j,p,r,s]
  ·rfl
 ·unfold u7;split
  ·split
   ·rfl
   ·split<;>first|rfl|exact Ng (h _ (by simp[Op.operands]))
  ·rfl
 ·unfold xl;split
  ·split
   ·rfl
   ·split<;>first|rfl|exact Ng (h _ (by simp[Op.operands]))
  ·rfl
 ·unfold ul;split
  ·split
   ·rfl
   ·exact Tb (h _ (by simp[Op.operands])) (h _ (by simp[Op.operands]))
  ·split
   ·rfl
   ·exact Tb (h _ (by simp[Op.operands])) (h _ (by simp[Op.operands]))
  ·rfl
 ·unfold wg;split
  ·exact Tb (h _ (by simp[Op.operands])) (h _ (by simp[Op.operands]))
  ·split
   ·exact Tb (h _ (by simp[Op.operands])) (h _ (by simp[Op.operands]))
   ·rfl
  ·rfl
 ·unfold yq;split
  ·split
   ·exact Tb (h _ (by simp[Op.operands])) (h _ (by simp[Op.operands]))
   ·rfl
  ·rfl
 ·rename_i t m k x;unfold uo;split
  ·split
   ·dsimp only;rw[h m (by simp[Op.operands]),h k (by simp[Op.operands]),h x (by simp[Op.operands])]
   ·rfl
  ·rfl
 ·rename_i t m k x;unfold uo;split
  ·split
   ·dsimp only;rw[h m (by simp[Op.operands]),h k (by simp[Op.operands]),h x (by simp[Op.operands])]
   ·rfl
  ·rfl
 ·unfold rangeF;split<;>first|rfl|exact Ng (h _ (by simp[Op.operands]))
 ·unfold Px;split<;>first|rfl|exact Ng (h _ (by simp[Op.operands]))
 ·unfold vt;split
  ·rfl
  ·split
   ·rfl
   ·exact Ng (h _ (by simp[Op.operands]))
  ·rfl
 ·exact Ng (h _ (by simp[Op.operands]))
 ·exact zvb (fun x d=>h x (by simpa [Op.operands] using d))
 ·rfl
def oy {ops:Array Oper}{o:Oper}{E E':Tr AV}(h:Kw (N6 ops o) E' E):(Lq ops o).run E'=(Lq ops o).run E:=by
 unfold Lq;split
 ·rfl
 ·rename_i j want a;split
  ·rfl
  ·rename_i d hd;split
   ·rename_i hle;dsimp only;rw[h d (by simp[N6,a,hd]) hle]
   ·rfl
end Go.Sv
namespace Go.Sv
inductive QR (H H2:Heap):OR→OR→Prop where
 |no:QR H H2 .no .no
 |val (v:AV):QR H H2 (.val v H) (.val v H2)
def Mh (F:OpF):Prop:=∀E H a,QR H a (F.run E H) (F.run E a)
inductive RR (H:Heap):OR→Prop where
 |no:RR H .no
 |val (v:AV):RR H (.val v H)
def R5 (F:OpF):Prop:=∀E H,RR H (F.run E H)
def Mh.reads {F:OpF}(h:Mh F):R5 F:=fun E H=>by
 have:=h E H H;generalize F.run E H=r at this;cases this with
 |no=>exact .no
 |val v=>exact .val v
def quiet_stuck:Mh Gp:=fun _ _ _=>.no
def reads_stuck:R5 Gp:=fun _ _=>.no
def QR.ret1 {H H2:Heap}(o:Option AV):QR H H2 (ret1 H o) (Sv.ret1 H2 o):=by cases o<;>constructor
def RR.ret1 {H:Heap}(o:Option AV):RR H (Sv.ret1 H o):=by cases o<;>constructor
def Q7 {x:Operand}{f:Heap→AV→OR}(h:∀a H d,QR H d (f H a) (f d a)):Mh (I5 x f):=fun E H d=>by
 simp only[I5];cases (F8 x).run E with
 |none=>exact .no
 |some a=>exact h a H d
def z6b {x y:Operand}{f:Heap→AV→AV→OR}(h:∀a b H d,QR H d (f H a b) (f d a b)):Mh (Mp x y f):=fun E H d=>by
 simp only[Mp];cases (F8 x).run E with
 |none=>exact .no
 |some a =>
  cases (F8 y).run E with
  |none=>exact .no
  |some b=>exact h a b H d
def zy {x:Operand}{f:Heap→AV→OR}(h:∀a H,RR H (f H a)):R5 (I5 x f):=fun E H=>by
 simp only[I5];cases (F8 x).run E with
 |none=>exact .no
 |some a=>exact h a H
def zq6 {x y:Operand}{f:Heap→AV→AV→OR}(h:∀a b H,RR H (f H a b)):R5 (Mp x y f):=fun E H=>by
 simp only[Mp];cases (F8 x).run E with
 |none=>exact .no
 |some a =>
  cases (F8 y).run E with
  |none=>exact .no
  |some b=>exact h a b H
def zro (P:Program)(t:TypeId)(parts:Array (Nat×Operand)):Mh (yd P t parts):=by
 unfold yd;split
 ·exact quiet_stuck
 ·split
  ·split
   ·exact quiet_stuck
   ·split
    ·exact quiet_stuck
    ·intro E H a;dsimp only;split
     ·exact .val _
     ·exact .no
  ·split
   ·exact quiet_stuck
   ·split
    ·exact quiet_stuck
    ·intro E H a;dsimp only;split
     ·exact .val _
     ·exact .no
  ·exact quiet_stuck
def zkr (H d:Heap)(a:AV):QR H d (ur H a) (ur d a):=by
 unfold ur;split<;>constructor
def zm0 (P:Program)(t:TypeId)(x:Operand):Mh (xq P t x):=by
 unfold xq;split
 ·exact quiet_stuck
 ·exact Q7 fun a H d=>.val _
 ·exact quiet_stuck
def zoq (f:Fn)(x y:Array Operand):Mh (xp f x y):=fun E H a=>by
 simp only[xp];split
 ·split<;>constructor
 ·exact .no
def zjd (P:Program)(s:TypeId)(x:Operand)(f:Nat):Mh (u7 P s x f):=by
 unfold u7;split
 ·split
  ·exact quiet_stuck
  ·split
   ·exact quiet_stuck
   ·exact quiet_stuck
   ·exact Q7 fun a H d=>by split<;>constructor
 ·exact quiet_stuck
def zsa (P:Program)(s:TypeId)(x:Operand)(f:Nat):Mh (xl P s x f):=by
 unfold xl;split
 ·split
  ·exact quiet_stuck
  ·split
   ·exact Q7 fun a H d=>by
     split
     ·exact .ret1 _
     ·exact .no
   ·exact quiet_stuck
 ·exact quiet_stuck
def zjz (P:Program)(t:TypeId)(x ix:Operand):Mh (ul P t x ix):=by
 unfold ul;split
 ·split
  ·exact quiet_stuck
  ·refine z6b fun a b H d=>?_
   split
   ·rename_i len esz _ _ n;cases Nat.blt n len
    ·exact .no
    ·dsimp only;split<;>constructor
   ·exact .no
 ·split
  ·exact quiet_stuck
  ·refine z6b fun a b H d=>?_
   split
   ·split<;>constructor
   ·exact .no
 ·exact quiet_stuck
def zsl (P:Program)(t:TypeId)(x ix:Operand):Mh (wg P t x ix):=by
 unfold wg;split
 ·refine z6b fun a b H d=>?_
  split
  ·split<;>constructor
  ·exact .no
 ·split
  ·refine z6b fun a b H d=>?_
   split
   ·split
    ·exact .ret1 _
    ·exact .no
   ·exact .no
  ·exact quiet_stuck
 ·exact quiet_stuck
def zqo (P:Program)(x:Operand)(t:TypeId)(ok:Bool):Mh (vt P x t ok):=by
 unfold vt;split
 ·exact quiet_stuck
 ·split
  ·exact quiet_stuck
  ·refine Q7 fun a H d=>?_
   split
   ·cases ok<;>constructor
   ·split
    ·constructor
    ·cases ok<;>constructor
   ·exact .no
 ·exact quiet_stuck
def znl (x:Operand)(i:Nat):Mh (zhl x i):=Q7 fun a H d=>by
 split
 ·exact .ret1 _
 ·exact .no
def zjs {P:Program}{t:TypeId}{x:Operand}{lo hi mx:Option Operand}(h:znx P t=false):Mh (fk P t x lo hi mx):=by
 unfold fk;split
 ·split
  ·exact quiet_stuck
  ·intro E H a;dsimp only;split
   ·split
    ·split<;>constructor
    ·exact .no
   ·exact .no
 ·split
  ·exact quiet_stuck
  ·split
   ·exact quiet_stuck
   ·intro E H a;dsimp only;split
    ·exact .ret1 _
    ·split<;>constructor
    ·split<;>constructor
    ·exact .no
 ·rename_i q;simp[znx,q] at h
 ·exact quiet_stuck
def zrc (P:Program)(t:TypeId)(x:Operand)(lo hi mx:Option Operand):R5 (fk P t x lo hi mx):=by
 cases a:znx P t
 ·exact (zjs a).reads
 ·unfold znx at a;unfold fk;split at a
  ·rename_i q;rw[q];dsimp only;split
   ·exact reads_stuck
   ·split
    ·exact reads_stuck
    ·intro E H;dsimp only;split
     ·split
      ·split
       ·split
        ·exact .ret1 _
        ·exact .no
       ·exact .no
      ·exact .no
     ·exact .no
  ·cases a
def zv3 {P:Program}{s d:TypeId}{x:Operand}(hd:qi P d=false)(f:qi P s=false):Mh (P8 P s d x):=by
 unfold P8;split
 ·exact Q7 fun a H g=>by split<;>constructor
 ·rename_i q _;simp[qi,q] at f
 ·exact Q7 fun a H g=>by split<;>constructor
 ·rename_i q;simp[qi,q] at hd
 ·exact quiet_stuck
def zw1 {P:Program}{s d:TypeId}{x:Operand}(hd:qi P d=false):R5 (P8 P s d x):=by
 unfold P8;split
 ·exact zy fun a H=>by split<;>constructor
 ·split
  ·refine zy fun a H=>?_
   split
   ·exact .val _
   ·split
    ·split<;>constructor
    ·exact .no
   ·exact .no
  ·exact reads_stuck
 ·exact zy fun a H=>by split<;>constructor
 ·rename_i q;simp[qi,q] at hd
 ·exact reads_stuck
def zwl (P:Program)(t:TypeId)(x:Operand):R5 (ux P t x):=by
 unfold ux;split
 ·exact zy fun a H=>by
   split
   ·split<;>constructor
   ·exact .no
 ·exact zy fun a H=>by
   split
   ·split<;>constructor
   ·exact .no
 ·exact reads_stuck
def zq7 (P:Program)(t:TypeId)(x ix:Operand)(ok:Bool):R5 (yq P t x ix ok):=by
 unfold yq;split
 ·split
  ·refine zq6 fun a b H=>?_
   split
   ·exact .no
   ·split<;>constructor
  ·exact reads_stuck
 ·exact reads_stuck
def zow {P:Program}{t:TypeId}{x:Operand}(h:zno P t=false):Mh (Ov P t x):=by
 unfold Ov;split
 ·exact Q7 fun a H d=>by split<;>constructor
 ·exact Q7 fun a H d=>by split<;>constructor
 ·rename_i q;simp[zno,q] at h
 ·exact Q7 fun a H d=>.val _
 ·exact quiet_stuck
def zxt (P:Program)(t:TypeId)(x:Operand):R5 (Ov P t x):=by
 cases d:zno P t
 ·exact (zow d).reads
 ·unfold zno at d;unfold Ov;split at d
  ·rename_i q;rw[q];refine zy fun a H=>?_
   split
   ·exact .val _
   ·split<;>constructor
   ·exact .no
  ·cases d
def zzq (P:Program)(t:TypeId)(x:Operand):Mh (Qy P t x):=by
 unfold Qy;split
 ·exact Q7 fun a H d=>by split<;>constructor
 ·exact quiet_stuck
def znw (mx:Bool)(l:List Operand):Mh (Nf mx l):=fun E H a=>by
 simp only[Nf];split
 ·exact .ret1 _
 ·exact .no
def zoh {P:Program}{c:Call}:(y8 P c=.quiet→Mh (Zj P c))∧(y8 P c=.rd→R5 (Zj P c)):=by
 unfold y8 Zj;split
 ·rename_i q;rw[q];dsimp only;split
  ·rename_i t a;rw[a];split
   ·rename_i hm;exact⟨fun h=>(by cases h),fun _=>by
     split
     ·exact zxt _ _ _
     ·exact reads_stuck⟩
   ·rename_i hm;refine⟨fun _=>?_,fun h=>by cases h⟩;split
    ·rename_i e _ ;cases e;exact zow (by simpa using hm)
    ·exact quiet_stuck
  ·exact⟨fun h=>(by cases h),fun h=>by cases h⟩
 ·rename_i q;rw[q];refine⟨fun _=>?_,fun h=>by cases h⟩;dsimp only;split
  ·exact zzq _ _ _
  ·exact quiet_stuck
 ·rename_i q;rw[q];exact⟨fun _=>znw _ _,fun h=>by cases h⟩
 ·rename_i q;rw[q];exact⟨fun _=>znw _ _,fun h=>by cases h⟩
 ·exact⟨fun h=>(by cases h),fun h=>by cases h⟩
def zcf {P:Program}{o:Op}:(cls P o=.quiet→Mh (Gw P o))∧(cls P o=.rd→R5 (Gw P o)):=by
 unfold cls;split
 ·exact⟨fun _=>Q7 fun a H d=>.val _,fun h=>by cases h⟩
 ·exact⟨fun _=>Q7 fun a H d=>.val _,fun h=>by cases h⟩
 ·refine⟨fun _ E H d=>?_,fun h=>by cases h⟩;simp only[Gw];split
  ·exact .ret1 _
  ·exact .ret1 _
  ·exact .no
 ·exact⟨fun _=>zro _ _ _,fun h=>by cases h⟩
 ·exact⟨fun _=>Q7 fun a H d=>zkr _ _ _,fun h=>by cases h⟩
 ·exact⟨fun _=>z6b fun a b H d=>.ret1 _,fun h=>by cases h⟩
 ·exact⟨fun _=>Q7 fun a H d=>.ret1 _,fun h=>by cases h⟩
 ·exact⟨fun _=>zm0 _ _ _,fun h=>by cases h⟩
 ·rename_i f x y;refine⟨fun _=>?_,fun h=>by cases h⟩;simp only[Gw];split
  ·exact quiet_stuck
  ·exact zoq _ _ _
 ·exact⟨fun _=>zjd _ _ _ _,fun h=>by cases h⟩
 ·exact⟨fun _=>zsa _ _ _ _,fun h=>by cases h⟩
 ·exact⟨fun _=>zjz _ _ _ _,fun h=>by cases h⟩
 ·exact⟨fun _=>zsl _ _ _ _,fun h=>by cases h⟩
 ·exact⟨fun _=>zqo _ _ _ _,fun h=>by cases h⟩
 ·exact⟨fun _=>znl _ _,fun h=>by cases h⟩
 ·split
  ·exact⟨fun h=>(by cases h),fun _=>zrc _ _ _ _ _ _⟩
  ·rename_i h;exact⟨fun _=>zjs (by simpa using h),fun h=>by cases h⟩
 ·split
  ·exact⟨fun h=>(by cases h),fun h=>by cases h⟩
  ·rename_i hd;split
   ·exact⟨fun h=>(by cases h),fun _=>zw1 (by simpa using hd)⟩
   ·rename_i g;exact⟨fun _=>zv3 (by simpa using hd) (by simpa using g),fun h=>by cases h⟩
 ·exact⟨fun h=>(by cases h),fun _=>zwl _ _ _⟩
 ·exact⟨fun h=>(by cases h),fun _=>zq7 _ _ _ _ _⟩
 ·exact zoh
 all_goals exact⟨fun h=>(by cases h),fun h=>by cases h⟩
def z61 {P:Program}{n:Nat}{ops:Array Oper}{o:Oper}{k:J2}{E E1:Tr AV}{H H1:Heap}(h:(Js P n ops o).run k E H=.ok E1 H1) :
  ∃v,E1=H9 o.dst v E∧(∀d,o.dst=some d→d<n)∧∀f,Kw (N6 ops o) f E→(Js P n ops o).run k f H=.ok (H9 o.dst v f) H1:=by
 unfold Js at h ⊢;cases r:Jv n o.dst with
 |none=>rw[r] at h;cases h
 |some p =>
  rw[r] at h;dsimp only at h ⊢;obtain⟨a,j⟩:=zbh r;have l:∀f,Kw (N6 ops o) f E→(Gw P o.op).run f H=(Gw P o.op).run E H:=fun f g =>
   zjq (Kw.opds (fun t w=>g t (by simp[N6,w])))
  cases m:(Lq ops o).run E with
  |false =>
   rw[m] at h;cases h;refine⟨Km,a _ _,j,fun f g=>?_⟩;rw[oy g,m];dsimp only;rw[a]
  |true =>
   rw[m] at h;dsimp only at h;cases q:(Gw P o.op).run E H with
   |no=>rw[q] at h;cases h
   |val v x =>
    rw[q] at h;cases h;refine⟨v,a _ _,j,fun f g=>?_⟩;rw[oy g,m,l f g,q];dsimp only;rw[a]
   |call t args =>
    rw[q] at h;dsimp only at h;cases s:k t args H with
    |no=>rw[s] at h;cases h
    |ok v x =>
     rw[s] at h;cases h;refine⟨v,a _ _,j,fun f g=>?_⟩;rw[oy g,m,l f g,q];dsimp only;rw[s];dsimp only;rw[a]
def z5y {P:Program}{n:Nat}{ops:Array Oper}{o:Oper}{k:J2}{E E1:Tr AV}{H H1:Heap}(g:R5 (Gw P o.op))(h:(Js P n ops o).run k E H=.ok E1 H1):H1=H:=by
 unfold Js at h;cases a:Jv n o.dst with
 |none=>rw[a] at h;cases h
 |some p =>
  rw[a] at h;dsimp only at h;cases d:(Lq ops o).run E with
  |false=>rw[d] at h;cases h;rfl
  |true =>
   rw[d] at h;dsimp only at h;have f:=g E H;generalize (Gw P o.op).run E H=r at h f;cases f with
   |no=>cases h
   |val v=>cases h;rfl
def zkw {P:Program}{n:Nat}{ops:Array Oper}{o:Oper}{k:J2}{E E1:Tr AV}{H H1:Heap}(j:Mh (Gw P o.op))(h:(Js P n ops o).run k E H=.ok E1 H1)(a:Heap) :
  (Js P n ops o).run k E a=.ok E1 a:=by
 unfold Js at h ⊢;cases f:Jv n o.dst with
 |none=>rw[f] at h;cases h
 |some p =>
  rw[f] at h;dsimp only at h ⊢;cases g:(Lq ops o).run E with
  |false=>rw[g] at h;cases h;rfl
  |true =>
   rw[g] at h;dsimp only at h ⊢;have d:=j E H a;generalize (Gw P o.op).run E H=r at h d;generalize (Gw P o.op).run E a=l at d ⊢;cases d with
   |no=>cases h
   |val v=>cases h;rfl
end Go.Sv
