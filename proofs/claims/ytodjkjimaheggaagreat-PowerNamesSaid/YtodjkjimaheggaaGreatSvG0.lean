/- Texts of the evaluator, of the logic over it, of plain arithmetic. -/
import Derived.AtR
import Derived.Laws.Sem
import Derived.Laws.World
import Derived.KernelRfl
import Derived.Below
import Derived.Laws.Strings
import Derived.Laws.StructEq
import Derived.Lib.Strings
import Derived.Lib.ConvBytes
import Derived.Laws.BytesArg
import Derived.Laws.RangeString
import Derived.MapKept
import Derived.Laws.Append
import Derived.Laws.AppendOwn
import Derived.Laws.Externs
import Derived.RangeFuncIn
import Derived.RangeFuncRecord
set_option linter.unusedSimpArgs false
set_option linter.defProp false
noncomputable section
namespace Go.Sv
abbrev Aa:=@List.getElem?_eq_some_iff
abbrev Ab:=@if_neg
abbrev Ac:=@Bool.and_eq_true
abbrev Ad:=@List.getElem?_set_ne
abbrev Ae:=@List.getD_eq_getElem?_getD
abbrev Af:=@Int.eq_ofNat_of_zero_le
abbrev Ag:=@List.getElem?_set_self
abbrev Ah:=@List.getElem?_eq_getElem
abbrev Ai:=@if_pos
abbrev Aj:=@List.length_append
abbrev Ak:=@Nat.ble_eq_true_of_le
abbrev Al:=@Nat.eq_of_beq_eq_true
abbrev Am:=@Nat.le_refl
abbrev An:=@List.mem_cons
abbrev Ao:=@decide_eq_true_eq
abbrev Aq:=@List.getElem?_append_left
abbrev Ar:=@List.length_cons
abbrev As:=@Nat.le_of_ble_eq_true
abbrev At:=@Nat.mul_le_mul_right
abbrev Au:=@List.getElem?_append_right
abbrev Av:=@List.getElem?_cons_succ
abbrev Aw:=@List.getElem?_concat_length
abbrev Ax:=@List.take_of_length_le
abbrev Ay:=@List.mem_append
abbrev Az:=@List.mem_cons_of_mem
abbrev A0:=@List.eq_nil_of_length_eq_zero
abbrev A6:=@List.getElem?_cons_zero
abbrev A7:=@List.mem_of_getElem?
abbrev A8:=@Int.ofNat_eq_natCast
abbrev A9:=@Int.toNat_natCast
abbrev Ba:=@List.mem_append_right
abbrev Bb:=@Nat.add_mul
abbrev Bc:=@List.length_nil
abbrev Bd:=@Nat.zero_add
abbrev Be:=@Nat.mod_eq_of_lt
abbrev Bg:=@Nat.lt_of_lt_of_le
abbrev Bh:=@Nat.pow_succ
abbrev Bi:=@List.cons_append
abbrev Bj:=@Nat.beq_refl
abbrev Bk:=@Array.getD_eq_getD_getElem?
abbrev Bl:=@decide_eq_false_iff_not
abbrev Bm:=@Bool.or_eq_true
abbrev Bn:=@UInt64.toNat_inj
abbrev Bo:=@Nat.le_trans
abbrev Bq:=@UInt64.le_iff_toNat_le
abbrev Br:=@List.append_assoc
abbrev Bs:=@Bool.not_eq_true'
abbrev Bt:=@UInt64.toNat_add
abbrev Bu:=@if_true
abbrev Bv:=@List.any_eq_true
abbrev Bx:=@List.append_nil
abbrev By:=@UInt64.toNat_ofNat'
abbrev Bz:=@Nat.mul_comm
abbrev B0:=@List.map_set
abbrev B1:=@Nat.mul_mod
abbrev B2:=@Nat.lt_succ_self
abbrev B3:=@Bool.eq_iff_iff
abbrev B4:=@decide_eq_true
abbrev B5:=@List.mem_cons_self
abbrev B6:=@Int.natCast_nonneg
abbrev B7:=@List.getElem?_toArray
abbrev B8:=@List.drop_eq_getElem_cons
abbrev B9:=@Option.getD_some
abbrev Ca:=@Nat.mul_le_mul
abbrev Cb:=@List.all_eq_true
abbrev Cc:=@List.getElem?_map
abbrev Cd:=@Array.getElem?_eq_getElem
abbrev Ce:=@List.length_set
abbrev Cg:=@List.set_eq_take_append_cons_drop
abbrev Ch:=@List.getElem?_take_of_lt
abbrev Ci:=@Array.toList_map
abbrev Cj:=@List.take_succ_eq_append_getElem
abbrev Ck:=@Option.map_some
abbrev Cl:=@UInt64.lt_iff_toNat_lt
abbrev Cm:=@Nat.one_mul
abbrev Cn:=@Int.emod_eq_of_lt
abbrev Co:=@List.mem_iff_getElem?
abbrev Cp:=@List.mem_range
abbrev Cq:=@List.mem_iff_getElem
abbrev Cr:=@List.length_take
abbrev Cs:=@Nat.add_assoc
abbrev Ct:=@List.all_cons
abbrev Cu:=@List.drop_of_length_le
abbrev Cv:=@Nat.min_eq_left
abbrev Cw:=@Nat.le_max_left
abbrev Cy:=@List.not_mem_nil
abbrev Cz:=@Bool.false_eq_true
abbrev C3:=@Array.eq_empty_of_size_eq_zero
abbrev C4:=@Nat.lt_or_ge
abbrev C5:=@Nat.add_zero
abbrev C6:=@List.map_cons
abbrev C7:=@List.drop_zero
abbrev C8:=@of_decide_eq_true
abbrev C9:=@Array.size_append
abbrev Da:=@List.take_left'
abbrev Db:=@List.replicate_succ
abbrev Dc:=@Nat.zero_mul
abbrev Dd:=@Nat.zero_le
abbrev De:=@Nat.mul_one
abbrev Df:=@Nat.mod_lt
abbrev Dg:=@Array.getElem?_append_left
abbrev Dh:=@List.getElem?_eq_none
abbrev Di:=@Nat.le_of_eq
abbrev Dk:=@List.mem_append_left
abbrev Dl:=@Nat.le_max_right
abbrev Dm:=@BitVec.toNat_ofNat
abbrev Dp:=@if_false
abbrev Dq:=@Nat.mul_assoc
abbrev Dr:=@List.set_append_right
abbrev Ds:=@List.flatMap_cons
abbrev Dt:=@true_and
abbrev Du:=@beq_iff_eq
abbrev Dv:=@UInt64.toNat_sub
abbrev Dw:=@List.getElem_mem
abbrev Dx:=@Array.toList_append
abbrev Dy:=@decide_eq_false
abbrev Dz:=@Nat.two_pow_pos
abbrev D0:=@List.nil_append
abbrev D3:=@List.map_append
abbrev D4:=@Nat.pow_add
abbrev D5:=@Nat.succ_mul
abbrev D6:=@Nat.le_mul_of_pos_left
abbrev D7:=@List.any_eq_false
abbrev D8:=@Array.getElem?_eq_none
abbrev D9:=@List.replicate_append_replicate
abbrev Ea:=@UInt64.toNat_mul
abbrev Ec:=@Array.toList_inj
abbrev Ed:=@Bool.true_and
abbrev Ee:=@Nat.pow_le_pow_right
abbrev Eg:=@Nat.le_succ
abbrev Eh:=@List.take_append_of_le_length
abbrev Ei:=@Nat.not_lt_zero
abbrev Ej:=@Nat.sub_self
abbrev Ek:=@Nat.le_of_lt
abbrev El:=@List.mem_map
abbrev Em:=@or_false
abbrev En:=@Nat.le_of_mul_le_mul_right
abbrev Eo:=@List.take_zero
abbrev Ep:=@List.take_take
abbrev Er:=@List.set_cons_zero
abbrev Es:=@List.getElem?_drop
abbrev Et:=@List.getElem?_set
abbrev Eu:=@List.all_eq_false
inductive Tr (α:Type) where
 |e
 |n (v:Option α) (l r:Tr α)
structure GetF (α:Type) where run:Tr α→Option α
structure SetF (α:Type) where run:α→Tr α→Tr α
def ni {α:Type}:List Bool→GetF α
 |[]=>⟨fun t=>Tr.rec none (fun v _ _ _ _=>v) t⟩
 |b::p=>match b with
  |true=>⟨fun t=>Tr.rec none (fun _ l _ _ _=>(ni p).run l) t⟩
  |false=>⟨fun t=>Tr.rec none (fun _ _ r _ _=>(ni p).run r) t⟩
def Uc {α:Type}:List Bool→SetF α
 |[]=>⟨fun a t=>Tr.rec (.n (some a) .e .e) (fun _ l r _ _=>.n (some a) l r) t⟩
 |b::p=>match b with
  |true=>⟨fun a t=>Tr.rec (.n none ((Uc p).run a .e) .e) (fun v l r _ _=>.n v ((Uc p).run a l) r) t⟩
  |false=>⟨fun a t=>Tr.rec (.n none .e ((Uc p).run a .e)) (fun v l r _ _=>.n v l ((Uc p).run a r)) t⟩
def E3 {α:Type}(p:List Bool)(t:Tr α):Option α:=(ni p).run t
def Hc {α:Type}(a:α)(p:List Bool)(t:Tr α):Tr α:=(Uc p).run a t
def ox:Nat→Nat→List Bool
 |0,_=>[]
 |f+1,k=>match k with
  |0=>[]
  |k+1=>Nat.beq (Nat.mod k 2) 0::ox f (Nat.div k 2)
def Fl (k:Nat):List Bool:=ox (Nat.succ k) k
def Io:Nat:=1000000000
def Ju {α:Type}:List α→Nat→Tr α→Tr α
 |[],_,t=>t
 |a::l,i,t=>Ju l (i+1) (Hc a (Fl i) t)
inductive AV where
 |bool (b:Bool)
 |int (k:IntKind) (n:Int)
 |str (len n:Nat)
 |nilPtr
 |ptr (o v i:Nat)
 |nilSl
 |sl (o v i len esz:Nat) (room:Option Nat)
 |emp
 |nilMap
 |map (o:Nat)
 |nilFn
 |fn (f:Fn) (first cap:List AV)
 |nilIf
 |iface (t:TypeId) (v:AV)
 |agg (cs:List AV)
 |tup (vs:List AV)
 deriving Inhabited
def AV.cells:AV→Option (List AV)
 |.agg cs=>some cs
 |.tup _=>none
 |v=>some [v]
def Hh:List UInt8→Nat
 |[]=>0
 |b::l=>b.toNat+256*Hh l
def fo:Value→Option AV
 |.bool b=>some (.bool b)
 |.int k n=>some (.int k n)
 |.string s=>some (.str s.data.toList.length (Hh s.data.toList))
 |.pointer none=>some .nilPtr
 |.slice none 0 0=>some .nilSl
 |.map none=>some .nilMap
 |.nilFunc=>some .nilFn
 |.nilIface=>some .nilIf
 |_=>none
def Mr:List Value→Option (List AV)
 |[]=>some []
 |v::l=>match fo v with
  |none=>none
  |some a=>match Mr l with
   |none=>none
   |some r=>some (a::r)
def P8:Value→Option AV
 |.agg cs=>(Mr cs.toList).map .agg
 |.tuple vs=>if vs.size=0 then some (.tup []) else none
 |v=>fo v
inductive AObj where
 |cells (c:Tr AV) (len ver:Nat) (ro:Bool)
 |map (es:List (AV×AV×Nat)) (clock:Nat)
 |iter (len n pos:Nat)
 |loop (st:LoopState) (pend:Option Code) (f nt:Nat) (env:Tr AV) (ps:Array Tmp) (assign body:Code) (defers:Nat)
 |defd (isOpen:Bool)
structure Heap where
 t:Tr AObj
 next:Nat
def Heap.get (H:Heap)(o:Nat):Option AObj:=E3 (Fl o) H.t
def Heap.put (H:Heap)(o:Nat)(x:AObj):Heap:=⟨Hc x (Fl o) H.t,H.next⟩
def Heap.push (H:Heap)(x:AObj):Heap:=⟨Hc x (Fl H.next) H.t,H.next+1⟩
def Kt (c:Tr AV):Nat→Nat→Option (List AV)
 |_,0=>some []
 |i,n+1=>match E3 (Fl i) c with
  |none=>none
  |some a=>match Kt c (i+1) n with
   |none=>none
   |some l=>some (a::l)
def Jd (H:Heap)(o v i n:Nat):Option (List AV) :=
 match H.get o with
 |some (.cells c len a _)=>match Nat.beq v a with
  |true=>match Nat.ble (Nat.add i n) len with
   |true=>Kt c i n
   |false=>none
  |false=>none
 |_=>none
def Oz (H:Heap)(o v i:Nat)(l:List AV):Option Heap :=
 match H.get o with
 |some (.cells c len a false)=>match Nat.beq v a with
  |true=>match Nat.ble (Nat.add i l.length) len with
   |true=>some (H.put o (.cells (Ju l i c) len a false))
   |false=>none
  |false=>none
 |_=>none
def newObj (H:Heap)(l:List AV):Option (Nat×Heap):=some (H.next,H.push (.cells (Ju l 0 .e) l.length 0 false))
inductive Tgt where
 |fn (f:Nat)
 |yield (l:Nat)
inductive OR where
 |no
 |val (v:AV) (H:Heap)
 |call (t:Tgt) (args:List AV)
structure OpdF where run:Tr AV→Option AV
structure OpF where run:Tr AV→Heap→OR
def J3:AV:=.tup []
def Fq (x:Operand):OpdF :=
 match x with
 |.tmp t=>match Nat.ble t Io with
  |true=>⟨fun E=>Option.rec (some J3) (fun v=>some v) (E3 (Fl t) E)⟩
  |false=>⟨fun _=>none⟩
 |.const v=>match P8 v with
  |some a=>⟨fun _=>some a⟩
  |none=>⟨fun _=>none⟩
 |.func f=>⟨fun _=>some (.fn (.func f) [] [])⟩
 |.global _=>⟨fun _=>none⟩
structure OpdsF where run:Tr AV→Option (List AV)
def opds:List Operand→OpdsF
 |[]=>⟨fun _=>some []⟩
 |x::l=>⟨fun E=>match (Fq x).run E with
  |none=>none
  |some a=>match (opds l).run E with
   |none=>none
   |some r=>some (a::r)⟩
def Gc:OpF:=⟨fun _ _=>.no⟩
def ret1 (H:Heap)(o:Option AV):OR:=match o with
 |some v=>.val v H
 |none=>.no
def Ik (x:Operand)(f:Heap→AV→OR):OpF:=⟨fun E H=>Option.rec .no (fun a=>f H a) ((Fq x).run E)⟩
def Lp (x y:Operand)(f:Heap→AV→AV→OR):OpF:=⟨fun E H=>Option.rec .no (fun a=>Option.rec .no (fun b=>f H a b) ((Fq y).run E)) ((Fq x).run E)⟩
def Hk (P:Program)(t:TypeId):Option Nat:=(P.info? t).map (·.size)
def Lh (P:Program)(t:TypeId):Option Bool:=match P.underlying t with
 |some (.struct _)|some (.array _ _)=>some true
 |some _=>some false
 |none=>none
def K3 (P:Program)(t:TypeId):Option (List AV):=match P.info? t with
 |some i=>match i.zero with
  |some v=>match Mr v.cells.toList with
   |some l=>if l.length=i.size then some l else none
   |none=>none
  |none=>none
 |none=>none
def tj (P:Program)(t:TypeId):Option AV:=match P.info? t with
 |some i=>match i.zero with
  |some v=>P8 v
  |none=>none
 |none=>none
def Qd (H:Heap)(l:List AV):OR:=match newObj H l with
 |some (o,H')=>.val (.ptr o 0 0) H'
 |none=>.no
def Tp:IntKind→Nat
 |.i8=>0 |.i16=>1 |.i32=>2 |.i64=>3 |.u8=>4 |.u16=>5 |.u32=>6 |.u64=>7
def Qj (k k':IntKind):Bool:=Nat.beq (Tp k) (Tp k')
def qj (a b:Int):Bool:=match a,b with
 |.ofNat x,.ofNat y=>Nat.beq x y
 |.negSucc x,.negSucc y=>Nat.beq x y
 |_,_=>false
def je (a b:Int):Bool:=match a,b with
 |.ofNat x,.ofNat y=>Nat.blt x y
 |.negSucc x,.negSucc y=>Nat.blt y x
 |.negSucc _,.ofNat _=>true
 |.ofNat _,.negSucc _=>false
def Qr:IntKind→Nat
 |.i8=>128 |.u8=>128 |.i16=>32768 |.u16=>32768 |.i32=>2147483648 |.u32=>2147483648
 |.i64=>9223372036854775808 |.u64=>9223372036854775808
def Ny (k:IntKind)(n:Int):Int:=match n with
 |.ofNat m=>match Nat.blt m (Qr k) with
  |true=>.ofNat m
  |false=>k.wrap (.ofNat m)
 |.negSucc m=>k.wrap (.negSucc m)
def Nv (k:IntKind):Nat:=Nat.mul 2 (Qr k)
def Tk (f:Nat→Nat→Nat)(k:IntKind)(a b:Int):Option AV:=match a,b with
 |.ofNat x,.ofNat y=>match Nat.blt x (Nv k) with
  |true=>match Nat.blt y (Nv k) with
   |true=>some (.int k (Ny k (.ofNat (f x y))))
   |false=>none
  |false=>none
 |_,_=>none
def Vp (b:Int):Bool:=match b with
 |.ofNat n=>Nat.beq n 0
 |_=>false
def ry (op:BinOp)(k:IntKind)(a b:Int):Option AV :=
 match op with
 |.add=>some (.int k (Ny k (Int.add a b)))
 |.sub=>some (.int k (Ny k (Int.sub a b)))
 |.mul=>some (.int k (Ny k (Int.mul a b)))
 |.quo=>match Vp b with
  |true=>none
  |false=>some (.int k (Ny k (Int.tdiv a b)))
 |.rem=>match Vp b with
  |true=>none
  |false=>some (.int k (Int.tmod a b))
 |.and=>Tk Nat.land k a b
 |.or=>Tk Nat.lor k a b
 |.xor=>Tk Nat.xor k a b
 |.andNot=>Tk (fun x y=>Nat.xor x (Nat.land x y)) k a b
 |.eql=>some (.bool (qj a b))
 |.neq=>some (.bool (!(qj a b)))
 |.lss=>some (.bool (je a b))
 |.leq=>some (.bool (!(je b a)))
 |.gtr=>some (.bool (je b a))
 |.geq=>some (.bool (!(je a b)))
 |_=>none
def Is (a b:Nat):Nat:=match Nat.ble a b with
 |true=>a
 |false=>b
def zq7 (op:BinOp)(k:IntKind)(a:Int)(y:Int):Option AV :=
 match a,y with
 |.ofNat x,.ofNat y=>match op with
  |.shl=>some (.int k (Ny k (.ofNat (Nat.mul x (Nat.pow 2 (Is y k.bits))))))
  |.shr=>some (.int k (.ofNat (Nat.div x (Nat.pow 2 (Is y k.bits)))))
  |_=>none
 |_,_=>none
def Oy:Nat→Nat→List Nat
 |0,_=>[]
 |len+1,n=>Nat.mod n 256::Oy len (Nat.div n 256)
def X7:List Nat→List Nat→Bool
 |_,[]=>false
 |[],_::_=>true
 |a::x,b::y=>Nat.blt a b || (Nat.beq a b&&X7 x y)
def ub (op:BinOp)(la a d b:Nat):Option AV :=
 match op with
 |.add=>match Nat.ble (Nat.add la d) Io with
  |true=>some (.str (Nat.add la d) (Nat.add a (Nat.mul b (Nat.pow 256 la))))
  |false=>none
 |.eql=>some (.bool (Nat.beq la d&&Nat.beq a b))
 |.neq=>some (.bool (!(Nat.beq la d&&Nat.beq a b)))
 |.lss=>some (.bool (X7 (Oy la a) (Oy d b)))
 |.gtr=>some (.bool (!(X7 (Oy la a) (Oy d b) || (Nat.beq la d&&Nat.beq a b))))
 |.leq=>some (.bool (X7 (Oy la a) (Oy d b) || (Nat.beq la d&&Nat.beq a b)))
 |.geq=>some (.bool (!(X7 (Oy la a) (Oy d b))))
 |_=>none
def Ru (l:List AV)(off n:Nat):Option (List AV):=match Nat.ble (Nat.add off n) l.length with
 |true=>some ((l.drop off).take n)
 |false=>none
def V1 (g:Bool)(size:Nat)(l:List AV)(off:Nat):Option AV :=
 match g with
 |true=>match Ru l off size with
  |some r=>some (.agg r)
  |none=>none
 |false=>l[off]?
def ux (P:Program)(t:TypeId)(l:List AV)(off:Nat):Option AV :=
 match Lh P t,Hk P t with
 |some g,some n=>V1 g n l off
 |_,_=>none
def Vc (P:Program)(f:TypeId→AV→AV→Option Bool)(xs ys:List AV):List Field→Option Bool
 |[]=>some true
 | fd :: l => match fd.name != "_" with
  |true=>match ux P fd.type xs fd.offset,ux P fd.type ys fd.offset with
   |some a,some b=>match f fd.type a b with
    |some true=>Vc P f xs ys l
    |some false=>some false
    |none=>none
   |_,_=>none
  |false=>Vc P f xs ys l
def cf (P:Program)(f:TypeId→AV→AV→Option Bool)(t:TypeId)(n:Nat)(xs d:List AV):List Nat→Option Bool
 |[]=>some true
 |i::l=>match ux P t xs (Nat.mul i n),ux P t d (Nat.mul i n) with
  |some a,some b=>match f t a b with
   |some true=>cf P f t n xs d l
   |some false=>some false
   |none=>none
  |_,_=>none
def Vf (P:Program)(f:TypeId→AV→AV→Option Bool)(t:TypeId)(a b:AV):Option Bool:=match P.underlying t,a,b with
  |some .bool,.bool x,.bool y=>some (x==y)
  |some (.int _),.int k x,.int k' y=>match Qj k k' with
   |true=>some (qj x y)
   |false=>none
  |some .string,.str la x,.str g y=>some (Nat.beq la g&&Nat.beq x y)
  |some (.pointer _),.nilPtr,.nilPtr=>some true
  |some (.pointer _),.nilPtr,.ptr _ _ _=>some false
  |some (.pointer _),.ptr _ _ _,.nilPtr=>some false
  |some (.interface _),.nilIf,.nilIf=>some true
  |some (.interface _),.nilIf,.iface _ _=>some false
  |some (.interface _),.iface _ _,.nilIf=>some false
  |some (.slice _),.nilSl,.nilSl=>some true
  |some (.slice _),.nilSl,.sl _ _ _ _ _ _=>some false
  |some (.slice _),.sl _ _ _ _ _ _,.nilSl=>some false
  |some (.slice _),.nilSl,.emp=>some false
  |some (.slice _),.emp,.nilSl=>some false
  |some (.map _ _),.nilMap,.nilMap=>some true
  |some (.map _ _),.nilMap,.map _=>some false
  |some (.map _ _),.map _,.nilMap=>some false
  |some (.func _ _ _),.nilFn,.nilFn=>some true
  |some (.func _ _ _),.nilFn,.fn _ _ _=>some false
  |some (.func _ _ _),.fn _ _ _,.nilFn=>some false
  |some (.struct h),.agg xs,.agg d=>match P.stoodInHeld t with
   |true=>none
   |false=>Vc P f xs d h.toList
  |some (.array n e),.agg xs,.agg d=>match Hk P e with
   |some s=>cf P f e s xs d (List.range n)
   |none=>none
  |_,_,_=>none
def zc (P:Program):Nat→TypeId→AV→AV→Option Bool
 |0=>fun _ _ _=>none
 |d+1=>Vf P (zc P d)
def wg (P:Program)(g:Bool)(t:TypeId)(a b:AV):Bool:=match a,b with
 |.nilIf,.nilIf=>g
 |.agg _,.agg _=>!(P.eqGuardType P.depth t)
 |_,_=>true
def J6 (P:Program)(g:Bool)(t:TypeId)(a b:AV):Option Bool:=match wg P g t a b with
 |true=>zc P 20 t a b
 |false=>none
def tk:Option Bool→Option AV
 |some b=>some (.bool (!b))
 |none=>none
def ng:Option Bool→Option AV
 |some b=>some (.bool b)
 |none=>none
def Qg:Operand→Bool
 |.const _=>true
 |_=>false
def Hx (P:Program)(op:BinOp)(g:Bool)(t:TypeId)(a b:AV):Option AV :=
 match a,b with
 |.int k x,.int k' y=>match op with
  |.shl=>zq7 .shl k x y
  |.shr=>zq7 .shr k x y
  |op=>match Qj k k' with
   |true=>ry op k x y
   |false=>none
 |.str la x,.str d y=>ub op la x d y
 |a,b=>match op with
  |.eql=>ng (J6 P g t a b)
  |.neq=>tk (J6 P g t a b)
  |_=>none
def unA (op:UnOp)(a:AV):Option AV :=
 match op,a with
 |.neg,.int k n=>some (.int k (Ny k (Int.sub 0 n)))
 |.xor,.int k n=>some (.int k (k.wrap (BitVec.ofInt k.bits (if k.signed then -1 else k.max) ^^^ BitVec.ofInt k.bits n).toNat))
 |.not,.bool b=>some (.bool (!b))
 |_,_=>none
def M2:List AV→Nat→List AV→List AV
 |cs,_,[]=>cs
 |cs,i,a::l=>M2 (cs.set i a) (i+1) l
structure Part where
 off:Nat
 size:Nat
 v:OpdF
def Ul (cs:List AV):List Part→Tr AV→Option (List AV)
 |[],_=>some cs
 |p::d,E=>match p.v.run E with
  |none=>none
  |some a=>match a.cells with
   |none=>none
   |some l=>match Nat.beq l.length p.size with
    |true=>match Nat.ble (Nat.add p.off p.size) cs.length with
     |true=>Ul (M2 cs p.off l) d E
     |false=>none
    |false=>none
def Yc (place:Nat→Option (Nat×Nat)):List (Nat×Operand)→Option (List Part)
 |[]=>some []
 |(i,x)::l=>match place i with
  |none=>none
  |some (o,s)=>match Yc place l with
   |none=>none
   |some r=>some (⟨o,s,Fq x⟩::r)
def uq (P:Program):List Field→Option (List (Nat×Nat))
 |[]=>some []
 |f::l=>match Hk P f.type with
  |none=>none
  |some s=>match uq P l with
   |none=>none
   |some r=>some ((f.offset,s)::r)
def rq (P:Program)(t:TypeId)(parts:Array (Nat×Operand)):OpF :=
 match K3 P t with
 |none=>Gc
 |some cs=>match P.underlying t with
  |some (.struct fields)=>match uq P fields.toList with
   |none=>Gc
   |some pl=>match Yc (pl[·]?) parts.toList with
    |none=>Gc
    |some a=>⟨fun E H=>match Ul cs a E with
     |some l=>.val (.agg l) H
     |none=>.no⟩
  |some (.array _ elem)=>match Hk P elem with
   |none=>Gc
   |some size=>match Yc (fun i=>some (i*size,size)) parts.toList with
    |none=>Gc
    |some a=>⟨fun E H=>match Ul cs a E with
     |some l=>.val (.agg l) H
     |none=>.no⟩
  |_=>Gc
def Lu (l:List AV):Nat→List AV
 |0=>[]
 |n+1=>l++Lu l n
def ik (P:Program)(t:TypeId)(len:Nat)(parts:Array (Nat×Operand)):OpF :=
 match P.underlying t with
 |some (.slice elem)=>match Hk P elem with
  |none=>Gc
  |some size=>match K3 P elem with
   |none=>Gc
   |some z=>if len*size≤2^20∧0<size then
     match Yc (fun i=>some (i*size,size)) parts.toList with
     |none=>Gc
     |some a=>⟨fun E H=>match Ul (Lu z len) a E with
      |some l=>match newObj H l with
       |some (o,H')=>.val (.sl o 0 0 len size (some len)) H'
       |none=>.no
      |none=>.no⟩
    else Gc
 |_=>Gc
def se (P:Program)(t:TypeId)(x:Operand):OpF :=
 match Lh P t,Hk P t with
 |some true,some n=>Ik x fun H a=>match a with
  |.ptr o v i=>match Jd H o v i n with
   |some l=>.val (.agg l) H
   |none=>.no
  |_=>.no
 |some false,some _=>Ik x fun H a=>match a with
  |.ptr o v i=>match Jd H o v i 1 with
   |some [c]=>.val c H
   |_=>.no
  |_=>.no
 |_,_=>Gc
def zp0 (P:Program)(t:TypeId)(x y:Operand):OpF :=
 match Hk P t with
 |some n=>Lp x y fun H a b=>match a with
  |.ptr o v i=>match b.cells with
   |some l=>match Nat.beq l.length n with
    |true=>match Oz H o v i l with
     |some H'=>.val J3 H'
     |none=>.no
    |false=>.no
   |none=>.no
  |_=>.no
 |none=>Gc
def pz (H:Heap)(a:AV):OR:=match a with
 |.ptr o v i=>.val (.ptr o v i) H
 |.iface t v=>.val (.iface t v) H
 |.fn (.func f) l c=>.val (.fn (.func f) l c) H
 |.map o=>.val (.map o) H
 |_=>.no
def O1 (P:Program)(src dst:TypeId)(x:Operand):OpF :=
 match P.underlying src,P.underlying dst with
 |some _,some (.int k)=>Ik x fun H a=>match a with
  |.int _ n=>.val (.int k (Ny k n)) H
  |_=>.no
 |some (.slice e),some .string=>match P.underlying e with
  |some (.int .u8)=>Ik x fun H a=>match a with
   |.nilSl=>.val (.str 0 0) H
   |.sl o v i len 1 _=>match Jd H o v i len with
    |some l=>match bytesA l with
     |some n=>.val (.str len n) H
     |none=>.no
    |none=>.no
   |_=>.no
  |_=>Gc
 |some _,some .string=>Ik x fun H a=>match a with
  |.str l n=>.val (.str l n) H
  |_=>.no
 |some _,some (.slice e)=>match P.underlying e,Hk P e with
  |some (.int .u8),some 1=>Ik x fun H a=>match a with
   |.str len n=>match newObj H ((Oy len n).map fun (b:Nat)=>AV.int .u8 (Int.ofNat b)) with
    |some (o,H')=>.val (.sl o 0 0 len 1 none) H'
    |none=>.no
   |_=>.no
  |_,_=>Gc
 |_,_=>Gc
where
 bytesA:List AV→Option Nat
  |[]=>some 0
  |.int .u8 (.ofNat b)::l=>if Nat.blt b 256 then match bytesA l with
   |some n=>some (b+256*n)
   |none=>none
   else none
  |_=>none
def py (P:Program)(t:TypeId)(x:Operand):OpF :=
 match P.underlying t with
 |some (.interface _)=>Gc
 |some _=>Ik x fun H a=>.val (.iface t a) H
 |none=>Gc
def rj (f:Fn)(first cap:Array Operand):OpF :=
 ⟨fun E H=>match (opds first.toList).run E with
  |some l=>match (opds cap.toList).run E with
   |some r=>.val (.fn f l r) H
   |none=>.no
  |none=>.no⟩
def Rq (H:Heap):OR:=.val (.map H.next) (H.push (.map [] 0))
def j0 (P:Program)(t:TypeId)(r:Option Operand):OpF :=
 match r with
 |none=>⟨fun _ H=>Rq H⟩
 |some x=>match P.underlying t with
  |some (.map _ _)=>Ik x fun H a=>match a with
   |.int _ _=>Rq H
   |_=>.no
  |_=>Gc
def gq (P:Program)(t:TypeId)(l c:Operand):OpF :=
 match P.underlying t with
 |some (.slice elem)=>match P.info? elem with
  |none=>Gc
  |some i=>match K3 P elem with
   |none=>Gc
   |some z=>if 0<i.size∧i.bytes≤2^16 then Lp l c fun H a b=>match a,b with
    |.int .i64 (.ofNat l),.int .i64 (.ofNat c)=>match Nat.ble l c with
     |true=>match Nat.ble c 1048576 with
      |true=>match newObj H (Lu z c) with
       |some (o,H')=>.val (.sl o 0 0 l i.size (some c)) H'
       |none=>.no
      |false=>.no
     |false=>.no
    |_,_=>.no
    else Gc
 |_=>Gc
structure OptF where run:Tr AV→Option (Option Nat)
def Ir:Option Operand→OptF
 |none=>⟨fun _=>some none⟩
 |some x=>⟨fun E=>match (Fq x).run E with
  |some (.int _ (.ofNat n))=>some (some n)
  |_=>none⟩
def Uh (l h m o v i esz:Nat):AV :=
 match Nat.beq l m with
 |true=>match Nat.beq l 0 with
  |true=>.sl o v i 0 esz (some 0)
  |false=>.emp
 |false=>.sl o v (Nat.add i (Nat.mul l esz)) (Nat.sub h l) esz (some (Nat.sub m l))
def j8 (l h a:Nat)(mx:Option Nat)(o v i esz:Nat)(room:Option Nat):Option AV :=
 match Nat.ble l h with
 |false=>none
 |true=>match Nat.ble h a with
  |false=>none
  |true=>match mx with
   |some m=>match Nat.ble h m with
    |false=>none
    |true=>match Nat.ble m a with
     |false=>none
     |true=>some (Uh l h m o v i esz)
   |none=>match room with
    |some r=>some (Uh l h r o v i esz)
    |none=>match Nat.beq l 0 with
     |true=>some (.sl o v i h esz none)
     |false=>match Nat.beq l h with
      |true=>some .emp
      |false=>some (.sl o v (Nat.add i (Nat.mul l esz)) (Nat.sub h l) esz none)
def Ok (size:Nat)(lo hi mx:Option Nat)(o v i len esz:Nat)(room:Option Nat):Option AV :=
 match Nat.beq esz size with
 |false=>none
 |true=>j8 (lo.getD 0) (hi.getD len) (room.getD len) mx o v i esz room
def Zd (P:Program)(t:TypeId)(x:Operand)(lo hi mx:Option Operand):OpF :=
 match P.underlying t with
 |some .string=>match mx with
  |some _=>Gc
  |none=>⟨fun E H=>match (Fq x).run E,(Ir lo).run E,(Ir hi).run E with
   |some (.str len n),some lo,some hi =>
    let l:=lo.getD 0;let h:=hi.getD len
    match Nat.ble l h with
    |true=>match Nat.ble h len with
     |true=>.val (.str (Nat.sub h l) (Nat.mod (Nat.div n (Nat.pow 256 l)) (Nat.pow 256 (Nat.sub h l)))) H
     |false=>.no
    |false=>.no
   |_,_,_=>.no⟩
 |some (.slice elem)=>if mx.isSome&&hi.isNone then Gc else match Hk P elem with
  |none=>Gc
  |some size=>⟨fun E H=>match (Fq x).run E,(Ir lo).run E,(Ir hi).run E,(Ir mx).run E with
   |some (.sl o v i len esz room),some lo,some hi,some mx=>ret1 H (Ok size lo hi mx o v i len esz room)
   |some .nilSl,some lo,some hi,some none=>match Nat.beq (Nat.add (lo.getD 0) (hi.getD 0)) 0 with
    |true=>.val .nilSl H
    |false=>.no
   |some .emp,some lo,some hi,some none=>match Nat.beq (Nat.add (lo.getD 0) (hi.getD 0)) 0 with
    |true=>.val .emp H
    |false=>.no
   |_,_,_,_=>.no⟩
 |some (.array n elem)=>if mx.isSome&&hi.isNone then Gc else match Hk P elem with
  |none=>Gc
  |some size=>⟨fun E H=>match (Fq x).run E,(Ir lo).run E,(Ir hi).run E,(Ir mx).run E with
   |some (.ptr o v i),some lo,some hi,some mx=>match H.get o with
    |some (.cells _ a d false)=>match Nat.beq v d with
     |true=>match Nat.ble (Nat.add i (Nat.mul n size)) a with
      |true=>ret1 H (Ok size lo hi mx o v i n size (some n))
      |false=>.no
     |false=>.no
    |_=>.no
   |_,_,_,_=>.no⟩
 |_=>Gc
def pe (P:Program)(s:TypeId)(x:Operand)(f:Nat):OpF :=
 match P.underlying s with
 |some (.struct fields)=>match fields[f]? with
  |none=>Gc
  |some fd=>match Hk P fd.type with
   |none=>Gc
   |some 0=>Gc
   |some _=>let off:=fd.offset;Ik x fun H a=>match a with
    |.ptr o v i=>.val (.ptr o v (Nat.add i off)) H
    |_=>.no
 |_=>Gc
def ny (P:Program)(t:TypeId)(x:Operand)(f:Nat):OpF :=
 match P.underlying t with
 |some (.struct fields)=>match fields[f]? with
  |none=>Gc
  |some fd=>match Lh P fd.type,Hk P fd.type with
   |some g,some n=>let off:=fd.offset;Ik x fun H a=>match a with
    |.agg l=>ret1 H (V1 g n l off)
    |_=>.no
   |_,_=>Gc
 |_=>Gc
def rv (P:Program)(t:TypeId)(x ix:Operand):OpF :=
 match P.underlying t with
 |some (.slice elem)=>match Hk P elem with
  |none=>Gc
  |some size=>Lp x ix fun H a b=>match a,b with
   |.sl o v i len esz _,.int _ (.ofNat n)=>match Nat.blt n len with
    |true=>match Nat.beq esz size with
     |true=>.val (.ptr o v (Nat.add i (Nat.mul n esz))) H
     |false=>.no
    |false=>.no
   |_,_=>.no
 |some (.array len elem)=>match Hk P elem with
  |none=>Gc
  |some size=>Lp x ix fun H a b=>match a,b with
   |.ptr o v i,.int _ (.ofNat n)=>match Nat.blt n len with
    |true=>.val (.ptr o v (Nat.add i (Nat.mul n size))) H
    |false=>.no
   |_,_=>.no
 |_=>Gc
def sw (P:Program)(t:TypeId)(x ix:Operand):OpF :=
 match P.underlying t with
 |some .string=>Lp x ix fun H a b=>match a,b with
  |.str len n,.int _ (.ofNat i)=>match Nat.blt i len with
   |true=>.val (.int .u8 (Int.ofNat (Nat.mod (Nat.div n (Nat.pow 256 i)) 256))) H
   |false=>.no
  |_,_=>.no
 |some (.array len elem)=>match Lh P elem,Hk P elem with
  |some g,some size=>Lp x ix fun H a b=>match a,b with
   |.agg l,.int _ (.ofNat n)=>match Nat.blt n len with
    |true=>ret1 H (V1 g size l (Nat.mul n size))
    |false=>.no
   |_,_=>.no
  |_,_=>Gc
 |_=>Gc
def c8 (d:TypeDesc)(a b:AV):Option Bool:=match d,a,b with
 |.int _,.int k a,.int k' b=>match Qj k k' with
  |true=>some (qj a b)
  |false=>none
 |.string,.str la a,.str f b=>some (Nat.beq la f&&Nat.beq a b)
 |.bool,.bool a,.bool b=>some (a==b)
 |_,_,_=>none
def Nr (P:Program)(t:TypeId):Option TypeDesc:=match P.underlying t with
 |some .bool=>some .bool
 |some (.int k)=>some (.int k)
 |some .string=>some .string
 |_=>none
def j4 (d:TypeDesc)(k:AV):List (AV×AV×Nat)→Option (Option AV)
 |[]=>some none
 |(k',v,_)::l=>match c8 d k k' with
  |some true=>some (some v)
  |some false=>j4 d k l
  |none=>none
def ky (d:TypeDesc)(k v:AV)(clock:Nat):List (AV×AV×Nat)→Option (List (AV×AV×Nat)×Bool)
 |[]=>some ([(k,v,clock)],true)
 |(k',a,b)::l=>match c8 d k k' with
  |some true=>some ((k,v,b)::l,false)
  |some false=>match ky d k v clock l with
   |some (r,n)=>some ((k',a,b)::r,n)
   |none=>none
  |none=>none
def zh9 (d:TypeDesc)(k:AV):List (AV×AV×Nat)→Option (List (AV×AV×Nat))
 |[]=>some []
 |(k',a,b)::l=>match c8 d k k' with
  |some true=>some l
  |some false=>match zh9 d k l with
   |some r=>some ((k',a,b)::r)
   |none=>none
  |none=>none
def zd (H:Heap)(a:AV):Option (List (AV×AV×Nat)):=match a with
 |.nilMap=>some []
 |.map o=>match H.get o with
  |some (.map es _)=>some es
  |_=>none
 |_=>none
def ot (P:Program)(t:TypeId)(x ix:Operand)(ok:Bool):OpF :=
 match P.underlying t with
 |some (.map key elem)=>match Nr P key,tj P elem with
  |some d,some z=>Lp x ix fun H a b=>match zd H a with
   |none=>.no
   |some es=>match j4 d b es with
    |some (some v)=>.val (if ok then .tup [v,.bool true] else v) H
    |some none=>.val (if ok then .tup [z,.bool false] else z) H
    |none=>.no
  |_,_=>Gc
 |_=>Gc
def nc (P:Program)(t:TypeId)(m k x:Operand):OpF :=
 match P.underlying t with
 |some (.map key _)=>match Nr P key with
  |some d=>⟨fun E H=>match (Fq m).run E,(Fq k).run E,(Fq x).run E with
   |some (.map o),some k,some v=>match H.get o with
    |some (.map es clock)=>match ky d k v clock es with
     |some (a,true)=>.val J3 (H.put o (.map a (Nat.add clock 1)))
     |some (a,false)=>.val J3 (H.put o (.map a clock))
     |none=>.no
    |_=>.no
   |_,_,_=>.no⟩
  |none=>Gc
 |_=>Gc
def rangeF (P:Program)(t:TypeId)(x:Operand):OpF :=
 match P.underlying t with
 |some .string=>Ik x fun H a=>match a with
  |.str len n=>.val (.ptr H.next 0 0) (H.push (.iter len n 0))
  |_=>.no
 |_=>Gc
def zwd (x:Operand)(isString:Bool):OpF :=
 if isString then Ik x fun H a=>match a with
  |.ptr o 0 0=>match H.get o with
   |some (.iter len n pos)=>match Nat.blt pos len with
    |true=>match Nat.blt (Nat.mod (Nat.div n (Nat.pow 256 pos)) 256) 128 with
     |true=>.val (.tup [.bool true,.int .i64 (Int.ofNat pos),.int .i32 (Int.ofNat (Nat.mod (Nat.div n (Nat.pow 256 pos)) 256))]) (H.put o (.iter len n (Nat.add pos 1)))
     |false=>.no
    |false=>.val (.tup [.bool false]) H
   |_=>.no
  |_=>.no
 else Gc
def pj (P:Program)(x:Operand)(asserted:TypeId)(ok:Bool):OpF :=
 match P.underlying asserted with
 |some (.interface _)=>Gc
 |some _=>match tj P asserted with
  |none=>Gc
  |some z=>Ik x fun H a=>match a with
   |.nilIf=>if ok then .val (.tup [z,.bool false]) H else .no
   |.iface t v=>match Nat.beq t asserted with
    |true=>.val (if ok then .tup [v,.bool true] else v) H
    |false=>if ok then .val (.tup [z,.bool false]) H else .no
   |_=>.no
 |none=>Gc
def zh1 (x:Operand)(i:Nat):OpF:=Ik x fun H a=>match a with
 |.tup l=>ret1 H l[i]?
 |_=>.no
def Nw (P:Program)(t:TypeId)(x:Operand):OpF :=
 match P.underlying t with
 |some .string=>Ik x fun H a=>match a with
  |.str l _=>.val (.int .i64 (Int.ofNat l)) H
  |_=>.no
 |some (.slice _)=>Ik x fun H a=>match a with
  |.sl _ _ _ len _ _=>.val (.int .i64 (Int.ofNat len)) H
  |.nilSl=>.val (.int .i64 0) H
  |.emp=>.val (.int .i64 0) H
  |_=>.no
 |some (.map _ _)=>Ik x fun H a=>match a with
  |.nilMap=>.val (.int .i64 0) H
  |.map o=>match H.get o with
   |some (.map es _)=>.val (.int .i64 (Int.ofNat es.length)) H
   |_=>.no
  |_=>.no
 |some (.array n _)=>Ik x fun H _=>.val (.int .i64 (Int.ofNat n)) H
 |_=>Gc
def Qf (P:Program)(t:TypeId)(x:Operand):OpF :=
 match P.underlying t with
 |some (.slice _)=>Ik x fun H a=>match a with
  |.nilSl=>.val (.int .i64 0) H
  |.sl _ _ _ _ _ (some r)=>.val (.int .i64 (Int.ofNat r)) H
  |_=>.no
 |_=>Gc
def Ps (mx:Bool):AV→AV→Option AV
 |.int k x,.int k' y=>match Qj k k' with
  |true=>match mx with
   |true=>match je x y with
    |true=>some (.int k y)
    |false=>some (.int k x)
   |false=>match je y x with
    |true=>some (.int k y)
    |false=>some (.int k x)
  |false=>none
 |_,_=>none
def S6 (mx:Bool):AV→List AV→Option AV
 |a,[]=>some a
 |a,b::l=>match Ps mx a b with
  |some c=>S6 mx c l
  |none=>none
def M4 (mx:Bool)(args:List Operand):OpF:=⟨fun E H=>match (opds args).run E with
 |some (.int k n::l)=>ret1 H (S6 mx (.int k n) l)
 |_=>.no⟩
def Vh (H:Heap)(size:Nat):AV→Option (Nat×List AV)
 |.nilSl=>some (0,[])
 |.emp=>some (0,[])
 |.sl o v i len esz _=>match Nat.beq esz size with
  |true=>match Jd H o v i (Nat.mul len size) with
   |some l=>some (len,l)
   |none=>none
  |false=>none
 |.str len n=>if Nat.beq size 1 then some (len,(Oy len n).map fun (b:Nat)=>AV.int .u8 (Int.ofNat b)) else none
 |_=>none
def Tc (H:Heap)(n size:Nat)(l:List AV):OR :=
 match newObj H l with
 |some (o,H')=>.val (.sl o 0 0 n size none) H'
 |none=>.no
def Pb (H:Heap)(size:Nat)(s:AV)(n:Nat)(new:List AV):OR :=
 match Nat.beq n 0 with
 |true=>match s with
  |.nilSl=>.val .nilSl H
  |.emp=>.val .emp H
  |.sl o v i len esz room=>.val (.sl o v i len esz room) H
  |_=>.no
 |false=>match s with
  |.nilSl=>Tc H n size new
  |.sl o v i len esz room=>match Nat.beq esz size&&Nat.ble len Io with
   |false=>.no
   |true=>match room with
    |some r=>match Nat.ble (Nat.add len n) r with
     |true=>match Oz H o v (Nat.add i (Nat.mul len esz)) new with
      |some H'=>.val (.sl o v i (Nat.add len n) esz (some r)) H'
      |none=>.no
     |false=>match Jd H o v i (Nat.mul len size) with
      |some f=>Tc H (Nat.add len n) size (f++new)
      |none=>.no
    |none=>match H.get o with
     |some (.cells c a d false)=>match Nat.beq v d with
      |false=>.no
      |true=>match Nat.ble (Nat.add i (Nat.mul (Nat.add len n) esz)) a with
       |true=>match Oz H o v (Nat.add i (Nat.mul len esz)) new with
        |some H'=>.val (.sl o v i (Nat.add len n) esz none) H'
        |none=>.no
       |false=>match Nat.beq i 0 with
        |false=>.no
        |true=>match Nat.beq (Nat.mul len esz) a with
         |false=>.no
         |true=>.val (.sl o (Nat.add d 1) 0 (Nat.add len n) esz none) (H.put o (.cells (Ju new a c) (Nat.add a new.length) (Nat.add d 1) false))
     |_=>.no
  |_=>.no
def zmr (P:Program)(elem:TypeId)(s x:Operand):OpF :=
 match P.info? elem,K3 P elem with
 |some i,some z=>if 0<i.size∧i.bytes≤65536 then Lp s x fun H a b=>match b with
   |.int .i64 (.ofNat n)=>match Nat.ble n 1048576 with
    |true=>Pb H i.size a n (Lu z n)
    |false=>.no
   |_=>.no
  else Gc
 |_,_=>Gc
def gw (P:Program)(elem:TypeId)(s x:Operand):OpF :=
 match P.info? elem,K3 P elem with
 |some i,some _=>if 0<i.size∧i.bytes≤65536 then Lp s x fun H a b=>match Vh H i.size b with
   |some (n,l)=>match Nat.ble n 1048576 with
    |true=>Pb H i.size a n l
    |false=>.no
   |none=>.no
  else Gc
 |_,_=>Gc
def zp (P:Program)(a:Array TypeId)(args:Array Operand):OpF :=
 match a.toList,args.toList with
 |[st,d],[s,x]=>match P.underlying st,P.underlying d with
  |some (.slice elem),some (.int _)=>zmr P elem s x
  |some (.slice elem),some (.slice _)=>gw P elem s x
  |some (.slice elem),some .string=>gw P elem s x
  |_,_=>Gc
 |_,_=>Gc
def yz (P:Program)(f:Array TypeId)(args:Array Operand):OpF :=
 match f.toList,args.toList with
 |[st,_],[d,x]=>match P.underlying st with
  |some (.slice elem)=>match Hk P elem with
   |none=>Gc
   |some size=>if 0<size then Lp d x fun H a b=>match Vh H size b with
    |some (n,l)=>match a with
     |.nilSl=>.val (.int .i64 0) H
     |.emp=>.val (.int .i64 0) H
     |.sl o v i len esz _=>match Nat.beq esz size with
      |true=>match Oz H o v i (l.take (Nat.mul (Is n len) size)) with
       |some H'=>.val (.int .i64 (Int.ofNat (Is n len))) H'
       |none=>.no
      |false=>.no
     |_=>.no
    |none=>.no
    else Gc
  |_=>Gc
 |_,_=>Gc
def yb (P:Program)(d:Array TypeId)(args:Array Operand):OpF :=
 match d.toList,args.toList with
 |[st],[x]=>match P.underlying st with
  |some (.slice elem)=>match Hk P elem,K3 P elem with
   |some size,some z=>if 0<size then Ik x fun H a=>match a with
    |.nilSl=>.val J3 H
    |.emp=>.val J3 H
    |.sl o v i len esz _=>match Nat.beq esz size with
     |true=>match Oz H o v i (Lu z len) with
      |some H'=>.val J3 H'
      |none=>.no
     |false=>.no
    |_=>.no
    else Gc
   |_,_=>Gc
  |_=>Gc
 |_,_=>Gc
def y6 (P:Program)(g:Array TypeId)(args:Array Operand):OpF :=
 match g.toList,args.toList with
 |[mt,_],[m,k]=>match P.underlying mt with
  |some (.map key _)=>match Nr P key with
   |some d=>Lp m k fun H a b=>match a with
    |.map o=>match H.get o with
     |some (.map es clock)=>match zh9 d b es with
      |some f=>.val J3 (H.put o (.map f clock))
      |none=>.no
     |_=>.no
    |_=>.no
   |none=>Gc
  |_=>Gc
 |_,_=>Gc
def Y1 (P:Program)(f:Nat):Bool:=match P.funcs[f]? with
 | some fn => fn.name != "runtime.NumGoroutine" && fn.body.isSome
 |none=>false
def yq (P:Program)(t:TypeId)(name:String):Option Nat:=match P.info? t with
 |some i=>match i.methods.find? (·.name==name) with
  |some m=>if m.path.isEmpty then match m.func,P.underlying t with
   |some (f,true),some (.pointer _)=>some f
   |some (_,false),some (.pointer _)=>none
   |some (f,false),some _=>some f
   |_,_=>none
   else none
  |none=>none
 |none=>none
def Ym (P:Program)(f:AV)(args:List AV):OR:=match f with
 |.fn (.func f) first cap=>if Y1 P f then .call (.fn f) (first++args++cap) else .no
 |.fn (.yield l) [] _=>.call (.yield l) args
 |_=>.no
def vd (P:Program)(f:Nat):Bool:=match P.funcs[f]? with
 | some fn => fn.name == "maps.clone" && fn.origin == "" && fn.body.isNone
 |none=>false
def zt3 (H:Heap):List AV→OR
 |[.iface t (.map o)]=>match H.get o with
  |some (.map es a)=>.val (.iface t (.map H.next)) (H.push (.map es a))
  |_=>.no
 |_=>.no
def zhs (P:Program)(H:Heap)(g:AV)(args:List AV):OR:=match g with
 |.fn (.func f) [] []=>match vd P f with
  |true=>zt3 H args
  |false=>Ym P g args
 |_=>Ym P g args
def To (P:Program)(c:Call):OpF :=
 match c.callee with
 |.builtin b=>match b with
  |.len=>match c.argTypes.toList,c.args.toList with
   |[t],[x]=>Nw P t x
   |_,_=>Gc
  |.cap=>match c.argTypes.toList,c.args.toList with
   |[t],[x]=>Qf P t x
   |_,_=>Gc
  |.max=>M4 true c.args.toList
  |.min=>M4 false c.args.toList
  |.append=>zp P c.argTypes c.args
  |.copy=>yz P c.argTypes c.args
  |.clear=>yb P c.argTypes c.args
  |.delete=>y6 P c.argTypes c.args
  |_=>Gc
 |.value f=>⟨fun E H=>match (Fq f).run E with
  |some g=>match (opds c.args.toList).run E with
   |some l=>zhs P H g l
   |none=>.no
  |none=>.no⟩
 |.invoke r name=>⟨fun E _=>match (Fq r).run E with
  |some (.iface t v)=>match yq P t name with
   |some f=>match (opds c.args.toList).run E with
    |some l=>if Y1 P f then .call (.fn f) (v::l) else .no
    |none=>.no
   |none=>.no
  |_=>.no⟩
def Gg (P:Program)(o:Op):OpF :=
 match o with
 |.move x |.assign x=>Ik x fun H a=>.val a H
 |.pick c a b=>⟨fun E H=>match (Fq c).run E with
  |some (.bool true)=>ret1 H ((Fq a).run E)
  |some (.bool false)=>ret1 H ((Fq b).run E)
  |_=>.no⟩
 |.alloc t=>match K3 P t with
  |some l=>⟨fun _ H=>Qd H l⟩
  |none=>Gc
 |.box _ x=>Ik x fun H a=>match a.cells with
  |some l=>Qd H l
  |none=>.no
 |.build t parts=>rq P t parts
 |.buildSlice t len parts=>ik P t len parts
 |.load t a=>se P t a
 |.store t a x=>zp0 P t a x
 |.nilCheck x=>Ik x pz
 |.binOp op t x y _=>let g:=Qg x || Qg y;Lp x y fun H a b=>ret1 H (Hx P op g t a b)
 |.unOp op _ x=>Ik x fun H a=>ret1 H (unA op a)
 |.convert s d x=>O1 P s d x
 |.makeInterface t x=>py P t x
 |.makeFunc f first cap=>match f with
  |.yield _=>Gc
  |f=>rj f first cap
 |.makeMap t r=>j0 P t r
 |.makeSlice t l c=>gq P t l c
 |.slice t x lo hi mx=>Zd P t x lo hi mx
 |.fieldAddr s x f=>pe P s x f
 |.field t x f=>ny P t x f
 |.indexAddr t x i=>rv P t x i
 |.index t x i=>sw P t x i
 |.lookup t x i ok=>ot P t x i ok
 |.mapUpdate t m k x |.insert t m k x=>nc P t m k x
 |.range t x=>rangeF P t x
 |.next it s=>zwd it s
 |.typeAssert x _ t ok=>pj P x t ok
 |.extract t i=>zh1 t i
 |.call c=>To P c
 |_=>Gc
inductive RV where
 |no
 |ok (v:AV) (H:Heap)
abbrev Jh:=Tgt→List AV→Heap→RV
inductive OE where
 |no
 |ok (E:Tr AV) (H:Heap)
structure SeqF where run:Jh→Tr AV→Heap→OE
structure PutF where run:AV→Tr AV→Tr AV
def Jb (n:Nat)(d:Option Tmp):Option PutF :=
 match d with
 |none=>some ⟨fun _ E=>E⟩
 |some d=>if d<n then some ⟨fun a E=>Hc a (Fl d) E⟩ else none
structure GuardF where run:Tr AV→Bool
def Kz (ops:Array Oper)(o:Oper):GuardF :=
 match o.guard with
 |none=>⟨fun _=>true⟩
 |some (j,want)=>match (ops[j]?).bind (·.dst) with
  |none=>⟨fun _=>false⟩
  |some d=>if d≤Io then ⟨fun E=>match E3 (Fl d) E with
   |some (.bool b)=>match b with
    |true=>want
    |false=>!want
   |_=>false⟩ else ⟨fun _=>false⟩
def I8 (P:Program)(n:Nat)(ops:Array Oper)(o:Oper):SeqF :=
 match Jb n o.dst with
 |none=>⟨fun _ _ _=>.no⟩
 |some p=>⟨fun c E H=>Bool.rec (.ok (p.run J3 E) H)
   (OR.rec .no (fun v H'=>.ok (p.run v E) H') (fun t args=>RV.rec .no (fun v H'=>.ok (p.run v E) H') (c t args H)) ((Gg P o.op).run E H))
   ((Kz ops o).run E)⟩
def Xu (P:Program)(n:Nat)(ops:Array Oper):List Oper→SeqF
 |[]=>⟨fun _ E H=>.ok E H⟩
 |o::l=>⟨fun c E H=>OE.rec .no (fun a H'=>(Xu P n ops l).run c a H') ((I8 P n ops o).run c E H)⟩
inductive Cls where
 |quiet|rd|ch|al
def yj (P:Program)(t:TypeId):Bool:=match P.underlying t with
 |some (.map _ _)=>true
 |_=>false
def yf (P:Program)(t:TypeId):Bool:=match P.underlying t with
 |some (.array _ _)=>true
 |_=>false
def iw (P:Program)(t:TypeId):Bool:=match P.underlying t with
 |some (.slice _)=>true
 |_=>false
def uw (P:Program)(c:Call):Cls:=match c.callee with
 |.builtin .len=>match c.argTypes.toList with
  |[t]=>if yj P t then .rd else .quiet
  |_=>.ch
 |.builtin .cap |.builtin .max |.builtin .min=>.quiet
 |_=>.ch
def cls (P:Program)(o:Op):Cls :=
 match o with
 |.move _ |.assign _ |.pick _ _ _ |.build _ _ |.nilCheck _ |.binOp _ _ _ _ _ |.unOp _ _ _ |.makeInterface _ _ |.makeFunc _ _ _ |.fieldAddr _ _ _
 |.field _ _ _ |.indexAddr _ _ _ |.index _ _ _ |.typeAssert _ _ _ _ |.extract _ _=>.quiet
 |.slice t _ _ _ _=>if yf P t then .rd else .quiet
 |.convert s d _=>if iw P d then .ch else if iw P s then .rd else .quiet
 |.load _ _ |.lookup _ _ _ _=>.rd
 |.call c=>uw P c
 |.alloc _ |.box _ _ |.buildSlice _ _ _ |.makeSlice _ _ _ |.makeMap _ _=>.al
 |_=>.ch
def im (acc:List Nat):List Edge→Nat
 |[]=>0
 |e::l=>match Region.binds .any e with
  |true=>Nat.lor (Nat.lor (2^e.on) (acc.getD e.on 0)) (im acc l)
  |false=>im acc l
def zoo:List Nat→Nat
 |[]=>0
 |t::l=>Nat.lor (2^t) (zoo l)
def kc:List Operand→List Nat
 |[]=>[]
 |.tmp t::l=>t::kc l
 |_::l=>kc l
def Nf (ops:Array Oper)(o:Oper):List Nat :=
 kc o.op.operands.toList++(match o.guard with
  |some (j,_)=>((ops[j]?).bind (·.dst)).toList
  |none=>[])
structure DOp where
 o:Oper
 i:Nat
 m:Nat
 lm:Nat
 c:Cls
def Ix (P:Program)(ops:Array Oper):List Oper→List Nat→Nat→List DOp
 |[],_,_=>[]
 |o::l,acc,i=>⟨o,i,im acc o.after.toList,zoo (Nf ops o),cls P o.op⟩::Ix P ops l (acc++[im acc o.after.toList]) (i+1)
def Fe (x:DOp):Bool:=match x.c with
 |.ch=>true
 |_=>false
def Mv (x:DOp):Bool:=match x.c with
 |.rd=>true
 |.al=>true
 |_=>false
def zrc (x:DOp):Bool:=match x.c with
 |.quiet=>true
 |_=>false
def zs6 (x y:DOp):Bool:=match y.o.dst with
 |none=>true
 |some d=>match Nat.testBit x.lm d with
  |false=>true
  |true=>match Nat.beq x.i y.i with
   |true=>!(Mv x)
   |false=>match Nat.testBit x.m y.i with
    |true=>true
    |false=>match Nat.testBit y.m x.i with
     |true=>!(Mv x)
     |false=>false
def O5 {α:Type}(f:α→Bool):List α→Bool
 |[]=>true
 |a::l=>match f a with
  |true=>O5 f l
  |false=>false
def dv (L:List DOp):Bool:=O5 (fun x=>O5 (zs6 x) L) L
def yl:List DOp→Nat→Bool
 |[],_=>true
 |x::l,seen=>match x.o.dst with
  |none=>yl l seen
  |some d=>match Nat.testBit seen d with
   |true=>false
   |false=>yl l (Nat.lor (2^d) seen)
def Hv:List DOp→Nat→Nat→Option Nat
 |[],seen,_=>some seen
 |x::l,seen,a=>match Nat.beq (Nat.land x.m seen) x.m with
  |false=>none
  |true=>match Nat.testBit seen x.i with
   |true=>none
   |false=>match zrc x with
    |true=>Hv l (Nat.lor (2^x.i) seen) a
    |false=>match Nat.beq (Nat.land a x.m) a with
     |false=>none
     |true=>match Fe x with
      |true=>Hv l (Nat.lor (2^x.i) seen) (Nat.lor (2^x.i) a)
      |false=>Hv l (Nat.lor (2^x.i) seen) a
def Ge {α:Type}(f:α→Bool):List α→List α
 |[]=>[]
 |a::l=>match f a with
  |true=>a::Ge f l
  |false=>Ge f l
def qi (x:DOp):List DOp→Nat
 |[]=>0
 |c::l=>match Nat.testBit x.m c.i with
  |true=>Nat.succ (qi x l)
  |false=>qi x l
def Xm (L chain:List DOp)(p:Nat):List DOp:=Ge (fun x=>match Fe x with
 |true=>false
 |false=>Nat.beq (qi x chain) p) L
def zlf (L chain:List DOp):List DOp→Nat→List DOp
 |[],_=>[]
 |c::rest,p=>c::(Xm L chain p++zlf L chain rest (p+1))
def zyw (L chain:List DOp):List DOp:=Xm L chain 0++zlf L chain chain 1
def Te {α:Type}(f:α→α→Bool):List α→List α→Bool
 |[],[]=>true
 |a::l,b::r=>match f a b with
  |true=>Te f l r
  |false=>false
 |_,_=>false
def Jr:Nat→AV→AV→Bool
 |0,_,_=>false
 |n+1,a,b=>match a,b with
  |.bool x,.bool y=>x==y
  |.int k x,.int k' y=>Qj k k'&&qj x y
  |.str l x,.str m y=>Nat.beq l m&&Nat.beq x y
  |.nilPtr,.nilPtr=>true
  |.ptr o v i,.ptr d h i'=>Nat.beq o d&&Nat.beq v h&&Nat.beq i i'
  |.nilSl,.nilSl=>true
  |.sl o v i l e r,.sl d h i' l' p r'=>Nat.beq o d&&Nat.beq v h&&Nat.beq i i'&&Nat.beq l l'&&Nat.beq e p&&r==r'
  |.emp,.emp=>true
  |.nilMap,.nilMap=>true
  |.map o,.map d=>Nat.beq o d
  |.nilFn,.nilFn=>true
  |.fn (.func f) x y,.fn (.func g) x' j=>Nat.beq f g&&Te (Jr n) x x'&&Te (Jr n) y j
  |.fn (.yield f) x y,.fn (.yield g) x' j=>Nat.beq f g&&Te (Jr n) x x'&&Te (Jr n) y j
  |.nilIf,.nilIf=>true
  |.iface t v,.iface q h=>Nat.beq t q&&Jr n v h
  |.agg x,.agg y=>Te (Jr n) x y
  |.tup x,.tup y=>Te (Jr n) x y
  |_,_=>false
def Gb:AV→Option Nat
 |.ptr o _ _=>some o
 |.sl o _ _ _ _ _=>some o
 |.map o=>some o
 |_=>none
def Iv (id:Nat):AV→AV
 |.ptr _ v i=>.ptr id v i
 |.sl _ v i l e r=>.sl id v i l e r
 |.map _=>.map id
 |v=>v
def zr8 (c c':Tr AV)(len:Nat):Bool:=match Kt c 0 len,Kt c' 0 len with
 |some l,some l'=>Te (Jr 30) l l'
 |_,_=>false
def eqObj:AObj→AObj→Bool
 |.cells c len f ro,.cells c' a d g=>Nat.beq len a&&Nat.beq f d&&ro==g&&zr8 c c' len
 |.map [] k,.map [] k'=>Nat.beq k k'
 |_,_=>false
def Ql {α:Type}(b:Bool)(x y:α):Bool:=match b with
 |true=>true
 |false=>@decide (x=y) (Classical.propDecidable _)
def zvm (v d:AV)(H H':Heap):Bool:=match Gb v with
 |none=>false
 |some id=>match Ql (Jr 30 v (Iv id d)) v (Iv id d) with
  |false=>false
  |true=>match H.get id,H'.get H.next with
   |some a,some b=>Ql (eqObj a b) a b
   |_,_=>false
structure ChkF where run:Tr AV→Heap→Bool
def Sr (P:Program)(ops:Array Oper)(x:DOp):ChkF :=
 match x.o.dst with
 |none=>⟨fun _ _=>false⟩
 |some d=>⟨fun E H=>match (Kz ops x.o).run E with
  |false=>true
  |true=>match E3 (Fl d) E with
   |none=>false
   |some v=>match (Gg P x.o.op).run E H with
    |.val a H'=>match x.c with
     |.al=>zvm v a H H'
     |_=>Ql (Jr 30 v a) v a
    |_=>false⟩
def fq (P:Program)(ops:Array Oper):List DOp→ChkF
 |[]=>⟨fun _ _=>true⟩
 |x::l=>⟨fun E H=>match (Sr P ops x).run E H with
  |true=>(fq P ops l).run E H
  |false=>false⟩
def Nh (P:Program)(n:Nat)(ops:Array Oper):List DOp→List DOp→SeqF
 |[],_=>⟨fun _ E H=>.ok E H⟩
 |x::l,pend=>match x.c with
  |.quiet=>⟨fun k E H=>OE.rec .no (fun E1 H1=>(Nh P n ops l pend).run k E1 H1) ((I8 P n ops x.o).run k E H)⟩
  |.rd=>⟨fun k E H=>OE.rec .no (fun E1 H1=>(Nh P n ops l (x::pend)).run k E1 H1) ((I8 P n ops x.o).run k E H)⟩
  |.al=>⟨fun k E H=>OE.rec .no (fun E1 H1=>Bool.rec .no ((Nh P n ops l (x::pend)).run k E1 H1) ((fq P ops (x::pend)).run E1 H1)) ((I8 P n ops x.o).run k E H)⟩
  |.ch =>
   let pend':=Ge (fun y=>!(Nat.testBit x.m y.i)) pend
   ⟨fun k E H=>OE.rec .no (fun E1 H1=>Bool.rec .no ((Nh P n ops l pend').run k E1 H1) ((fq P ops pend').run E1 H1)) ((I8 P n ops x.o).run k E H)⟩
def zw5 (n:Nat)(L ord:List DOp):Bool:=match Hv ord 0 0 with
 |none=>false
 |some s=>match Nat.beq s (Nat.sub (2^n) 1) with
  |false=>false
  |true=>match yl L 0 with
   |false=>false
   |true=>dv L
def pg (P:Program)(n:Nat)(ops:Array Oper):SeqF :=
 let L:=Ix P ops ops.toList [] 0;let chain:=Ge Fe L;let ord:=zyw L chain
 match zw5 ops.size L ord with
 |true=>Nh P n ops ord []
 |false=>⟨fun _ _ _=>.no⟩
inductive Ex where
 |normal
 |exit (id:Nat)
 |ret
inductive Res where
 |no
 |ok (x:Ex) (E:Tr AV) (D:List Nat) (H:Heap)
structure CodeF where run:Jh→Nat→Option Nat→Tr AV→List Nat→Heap→Res
def nu:CodeF:=⟨fun _ _ _ _ _ _=>.no⟩
def Un (f:Tr AV→List Nat→Heap→Res):Nat→Tr AV→List Nat→Heap→Res
 |0,_,_,_=>.no
 |m+1,E,D,H=>match f E D H with
  |.no=>.no
  |.ok x a d H'=>match x with
   |.normal=>Un f m a d H'
   |x=>.ok x a d H'
def zfh (f n:Nat)(a:Array Tmp)(assign body:Code)(ro:Option Nat)(E:Tr AV)(D:List Nat)(H:Heap):Option (Nat×List Nat×Heap) :=
 match ro with
 |none=>some (Nat.add H.next 1,H.next::D,(H.push (.defd true)).push (.loop .ready none f n E a assign body H.next))
 |some l=>match H.get l with
  |some (.loop _ _ _ _ _ _ _ _ d)=>some (H.next,D,H.push (.loop .ready none f n E a assign body d))
  |_=>none
def yr:Code→Option Ex
 |.ret=>some .ret
 |.exit id=>some (.exit id)
 |_=>none
def zm1 (l:Nat)(H:Heap):Option (Option Code×Heap):=match H.get l with
 |some (.loop st pend f n E g a b d)=>match st with
  |.busy=>none
  |_=>some (pend,H.put l (.loop .exhausted pend f n E g a b d))
 |_=>none
def Ig (P:Program)(f n:Nat):Code→CodeF
 |.skip=>⟨fun _ _ _ E D H=>.ok .normal E D H⟩
 |.region _ ops draw =>
  let s:=match draw with
   |true=>pg P n ops
   |false=>Xu P n ops ops.toList
  ⟨fun k _ _ E D H=>match s.run k E H with
   |.no=>.no
   |.ok h H'=>.ok .normal h D H'⟩
 |.seq a b=>⟨fun k m ro E D H=>Res.rec .no (fun x h d H'=>Ex.rec ((Ig P f n b).run k m ro h d H') (fun id=>.ok (.exit id) h d H') (.ok .ret h d H') x)
   ((Ig P f n a).run k m ro E D H)⟩
 |.cond c a b=>⟨fun k m ro E D H=>match (Fq c).run E with
  |some (.bool t)=>match t with
   |true=>(Ig P f n a).run k m ro E D H
   |false=>(Ig P f n b).run k m ro E D H
  |_=>.no⟩
 |.block id c=>⟨fun k m ro E D H=>match (Ig P f n c).run k m ro E D H with
  |.no=>.no
  |.ok x h d H'=>match x with
   |.exit j=>match Nat.beq j id with
    |true=>.ok .normal h d H'
    |false=>.ok (.exit j) h d H'
   |x=>.ok x h d H'⟩
 |.loop c=>⟨fun k m ro E D H=>Un ((Ig P f n c).run k m ro) m E D H⟩
 |.rangeFunc g p a b=>⟨fun k _ ro E D H=>match (Fq g).run E with
  |none=>.no
  |some gv=>match zfh f n p a b ro E D H with
   |none=>.no
   |some (l,d,H')=>match Ym P gv [.fn (.yield l) [] []] with
    |.call (.fn g) args=>match k (.fn g) args H' with
     |.no=>.no
     |.ok _ q=>match zm1 l q with
      |none=>.no
      |some (none,o)=>.ok .normal E d o
      |some (some c,o)=>match yr c with
       |none=>.no
       |some x=>.ok x E d o
    |_=>.no⟩
 |.exit id=>⟨fun _ _ _ E D H=>.ok (.exit id) E D H⟩
 |.scope c=>⟨fun k m ro E D H=>(Ig P f n c).run k m ro E D H⟩
 |.label _=>⟨fun _ _ _ E D H=>.ok .normal E D H⟩
 |.ret=>⟨fun _ _ _ E D H=>.ok .ret E D H⟩
 |_=>nu
structure ResF where run:Tr AV→Heap→Option AV
def resF (P:Program)(r:ResultVar):ResF :=
 match r with
 |.tmp t=>⟨fun E _=>(Fq (.tmp t)).run E⟩
 |.cell a t=>match Lh P t,Hk P t with
  |some true,some n=>⟨fun E H=>match (Fq (.tmp a)).run E with
   |some (.ptr o v i)=>match Jd H o v i n with
    |some l=>some (.agg l)
    |none=>none
   |_=>none⟩
  |some false,some _=>⟨fun E H=>match (Fq (.tmp a)).run E with
   |some (.ptr o v i)=>match Jd H o v i 1 with
    |some [c]=>some c
    |_=>none
   |_=>none⟩
  |_,_=>⟨fun _ _=>none⟩
structure RessF where run:Tr AV→Heap→Option (List AV)
def ju (P:Program):List ResultVar→RessF
 |[]=>⟨fun _ _=>some []⟩
 |r::l=>⟨fun E H=>match (resF P r).run E H with
  |none=>none
  |some a=>match (ju P l).run E H with
   |none=>none
   |some b=>some (a::b)⟩
def qe:List Nat→Heap→Option Heap
 |[],H=>some H
 |d::l,H=>match H.get d with
  |some (.defd true)=>qe l (H.put d (.defd false))
  |_=>none
structure FunF where run:Jh→Nat→List AV→Heap→RV
def j2 (P:Program)(f:Nat):FunF :=
 match P.funcs[f]? with
 |none=>⟨fun _ _ _ _=>.no⟩
 |some fn=>match fn.body with
  |none=>⟨fun _ _ _ _=>.no⟩
  |some body=>if fn.ntmps≤Io then
   ⟨fun k m args H=>match Nat.ble args.length fn.ntmps with
    |false=>.no
    |true=>match (Ig P f fn.ntmps body).run k m none (Ju args 0 .e) [] H with
     |.no=>.no
     |.ok x E D H'=>match x with
      |.exit _=>.no
      |_=>match qe D H' with
       |none=>.no
       |some a=>match (ju P fn.results.toList).run E a with
        |some [v]=>.ok v a
        |some l=>.ok (.tup l) a
        |none=>.no⟩
   else ⟨fun _ _ _ _=>.no⟩
def yu:List Tmp→List AV→Nat→Tr AV→Option (Tr AV)
 |[],[],_,E=>some E
 |p::d,a::as,n,E=>match Nat.blt p n with
  |true=>yu d as n (Hc a (Fl p) E)
  |false=>none
 |_,_,_,_=>none
def zsw (l:Nat)(H:Heap):Option Heap:=match H.get l with
 |some (.loop .ready pend f n E g a b d)=>some (H.put l (.loop .busy pend f n E g a b d))
 |_=>none
def zhp (l:Nat)(x:Ex)(H:Heap):RV:=match H.get l with
 |some (.loop _ _ f n E g a b d)=>match x with
  |.normal=>.ok (.bool true) (H.put l (.loop .ready none f n E g a b d))
  |.ret=>.ok (.bool false) (H.put l (.loop .done (some .ret) f n E g a b d))
  |.exit id=>.ok (.bool false) (H.put l (.loop .done (some (.exit id)) f n E g a b d))
 |_=>.no
def Kq (P:Program)(O:Jh):Nat→Jh
 |0=>fun _ _ _=>.no
 |m+1=>fun t args H=>match t with
  |.fn f=>match O (.fn f) args H with
   |.ok v H'=>.ok v H'
   |.no=>(j2 P f).run (Kq P O m) m args H
  |.yield l=>match H.get l with
   |some (.loop .ready none f n E g a b _)=>match yu g.toList args n E with
    |none=>.no
    |some E1=>match (Ig P f n a).run (Kq P O m) m (some l) E1 [] H with
     |.ok .normal h [] j=>match zsw l j with
      |none=>.no
      |some d=>match (Ig P f n b).run (Kq P O m) m (some l) h [] d with
       |.no=>.no
       |.ok x _ D o=>match D with
        |[]=>zhp l x o
        |_=>.no
     |_=>.no
   |_=>.no
end Go.Sv
end
namespace Go.Sv
open Go.RowKit (Below)
section tries
variable {α : Type}
def Qz (p:List Bool):E3 p (Tr.e:Tr α)=none:=by
 cases p with
 |nil=>rfl
 |cons b p=>cases b<;>rfl
def o8 (p:List Bool)(v:Option α)(l r:Tr α):E3 (true::p) (.n v l r)=E3 p l:=rfl
def nj (p:List Bool)(v:Option α)(l r:Tr α):E3 (false::p) (.n v l r)=E3 p r:=rfl
def zl1 (a:α):Hc a [] .e=.n (some a) .e .e:=rfl
def zmo (a:α)(p:List Bool):Hc a (true::p) .e=.n none (Hc a p .e) .e:=rfl
def zlk (a:α)(p:List Bool):Hc a (false::p) .e=.n none .e (Hc a p .e):=rfl
def zt4 (a:α)(p:List Bool)(v:Option α)(l r:Tr α):Hc a (true::p) (.n v l r)=.n v (Hc a p l) r:=rfl
def ztp (a:α)(p:List Bool)(v:Option α)(l r:Tr α):Hc a (false::p) (.n v l r)=.n v l (Hc a p r):=rfl
def vq (a:α):∀(p:List Bool) (t:Tr α),E3 p (Hc a p t)=some a
 |[],.e=>rfl
 |[],.n _ _ _=>rfl
 |true::p,.e=>by rw[zmo,o8];exact vq a p _
 |false::p,.e=>by rw[zlk,nj];exact vq a p _
 |true::p,.n v l r=>by rw[zt4,o8];exact vq a p _
 |false::p,.n v l r=>by rw[ztp,nj];exact vq a p _
def xx (a:α):∀(p q:List Bool) (t:Tr α),p≠q→E3 q (Hc a p t)=E3 q t
 |[],[],_,h=>absurd rfl h
 |[],true::q,.e,_=>by rw[zl1,o8,Qz,Qz]
 |[],false::q,.e,_=>by rw[zl1,nj,Qz,Qz]
 |[],true::q,.n _ _ _,_=>rfl
 |[],false::q,.n _ _ _,_=>rfl
 |true::p,[],.e,_=>rfl
 |false::p,[],.e,_=>rfl
 |true::p,[],.n _ _ _,_=>rfl
 |false::p,[],.n _ _ _,_=>rfl
 |true::p,true::q,.e,h=>by rw[zmo,o8,xx a p q _ (fun e=>h (by rw[e])),Qz,Qz]
 |true::p,false::q,.e,_=>by rw[zmo,nj,Qz,Qz]
 |false::p,true::q,.e,_=>by rw[zlk,o8,Qz,Qz]
 |false::p,false::q,.e,h=>by rw[zlk,nj,xx a p q _ (fun e=>h (by rw[e])),Qz,Qz]
 |true::p,true::q,.n _ l _,h=>by rw[zt4,o8,o8];exact xx a p q l (fun e=>h (by rw[e]))
 |true::p,false::q,.n _ _ _,_=>rfl
 |false::p,true::q,.n _ _ _,_=>rfl
 |false::p,false::q,.n _ _ r,h=>by rw[ztp,nj,nj];exact xx a p q r (fun e=>h (by rw[e]))
def pathF_inj:∀(f g j k:Nat),j<f→k<g→ox f j=ox g k→j=k
 |0,_,j,k,l,_,_=>by omega
 |_,0,j,k,_,hk,_=>by omega
 |f+1,g+1,0,0,_,_,_=>rfl
 |f+1,g+1,0,k+1,_,_,h=>by simp[ox] at h
 |f+1,g+1,j+1,0,_,_,h=>by simp[ox] at h
 |f+1,g+1,j+1,k+1,l,hk,h=>by
  simp only[ox,List.cons.injEq] at h;obtain⟨a,d⟩:=h;have m:Nat.div j 2=j/2:=rfl;have o:Nat.div k 2=k/2:=rfl;have p:Nat.mod j 2=j%2:=rfl;have r:Nat.mod k 2=k%2:=rfl;rw[m,o] at d;rw[p,r] at a;have:=pathF_inj f g (j/2) (k/2) (by omega) (by omega) d;have q:∀x:Nat,Nat.beq x 0=true↔x=0:=fun x=>by cases x<;>simp[Nat.beq]
  have s:(j%2=0↔k%2=0):=by
   rw[←q,←q,a]
  omega
def zu2 {j k:Nat}(h:Fl j=Fl k):j=k :=
 pathF_inj _ _ j k (B2 _) (B2 _) h
def zil {j k:Nat}(a:α)(t:Tr α) :
  E3 (Fl k) (Hc a (Fl j) t)=if k=j then some a else E3 (Fl k) t:=by
 by_cases h:k=j
 ·subst h;rw[Ai rfl];exact vq a _ t
 ·rw[Ab h];exact xx a _ _ t (fun e=>h (zu2 e.symm))
def zb7 (j:Nat)(a:α)(t:Tr α):E3 (Fl j) (Hc a (Fl j) t)=some a:=vq a _ t
def m9 {j k:Nat}(h:k≠j)(a:α)(t:Tr α) :
  E3 (Fl k) (Hc a (Fl j) t)=E3 (Fl k) t:=by rw[zil,Ab h]
def get_ofList:∀(l:List α) (i:Nat) (t:Tr α) (k:Nat),
  E3 (Fl k) (Ju l i t)=if i≤k∧k<i+l.length then l[k - i]? else E3 (Fl k) t
 |[],i,t,k=>by simp only[Ju,Bc];rw[Ab (by omega)]
 |a::l,i,t,k=>by
  simp only[Ar];rw[Ju,get_ofList l (i+1) _ k];by_cases d:i+1≤k∧k<i+1+l.length
  ·rw[Ai d,Ai (by omega)];have:k - i=(k - (i+1))+1:=by omega
   rw[this,Av]
  ·rw[Ab d,zil];by_cases f:k=i
   ·subst f;rw[Ai rfl,Ai (by omega)];simp
   ·rw[Ab f,Ab (by omega)]
end tries
def X0 {c:Tr AV}:∀{n i:Nat} {l:List AV},Kt c i n=some l→l.length=n∧∀j,j<n→E3 (Fl (i+j)) c=l[j]?
 |0,i,l,h=>by
  simp only[Kt,Option.some.injEq] at h;subst h;exact⟨rfl,fun j d=>by omega⟩
 |n+1,i,l,h=>by
  simp only[Kt] at h;split at h
  ·cases h
  ·rename_i a f;split at h
   ·cases h
   ·rename_i r g;cases h;obtain⟨m,o⟩:=X0 g;refine⟨by simp[m],fun j d=>?_⟩;cases j with
    |zero=>simpa using f
    |succ j=>have:=o j (by omega);rw[Av,←this];congr 2;omega
structure Loc where
 b:Nat
 d:Nat
 n:Nat
 sz:Nat
structure CM where
 f:Nat→Nat→Option Loc
 nx:Nat
instance:CoeFun CM (fun _=>Nat→Nat→Option Loc):=⟨CM.f⟩
def CM.keep (C C':CM):Prop:=∀o v L,C o v=some L→C' o v=some L
structure CM.le (C C':CM):Prop where
 keep:C.keep C'
 nx:C.nx≤C'.nx
 new:∀o v L,C' o v=some L→(∃v' L',C o v'=some L')∨C.nx≤o
def CM.le_refl (C:CM):C.le C:=⟨fun _ _ _ h=>h,Am _,fun _ v L h=>.inl ⟨v,L,h⟩⟩
def CM.le_trans {A B C:CM}(h:A.le B)(k:B.le C):A.le C:=by
 refine⟨fun o v L e=>k.keep o v L (h.keep o v L e),Bo h.nx k.nx,fun o v L e=>?_⟩;rcases k.new o v L e with ⟨v',L',e'⟩|e'
 ·exact h.new o v' L' e'
 ·exact .inr (Bo h.nx e')
inductive FR (C:CM):Fn→Fn→Prop where
 |same (f:Fn) (h:∀l,f≠.yield l):FR C f f
 |yield {l:Nat} {L:Loc} (h:C l 0=some L):FR C (.yield l) (.yield L.b)
def FR.mono {C C':CM}(h:C.keep C'){f g:Fn}:FR C f g→FR C' f g
 |.same f hf=>.same f hf
 |.yield e=>.yield (h _ _ _ e)
def AV.one:AV→Bool
 |.agg _=>false
 |.tup _=>false
 |_=>true
mutual
inductive VR (C:CM):AV→Value→Prop where
 |bool (b:Bool):VR C (.bool b) (.bool b)
 |int (k:IntKind) (n:Int):VR C (.int k n) (.int k n)
 |str {len n:Nat} {s:ByteArray} (h1:s.data.toList.length=len) (h2:Hh s.data.toList=n):VR C (.str len n) (.string s)
 |nilPtr:VR C .nilPtr (.pointer none)
 |ptr {o v i:Nat} {L:Loc} (h:C o v=some L):VR C (.ptr o v i) (.pointer (some ⟨L.b,L.d+i,none⟩))
 |nilSl:VR C .nilSl (.slice none 0 0)
 |sl {o v i len esz:Nat} {room:Option Nat} {L:Loc} {cap:Nat} (h:C o v=some L) (h1:i+len*esz≤L.n) (h2:L.d+i+cap*esz≤L.sz) (h3:len≤cap)
   (h4:∀r,room=some r→cap=r∧i+r*esz≤L.n) (h5:room=none→L.d+i+cap*esz=L.sz) :
   VR C (.sl o v i len esz room) (.slice (some ⟨L.b,L.d+i,none⟩) len cap)
 |emp {a:Addr} {cap:Nat}:VR C .emp (.slice (some a) 0 cap)
 |nilMap:VR C .nilMap (.map none)
 |map {o:Nat} {L:Loc} (h:C o 0=some L):VR C (.map o) (.map (some L.b))
 |nilFn:VR C .nilFn .nilFunc
 |fn {f g:Fn} {l r:List AV} {l' r':Array Value} (h:FR C f g) (hl:VRs C l l'.toList) (hr:VRs C r r'.toList):VR C (.fn f l r) (.func g l' r')
 |nilIf:VR C .nilIf .nilIface
 |iface {t:TypeId} {a:AV} {v:Value} (h:VR C a v):VR C (.iface t a) (.iface t v)
 |agg {l:List AV} {vs:Array Value} (h:VRs C l vs.toList) (h1:∀a∈l,a.one=true):VR C (.agg l) (.agg vs)
 |tup {l:List AV} {vs:Array Value} (h:VRs C l vs.toList):VR C (.tup l) (.tuple vs)
inductive VRs (C:CM):List AV→List Value→Prop where
 |nil:VRs C [] []
 |cons {a:AV} {v:Value} {l:List AV} {r:List Value} (h:VR C a v) (hs:VRs C l r):VRs C (a::l) (v::r)
end
mutual
def VR.mono' {C C':CM}(h:C.keep C'):∀{a:AV} {v:Value},VR C a v→VR C' a v
 |_,_,.bool b=>.bool b
 |_,_,.int k n=>.int k n
 |_,_,.str h1 h2=>.str h1 h2
 |_,_,.nilPtr=>.nilPtr
 |_,_,.ptr e=>.ptr (h _ _ _ e)
 |_,_,.nilSl=>.nilSl
 |_,_,.sl e h1 h2 h3 h4 h5=>.sl (h _ _ _ e) h1 h2 h3 h4 h5
 |_,_,.emp=>.emp
 |_,_,.nilMap=>.nilMap
 |_,_,.map e=>.map (h _ _ _ e)
 |_,_,.nilFn=>.nilFn
 |_,_,.fn hf hl hr=>.fn (hf.mono h) (VRs.mono' h hl) (VRs.mono' h hr)
 |_,_,.nilIf=>.nilIf
 |_,_,.iface e=>.iface (VR.mono' h e)
 |_,_,.agg e h1=>.agg (VRs.mono' h e) h1
 |_,_,.tup e=>.tup (VRs.mono' h e)
def VRs.mono' {C C':CM}(h:C.keep C'):∀{l:List AV} {r:List Value},VRs C l r→VRs C' l r
 |_,_,.nil=>.nil
 |_,_,.cons e es=>.cons (VR.mono' h e) (VRs.mono' h es)
end
def VR.mono {C C':CM}(h:C.le C'){a:AV}{v:Value}(k:VR C a v):VR C' a v:=k.mono' h.keep
def VRs.mono {C C':CM}(h:C.le C'){a:List AV}{v:List Value}(k:VRs C a v):VRs C' a v:=k.mono' h.keep
def VRs.length {C:CM}:∀{l:List AV} {r:List Value},VRs C l r→l.length=r.length
 |_,_,.nil=>rfl
 |_,_,.cons _ es=>by simp[VRs.length es]
def VRs.get {C:CM}:∀{l:List AV} {r:List Value},VRs C l r→∀{i:Nat} {a:AV},l[i]?=some a→∃v,r[i]?=some v∧VR C a v
 |_,_,.nil,i,a,h=>by simp at h
 |_,_,.cons e es,0,a,h=>by simp only[A6,Option.some.injEq] at h;subst h;exact⟨_,rfl,e⟩
 |_,_,.cons e es,i+1,a,h=>by simp only[Av] at h ⊢;exact VRs.get es h
def VRs.mk {C:CM}:∀{l:List AV} {r:List Value},l.length=r.length→(∀(i:Nat) (a:AV),l[i]?=some a→∃v,r[i]?=some v∧VR C a v)→VRs C l r
 |[],[],_,_=>.nil
 |[],_::_,h,_=>by simp at h
 |_::_,[],h,_=>by simp at h
 |a::l,v::r,h,k=>by
  obtain⟨v',hv,hr⟩:=k 0 a rfl;simp only[A6,Option.some.injEq] at hv;subst hv;exact .cons hr (VRs.mk (by simpa using h) (fun i a hi=>by have:=k (i+1) a (by simpa using hi);simpa using this))
def VRs.append {C:CM}:∀{l:List AV} {r:List Value} {l':List AV} {r':List Value},VRs C l r→VRs C l' r'→VRs C (l++l') (r++r')
 |_,_,_,_,.nil,k=>k
 |_,_,_,_,.cons e es,k=>.cons e (VRs.append es k)
def VRs.drop {C:CM}:∀{l:List AV} {r:List Value},VRs C l r→∀n,VRs C (l.drop n) (r.drop n)
 |_,_,h,0=>h
 |_,_,.nil,_+1=>.nil
 |_,_,.cons _ es,n+1=>VRs.drop es n
def VRs.take {C:CM}:∀{l:List AV} {r:List Value},VRs C l r→∀n,VRs C (l.take n) (r.take n)
 |_,_,_,0=>.nil
 |_,_,.nil,_+1=>.nil
 |_,_,.cons e es,n+1=>.cons e (VRs.take es n)
def VR.one {C:CM}{a:AV}{v:Value}(h:VR C a v):v.oneCell'=a.one:=by cases h<;>rfl
def zpe {C:CM}{v:Value}{a:AV}(h:fo v=some a):VR C a v∧a.one=true:=by
 unfold fo at h;split at h<;>first
  |(cases h;done)
  |(cases h;exact⟨by constructor<;>rfl,rfl⟩)
  |(cases h;exact⟨by constructor,rfl⟩)
def R0 {C:CM}:∀{l:List Value} {r:List AV},Mr l=some r→VRs C r l∧∀a∈r,a.one=true
 |[],r,h=>by cases h;exact⟨.nil,by simp⟩
 |v::l,r,h=>by
  simp only[Mr] at h;split at h
  ·cases h
  ·rename_i a d;split at h
   ·cases h
   ·rename_i r' f;cases h;obtain⟨g,j⟩:=R0 (C:=C) f;obtain⟨m,o⟩:=zpe (C:=C) d;exact⟨.cons m g,by simpa using ⟨o,j⟩⟩
def zi7 {C:CM}{v:Value}{a:AV}(h:P8 v=some a):VR C a v:=by
 unfold P8 at h;split at h
 ·rename_i cs;cases d:Mr cs.toList with
  |none=>simp[d] at h
  |some r =>
   simp only[d,Ck,Option.some.injEq] at h;subst h;obtain⟨f,g⟩:=R0 (C:=C) d;exact .agg f g
 ·rename_i vs;split at h
  ·rename_i j;cases h;have:vs=#[]:=C3 j;subst this;exact .tup .nil
  ·cases h
 ·exact (zpe h).1
def VR.cells {C:CM}{a:AV}{v:Value}(h:VR C a v){l:List AV}(hl:a.cells=some l):VRs C l v.cells.toList∧∀x∈l,x.one=true:=by
 cases h with
 |agg h h1=>simp only[AV.cells,Option.some.injEq] at hl;subst hl;exact⟨by simpa [Value.cells] using h,h1⟩
 |tup h=>simp[AV.cells] at hl
 |_=>simp only[AV.cells,Option.some.injEq] at hl;subst hl;exact⟨by simp only[Value.cells];exact .cons (by constructor<;>assumption) .nil,by simp[AV.one]⟩
def S9 (C:CM)(c:Tr AV)(len:Nat)(vs:Array Value)(d:Nat):Prop :=
 ∀i,i<len→∃a,E3 (Fl i) c=some a∧a.one=true∧∃v,vs[d+i]?=some v∧VR C a v
inductive MR (C:CM):List (AV×AV×Nat)→List MapEntry→Prop where
 |nil:MR C [] []
 |cons {k v:AV} {b:Nat} {e:MapEntry} {l:List (AV×AV×Nat)} {r:List MapEntry} (hk:VR C k e.key) (hv:VR C v e.val) (hb:e.born=b) (h:MR C l r):MR C ((k,v,b)::l) (e::r)
def OVR (C:CM)(a:Option AV)(v:Value):Prop:=match a with
 |some a=>VR C a v
 |none=>v=undef
def ER (n:Nat)(C:CM)(E:Tr AV)(a:Array Value):Prop :=
 a.size=n∧n≤Io∧∀t,t≤Io→OVR C (E3 (Fl t) E) (a.getD t undef)
def Ie (B:Nat)(C:CM)(w:World)(o:Nat):AObj→Prop
 |.cells c len h ro=>∀L,C o h=some L→L.n=len∧(ro=false→B≤L.b)∧L.d+len≤L.sz∧∃vs e lo hi,w.heap[L.b]?=some (.cells vs e (lo,hi))∧L.sz≤vs.size ∧
   (∀i,L.d≤i→i<L.sz→¬(lo≤i∧i<hi))∧S9 C c len vs L.d
 |.map es m=>∀L,C o 0=some L→B≤L.b∧∃g:Array MapEntry,w.heap[L.b]?=some (.map g m)∧MR C es g.toList
 |.iter len n pos=>∀L,C o 0=some L→B≤L.b∧L.d=0∧∃s:ByteArray,w.heap[L.b]?=some (.stringIter s pos)∧s.data.toList.length=len∧Hh s.data.toList=n
 |.loop st pend f n E p a b d=>∀L,C o 0=some L→B≤L.b∧∃j l,C d 0=some l∧w.heap[L.b]?=some (.loop { state:=st,pending:=pend,fn:=f,tmps:=j,params:=p,assign:=a,body:=b,defers:=l.b })∧ER n C E j
 |.defd op=>∀L,C o 0=some L→B≤L.b∧w.heap[L.b]?=some (.deferred (if op then some [] else none))
structure Rel (w0:World) (C:CM) (H:Heap) (w:World):Prop where
 nx:C.nx=H.next
 low:Below w0.heap.size w0 w
 fresh:∀o v L,C o v=some L→o<H.next
 lt:∀o v L,C o v=some L→L.b<w.heap.size
 excl:∀o v L o' v' L',C o v=some L→C o' v'=some L'→L.b=L'.b→w0.heap.size≤L.b→o=o'
 obj:∀o ob,o<H.next→H.get o=some ob→Ie w0.heap.size C w o ob
 top:∀o c len ver ro,o<H.next→H.get o=some (.cells c len ver ro)→∀v L,C o v=some L→v≤ver
end Go.Sv
namespace Go.Sv
open Go.RowKit (Below)
def CM.ext (C:CM)(o v:Nat)(L:Loc):CM:=⟨fun o' v'=>if o'=o∧v'=v then some L else C o' v',max C.nx (o+1)⟩
def CM.ext_same (C:CM)(o v:Nat)(L:Loc):C.ext o v L o v=some L:=by simp[CM.ext]
def CM.ext_ne (C:CM){o v o' v':Nat}(L:Loc)(h:¬(o'=o∧v'=v)):C.ext o v L o' v'=C o' v':=by simp only[CM.ext];rw[Ab h]
def CM.le_ext {C:CM}{o v:Nat}(L:Loc)(h:C o v=none)(hn:(∃v' L',C o v'=some L')∨C.nx≤o):C.le (C.ext o v L):=by
 refine⟨fun o' v' L' h'=>?_,Cw _ _,fun o' v' L' h'=>?_⟩
 ·by_cases e:o'=o∧v'=v
  ·obtain⟨rfl,rfl⟩:=e;rw[h] at h';cases h'
  ·rw[CM.ext_ne C L e];exact h'
 ·by_cases e:o'=o∧v'=v
  ·obtain⟨rfl,rfl⟩:=e;exact hn
  ·rw[CM.ext_ne C L e] at h';exact .inl ⟨v',L',h'⟩
def MR.mono' {C C':CM}(h:C.keep C'):∀{l:List (AV×AV×Nat)} {r:List MapEntry},MR C l r→MR C' l r
 |_,_,.nil=>.nil
 |_,_,.cons hk hv hb hs=>.cons (hk.mono' h) (hv.mono' h) hb (MR.mono' h hs)
def OVR.mono' {C C':CM}(h:C.keep C'){a:Option AV}{v:Value}(k:OVR C a v):OVR C' a v:=by
 cases a with
 |none=>exact k
 |some a=>exact VR.mono' h k
def ER.mono' {C C':CM}(h:C.keep C'){n:Nat}{E:Tr AV}{tm:Array Value}(k:ER n C E tm):ER n C' E tm :=
 ⟨k.1,k.2.1,fun t ht=>(k.2.2 t ht).mono' h⟩
def S9.mono' {C C':CM}(h:C.keep C'){c:Tr AV}{len:Nat}{vs:Array Value}{d:Nat}(k:S9 C c len vs d):S9 C' c len vs d :=
 fun i hi=>let ⟨a,h1,h2,v,h3,h4⟩:=k i hi;⟨a,h1,h2,v,h3,h4.mono' h⟩
def MR.mono {C C':CM}(h:C.le C'){l:List (AV×AV×Nat)}{r:List MapEntry}(k:MR C l r):MR C' l r:=k.mono' h.keep
def ER.mono {C C':CM}(h:C.le C'){n:Nat}{E:Tr AV}{tm:Array Value}(k:ER n C E tm):ER n C' E tm:=k.mono' h.keep
def S9.mono {C C':CM}(h:C.le C'){c:Tr AV}{len:Nat}{vs:Array Value}{d:Nat}(k:S9 C c len vs d):S9 C' c len vs d:=k.mono' h.keep
def Ie.frame' {B:Nat}{C C':CM}{w w':World}{o:Nat}{ob:AObj}(h:Ie B C w o ob)(hc:C.keep C')(hn:∀v L,C' o v=some L→C o v=some L)
  (hb:∀v L,C o v=some L→w'.heap[L.b]?=w.heap[L.b]?):Ie B C' w' o ob:=by
 cases ob with
 |cells c len af ro =>
  intro L hL;have aa:=hn _ _ hL;obtain⟨h1,h2,h3,vs,e,lo,hi,h4,h5,h6,h7⟩:=h L aa;exact⟨h1,h2,h3,vs,e,lo,hi,by rw[hb _ _ aa];exact h4,h5,h6,h7.mono' hc⟩
 |map es ck =>
  intro L hL;have aa:=hn _ _ hL;obtain⟨h1,ad,h2,h3⟩:=h L aa;exact⟨h1,ad,by rw[hb _ _ aa];exact h2,h3.mono' hc⟩
 |iter len n pos =>
  intro L hL;have aa:=hn _ _ hL;obtain⟨h1,h0,s,h2,h3⟩:=h L aa;exact⟨h1,h0,s,by rw[hb _ _ aa];exact h2,h3⟩
 |loop st pend f n E ps a b d =>
  intro L hL;have aa:=hn _ _ hL;obtain⟨h1,tm,Ld,h2,h3,h4⟩:=h L aa;exact⟨h1,tm,Ld,hc _ _ _ h2,by rw[hb _ _ aa];exact h3,h4.mono' hc⟩
 |defd op =>
  intro L hL;have aa:=hn _ _ hL;obtain⟨h1,h2⟩:=h L aa;exact⟨h1,by rw[hb _ _ aa];exact h2⟩
def Ie.frame {B:Nat}{C C':CM}{w w':World}{o:Nat}{ob:AObj}(h:Ie B C w o ob)(hc:C.le C')(hn:∀v L,C' o v=some L→C o v=some L)
  (hb:∀v L,C o v=some L→w'.heap[L.b]?=w.heap[L.b]?):Ie B C' w' o ob:=h.frame' hc.keep hn hb
def Heap.get_push_same (H:Heap)(x:AObj):(H.push x).get H.next=some x:=zb7 _ _ _
def Heap.get_push_ne (H:Heap)(x:AObj){o:Nat}(ho:o<H.next):(H.push x).get o=H.get o :=
 m9 (by omega) _ _
def Heap.get_put_same (H:Heap)(o:Nat)(x:AObj):(H.put o x).get o=some x:=zb7 _ _ _
def Heap.get_put_ne (H:Heap){o o':Nat}(x:AObj)(aa:o'≠o):(H.put o x).get o'=H.get o':=m9 aa _ _
def z70 (w:World)(x:Obj){k:Nat}(h:k<w.heap.size):(w.alloc x).heap[k]?=w.heap[k]?:=Below.heap_alloc w x k h
def Uq (w:World)(x:Obj):(w.alloc x).heap[w.heap.size]?=some x:=by
 show (w.heap.push x)[w.heap.size]?=some x;simp
def Rel.next_none {w0:World}{C:CM}{H:Heap}{w:World}(h:Rel w0 C H w)(v:Nat):C H.next v=none:=by
 cases e:C H.next v with
 |none=>rfl
 |some L=>have:=h.fresh _ _ _ e;omega
def Rel.push {w0:World}{C:CM}{H:Heap}{w:World}(h:Rel w0 C H w)(ob:AObj)(x:Obj)(n sz:Nat)
  (af:Ie w0.heap.size (C.ext H.next 0 ⟨w.heap.size,0,n,sz⟩) (w.alloc x) H.next ob) :
  Rel w0 (C.ext H.next 0 ⟨w.heap.size,0,n,sz⟩) (H.push ob) (w.alloc x)∧C.le (C.ext H.next 0 ⟨w.heap.size,0,n,sz⟩):=by
 have hle:C.le (C.ext H.next 0 ⟨w.heap.size,0,n,sz⟩):=CM.le_ext _ (h.next_none 0) (.inr (Di h.nx));refine⟨⟨by show max C.nx (H.next+1)=H.next+1;rw[h.nx];exact Nat.max_eq_right (Eg _),h.low.alloc h.low.size x,?_,?_,?_,?_,?_⟩,hle⟩
 ·intro o v L hL;show o<H.next+1;by_cases e:o=H.next∧v=0
  ·omega
  ·rw[CM.ext_ne _ _ e] at hL;have:=h.fresh _ _ _ hL;omega
 ·intro o v L hL;rw[World.size_alloc];by_cases e:o=H.next∧v=0
  ·obtain⟨rfl,rfl⟩:=e;rw[CM.ext_same] at hL;cases hL;exact B2 _
  ·rw[CM.ext_ne _ _ e] at hL;have:=h.lt _ _ _ hL;omega
 ·intro o v L o' v' L' hL aa hb hB;by_cases e:o=H.next∧v=0<;>by_cases e':o'=H.next∧v'=0
  ·omega
  ·obtain⟨rfl,rfl⟩:=e;rw[CM.ext_same] at hL;cases hL;rw[CM.ext_ne _ _ e'] at aa;have:=h.lt _ _ _ aa;dsimp at hb;omega
  ·obtain⟨rfl,rfl⟩:=e';rw[CM.ext_same] at aa;cases aa;rw[CM.ext_ne _ _ e] at hL;have:=h.lt _ _ _ hL;dsimp at hb;omega
  ·rw[CM.ext_ne _ _ e] at hL;rw[CM.ext_ne _ _ e'] at aa;exact h.excl _ _ _ _ _ _ hL aa hb hB
 ·intro o ob' ho hg;by_cases e:o=H.next
  ·subst e;rw[Heap.get_push_same] at hg;cases hg;exact af
  ·have ad:o<H.next:=by have:o<H.next+1:=ho;omega
   rw[Heap.get_push_ne _ _ ad] at hg;refine (h.obj _ _ ad hg).frame hle (fun v L hL=>?_) (fun v L hL=>z70 _ _ (h.lt _ _ _ hL))
   rwa [CM.ext_ne _ _ (by omega)] at hL
 ·intro o c len ag ro ho hg v L hL;by_cases e:o=H.next
  ·subst e;by_cases ev:v=0
   ·omega
   ·rw[CM.ext_ne _ _ (by omega)] at hL;have:=h.fresh _ _ _ hL;omega
  ·have ad:o<H.next:=by have:o<H.next+1:=ho;omega
   rw[Heap.get_push_ne _ _ ad] at hg;rw[CM.ext_ne _ _ (by omega)] at hL;exact h.top _ _ _ _ _ ad hg _ _ hL
def Rel.put {w0:World}{C:CM}{H:Heap}{w w':World}(h:Rel w0 C H w){o:Nat}(ho:o<H.next)(ob:AObj)(af:Below w0.heap.size w0 w')
  (aj:w.heap.size≤w'.heap.size) (ao:∀o' v L,o'≠o→C o' v=some L→w'.heap[L.b]?=w.heap[L.b]?) (ap:Ie w0.heap.size C w' o ob)
  (ag:∀c len ad ro,ob=.cells c len ad ro→∀v L,C o v=some L→v≤ad):Rel w0 C (H.put o ob) w':=by
 refine⟨h.nx,af,h.fresh,fun o v L hL=>Bg (h.lt o v L hL) aj,h.excl,?_,?_⟩
 ·intro o' ob' aa hg;by_cases e:o'=o
  ·subst e;rw[Heap.get_put_same] at hg;cases hg;exact ap
  ·have ah:o'<H.next:=aa;rw[Heap.get_put_ne H ob e] at hg;exact (h.obj _ _ aa hg).frame (CM.le_refl C) (fun v L hL=>hL) (fun v L hL=>ao _ _ _ e hL)
 ·intro o' c len ad ro aa hg v L hL;by_cases e:o'=o
  ·subst e;rw[Heap.get_put_same] at hg;cases hg;exact ag _ _ _ _ rfl v L hL
  ·have ah:o'<H.next:=aa;rw[Heap.get_put_ne H ob e] at hg;exact h.top _ _ _ _ _ aa hg _ _ hL
def Rel.drew {w0:World}{C:CM}{H:Heap}{w:World}(h:Rel w0 C H w):Rel w0 C H w.drew :=
 ⟨h.nx,h.low.drew,h.fresh,h.lt,h.excl,fun o ob ho hg=>(h.obj o ob ho hg).frame (CM.le_refl C) (fun _ _ hL=>hL) (fun _ _ _=>rfl),h.top⟩
def z9a (P:Program)(w:World)(a:Addr):∀(n i:Nat) (acc:Array Value) (r:List Value),r.length=n→(∀j,j<n→w.cell? (a.add (i+j))=r[j]?) →
  (loadCellsFrom a i n acc).run P w=.ok (acc++r.toArray) w
 |0,i,acc,r,d,_=>by
  have:r=[]:=A0 d;subst this;simp[loadCellsFrom]
 |n+1,i,acc,r,d,h=>by
  cases r with
  |nil=>simp at d
  |cons v r =>
   have f:w.cell? (a.add i)=some v:=by simpa using h 0 (by omega)
   simp only[loadCellsFrom,Sem.run_bind,run_load,f,Result.andThen_ok];rw[z9a P w a n (i+1) (acc.push v) r (by simpa using d) (fun j g=>by
    have:=h (j+1) (by omega);rw[show i+1+j=i+(j+1) from by omega,this,Av])]
   simp
def za8 (P:Program)(w:World)(a:Addr)(n:Nat)(r:List Value)(d:r.length=n)(h:∀j,j<n→w.cell? (a.add j)=r[j]?) :
  (loadCells a n).run P w=.ok r.toArray w:=by
 unfold loadCells;rw[z9a P w a n 0 #[] r d (fun j f=>by rw[Bd];exact h j f)];simp
def Z9 (b d i j:Nat):(⟨b,d+i,none⟩:Addr).add j=⟨b,d+(i+j),none⟩:=by
 unfold Addr.add;by_cases h:j=0
 ·subst h;simp
 ·rw[Ab h];simp[Cs]
def xl {w:World}{b i:Nat}{vs:Array Value}{e:TypeId}{fz:Nat×Nat}(h:w.heap[b]?=some (.cells vs e fz)):w.cell? ⟨b,i,none⟩=vs[i]?:=by
 simp[World.cell?,h]
def Rel.read {w0:World}{C:CM}{H:Heap}{w:World}(h:Rel w0 C H w)(P:Program){o v i n:Nat}{l:List AV}(hr:Jd H o v i n=some l){L:Loc}(hL:C o v=some L) :
  ∃vs:List Value,(loadCells ⟨L.b,L.d+i,none⟩ n).run P w=.ok vs.toArray w∧VRs C l vs∧(∀a∈l,a.one=true)∧l.length=n∧i+n≤L.n ∧
   (∀j,j<n→w.cell? ⟨L.b,L.d+(i+j),none⟩=vs[j]?):=by
 unfold Jd at hr;split at hr
 ·rename_i c len ao ro hg;split at hr
  ·rename_i hv;have af:=Al hv;subst af;split at hr
   ·rename_i hle;have aj:i+n≤len:=As hle;have ag:=h.obj o _ (h.fresh _ _ _ hL) hg;obtain⟨h1,_,h3,vs,e,lo,hi,h4,h5,h6,h7⟩:=ag L hL;obtain⟨k1,k2⟩:=X0 hr;have hex:∀j,j<n→∃a,l[j]?=some a∧a.one=true∧∃x,vs[L.d+(i+j)]?=some x∧VR C a x:=by
     intro j hj;obtain⟨a,q1,q2,x,q3,q4⟩:=h7 (i+j) (by omega);exact⟨a,by rw[←k2 j hj];exact q1,q2,x,q3,q4⟩
    have ap:L.d+(i+n)≤vs.size:=by omega
    let r:List Value:=(List.range n).map fun j=>vs.getD (L.d+(i+j)) undef
    have ah:r.length=n:=by simp[r]
    have aa:∀j,j<n→vs[L.d+(i+j)]?=r[j]?:=by
     intro j hj;simp only[r,Cc,List.getElem?_range hj,Ck];rw[Cd (by omega),Bk,Cd (by omega)];rfl
    refine⟨r,?_,?_,?_,k1,by omega,?_⟩
    ·exact za8 P w _ n r ah (fun j hj=>by rw[Z9,xl h4];exact aa j hj)
    ·refine VRs.mk (by omega) (fun j a hj=>?_);have ad:j<n:=by have:=(Aa.1 hj).1;omega
     obtain⟨a',q1,_,x,q3,q4⟩:=hex j ad;rw[hj] at q1;cases q1;exact⟨x,by rw[←aa j ad];exact q3,q4⟩
    ·intro a ha;obtain⟨j,hj,rfl⟩:=List.getElem_of_mem ha;obtain⟨a',q1,q2,_⟩:=hex j (by omega);rw[Ah hj] at q1;cases q1;exact q2
    ·intro j hj;rw[xl h4];exact aa j hj
   ·cases hr
  ·cases hr
 ·cases hr
def z8l (P:Program)(a:Addr):∀(r:List Value) (i:Nat) (w:World) (vs:Array Value) (e:TypeId) (lo hi:Nat),a.spot=none→w.heap[a.block]?=some (.cells vs e (lo,hi)) →
  (∀v∈r,v.oneCell'=true)→a.off+i+r.length≤vs.size→(∀j,a.off+i≤j→j<a.off+i+r.length→¬(lo≤j∧j<hi)) →
  ∃w' f,(storeCells a r i).run P w=.ok () w'∧w'.heap[a.block]?=some (.cells f e (lo,hi))∧f.size=vs.size∧(∀k,k≠a.block→w'.heap[k]?=w.heap[k]?) ∧
   w'.heap.size=w.heap.size∧w'.os=w.os∧w'.tape=w.tape∧w'.output=w.output∧(∀j,f[j]?=if a.off+i≤j∧j<a.off+i+r.length then r[j - (a.off+i)]? else vs[j]?)
 |[],i,w,vs,e,lo,hi,_,m,_,_,_=>by
  refine⟨w,vs,rfl,m,rfl,fun _ _=>rfl,rfl,rfl,rfl,rfl,fun j=>?_⟩;rw[Ab (by simp)]
 |v::r,i,w,vs,e,lo,hi,A,m,hv,q,s=>by
  simp only[Ar] at q s;have d:a.add i=⟨a.block,a.off+i,none⟩:=by
   unfold Addr.add;by_cases h:i=0
   ·subst h;simp;cases a;simp_all
   ·rw[Ab h]
  have g : w.cell? (a.add i) = some (vs[a.off + i]'(by omega)) := by
   rw[d,xl m,Cd]
  have y:w.frozen? (a.add i)=false:=by
   rw[d];simp only[World.frozen?,m];have:=s (a.off+i) (by omega) (by omega);simp only[Bool.and_eq_false_iff,Bl];omega
  have o:(store (a.add i) v).run P w=.ok () (w.setCell (a.add i) v):=by
   rw[run_store P w _ v .plain (hv v (by simp)),g];simp[y]
  have p:(w.setCell (a.add i) v).heap[a.block]?=some (.cells (vs.setIfInBounds (a.off+i) v) e (lo,hi)):=by
   rw[d];simp only[World.setCell,Array.getElem?_modify,Bu,m,Ck];simp
  obtain⟨w',f,B,C,D,E,F,G,H,I,J⟩:=z8l P a r (i+1) (w.setCell (a.add i) v) _ e lo hi A p (fun x K=>hv x (by simp[K]))
   (by rw[Array.size_setIfInBounds];omega) (fun j z l=>s j (by omega) (by omega))
  refine⟨w',f,?_,C,by rw[D,Array.size_setIfInBounds],?_,?_,G,H,I,?_⟩
  ·simp only[storeCells,Sem.run_bind,o,Result.andThen_ok];exact B
  ·intro k hk;rw[E k hk];exact Below.heap_setCell w (a.add i) v k (by rw[d];exact hk)
  ·rw[F,World.size_setCell]
  ·intro j;rw[J j];by_cases z:a.off+(i+1)≤j∧j<a.off+(i+1)+r.length
   ·rw[Ai z,Ai (by simp only[Ar];omega)];have:j - (a.off+i)=(j - (a.off+(i+1)))+1:=by omega
    rw[this,Av]
   ·rw[Ab z,Array.getElem?_setIfInBounds];by_cases l:a.off+i=j
    ·subst l;rw[Ai rfl,Ai (by omega),Ai (by simp only[Ar];omega)];simp
    ·rw[Ab l,Ab (by simp only[Ar];omega)]
def VRs.get' {C:CM}{l:List AV}{r:List Value}(h:VRs C l r){i:Nat}(hi:i<l.length):∃a v,l[i]?=some a∧r[i]?=some v∧VR C a v:=by
 obtain⟨v,h1,h2⟩:=h.get (Ah hi);exact⟨_,v,Ah hi,h1,h2⟩
def VRs.one {C:CM}:∀{l:List AV} {r:List Value},VRs C l r→(∀a∈l,a.one=true)→∀v∈r,v.oneCell'=true
 |_,_,.nil,_,v,hv=>by simp at hv
 |_,_,.cons e es,h,v,hv=>by
  rcases An.1 hv with rfl|hv
  ·rw[e.one];exact h _ (by simp)
  ·exact VRs.one es (fun a ha=>h a (by simp[ha])) v hv
def S9.lay {C:CM}{c:Tr AV}{len aa:Nat}{vs ad:Array Value}{d i:Nat}{l:List AV}{r:List Value}(h:S9 C c len vs d)(hv:VRs C l r)(h1:∀a∈l,a.one=true)
  (hi:i≤len) (_hle:i+l.length≤aa) (ah:aa≤len∨aa=i+l.length)
  (ag:∀j,ad[j]?=if d+i≤j∧j<d+i+r.length then r[j - (d+i)]? else vs[j]?):S9 C (Ju l i c) aa ad d:=by
 intro k hk;rw[get_ofList l i c k];have hlen:=hv.length;rw[ag];by_cases af:i≤k∧k<i+l.length
 ·rw[Ai af,Ai (by omega)];obtain⟨a,v,q1,q2,q3⟩:=hv.get' (i:=k - i) (by omega);refine⟨a,q1,h1 a (A7 q1),v,?_,q3⟩;rw[show d+k - (d+i)=k - i from by omega];exact q2
 ·rw[Ab af,Ab (by omega)];exact h k (by omega)
def Rel.write {w0:World}{C:CM}{H H':Heap}{w:World}(h:Rel w0 C H w)(P:Program){o v i:Nat}{l:List AV}(hw:Oz H o v i l=some H'){L:Loc}(hL:C o v=some L)
  {r:List Value} (hr:VRs C l r) (h1:∀a∈l,a.one=true):∃w',(storeCells ⟨L.b,L.d+i,none⟩ r).run P w=.ok () w'∧Rel w0 C H' w':=by
 unfold Oz at hw;split at hw
 ·rename_i c len ar hg;split at hw
  ·rename_i hv;have af:=Al hv;subst af;split at hw
   ·rename_i hle;have ad:i+l.length≤len:=As hle;cases hw;have ho:=h.fresh _ _ _ hL;have ag:=h.obj o _ ho hg;obtain⟨q1,q2,q3,vs,e,lo,hi,q4,q5,q6,q7⟩:=ag L hL;have aw:=hr.length;obtain⟨w',ah,k1,k2,k3,k4,k5,k6,k7,k8,k9⟩:=z8l P ⟨L.b,L.d+i,none⟩ r 0 w vs e lo hi rfl q4 (hr.one h1) (by dsimp;omega) (fun j hj aj=>by dsimp at hj aj;exact q6 j (by omega) (by omega));refine⟨w',k1,h.put ho _ ?_ (by omega) ?_ ?_ ?_⟩
    ·exact h.low.trans ⟨k6,k7,k8,by omega,fun k hk=>k4 k (by dsimp;have:=q2 rfl;omega)⟩
    ·intro o' v' L' ao aa;refine k4 _ (fun e'=>ao ?_);exact (h.excl _ _ _ _ _ _ hL aa e'.symm (q2 rfl)).symm
    ·intro L' aa;rw[hL] at aa;cases aa;refine⟨q1,q2,q3,ah,e,lo,hi,k2,by omega,q6,q7.lay hr h1 (by omega) ad (.inl (Am _)) (fun j=>?_)⟩;rw[k9 j];rfl
    ·intro c' ap aq ax he v' L' aa;cases he;exact h.top _ _ _ _ _ ho hg _ _ aa
   ·cases hw
  ·cases hw
 ·cases hw
def Rel.newRow {w0:World}{C:CM}{H H':Heap}{w:World}(h:Rel w0 C H w){l:List AV}{o:Nat}(hn:newObj H l=some (o,H'))(e:TypeId)(fz:Nat×Nat){vs:Array Value}
  (hle:l.length≤vs.size) (hv:VRs C l (vs.toList.take l.length)) (h1:∀a∈l,a.one=true) (ad:∀i,i<vs.size→¬(fz.1≤i∧i<fz.2)) :
  ∃C',C.le C'∧Rel w0 C' H' (w.alloc (.cells vs e fz))∧C' o 0=some ⟨w.heap.size,0,l.length,vs.size⟩:=by
 unfold Sv.newObj at hn;cases hn;have aa:C.le (C.ext H.next 0 ⟨w.heap.size,0,l.length,vs.size⟩):=CM.le_ext _ (h.next_none 0) (.inr (Di h.nx));refine⟨C.ext H.next 0 ⟨w.heap.size,0,l.length,vs.size⟩,aa,(h.push _ _ l.length vs.size ?_).1,CM.ext_same _ _ _ _⟩;intro L hL;rw[CM.ext_same] at hL;cases hL;refine⟨rfl,fun _=>h.low.size,by dsimp;omega,vs,e,fz.1,fz.2,Uq _ _,Am _,fun i _ hi=>ad i hi,?_⟩;intro k hk;rw[get_ofList l 0 .e k,Ai (by omega)];obtain⟨a,v,q1,q2,q3⟩:=hv.get' (i:=k) hk;refine⟨a,by simpa using q1,h1 a (A7 q1),v,?_,q3.mono aa⟩;rw[Ch hk] at q2;simpa using q2
end Go.Sv
namespace Go.Sv
open Go.RowKit (Below)
section sem
variable {P : Program} {w : World}
def Gn {t:TypeId}{d:TypeDesc}(h:P.underlying t=some d):(underlying t).run P w=.ok d w:=by
 simp[underlying,h]
def Yl {t:TypeId}{i:TypeInfo}(h:P.info? t=some i):(typeInfo t).run P w=.ok i w:=by
 simp[typeInfo,h]
def Ku {t:TypeId}{n:Nat}(h:Hk P t=some n):(sizeOf t).run P w=.ok n w:=by
 unfold Hk at h;cases hi:P.info? t with
 |none=>simp[hi] at h
 |some i=>simp only[hi,Ck,Option.some.injEq] at h;simp[sizeOf,Yl hi,h]
def v8 {t:TypeId}{b:Bool}(h:Lh P t=some b):(isAgg t).run P w=.ok b w:=by
 unfold Lh at h;cases hu:P.underlying t with
 |none=>simp[hu] at h
 |some d=>cases d<;>simp[hu] at h<;>subst h<;>simp[isAgg,Gn hu]
def ie {t:TypeId}{l:List AV}(h:K3 P t=some l):∃v i,(zeroValue t).run P w=.ok v w∧Mr v.cells.toList=some l∧P.info? t=some i∧l.length=i.size:=by
 unfold K3 at h;cases hi:P.info? t with
 |none=>simp[hi] at h
 |some i =>
  simp only[hi] at h;cases a:i.zero with
  |none=>simp[a] at h
  |some v =>
   simp only[a] at h;cases d:Mr v.cells.toList with
   |none=>simp[d] at h
   |some r =>
    simp only[d] at h;split at h
    ·cases h;rename_i f;exact⟨v,i,by simp[zeroValue,Yl hi,a],d,rfl,f⟩
    ·cases h
def zpv {t:TypeId}{a:AV}(h:tj P t=some a):∃v,(zeroValue t).run P w=.ok v w∧P8 v=some a:=by
 unfold tj at h;cases hi:P.info? t with
 |none=>simp[hi] at h
 |some i =>
  simp only[hi] at h;cases d:i.zero with
  |none=>simp[d] at h
  |some v=>simp only[d] at h;exact⟨v,by simp[zeroValue,Yl hi,d],h⟩
end sem
def ln (C:CM)(E:Tr AV)(ρ:Operand→Value):Prop:=∀x a,(Fq x).run E=some a→VR C a (ρ x)
def sk {n:Nat}{C:CM}{E:Tr AV}{a:Act}(h:ER n C E a.tmps):ln C E a.eval:=by
 intro x o d;cases x with
 |tmp t =>
  unfold Fq at d;dsimp only at d;split at d
  ·rename_i j;have:=h.2.2 t (As j);dsimp only at d;show VR C o (a.tmps.getD t undef);cases m:E3 (Fl t) E with
   |none=>rw[m] at d this;cases d;rw[show a.tmps.getD t undef=undef from this];exact .tup .nil
   |some b=>rw[m] at d this;cases d;exact this
  ·cases d
 |const v =>
  unfold Fq at d;dsimp only at d;split at d
  ·rename_i b j;cases d;exact zi7 j
  ·cases d
 |global g=>cases d
 |func f=>cases d;exact .fn (.same _ (fun l e=>by cases e)) .nil .nil
def rf {C:CM}{E:Tr AV}{ρ:Operand→Value}(h:ln C E ρ):∀{xs:List Operand} {l:List AV},(opds xs).run E=some l→VRs C l (xs.map ρ)
 |[],l,d=>by cases d;exact .nil
 |x::xs,l,d=>by
  unfold opds at d;dsimp only at d;split at d
  ·cases d
  ·rename_i a f;split at d
   ·cases d
   ·rename_i r g;cases d;exact .cons (h _ _ f) (rf h g)
def Up (P:Program)(d:World)(C:CM)(w:World)(nx:Sem Next)(v:AV)(H':Heap):Prop :=
 ∃a w' x,C.le a∧Rel d a H' w'∧VR a v x∧(nx.run P w=.ok (.value x) w'∨(nx.run P w=.ok .skip w'∧x=undef))
def sg (P:Program)(C:CM)(w:World)(nx:Sem Next)(t:Tgt)(args:List AV):Prop :=
 ∃vs:List Value,VRs C args vs∧((∃f,t=.fn f∧nx.run P w=.ok (.enter f vs.toArray) w)∨(∃l L,t=.yield l∧C l 0=some L∧nx.run P w=(Instr.yield L.b vs.toArray).run P w))
def Jt (P:Program)(a:World)(C:CM)(w:World)(nx:Sem Next):OR→Prop
 |.no=>True
 |.val v H'=>Up P a C w nx v H'
 |.call t args=>sg P C w nx t args
def F9 (P:Program)(f:OpF)(nx:(Operand→Value)→Sem Next):Prop :=
 ∀a C H w E ρ,Rel a C H w→ln C E ρ→Jt P a C w (nx ρ) (f.run E H)
def Gl (P:Program)(nx:(Operand→Value)→Sem Next):F9 P Gc nx:=fun _ _ _ _ _ _ _ _=>trivial
def Lj {P:Program}{x:Operand}{f:Heap→AV→OR}{nx:(Operand→Value)→Sem Next}
  (h:∀d C H w ρ a,Rel d C H w→VR C a (ρ x)→Jt P d C w (nx ρ) (f H a)):F9 P (Ik x f) nx:=by
 intro d C H w E ρ g j;show Jt P d C w (nx ρ) (Option.rec OR.no (fun a=>f H a) ((Fq x).run E));cases l:(Fq x).run E with
 |none=>exact trivial
 |some a=>exact h _ _ _ _ _ _ g (j _ _ l)
def Sz {P:Program}{x y:Operand}{f:Heap→AV→AV→OR}{nx:(Operand→Value)→Sem Next}
  (h:∀d C H w ρ a b,Rel d C H w→VR C a (ρ x)→VR C b (ρ y)→Jt P d C w (nx ρ) (f H a b)):F9 P (Lp x y f) nx:=by
 intro d C H w E ρ j g;show Jt P d C w (nx ρ) (Option.rec OR.no (fun a=>Option.rec OR.no (fun b=>f H a b) ((Fq y).run E)) ((Fq x).run E));cases l:(Fq x).run E with
 |none=>exact trivial
 |some a =>
  cases m:(Fq y).run E with
  |none=>exact trivial
  |some b=>exact h _ _ _ _ _ _ _ j (g _ _ l) (g _ _ m)
def H9 {P:Program}{d:World}{C:CM}{H:Heap}{w:World}{nx:Sem Next}{v:AV}{x:Value}(f:Rel d C H w)(hv:VR C v x)(a:nx.run P w=.ok (.value x) w) :
  Up P d C w nx v H:=⟨C,w,x,CM.le_refl C,f,hv,.inl a⟩
def zkf (P:Program)(x:Operand):F9 P (Ik x fun H a=>.val a H) (fun ρ=>pure (.value (ρ x))) :=
 Lj fun _ _ _ _ _ _ d hv=>H9 d hv rfl
def zuu (P:Program)(c a b:Operand):F9 P (Gg P (.pick c a b)) (fun ρ=>do pure (.value (if ←asBool (ρ c) then ρ a else ρ b))):=by
 intro l C H w E ρ j g;show Jt P l C w _ (match (Fq c).run E with
  |some (.bool true)=>ret1 H ((Fq a).run E)
  |some (.bool false)=>ret1 H ((Fq b).run E)
  |_=>.no)
 split
 ·rename_i h;have d:=g _ _ h;cases m:(Fq a).run E with
  |none=>exact trivial
  |some v =>
   have hv:=g _ _ m;refine H9 j hv ?_;cases f:ρ c<;>rw[f] at d<;>cases d;simp[asBool,f]
 ·rename_i h;have d:=g _ _ h;cases o:(Fq b).run E with
  |none=>exact trivial
  |some v =>
   have hv:=g _ _ o;refine H9 j hv ?_;cases f:ρ c<;>rw[f] at d<;>cases d;simp[asBool,f]
 ·exact trivial
def zp9 {P:Program}{j:World}{C:CM}{H:Heap}{w:World}(m:Rel j C H w)(t:TypeId){l:List AV}{cs:Array Value}(hv:VRs C l cs.toList)(p:∀a∈l,a.one=true)
  {nx:Sem Next} (d:nx.run P w=.ok (.value (.pointer (some ⟨w.heap.size,0,none⟩))) (w.alloc (.cells cs t))):Jt P j C w nx (Qd H l):=by
 unfold Qd;cases q:newObj H l with
 |none=>exact trivial
 |some r =>
  obtain⟨o,H'⟩:=r;have hlen:l.length=cs.toList.length:=hv.length;have f:l.length=cs.size:=by simpa using hlen
  obtain⟨s,hle,g,h⟩:=m.newRow q t (0,0) (vs:=cs) (by omega) (by rw[hlen,List.take_length];exact hv) p (by simp);exact⟨s,_,_,hle,g,by simpa using VR.ptr (i:=0) h,.inl d⟩
def zrg (P:Program)(t:TypeId):F9 P (Gg P (.alloc t)) (fun _=>do pure (.value (←Instr.alloc t true (.tuple #[])))):=by
 intro a C H w E ρ d o;show Jt P a C w _ (OpF.run (match K3 P t with
  |some l=>⟨fun _ H=>Qd H l⟩
  |none=>Gc) E H)
 cases f:K3 P t with
 |none=>exact trivial
 |some l =>
  obtain⟨v,i,g,h,p,q⟩:=ie (w:=w) f;obtain⟨j,m⟩:=R0 (C:=C) h;refine zp9 d t j m ?_;simp[Instr.alloc,g,newVar,newRow]
def zzv (P:Program)(t:TypeId)(x:Operand):F9 P (Gg P (.box t x)) (fun ρ=>do pure (.value (←Instr.box t (ρ x)))):=by
 refine Lj fun j C H w ρ a d hv=>?_
 cases f:a.cells with
 |none=>exact trivial
 |some l =>
  obtain⟨g,h⟩:=hv.cells f;exact zp9 d t g h (by simp[Instr.box,newVar,newRow])
def zu8 (P:Program)(t:TypeId)(x:Operand):F9 P (se P t x) (fun ρ=>do pure (.value (←Instr.loadAt t (ρ x)))):=by
 unfold se;split
 ·rename_i n g p;refine Lj fun s C H w ρ a d hv=>?_
  split
  ·rename_i o v i;split
   ·rename_i l h;generalize y:ρ x=z at hv;cases hv with
    |ptr j =>
     obtain⟨vs,q,m,r,A,_⟩:=d.read P h j;refine H9 d (.agg (vs:=vs.toArray) (by simpa using m) r) ?_;simp[Instr.loadAt,Instr.sureAddr,loadVar,v8 g,Ku p,q]
   ·exact trivial
  ·exact trivial
 ·rename_i n g p;refine Lj fun s C H w ρ a d hv=>?_
  split
  ·rename_i o v i;split
   ·rename_i c h;generalize y:ρ x=z at hv;cases hv with
    |ptr j =>
     obtain⟨vs,q,m,r,A,D,B⟩:=d.read P h j;have f:=B 0 (by omega)
     match vs,m with
     |[u],.cons hu .nil =>
      refine H9 d hu ?_;simp only[C5,A6] at f;simp[Instr.loadAt,Instr.sureAddr,loadVar,v8 g,f]
   ·exact trivial
  ·exact trivial
 ·exact Gl P _
def zrf (P:Program)(t:TypeId)(x y:Operand):F9 P (zp0 P t x y) (fun ρ=>do Instr.storeAt t (ρ x) (ρ y);pure .skip):=by
 unfold zp0;split
 ·rename_i n f;refine Sz fun z C H w ρ a b g hv h=>?_
  split
  ·rename_i o v i;split
   ·rename_i l j;split
    ·rename_i m;split
     ·rename_i H' hw;generalize A:ρ x=B at hv;cases hv with
      |ptr p =>
       obtain⟨d,q⟩:=h.cells j;obtain⟨w',r,s⟩:=g.write P hw p d q;refine⟨C,w',undef,CM.le_refl C,s,.tup .nil,.inr ⟨?_,rfl⟩⟩;have hlen:(ρ y).cells.size=n:=by have:=d.length;have:=Al m;simp at *;omega
       simp[Instr.storeAt,Instr.sureAddr,storeVar,Ku f,hlen,r]
     ·exact trivial
    ·exact trivial
   ·exact trivial
  ·exact trivial
 ·exact Gl P _
def zk7 (P:Program)(x:Operand)(o:Oper)(ho:o.op=.nilCheck x):F9 P (Ik x pz) (fun ρ=>execOp ρ o):=by
 refine Lj fun m C H w ρ a g hv=>?_
 unfold pz;split
 ·generalize f:ρ x=j at hv;have d:=hv;cases hv with
  |ptr l=>exact H9 g d (by simp[execOp,ho,f])
 ·generalize f:ρ x=j at hv;have d:=hv;cases hv with
  |iface h=>exact H9 g d (by simp[execOp,ho,f])
 ·generalize f:ρ x=j at hv;have d:=hv;cases hv with
  |fn h=>cases h with
   |same=>exact H9 g d (by simp[execOp,ho,f])
 ·generalize f:ρ x=j at hv;have d:=hv;cases hv with
  |map l=>exact H9 g d (by simp[execOp,ho,f])
 ·exact trivial
end Go.Sv
namespace Go.Sv
open Go.RowKit (Below)
def z7r {k k':IntKind}(h:Qj k k'=true):k=k':=by
 cases k<;>cases k'<;>first|rfl|(exact absurd h (by decide))
def qm (a b:Int):qj a b=(a==b):=by
 cases a<;>cases b
 ·rename_i x y;show Nat.beq x y=_;rw[B3];simp[Nat.beq_eq];omega
 ·show false=_;symm;rw[beq_eq_false_iff_ne];intro h;cases h
 ·show false=_;symm;rw[beq_eq_false_iff_ne];intro h;cases h
 ·rename_i x y;show Nat.beq x y=_;rw[B3];simp[Nat.beq_eq]
def Ki {a b:Nat}:Nat.blt a b=decide (a<b):=by
 rw[B3];simp[Nat.blt,Nat.ble_eq];omega
def ga (a b:Int):je a b=decide (a<b):=by
 cases a<;>cases b
 ·rename_i x y;show Nat.blt x y=_;rw[Ki,decide_eq_decide];simp
 ·rename_i x y;show false=_;symm;rw[Bl];have:=Int.negSucc_lt_zero y;simp;omega
 ·rename_i x y;show true=_;symm;rw[decide_eq_true_iff];have:=Int.negSucc_lt_zero x;simp;omega
 ·rename_i x y;show Nat.blt y x=_;rw[Ki,decide_eq_decide];omega
def z86 (k:IntKind):2^k.bits=Nv k:=by cases k<;>rfl
def Sw (k:IntKind)(n:Int):Ny k n=k.wrap n:=by
 cases n with
 |negSucc m=>rfl
 |ofNat m =>
  unfold Ny;dsimp only;split
  ·rename_i h;have a:m<Qr k:=by rw[Ki] at h;simpa using h
   cases k<;>simp only[Qr] at a<;>simp only[IntKind.wrap,IntKind.bits,IntKind.signed]<;>simp<;>omega
  ·rfl
def zs7 (b:Int):Vp b=true↔b=0:=by
 cases b with
 |ofNat n=>simp[Vp,Nat.beq_eq]
 |negSucc n=>simp[Vp]
section bits
variable {k : IntKind} {x y : Nat}
def lf (w x:Nat):BitVec.ofInt w (Int.ofNat x)=BitVec.ofNat w x:=by
 show BitVec.ofInt w ((x:Nat):Int)=_;exact BitVec.ofInt_natCast w x
def Tt (a:x<Nv k)(d:y<Nv k):(BitVec.ofInt k.bits (Int.ofNat x) &&& BitVec.ofInt k.bits (Int.ofNat y)).toNat=Nat.land x y:=by
 rw[←z86] at a d;rw[lf,lf,BitVec.toNat_and,Dm,Dm,Be a,Be d];rfl
def fu (a:x<Nv k)(d:y<Nv k):(BitVec.ofInt k.bits (Int.ofNat x) ||| BitVec.ofInt k.bits (Int.ofNat y)).toNat=Nat.lor x y:=by
 rw[←z86] at a d;rw[lf,lf,BitVec.toNat_or,Dm,Dm,Be a,Be d];rfl
def T6 (a:x<Nv k)(d:y<Nv k):(BitVec.ofInt k.bits (Int.ofNat x) ^^^ BitVec.ofInt k.bits (Int.ofNat y)).toNat=Nat.xor x y:=by
 rw[←z86] at a d;rw[lf,lf,BitVec.toNat_xor,Dm,Dm,Be a,Be d];rfl
def zrj (a:x<Nv k)(_hy:y<Nv k) :
  (BitVec.ofInt k.bits (Int.ofNat x) &&& ~~~(BitVec.ofInt k.bits (Int.ofNat y))).toNat=Nat.xor x (Nat.land x y):=by
 rw[←z86] at a;rw[lf,lf];apply Nat.eq_of_testBit_eq;intro i;rw[BitVec.testBit_toNat,BitVec.getLsbD_and,BitVec.getLsbD_not,BitVec.getLsbD_ofNat,BitVec.getLsbD_ofNat];show _=(x ^^^ (x &&& y)).testBit i;rw[Nat.testBit_xor,Nat.testBit_and];by_cases hi:i<k.bits
 ·simp only[hi,decide_true,Ed];cases x.testBit i<;>cases y.testBit i<;>rfl
 ·have:x.testBit i=false:=Nat.testBit_lt_two_pow (Bg a (Ee (by omega) (by omega)));simp[this,hi]
end bits
def zhv (a b:Nat):Is a b=min a b:=by
 unfold Is;split
 ·rename_i h;have:=As h;omega
 ·rename_i h;have:¬a≤b:=fun d=>by rw[Ak d] at h;cases h
  omega
def zby {P:Program}{w:World}{f:Nat→Nat→Nat}{op:BinOp}{k:IntKind}{a b:Int}{v:AV}(h:Tk f k a b=some v)
  (j:∀x y:Nat,x<Nv k→y<Nv k→(Op.intBits op k (Int.ofNat x) (Int.ofNat y)).run P w=.ok (.int k (k.wrap (Int.ofNat (f x y)))) w) :
  ∃n,v=.int k n∧(Op.intBits op k a b).run P w=.ok (.int k n) w:=by
 unfold Tk at h;split at h
 ·rename_i x y;split at h
  ·rename_i d;split at h
   ·rename_i g;cases h;rw[Ki] at d g;exact⟨_,rfl,by rw[j x y (by simpa using d) (by simpa using g),Sw]⟩
   ·cases h
  ·cases h
 ·cases h
def zvh (P:Program)(w:World){op:BinOp}{k:IntKind}{a b:Int}{v:AV}(t:TypeId)(h:ry op k a b=some v) :
  ∃x,(binOp op t (.int k a) (.int k b)).run P w=.ok x w∧∀C,VR C v x:=by
 cases op<;>simp only[ry] at h
 case add=>cases h;exact⟨_,by simp[binOp,Op.intArith];rfl,fun C=>by rw[Sw];exact .int k _⟩
 case sub=>cases h;exact⟨_,by simp[binOp,Op.intArith];rfl,fun C=>by rw[Sw];exact .int k _⟩
 case mul=>cases h;exact⟨_,by simp[binOp,Op.intArith];rfl,fun C=>by rw[Sw];exact .int k _⟩
 case quo =>
  split at h
  ·cases h
  ·rename_i j;cases h;have l:b≠0:=fun e=>by rw[(zs7 b).2 e] at j;cases j
   exact⟨.int k (k.wrap (a.tdiv b)),by simp[binOp,Op.intDiv,l],fun C=>by rw[Sw];exact .int k _⟩
 case rem =>
  split at h
  ·cases h
  ·rename_i j;cases h;have l:b≠0:=fun e=>by rw[(zs7 b).2 e] at j;cases j
   exact⟨.int k (a.tmod b),by simp[binOp,Op.intDiv,l],fun C=>.int k _⟩
 case and =>
  obtain⟨n,rfl,d⟩:=zby (P:=P) (w:=w) (op:=.and) h (fun x y f g=>by simp only[Op.intBits,Tt f g];rfl);exact⟨_,by simpa [binOp] using d,fun C=>.int k n⟩
 case or =>
  obtain⟨n,rfl,d⟩:=zby (P:=P) (w:=w) (op:=.or) h (fun x y f g=>by simp only[Op.intBits,fu f g];rfl);exact⟨_,by simpa [binOp] using d,fun C=>.int k n⟩
 case xor =>
  obtain⟨n,rfl,d⟩:=zby (P:=P) (w:=w) (op:=.xor) h (fun x y f g=>by simp only[Op.intBits,T6 f g];rfl);exact⟨_,by simpa [binOp] using d,fun C=>.int k n⟩
 case andNot =>
  obtain⟨n,rfl,d⟩:=zby (P:=P) (w:=w) (op:=.andNot) h (fun x y f g=>by simp only[Op.intBits,zrj f g];rfl);exact⟨_,by simpa [binOp] using d,fun C=>.int k n⟩
 case eql=>cases h;exact⟨_,by simp[binOp,Op.intCmp];rfl,fun C=>by rw[qm];exact .bool _⟩
 case neq=>cases h;exact⟨.bool (a != b),by simp[binOp,Op.intCmp],fun C=>by rw[qm];exact .bool _⟩
 case lss=>cases h;exact⟨_,by simp[binOp,Op.intCmp];rfl,fun C=>by rw[ga];exact .bool _⟩
 case gtr=>cases h;exact⟨_,by simp[binOp,Op.intCmp];rfl,fun C=>by rw[ga];exact .bool _⟩
 case leq =>
  cases h;refine⟨.bool (decide (a≤b)),by simp[binOp,Op.intCmp],fun C=>?_⟩;rw[ga,show (!decide (b<a))=decide (a≤b) from by rw[B3];simp];exact .bool _
 case geq =>
  cases h;refine⟨.bool (decide (a ≥ b)),by simp[binOp,Op.intCmp],fun C=>?_⟩;rw[ga,show (!decide (a<b))=decide (a ≥ b) from by rw[B3];simp];exact .bool _
 all_goals cases h
def zi4 (P:Program)(w:World){op:BinOp}(d:op=.shl∨op=.shr){k k':IntKind}{a b:Int}{v:AV}(t:TypeId)(h:zq7 op k a b=some v) :
  ∃x,(binOp op t (.int k a) (.int k' b)).run P w=.ok x w∧∀C,VR C v x:=by
 unfold zq7 at h;split at h
 ·rename_i x y;rcases d with rfl|rfl
  ·simp only[Option.some.injEq] at h;subst h;refine⟨.int k (k.wrap (Int.ofNat x*2^(min y k.bits))),?_,fun C=>?_⟩
   ·have:¬((Int.ofNat y)<0):=by simp
    simp only[binOp,Op.shift];rw[Ab this];rfl
   ·rw[Sw,zhv];have:Int.ofNat (x.mul (Nat.pow 2 (min y k.bits)))=Int.ofNat x*2^(min y k.bits):=by
     show ((x*2^(min y k.bits):Nat):Int)=_;simp
    rw[this];exact .int k _
  ·simp only[Option.some.injEq] at h;subst h;refine⟨.int k ((Int.ofNat x).fdiv (2^(min y k.bits))),?_,fun C=>?_⟩
   ·have:¬((Int.ofNat y)<0):=by simp
    simp only[binOp,Op.shift];rw[Ab this];rfl
   ·rw[zhv];have:Int.ofNat (x.div (Nat.pow 2 (min y k.bits)))=(Int.ofNat x).fdiv (2^(min y k.bits)):=by
     show ((x/2^(min y k.bits):Nat):Int)=((x:Nat):Int).fdiv (2^(min y k.bits));have e:((2:Int)^(min y k.bits))=((2^(min y k.bits):Nat):Int):=by simp
     rw[e,Int.fdiv_eq_ediv_of_nonneg _ (B6 _)];rfl
    rw[this];exact .int k _
 ·cases h
end Go.Sv
namespace Go.Sv
open Go.RowKit (Below)
def packL_append:∀a b:List UInt8,Hh (a++b)=Hh a+Hh b*256^a.length
 |[],b=>by simp[Hh]
 |x::a,b=>by
  simp only[Bi,Hh,packL_append a b,Ar,Bh];rw[Nat.mul_add,Cs,Bz (256^a.length) 256,Nat.mul_left_comm 256]
def packL_inj:∀{a b:List UInt8},a.length=b.length→Hh a=Hh b→a=b
 |[],[],_,_=>rfl
 |[],_::_,h,_=>by simp at h
 |_::_,[],h,_=>by simp at h
 |x::a,y::b,h,k=>by
  simp only[Hh] at k;have g:=x.toNat_lt;have j:=y.toNat_lt;have d:x.toNat=y.toNat:=by omega
  have f:Hh a=Hh b:=by omega
  rw[packL_inj (by simpa using h) f,UInt8.toNat_inj.1 d]
def packL_drop:∀(i:Nat) (l:List UInt8),Hh (l.drop i)=Hh l/256^i
 |0,l=>by simp
 |i+1,[]=>by simp[Hh]
 |i+1,b::l=>by
  rw[List.drop_succ_cons,packL_drop i l];have a:=b.toNat_lt;simp only[Hh,Bh];rw[Bz (256^i) 256,←Nat.div_div_eq_div_mul]
  congr 1
  omega
def packL_take:∀(i:Nat) (l:List UInt8),Hh (l.take i)=Hh l%256^i
 |0,l=>by simp[Hh,Nat.mod_one]
 |i+1,[]=>by simp[Hh]
 |i+1,b::l=>by
  rw[List.take_succ_cons];simp only[Hh];rw[packL_take i l,Bh,Bz (256^i) 256];have a:=b.toNat_lt;rw[Nat.mod_mul,Nat.add_mul_mod_self_left,Be a,Nat.add_mul_div_left _ _ (by omega),Nat.div_eq_of_lt a,Bd]
def ziy {l:List UInt8}{i:Nat}{b:UInt8}(h:l[i]?=some b):Hh l/256^i%256=b.toNat:=by
 rw[←packL_drop];have hi:=(Aa.1 h).1;rw[B8 hi,Hh,(Aa.1 h).2];have a:=b.toNat_lt;omega
def unpack_pack:∀l:List UInt8,Oy l.length (Hh l)=l.map (·.toNat)
 |[]=>rfl
 |b::l=>by
  have f:=b.toNat_lt;simp only[Ar,Oy,Hh,C6];have a:Nat.mod (b.toNat+256*Hh l) 256=b.toNat:=by show (b.toNat+256*Hh l)%256=_;omega
  have d:Nat.div (b.toNat+256*Hh l) 256=Hh l:=by show (b.toNat+256*Hh l)/256=_;omega
  rw[a,d,unpack_pack l]
def less_spec:∀a b:List UInt8,Op.bytesLess a b=X7 (a.map (·.toNat)) (b.map (·.toNat))
 |_,[]=>by simp[Op.bytesLess,X7]
 |[],_::_=>by simp[Op.bytesLess,X7]
 |x::a,y::b=>by
  simp only[Op.bytesLess,X7,C6,less_spec a b,Ki];have d:decide (x<y)=decide (x.toNat<y.toNat):=by rw[decide_eq_decide];exact UInt8.lt_iff_toNat_lt
  have f:(x==y)=Nat.beq x.toNat y.toNat:=by
   rw[B3];simp[Nat.beq_eq,UInt8.toNat_inj]
  rw[d,f]
def zf3 {a b:ByteArray}:(a.toList==b.toList)=(Nat.beq a.data.toList.length b.data.toList.length&&Nat.beq (Hh a.data.toList) (Hh b.data.toList)):=by
 rw[ByteArray.toList_eq,ByteArray.toList_eq,B3];simp only[Du,Ac,Nat.beq_eq];exact⟨fun h=>by rw[h];exact⟨rfl,rfl⟩,fun ⟨d,f⟩=>packL_inj d f⟩
def zuq {a b:ByteArray}:Op.bytesLess a.toList b.toList=X7 (Oy a.data.toList.length (Hh a.data.toList)) (Oy b.data.toList.length (Hh b.data.toList)):=by
 rw[ByteArray.toList_eq,ByteArray.toList_eq,less_spec,unpack_pack,unpack_pack]
def zij (a b:ByteArray):(a++b).data.toList=a.data.toList++b.data.toList:=by
 simp
def ztz (P:Program)(w:World){op:BinOp}{x y:ByteArray}{v:AV}(t:TypeId)
  (h:ub op x.data.toList.length (Hh x.data.toList) y.data.toList.length (Hh y.data.toList)=some v) :
  ∃u,(binOp op t (.string x) (.string y)).run P w=.ok u w∧∀C,VR C v u:=by
 have g:binOp op t (.string x) (.string y)=Op.stringOp op x y∨op=.shl∨op=.shr:=by cases op<;>simp[binOp]
 rcases g with g|rfl|rfl
 ·rw[g];have he:=zf3 (a:=x) (b:=y);have f:=zuq (a:=x) (b:=y);unfold Op.stringOp;cases op<;>simp only[ub] at h
  case add =>
   split at h
   ·rename_i hle;cases h;have d:=As hle;have j:x.size+y.size≤Io:=d;refine⟨.string (x++y),?_,fun C=>.str ?_ ?_⟩
    ·dsimp only;rw[Ab]
     ·rfl
     ·simp only[IntKind.max,IntKind.signed,IntKind.bits,Bu];unfold Io at j;omega
    ·rw[zij,Aj];rfl
    ·rw[zij,packL_append];rfl
   ·cases h
  case eql=>cases h;exact⟨_,rfl,fun C=>by rw[←he];exact .bool _⟩
  case neq=>cases h;exact⟨_,rfl,fun C=>by rw[←he];exact .bool _⟩
  case lss=>cases h;exact⟨_,rfl,fun C=>by rw[←f];exact .bool _⟩
  case leq=>cases h;exact⟨_,rfl,fun C=>by rw[←f,←he];exact .bool _⟩
  case gtr=>cases h;exact⟨_,rfl,fun C=>by rw[←f,←he];exact .bool _⟩
  case geq=>cases h;exact⟨_,rfl,fun C=>by rw[←f];exact .bool _⟩
  all_goals cases h
 ·simp[ub] at h
 ·simp[ub] at h
end Go.Sv
namespace Go.Sv
open Go.RowKit (Below)
def zxk {C:CM}{l r:List AV}{off n:Nat}(h:Ru l off n=some r){vs:Array Value}(hv:VRs C l vs.toList)(f:∀a∈l,a.one=true) :
  VRs C r (vs.extract off (off+n)).toList∧(∀a∈r,a.one=true)∧r.length=n:=by
 unfold Ru at h;split at h
 ·rename_i g;have d:=As g;cases h;have e:(vs.extract off (off+n)).toList=(vs.toList.drop off).take n:=by
   rw[Array.toList_extract,List.extract_eq_take_drop,Nat.add_sub_cancel_left]
  refine⟨by rw[e];exact (hv.drop off).take n,fun a j=>f a (List.mem_of_mem_drop (List.mem_of_mem_take j)),?_⟩;have hle:off+n≤l.length:=d;simp;omega
 ·cases h
def zfb {P:Program}{w:World}{C:CM}{t:TypeId}{g:Bool}{n:Nat}(j:Lh P t=some g)(m:Hk P t=some n){l:List AV}{off:Nat}{a:AV}(h:V1 g n l off=some a)
  {vs:Array Value} (hv:VRs C l vs.toList) (o:∀a∈l,a.one=true):∃v,(part t vs off).run P w=.ok v w∧VR C a v:=by
 unfold V1 at h;cases g with
 |true =>
  simp only at h;cases d:Ru l off n with
  |none=>rw[d] at h;cases h
  |some r =>
   rw[d] at h;cases h;obtain⟨p,q,_⟩:=zxk d hv o;exact⟨_,by simp[part,v8 j,Ku m],.agg p q⟩
 |false =>
  simp only at h;obtain⟨v,s,x⟩:=hv.get h;have f:vs[off]?=some v:=by simpa using s
  exact⟨v,by simp[part,v8 j,f],x⟩
def zc0 {P:Program}{w:World}{C:CM}{t:TypeId}{l:List AV}{off:Nat}{a:AV}(h:ux P t l off=some a)
  {vs:Array Value} (hv:VRs C l vs.toList) (d:∀a∈l,a.one=true):∃v,(part t vs off).run P w=.ok v w∧VR C a v:=by
 unfold ux at h;split at h
 ·rename_i g n f j;exact zfb f j h hv d
 ·cases h
def zhe {P:Program}{t:TypeId}{a:Array Field}(h:P.underlying t=some (.struct a)):P.fieldsOf t=a:=by simp[Program.fieldsOf,h]
def qh (d:Nat)(t:TypeId)(n:Nat)(xs f:Array Value):List Nat→Sem Bool
 |[]=>pure true
 |i::l=>do
  let a ←part t xs (i*n);let b ←part t f (i*n);let r ←Op.equalIn d t a b
  if (!r)=true then pure false else qh d t n xs f l
def zf2 {P:Program}(w:World)(d:Nat){t e:TypeId}{n s:Nat}(xs f:Array Value)(m:P.underlying t=some (.array n e))(o:Hk P e=some s) :
  (Op.equalIn (d+1) t (.agg xs) (.agg f)).run P w=(qh d e s xs f (List.range n)).run P w:=by
 simp only[Op.equalIn,Sem.run_bind,Gn m,Result.andThen_ok,Ku o,Std.Legacy.Range.forIn_eq_forIn_range'];have:List.range' 0 n=List.range n:=List.range_eq_range'.symm;simp only[Std.Legacy.Range.size,Nat.sub_zero,Nat.add_sub_cancel,Nat.div_one,this];generalize List.range n=l
 induction l generalizing w with
 |nil=>simp[qh]
 |cons i l p =>
  simp only[List.forIn_cons,qh,Sem.run_bind,Sem.run_ite];generalize (part e xs (i*s)).run P w=q;cases q with
  |ok a g =>
   simp only[Result.andThen_ok];generalize (part e f (i*s)).run P g=y;cases y with
   |ok b h =>
    simp only[Result.andThen_ok];generalize (Op.equalIn d e a b).run P h=z;cases z with
    |ok r j =>
     cases r
     ·simp only[Result.andThen_ok,Bool.not_false,Bu,Sem.run_pure]
     ·simp only[Result.andThen_ok,Bool.not_true,Cz,Dp,Sem.run_pure];exact p j
    |halt x j=>simp[Result.andThen]
   |halt x h=>simp[Result.andThen]
  |halt x g=>simp[Result.andThen]
def zji {P:Program}{w:World}{C:CM}{d:Nat}{f:TypeId→AV→AV→Option Bool}
  (hf:∀t a b r x y,f t a b=some r→VR C a x→VR C b y→(Op.equalIn d t x y).run P w=.ok r w)
  {xs ys:List AV} {us vs:Array Value} (hx:VRs C xs us.toList) (hx1:∀a∈xs,a.one=true) (hy:VRs C ys vs.toList) (hy1:∀a∈ys,a.one=true) :
  ∀{fs:List Field} {r:Bool},Vc P f xs ys fs=some r→(Op.eqFields d us vs fs).run P w=.ok r w
 |[],r,h=>by cases h;rfl
 |fd::fs,r,h=>by
  unfold Vc at h;split at h
  ·rename_i hn
   have hn' : fd.name ≠ "_" := by simpa using hn
   split at h
   ·rename_i a b ha hb;obtain⟨u,q1,q2⟩:=zc0 (w:=w) ha hx hx1;obtain⟨v,q3,q4⟩:=zc0 (w:=w) hb hy hy1;split at h
    ·rename_i he;have:=hf _ _ _ _ _ _ he q2 q4;simp only[Op.eqFields,Ai hn',Sem.run_bind,q1,q3,this,Result.andThen_ok];simpa using zji hf hx hx1 hy hy1 h
    ·rename_i he;have:=hf _ _ _ _ _ _ he q2 q4;cases h;simp only[Op.eqFields,Ai hn',Sem.run_bind,q1,q3,this,Result.andThen_ok];simp
    ·cases h
   ·cases h
  ·rename_i hn
   have hn' : fd.name = "_" := by simpa using hn
   simp only[Op.eqFields,hn',ne_eq,not_true_eq_false,Dp];exact zji hf hx hx1 hy hy1 h
def zq4 {P:Program}{w:World}{C:CM}{d:Nat}{f:TypeId→AV→AV→Option Bool}{t:TypeId}{n:Nat}
  (p:∀t a b r x y,f t a b=some r→VR C a x→VR C b y→(Op.equalIn d t x y).run P w=.ok r w)
  {xs q:List AV} {s vs:Array Value} (z:VRs C xs s.toList) (g:∀a∈xs,a.one=true) (A:VRs C q vs.toList) (j:∀a∈q,a.one=true) :
  ∀{l:List Nat} {r:Bool},cf P f t n xs q l=some r→(qh d t n s vs l).run P w=.ok r w
 |[],r,h=>by cases h;rfl
 |i::l,r,h=>by
  unfold cf at h;split at h
  ·rename_i a b E F;obtain⟨u,G,B⟩:=zc0 (w:=w) E z g;obtain⟨v,H,D⟩:=zc0 (w:=w) F A j;have m:(part t s (i*n)).run P w=.ok u w:=G;have o:(part t vs (i*n)).run P w=.ok v w:=H;split at h
   ·rename_i he;have:=p _ _ _ _ _ _ he B D;simp only[qh,Sem.run_bind,m,o,this,Result.andThen_ok];simpa using zq4 p z g A j h
   ·rename_i he;have:=p _ _ _ _ _ _ he B D;cases h;simp only[qh,Sem.run_bind,m,o,this,Result.andThen_ok];simp
   ·cases h
  ·cases h
set_option maxHeartbeats 1000000 in
def zwx {P:Program}{w:World}{C:CM}{d:Nat}{f:TypeId→AV→AV→Option Bool}
  (p:∀t a b r x y,f t a b=some r→VR C a x→VR C b y→(Op.equalIn d t x y).run P w=.ok r w)
  {t:TypeId} {a b:AV} {r:Bool} {x y:Value} (h:Vf P f t a b=some r) (g:VR C a x) (j:VR C b y):(Op.equalIn (d+1) t x y).run P w=.ok r w:=by
  unfold Vf at h;split at h
  case h_1 hu=>cases h;cases g;cases j;simp[Op.equalIn,Gn hu]
  case h_2 hu =>
   split at h
   ·rename_i hk;cases h;cases g;cases j;have:=z7r hk;subst this;simp[Op.equalIn,Gn hu,qm]
   ·cases h
  case h_3 hu =>
   cases h;cases g with
   |str q z =>
    cases j with
    |str A B =>
     subst q z A B;rw[←zf3,←beq_toListBytes];simp[Op.equalIn,Gn hu]
  case h_21 hu =>
   split at h
   ·cases h
   ·rename_i o;cases g with
    |agg g l =>
     cases j with
     |agg j m =>
      rw[run_equalIn_struct w d t _ _ (by rw[zhe hu];exact hu) (by simpa using o),zhe hu];exact zji p g l j m h
  case h_22 hu =>
   split at h
   ·rename_i s o;cases g with
    |agg g l =>
     cases j with
     |agg j m =>
      rw[zf2 w d _ _ hu o];exact zq4 p g l j m h
   ·cases h
  case h_23=>cases h
  all_goals
   rename_i hu;cases h;cases g;cases j;simp[Op.equalIn,Gn hu]
def zte {P:Program}{w:World}{C:CM}(d:Nat):∀(n:Nat) (t:TypeId) (a b:AV) (r:Bool) (x y:Value),zc P n t a b=some r→VR C a x→VR C b y →
  (Op.equalIn (d+n) t x y).run P w=.ok r w
 |0,_,_,_,_,_,_,h,_,_=>by cases h
 |n+1,_,_,_,_,_,_,h,f,g=>zwx (fun t a b r x y=>zte d n t a b r x y) h f g
end Go.Sv
namespace Go.Sv
open Go.RowKit (Below)
def zde {P:Program}{w:World}(op:BinOp)(t:TypeId)(x y:Operand){a b:Value}(f:¬(a=.nilIface∧b=.nilIface))(g:∀c d,¬(a=.agg c∧b=.agg d)) :
  (eqGuard op t x y a b).run P w=.ok () w:=by
 unfold eqGuard;split<;>first
  |rfl
  | (rw [Ab (by decide)]
     split
     ·exact absurd ⟨rfl,rfl⟩ f
     ·exact absurd ⟨rfl,rfl⟩ (g _ _)
     ·rfl)
def zor {P:Program}{w:World}(op:BinOp)(t:TypeId)(x y:Operand)(k k':IntKind)(a b:Int):(eqGuard op t x y (.int k a) (.int k' b)).run P w=.ok () w :=
 zde op t x y (fun h=>by cases h.1) (fun _ _ h=>by cases h.1)
def zl2 {P:Program}{w:World}{C:CM}(op:BinOp)(t:TypeId)(x y:Operand){a b:AV}{u v:Value}(hu:VR C a u)(hv:VR C b v)
  (f:wg P (Qg x || Qg y) t a b=true):(eqGuard op t x y u v).run P w=.ok () w:=by
 by_cases g:u=.nilIface∧v=.nilIface
 ·obtain⟨rfl,rfl⟩:=g;cases hu;cases hv;have l:(Qg x || Qg y)=true:=f;unfold eqGuard;split<;>first
   |rfl
   | (rw [Ab (by decide)]
      dsimp only;rw[Ai]
      ·rfl
      ·cases x<;>cases y<;>simp_all [Qg])
 ·by_cases j:∃c d,u=.agg c∧v=.agg d
  ·obtain⟨c,d,rfl,rfl⟩:=j;cases hu;cases hv;exact run_eqGuard_agg w op t x y c d (by simpa [wg] using f)
  ·exact zde op t x y g (fun c d h=>j ⟨c,d,h⟩)
def zy4 {t:TypeId}{C:CM}{a b:AV}{u v:Value}(hu:VR C a u)(hv:VR C b v)(d:∀k x k' y,¬(a=.int k x∧b=.int k' y))(f:∀l x m y,¬(a=.str l x∧b=.str m y)) :
  binOp .eql t u v=(do pure (.bool (←Op.equal t u v)))∧binOp .neq t u v=(do pure (.bool (!(←Op.equal t u v)))):=by
 cases hu<;>cases hv<;>first
  |exact⟨rfl,rfl⟩
  |exact absurd ⟨rfl,rfl⟩ (d _ _ _ _)
  |exact absurd ⟨rfl,rfl⟩ (f _ _ _ _)
def zt8 {P:Program}{w:World}{C:CM}{g:Bool}{t:TypeId}{a b:AV}{r:Bool}(h:J6 P g t a b=some r){u v:Value}(hu:VR C a u)(hv:VR C b v) :
  wg P g t a b=true∧(Op.equal t u v).run P w=.ok r w:=by
 unfold J6 at h;split at h
 ·rename_i d;exact⟨d,zte 9980 20 t a b r u v h hu hv⟩
 ·cases h
def zz8 {P:Program}{w:World}{C:CM}{op:BinOp}{t:TypeId}(x y:Operand){a b r:AV}(h:Hx P op (Qg x || Qg y) t a b=some r){u v:Value}(hu:VR C a u)(hv:VR C b v) :
  (eqGuard op t x y u v).run P w=.ok () w∧∃z,(binOp op t u v).run P w=.ok z w∧VR C r z:=by
 unfold Hx at h;split at h
 ·cases hu;cases hv;refine⟨zor op t x y _ _ _ _,?_⟩;split at h
  ·obtain⟨z,d,f⟩:=zi4 P w (.inl rfl) t h;exact⟨z,d,f C⟩
  ·obtain⟨z,d,f⟩:=zi4 P w (.inr rfl) t h;exact⟨z,d,f C⟩
  ·split at h
   ·rename_i hk;have:=z7r hk;subst this;obtain⟨z,d,f⟩:=zvh P w t h;exact⟨z,d,f C⟩
   ·cases h
 ·cases hu with
  |str d f =>
   cases hv with
   |str j o =>
    subst d f j o;refine⟨zde op t x y (fun h=>by cases h.1) (fun _ _ h=>by cases h.1),?_⟩;obtain⟨z,d,f⟩:=ztz P w t h;exact⟨z,d,f C⟩
 ·rename_i p q;have g:=zy4 (t:=t) hu hv (fun k x k' y e=>p k x k' y e.1 e.2) (fun l x m y e=>q l x m y e.1 e.2);split at h
  ·cases he:J6 P (Qg x || Qg y) t a b with
   |none=>rw[he] at h;cases h
   |some s =>
    rw[he] at h;cases h;obtain⟨d,f⟩:=zt8 (w:=w) he hu hv;exact⟨zl2 _ t x y hu hv d,.bool s,by rw[g.1];simp[f],.bool s⟩
  ·cases he:J6 P (Qg x || Qg y) t a b with
   |none=>rw[he] at h;cases h
   |some s =>
    rw[he] at h;cases h;obtain⟨d,f⟩:=zt8 (w:=w) he hu hv;exact⟨zl2 _ t x y hu hv d,.bool (!s),by rw[g.2];simp[f],.bool (!s)⟩
  ·cases h
def ko {P:Program}{d:World}{C:CM}{H:Heap}{w:World}{nx:Sem Next}{o:Option AV}(f:Rel d C H w)
  (h:∀a,o=some a→∃z,nx.run P w=.ok (.value z) w∧VR C a z):Jt P d C w nx (ret1 H o):=by
 cases o with
 |none=>exact trivial
 |some a=>obtain⟨z,g,j⟩:=h a rfl;exact H9 f j g
def R7 (P:Program)(op:BinOp)(t d:TypeId)(x y:Operand)(o:Oper)(ho:o.op=.binOp op t x y d):F9 P (Gg P (.binOp op t x y d)) (fun ρ=>execOp ρ o):=by
 refine Sz fun q C H w ρ a b f g h=>ko f fun r j=>?_
 obtain⟨l,z,m,p⟩:=zz8 (w:=w) x y j g h;exact⟨z,by simp[execOp,ho,l,m],p⟩
def Wz (P:Program)(op:UnOp)(t:TypeId)(x:Operand)(o:Oper)(ho:o.op=.unOp op t x):F9 P (Gg P (.unOp op t x)) (fun ρ=>execOp ρ o):=by
 refine Lj fun l C H w ρ a j d=>ko j fun r f=>?_
 unfold unA at f;split at f
 ·rename_i k n;cases f;generalize g:ρ x=h at d;cases d;exact⟨.int k (k.wrap (0 - n)),by simp[execOp,ho,g,Op.unary,Op.intArith],by rw[Sw];exact .int _ _⟩
 ·rename_i k n;cases f;generalize g:ρ x=h at d;cases d;exact⟨.int k (k.wrap (BitVec.ofInt k.bits (if k.signed then -1 else k.max) ^^^ BitVec.ofInt k.bits n).toNat),by simp[execOp,ho,g,Op.unary,Op.intBits],.int _ _⟩
 ·rename_i b;cases f;generalize g:ρ x=h at d;cases d;exact⟨.bool (!b),by simp[execOp,ho,g,Op.unary],.bool _⟩
 ·cases f
def VRs.set {C:CM}:∀{l:List AV} {r:List Value},VRs C l r→∀(i:Nat) {a:AV} {v:Value},VR C a v→VRs C (l.set i a) (r.set i v)
 |_,_,.nil,_,_,_,_=>.nil
 |_,_,.cons _ es,0,_,_,h=>.cons h es
 |_,_,.cons e es,i+1,_,_,h=>.cons e (VRs.set es i h)
def ew {l:List AV}(h:∀a∈l,a.one=true){i:Nat}{a:AV}(f:a.one=true):∀b∈l.set i a,b.one=true:=by
 intro b g;rcases List.mem_or_eq_of_mem_set g with d|d
 ·exact h b d
 ·rw[d];exact f
def zpa {C:CM}{off:Nat}:∀(l:List AV) (r:List Value) (cs:List AV) (d:Array Value) (j:Nat),VRs C l r→(∀a∈l,a.one=true)→VRs C cs d.toList→(∀a∈cs,a.one=true) →
  VRs C (M2 cs (off+j) l) ((r.zipIdx j).foldl (fun cs (c,j)=>cs.setIfInBounds (off+j) c) d).toList∧(∀a∈M2 cs (off+j) l,a.one=true)
 |[],_,cs,d,j,.nil,_,h,f=>⟨h,f⟩
 |a::l,v::r,cs,d,j,.cons e es,g,h,f=>by
  simp only[M2,List.zipIdx_cons,List.foldl_cons];have:=zpa (off:=off) l r (cs.set (off+j) a) (d.setIfInBounds (off+j) v) (j+1) es (fun b m=>g b (by simp[m]))
   (by rw[Array.toList_setIfInBounds];exact h.set _ e) (ew f (g a (by simp)))
  rw[show off+j+1=off+(j+1) from by omega];exact this
def zup (v:Array Value)(off:Nat)(a:Array Value):v.zipIdx.foldl (fun cs (c,j)=>cs.setIfInBounds (off+j) c) a=(v.toList.zipIdx 0).foldl (fun cs (c,j)=>cs.setIfInBounds (off+j) c) a:=by
 rw[←Array.foldl_toList,Array.toList_zipIdx]
def yp {place:Nat→Option (Nat×Nat)}:∀{l:List (Nat×Operand)} {p:List Part},Yc place l=some p →
  ∀{C:CM} {E:Tr AV} {ρ:Operand→Value},ln C E ρ→∀{cs r:List AV} {f:Array Value},Ul cs p E=some r→VRs C cs f.toList→(∀a∈cs,a.one=true) →
  ∃vs,Instr.fill place f (l.map fun (i,x)=>(i,ρ x))=some vs∧VRs C r vs.toList∧(∀a∈r,a.one=true)
 |[],p,h,C,E,ρ,w,cs,r,f,d,hv,y=>by
  cases h;cases d;exact⟨f,rfl,hv,y⟩
 |(i,x)::l,p,h,C,E,ρ,w,cs,r,f,d,hv,y=>by
  simp only[Yc] at h;split at h
  ·cases h
  ·rename_i o s z;split at h
   ·cases h
   ·rename_i I A;cases h;simp only[Ul] at d;split at d
    ·cases d
    ·rename_i a J;split at d
     ·cases d
     ·rename_i q K;split at d
      ·rename_i hlen;split at d
       ·rename_i hle;have g:q.length=s:=Al hlen;have G:o+s≤cs.length:=As hle;obtain⟨H,L⟩:=(w _ _ J).cells K;have B:=H.length;have D:=hv.length;have F:=zpa (off:=o) q _ cs f 0 H L hv y;rw[C5] at F;obtain⟨vs,M,N,O⟩:=yp A w d F.1 F.2;refine⟨vs,?_,N,O⟩;have P:(ρ x).cells.size=s:=by rw[←g,B];simp
        have j:¬((decide ((ρ x).cells.size≠s) || decide (o+(ρ x).cells.size>f.size))=true):=by
         intro m;simp only[ne_eq,Bm,Ao] at m;rcases m with m|m
         ·exact m P
         ·simp at D;omega
        rw[C6];simp only[Instr.fill,z];rw[Ab j,zup];exact M
       ·cases d
      ·cases d
def zel {P:Program}{w:World}:∀{l:List Field} {r:List (Nat×Nat)},uq P l=some r →
  (l.mapM fun f=>do pure (f.offset,←sizeOf f.type):Sem (List (Nat×Nat))).run P w=.ok r w
 |[],r,h=>by cases h;rfl
 |f::l,r,h=>by
  simp only[uq] at h;split at h
  ·cases h
  ·rename_i s a;split at h
   ·cases h
   ·rename_i r' d;cases h;simp only[List.mapM_cons,Sem.run_bind,Ku a,Result.andThen_ok,Sem.run_pure,zel d]
def zrr (P:Program)(t:TypeId)(parts:Array (Nat×Operand)):F9 P (rq P t parts) (fun ρ=>do pure (.value (←Instr.build t (parts.map fun (i,x)=>(i,ρ x))))):=by
 unfold rq;split
 ·exact Gl P _
 ·rename_i cs A;split
  ·rename_i fields hu;split
   ·exact Gl P _
   ·rename_i pl d;split
    ·exact Gl P _
    ·rename_i B a;intro D C H w E ρ g h;dsimp only;split
     ·rename_i l j;obtain⟨v,i,m,o,F,G⟩:=ie (w:=w) A;obtain⟨p,q⟩:=R0 (C:=C) o;obtain⟨vs,r,s,y⟩:=yp a h j p q;refine H9 g (.agg s y) ?_;have hm:(fields.mapM fun f=>do pure (f.offset,←sizeOf f.type):Sem (Array (Nat×Nat))).run P w=.ok pl.toArray w:=by
       rw[Array.mapM_eq_mapM_toList];simp only[Sem.run_map,zel d,Result.andThen_ok]
      have z:Instr.fill (pl.toArray[·]?) v.cells (parts.map fun (i,x)=>(i,ρ x)).toList=some vs:=by
       rw[Ci];have:(fun i:Nat=>pl.toArray[i]?)=(fun i:Nat=>pl[i]?):=by funext i;simp
       rw[this];exact r
      simp only[Instr.build,Sem.run_bind,m,Gn hu,hm,Result.andThen_ok,z,Sem.run_pure]
     ·exact trivial
  ·rename_i n elem hu;split
   ·exact Gl P _
   ·rename_i size I;split
    ·exact Gl P _
    ·rename_i B a;intro D C H w E ρ g h;dsimp only;split
     ·rename_i l j;obtain⟨v,i,m,o,F,G⟩:=ie (w:=w) A;obtain⟨p,q⟩:=R0 (C:=C) o;obtain⟨vs,r,s,y⟩:=yp a h j p q;refine H9 g (.agg s y) ?_;have z:Instr.fill (fun i=>some (i*size,size)) v.cells (parts.map fun (i,x)=>(i,ρ x)).toList=some vs:=by
       rw[Ci];exact r
      simp only[Instr.build,Sem.run_bind,m,Gn hu,Ku I,Result.andThen_ok,z,Sem.run_pure]
     ·exact trivial
  ·exact Gl P _
end Go.Sv
namespace Go.Sv
open Go.RowKit (Below)
def z5v (l:List AV):∀n,(Lu l n).length=n*l.length
 |0=>by simp[Lu]
 |n+1=>by rw[Lu,Aj,z5v l n,D5];omega
def tz {l:List AV}(h:∀a∈l,a.one=true):∀n,∀a∈Lu l n,a.one=true
 |0,a,d=>by simp[Lu] at d
 |n+1,a,d=>by
  rw[Lu,Ay] at d;rcases d with d|d
  ·exact h a d
  ·exact tz h n a d
def L8 (l:List Value):Nat→List Value
 |0=>[]
 |n+1=>l++L8 l n
def tp {C:CM}{l:List AV}{r:List Value}(h:VRs C l r):∀n,VRs C (Lu l n) (L8 r n)
 |0=>.nil
 |n+1=>h.append (tp h n)
def zif (l:List Value):∀n,(L8 l n).length=n*l.length
 |0=>by simp[L8]
 |n+1=>by rw[L8,Aj,zif l n,D5];omega
def zt7 (l:List Value):∀(n i:Nat),i<n*l.length→(L8 l n)[i]?=l[i%l.length]?
 |0,i,h=>by simp at h
 |n+1,i,h=>by
  rw[D5] at h;rw[L8];by_cases hi:i<l.length
  ·rw[Aq hi,Be hi]
  ·have d:0<l.length:=by
    rcases Nat.eq_zero_or_pos l.length with a|a
    ·rw[a] at h;omega
    ·exact a
   rw[Au (by omega),zt7 l n _ (by omega),Nat.mod_eq_sub_mod (by omega:l.length≤i)]
def vh (z:Array Value)(n:Nat):((Array.range (n*z.size)).map fun i=>z[i%z.size]!).toList=L8 z.toList n:=by
 apply List.ext_getElem?;intro i;rw[Ci,Cc];by_cases hi:i<n*z.size
 ·rw[zt7 _ _ _ (by simpa using hi)];have d:0<z.size:=by
   rcases Nat.eq_zero_or_pos z.size with a|a
   ·rw[a] at hi;omega
   ·exact a
  have hm:i%z.size<z.size:=Df _ d;simp[hi,hm,getElem!_pos]
 ·have f:(L8 z.toList n).length≤i:=by rw[zif];simp;omega
  rw[Dh f,Dh (by simpa using hi)];rfl
def jy (f:Nat→Value):(Array.range 0).map f=#[]:=by simp
def zcj (off:Nat):∀(q:List (Value×Nat)) (a:Array Value),(q.foldl (fun cs (c,j)=>cs.setIfInBounds (off+j) c) a).size=a.size
 |[],_=>rfl
 |x::q,a=>by rw[List.foldl_cons,zcj off q];simp
def zic {pl:Nat→Option (Nat×Nat)}:∀{d:List (Nat×Value)} {a b:Array Value},Instr.fill pl a d=some b→b.size=a.size
 |[],_,_,h=>by cases h;rfl
 |(i,v)::d,a,b,h=>by
  simp only[Instr.fill] at h;split at h
  ·cases h
  ·split at h
   ·cases h
   ·rw[zic h,←Array.foldl_toList,zcj]
def zsf {P:Program}{p:World}{C:CM}{H H':Heap}{w:World}(q:Rel p C H w)(t:TypeId){l:List AV}{o len esz:Nat}{cs:Array Value}(s:newObj H l=some (o,H'))
  (hv:VRs C l cs.toList) (x:∀a∈l,a.one=true) {cap:Nat} (A:cap*esz=l.length) (hle:len≤cap)
  {nx:Sem Next} (f:nx.run P w=.ok (.value (.slice (some ⟨w.heap.size,0,none⟩) len cap)) (w.alloc (.cells cs t))):Up P p C w nx (.sl o 0 0 len esz (some cap)) H':=by
 have hlen:l.length=cs.toList.length:=hv.length;have g:l.length=cs.size:=by simpa using hlen
 obtain⟨y,d,j,m⟩:=q.newRow s t (0,0) (vs:=cs) (by omega) (by rw[hlen,List.take_length];exact hv) x (by simp);have hmul:len*esz≤cap*esz:=At _ hle;refine⟨y,_,_,d,j,?_,.inl f⟩;have:=VR.sl (i:=0) (len:=len) (esz:=esz) (room:=some cap) (cap:=cap) m (by dsimp;omega) (by dsimp;omega) hle (fun r z=>by cases z;exact⟨rfl,by dsimp;omega⟩) (fun h=>by cases h);simpa using this
def zgd (P:Program)(t:TypeId)(len:Nat)(parts:Array (Nat×Operand)) :
  F9 P (ik P t len parts) (fun ρ=>do pure (.value (←Instr.buildSlice t len (parts.map fun (i,x)=>(i,ρ x))))):=by
 unfold ik;split
 ·rename_i elem hu;split
  ·exact Gl P _
  ·rename_i size h;split
   ·exact Gl P _
   ·rename_i z F;split
    ·rename_i a;obtain⟨G,y⟩:=a;split
     ·exact Gl P _
     ·rename_i U j;intro V C H w E ρ I J;dsimp only;split
      ·rename_i l K;split
       ·rename_i o H' L;obtain⟨v,i,M,N,O,W⟩:=ie (w:=w) F;obtain⟨m,Q⟩:=R0 (C:=C) N;have p:v.cells.size=size:=by
         have d:=m.length;unfold Hk at h;rw[O] at h;simp at h d;omega
        have R:z.length=size:=by have d:=m.length;simp at d;omega
        have f:VRs C (Lu z len) ((Array.range (len*size)).map fun i=>v.cells[i%v.cells.size]!).toList:=by
         rw[←p,vh];exact tp m len
        obtain⟨vs,A,B,S⟩:=yp j J K f (tz Q len);have q:l.length=len*size:=by
         have d:=B.length;have T:=zic A;simp at T d;omega
        refine zsf I elem L B S q.symm (Am _) ?_;have D:Instr.fill (fun i=>some (i*size,size)) ((Array.range (len*size)).map fun i=>v.cells[i%v.cells.size]!) (parts.map fun (i,x)=>(i,ρ x)).toList=some vs:=by
         rw[Ci];exact A
        have g:¬(len*size>2^24):=by omega
        simp only[Instr.buildSlice,Sem.run_bind,Gn hu,Ku h,Result.andThen_ok,Sem.run_ite,Ab g];by_cases r:len*size=0
        ·rw[Ai r];have s:Instr.fill (fun i=>some (i*size,size)) ((Array.range (len*size)).map fun i=>(#[]:Array Value)[i%(#[]:Array Value).size]!) (parts.map fun (i,x)=>(i,ρ x)).toList=some vs:=by
          rw[←D,r,jy,jy]
         simp only[Sem.run_pure,Result.andThen_ok,s,newRow,Sem.run_bind,run_newObj];rfl
        ·rw[Ab r];simp only[Sem.run_bind,M,Sem.run_pure,Result.andThen_ok,D,newRow,run_newObj];rfl
       ·exact trivial
      ·exact trivial
    ·exact Gl P _
 ·exact Gl P _
def zm9 (P:Program)(t:TypeId)(l c:Operand):F9 P (gq P t l c) (fun ρ=>do pure (.value (←Instr.makeSlice t (ρ l) (ρ c)))):=by
 unfold gq;split
 ·rename_i elem hu;split
  ·exact Gl P _
  ·rename_i i hi;split
   ·exact Gl P _
   ·rename_i z F;split
    ·rename_i d;obtain⟨s,g⟩:=d;refine Sz fun U C H w ρ a b G A B=>?_
     split
     ·rename_i x y;split
      ·rename_i h;split
       ·rename_i I;split
        ·rename_i o H' J;have f:x≤y:=As h;have m:y≤1048576:=As I;obtain⟨v,j,K,L,D,M⟩:=ie (w:=w) F;obtain⟨E,N⟩:=R0 (C:=C) L;rw[hi] at D;cases D;have p:v.cells.size=i.size:=by have q:=E.length;simp at q;omega
         generalize ρ l=pl at A;generalize ρ c=V at B;cases A;cases B;refine zsf G elem J (cs:=(Array.range (y*i.size)).map fun k=>v.cells[k%v.cells.size]!) (by rw[←p,vh];exact tp E y) (tz N y) (by rw[z5v,M]) f ?_;have q:IntKind.i64.wrap (Int.ofNat x)=Int.ofNat x:=by simp only[IntKind.wrap,IntKind.bits,IntKind.signed];simp;omega
         have O:IntKind.i64.wrap (Int.ofNat y)=Int.ofNat y:=by simp only[IntKind.wrap,IntKind.bits,IntKind.signed];simp;omega
         have W:i.bytes*y≤65536*1048576:=Ca g m;have Q:¬((decide (Int.ofNat y<0) || decide ((i.bytes:Int)*Int.ofNat y>2^48) || decide (Int.ofNat x<0) || decide (Int.ofNat x>Int.ofNat y))=true):=by
          have R:((i.bytes:Int)*Int.ofNat y)=((i.bytes*y:Nat):Int):=by simp
          rw[R];simp only[Bm,Ao,not_or];refine⟨⟨⟨by simp,by simp;omega⟩,by simp⟩,by simp;omega⟩
         simp only[Instr.makeSlice,Sem.run_bind,Gn hu,Yl hi,asInt,asIntOf,Sem.run_pure,Result.andThen_ok,q,O,Sem.run_ite,Ab Q,run_askRoom,Ku (show Hk P elem=some i.size from by simp[Hk,hi])];have S:(Int.ofNat y).toNat=y:=rfl;have T:(Int.ofNat x).toNat=x:=rfl;rw[S,T];by_cases r:y*i.size=0
         ·rw[Ai r];simp only[Sem.run_pure,Result.andThen_ok,newRow,Sem.run_bind,run_newObj];have:((Array.range (y*i.size)).map fun k=>(#[]:Array Value)[k%(#[]:Array Value).size]!)=((Array.range (y*i.size)).map fun k=>v.cells[k%v.cells.size]!):=by rw[r,jy,jy]
          rw[this];rfl
         ·rw[Ab r];simp only[Sem.run_bind,K,Sem.run_pure,Result.andThen_ok,newRow,run_newObj];rfl
        ·exact trivial
       ·exact trivial
      ·exact trivial
     ·exact trivial
    ·exact Gl P _
 ·exact Gl P _
def zl7 (P:Program)(t:TypeId)(x:Operand):F9 P (py P t x) (fun ρ=>do pure (.value (←Instr.makeInterface t (ρ x)))):=by
 unfold py;split
 ·exact Gl P _
 ·rename_i d f hu;refine Lj fun j C H w ρ a g h=>H9 g (.iface h) ?_
  simp only[Instr.makeInterface,Sem.run_bind,Gn hu,Result.andThen_ok];cases d<;>first|rfl|exact absurd hu (f _)
 ·exact Gl P _
def znk (P:Program)(f:Fn)(first cap:Array Operand)(d:∀l,f≠.yield l):F9 P (rj f first cap) (fun ρ=>do pure (.value (←Instr.makeFunc f (first.map ρ) (cap.map ρ)))):=by
 intro m C H w E ρ g a;unfold rj;dsimp only;split
 ·rename_i l h;split
  ·rename_i r j;refine H9 g (.fn (.same f d) (l':=first.map ρ) (r':=cap.map ρ) ?_ ?_) rfl
   ·rw[Ci];exact rf a h
   ·rw[Ci];exact rf a j
  ·exact trivial
 ·exact trivial
def zl3 {P:Program}{d:World}{C:CM}{H:Heap}{w:World}(f:Rel d C H w){nx:Sem Next}(a:nx.run P w=.ok (.value (.map (some w.heap.size))) (w.alloc (.map #[] 0))) :
  Jt P d C w nx (Rq H):=by
 unfold Rq;obtain⟨h,j⟩:=f.push (.map [] 0) (.map #[] 0) 0 0 (fun L g=>by
  rw[CM.ext_same] at g;cases g;exact⟨f.low.size,#[],Uq _ _,.nil⟩)
 exact⟨_,_,_,j,h,.map (CM.ext_same _ _ _ _),.inl a⟩
def zr4 (P:Program)(t:TypeId)(r:Option Operand):F9 P (j0 P t r) (fun ρ=>do pure (.value (←Instr.makeMap t (r.map ρ)))):=by
 unfold j0;split
 ·intro g C H w E ρ d j;exact zl3 d (by simp[Instr.makeMap])
 ·rename_i x;split
  ·rename_i k e hu;refine Lj fun g C H w ρ a d f=>?_
   split
   ·generalize h:ρ x=l at f;cases f;exact zl3 d (by simp[Instr.makeMap,Gn hu,h,asInt,asIntOf])
   ·exact trivial
  ·exact Gl P _
def zi0 (P:Program)(t:TypeId)(x:Operand)(f:Nat):F9 P (pe P t x f) (fun ρ=>do pure (.value (←Instr.fieldAt t (ρ x) f))):=by
 unfold pe;split
 ·rename_i fields hu;split
  ·exact Gl P _
  ·rename_i fd h;split
   ·exact Gl P _
   ·exact Gl P _
   ·rename_i n j l;refine Lj fun q C H w ρ a m g=>?_
    split
    ·rename_i o v i;generalize r:ρ x=s at g;cases g with
     |ptr p =>
      refine H9 m (.ptr (i:=i+fd.offset) p) ?_;have d:n≠0:=j;simp[Instr.fieldAt,Gn hu,h,Instr.sureAddr,fieldPlace,Ku l,d,Z9]
    ·exact trivial
 ·exact Gl P _
def zrs (P:Program)(t:TypeId)(x:Operand)(f:Nat):F9 P (ny P t x f) (fun ρ=>do pure (.value (←Instr.field t (ρ x) f))):=by
 unfold ny;split
 ·rename_i fields hu;split
  ·exact Gl P _
  ·rename_i fd j;split
   ·rename_i g n l m;refine Lj fun y C H w ρ a o d=>?_
    split
    ·generalize A:ρ x=B at d;cases d with
     |agg d h =>
      refine ko o fun r p=>?_
      obtain⟨z,q,s⟩:=zfb (w:=w) l m p d h;exact⟨z,by simp[Instr.field,Gn hu,j,asAgg,q],s⟩
    ·exact trivial
   ·exact Gl P _
 ·exact Gl P _
end Go.Sv
namespace Go.Sv
open Go.RowKit (Below)
def pu {l c:Nat}(e:Nat)(h:l≤c):l*e+(c - l)*e=c*e:=by
 rw[←Bb];congr 1;omega
def Sc (r:Option Nat)(v:Option Value):Prop:=match r with
 |none=>v=none
 |some n=>∃k,v=some (.int k (Int.ofNat n))
def Qo {C:CM}{E:Tr AV}{ρ:Operand→Value}(a:ln C E ρ){x:Option Operand}{r:Option Nat}(h:(Ir x).run E=some r):Sc r (x.map ρ):=by
 cases x with
 |none=>cases h;rfl
 |some x =>
  unfold Ir at h;dsimp only at h;split at h
  ·rename_i k n d;cases h;have:=a _ _ d;generalize hv:ρ x=v at this;cases this;exact⟨k,by simp[hv]⟩
  ·cases h
def cq {P:Program}{w:World}(k:IntKind){n y:Nat}(c:BoundsCode)(h:n≤y):(Instr.sliceBound (.int k (Int.ofNat n)) y c).run P w=.ok n w:=by
 have:(0:Int)≤Int.ofNat n∧Int.ofNat n≤(y:Int):=⟨by simp,by simp;omega⟩;simp only[Instr.sliceBound,asIntOf,Sem.run_bind,Sem.run_pure,Result.andThen_ok,Sem.run_ite,Ai this];rfl
def z3j {P:Program}{w:World}(isSlice:Bool){len cap:Nat}{lo hi mx:Option Nat}{a b c:Option Value}(g:Sc lo a)(o:Sc hi b)(p:Sc mx c)
  (hm:mx.isSome=true→hi.isSome=true) (d:lo.getD 0≤hi.getD len) (f:hi.getD len≤mx.getD cap) (j:mx.getD cap≤cap) :
  (Instr.sliceBounds isSlice len cap a b c).run P w=.ok (lo.getD 0,hi.getD len,mx.getD cap) w:=by
 cases mx with
 |none =>
  cases p;simp only[Option.getD_none] at f j;cases hi with
  |none =>
   cases o;cases lo with
   |none=>cases g;simp[Instr.sliceBounds]
   |some l =>
    obtain⟨k,rfl⟩:=g;simp only[B9,Option.getD_none] at d;simp only[Instr.sliceBounds,Sem.run_bind,Sem.run_pure,Result.andThen_ok,cq k _ d,Option.getD]
  |some h =>
   obtain⟨k,rfl⟩:=o;simp only[B9] at d f;cases lo with
   |none=>cases g;simp only[Instr.sliceBounds,Sem.run_bind,Sem.run_pure,Result.andThen_ok,cq k _ f,Option.getD]
   |some l =>
    obtain⟨k',rfl⟩:=g;simp only[B9] at d;simp only[Instr.sliceBounds,Sem.run_bind,Sem.run_pure,Result.andThen_ok,cq k _ f,cq k' _ d,Option.getD]
 |some m =>
  obtain⟨q,rfl⟩:=p;simp only[B9] at f j;cases hi with
  |none=>simp at hm
  |some h =>
   obtain⟨k,rfl⟩:=o;simp only[B9] at d f;cases lo with
   |none=>cases g;simp only[Instr.sliceBounds,Sem.run_bind,Sem.run_pure,Result.andThen_ok,cq q _ j,cq k _ f,Option.getD]
   |some l =>
    obtain⟨k',rfl⟩:=g;simp only[B9] at d;simp only[Instr.sliceBounds,Sem.run_bind,Sem.run_pure,Result.andThen_ok,cq q _ j,cq k _ f,cq k' _ d,Option.getD]
def zko {C:CM}{o v i esz l h m:Nat}{L:Loc}(f:C o v=some L)(g:l≤h)(j:h≤m)(w:i+m*esz≤L.n)(x:L.d+i+m*esz≤L.sz) :
  VR C (Uh l h m o v i esz) (.slice (some (if m=l then ⟨L.b,L.d+i,none⟩ else (⟨L.b,L.d+i,none⟩:Addr).add (l*esz))) (h - l) (m - l)):=by
 unfold Uh;split
 ·rename_i he;have a:l=m:=Al he;subst a;have:h=l:=by omega
  subst this;rw[Ai rfl,Ej];split
  ·exact .sl f (by omega) (by omega) (Am _) (fun r d=>by cases d;exact⟨rfl,by omega⟩) (fun e=>by cases e)
  ·exact .emp
 ·rename_i he;have a:¬m=l:=fun e=>by rw[e,Bj] at he;cases he
  rw[Ab a,Z9];have y:=pu esz (Bo g j);have z:=pu esz g;have A:h*esz≤m*esz:=At _ j;have p:Nat.add i (Nat.mul l esz)=i+l*esz:=rfl;have q:Nat.sub h l=h - l:=rfl;have s:Nat.sub m l=m - l:=rfl;rw[p,q,s];exact .sl f (by omega) (by omega) (by omega) (fun r d=>by cases d;exact⟨rfl,by omega⟩) (fun e=>by cases e)
def zey {C:CM}{o v i len esz l h cap:Nat}{room mx:Option Nat}{r:AV}{L:Loc}(w:C o v=some L)(J:i+len*esz≤L.n)(G:L.d+i+cap*esz≤L.sz)(K:len≤cap)
  (H:∀r,room=some r→cap=r∧i+r*esz≤L.n) (M:room=none→L.d+i+cap*esz=L.sz) (d:j8 l h (room.getD len) mx o v i esz room=some r) :
  l≤h∧h≤mx.getD cap∧mx.getD cap≤cap ∧
  VR C r (.slice (some (if mx.getD cap=l then ⟨L.b,L.d+i,none⟩ else (⟨L.b,L.d+i,none⟩:Addr).add (l*esz))) (h - l) (mx.getD cap - l)):=by
 unfold j8 at d;split at d
 ·cases d
 ·rename_i x;have a:l≤h:=As x;split at d
  ·cases d
  ·rename_i y;have f:h≤room.getD len:=As y;have z:room.getD len≤cap∧i+room.getD len*esz≤L.n:=by
    cases room with
    |none=>exact⟨K,J⟩
    |some r=>obtain⟨p,q⟩:=H r rfl;exact⟨by simp[p],q⟩
   split at d
   ·rename_i m;split at d
    ·cases d
    ·rename_i A;have j:h≤m:=As A;split at d
     ·cases d
     ·rename_i B;have s:m≤room.getD len:=As B;cases d;have p:m*esz≤room.getD len*esz:=At _ s;have q:m*esz≤cap*esz:=At _ (by omega);exact⟨a,j,by simp;omega,zko w a j (by omega) (by omega)⟩
   ·split at d
    ·rename_i rr;cases d;obtain⟨p,q⟩:=H rr rfl;subst p;exact⟨a,f,Am _,zko w a f q G⟩
    ·have D:=M rfl;simp only[Option.getD_none] at f ⊢;have Q:h*esz≤len*esz:=At _ f;split at d
     ·rename_i I;have E:l=0:=Al I;subst E;cases d;refine⟨a,by omega,Am _,?_⟩;have e:(if cap=0 then (⟨L.b,L.d+i,none⟩:Addr) else (⟨L.b,L.d+i,none⟩:Addr).add (0*esz))=⟨L.b,L.d+i,none⟩:=by
       split
       ·rfl
       ·rw[Z9];simp
      rw[e];exact .sl w (by omega) (by simpa using G) (by omega) (fun r F=>by cases F) (fun _=>by simpa using D)
     ·rename_i I;split at d
      ·rename_i g;have e:l=h:=Al g;subst e;cases d;refine⟨a,by omega,Am _,?_⟩;rw[Ej];exact .emp
      ·rename_i g;have N:¬l=h:=fun e=>by rw[e,Bj] at g;cases g
       cases d;refine⟨a,by omega,Am _,?_⟩;rw[Ab (by omega),Z9];have p:=pu esz (show l≤cap by omega);have q:=pu esz a;have O:Nat.add i (Nat.mul l esz)=i+l*esz:=rfl;have P:Nat.sub h l=h - l:=rfl;rw[O,P];exact .sl w (by omega) (by omega) (by omega) (fun r F=>by cases F) (fun _=>by omega)
def zc1 {α β:Type}(f:α→β)(x:Option α):(x.map f).isSome=x.isSome:=by cases x<;>rfl
def Sc.isSome {r:Option Nat}{v:Option Value}(h:Sc r v):r.isSome=v.isSome:=by
 cases r with
 |none=>rw[show v=none from h];rfl
 |some n=>obtain⟨k,rfl⟩:=h;rfl
def zqb (P:Program)(t:TypeId)(x:Operand)(lo hi mx:Option Operand) :
  F9 P (Zd P t x lo hi mx) (fun ρ=>do pure (.value (←Instr.sliceAt t (ρ x) (lo.map ρ) (hi.map ρ) (mx.map ρ)))):=by
 unfold Zd;split
 ·rename_i hu;split
  ·exact Gl P _
  ·intro w0 C H w E ρ y f;dsimp only;split
   ·rename_i len n l h z A B;split
    ·rename_i h1;split
     ·rename_i h2;have Q:l.getD 0≤h.getD len:=As h1;have D:h.getD len≤len:=As h2;have hv:=f _ _ z;have g:=Qo f A;have d:=Qo f B;generalize ρ x=O at hv;cases hv with
      | @str _ _ s F G =>
       subst F G;have p:=z3j (P:=P) (w:=w) false (len:=s.size) (cap:=s.size) (mx:=none) (c:=none) g d rfl (by simp) Q (by simpa using D) (by simp);refine H9 y (x:=.string (s.extract (l.getD 0) (h.getD s.size))) (.str ?_ ?_) ?_
       ·rw[Lib.extract_data];have:(s.data.toList.length)=s.size:=rfl;simp;rw[this] at D;omega
       ·rw[Lib.extract_data,packL_take,packL_drop];rfl
       ·simp only[Instr.sliceAt,Sem.run_bind,Gn hu,Result.andThen_ok,Instr.slice,Option.map_none,Option.isSome_none];simp[p]
     ·exact trivial
    ·exact trivial
   ·exact trivial
 ·rename_i elem hu;split
  ·exact Gl P _
  ·rename_i R;split
   ·exact Gl P _
   ·rename_i size I;intro w0 C H w E ρ y f;dsimp only;split
    ·rename_i o v i len esz room l h m z A B hm;refine ko y fun r q=>?_
     have hv:=f _ _ z;have g:=Qo f A;have d:=Qo f B;have j:=Qo f hm;generalize ρ x=O at hv;cases hv with
     | @sl _ _ _ _ _ _ L cap J q1 q2 q3 q4 q5 =>
      unfold Ok at q;split at q
      ·cases q
      ·rename_i S;have K:esz=size:=Al S;subst K;obtain⟨T,U,V,W⟩:=zey J q1 q2 q3 q4 q5 q;have p:=z3j (P:=P) (w:=w) true (len:=len) (cap:=cap) g d j (by
        rw[j.isSome,d.isSome,zc1,zc1];intro e;cases hi<;>simp_all) T U V
       refine⟨_,?_,W⟩;simp only[Instr.sliceAt,Sem.run_bind,Gn hu,Result.andThen_ok,Instr.slice,p,Ku I,Sem.run_pure,Ck];split<;>simp_all
    ·rename_i l h z A B hm;split
     ·rename_i X;have Y:l.getD 0+h.getD 0=0:=Al X;have hv:=f _ _ z;have g:=Qo f A;have d:=Qo f B;have j:=Qo f hm;generalize ρ x=O at hv;cases hv;have p:=z3j (P:=P) (w:=w) true (len:=0) (cap:=0) g d j (by simp) (by omega) (by simp;omega) (by simp);refine H9 y .nilSl ?_;have F:l.getD 0=0:=by omega
      have G:h.getD 0=0:=by omega
      rw[F,G] at p;simp only[Instr.sliceAt,Sem.run_bind,Gn hu,Result.andThen_ok,Instr.slice,p,Ku I,Sem.run_pure];simp
     ·exact trivial
    ·rename_i l h z A B hm;split
     ·rename_i X;have Y:l.getD 0+h.getD 0=0:=Al X;have hv:=f _ _ z;have g:=Qo f A;have d:=Qo f B;have j:=Qo f hm;generalize ρ x=O at hv;cases hv with
      | @emp a cap =>
       have p:=z3j (P:=P) (w:=w) true (len:=0) (cap:=cap) g d j (by simp) (by omega) (by simp;omega) (by simp);have F:l.getD 0=0:=by omega
       have G:h.getD 0=0:=by omega
       rw[F,G] at p;refine H9 y (x:=.slice (some (if cap=0 then a else a.add 0)) 0 cap) .emp ?_;simp only[Instr.sliceAt,Sem.run_bind,Gn hu,Result.andThen_ok,Instr.slice,p,Ku I,Sem.run_pure];simp;split<;>rfl
     ·exact trivial
    ·exact trivial
 ·rename_i n elem hu;split
  ·exact Gl P _
  ·rename_i R;split
   ·exact Gl P _
   ·rename_i size I;intro w0 C H w E ρ y f;dsimp only;split
    ·rename_i o v i l h m z A B hm;split
     ·rename_i c M Z hg;split
      ·rename_i aa;split
       ·rename_i hle;have af:i+n*size≤M:=As hle;have N:v=Z:=Al aa;subst N;refine ko y fun r q=>?_
        have hv:=f _ _ z;have g:=Qo f A;have d:=Qo f B;have j:=Qo f hm;generalize ρ x=O at hv;cases hv with
        | @ptr _ _ _ L J =>
         unfold Ok at q;simp only[Bj] at q;have ad:=y.obj o _ (y.fresh _ _ _ J) hg;obtain⟨p1,_,p3,_⟩:=ad L J;obtain⟨T,U,V,W⟩:=zey (cap:=n) (len:=n) (room:=some n) J (by omega) (by omega) (Am _) (fun r q=>by cases q;exact⟨rfl,by omega⟩) (fun e=>by cases e) q;have p:=z3j (P:=P) (w:=w) false (len:=n) (cap:=n) g d j (by
          rw[j.isSome,d.isSome,zc1,zc1];intro e;cases hi<;>simp_all) T U V
         refine⟨_,?_,W⟩;simp only[Instr.sliceAt,Instr.sureAddr,Sem.run_bind,Gn hu,Result.andThen_ok,p,Ku I,Sem.run_pure]
       ·exact trivial
      ·exact trivial
     ·exact trivial
    ·exact trivial
 ·exact Gl P _
end Go.Sv
namespace Go.Sv
open Go.RowKit (Below)
def zht (P:Program)(t:TypeId)(x ix:Operand):F9 P (rv P t x ix) (fun ρ=>do pure (.value (←Instr.indexAt t (ρ x) (ρ ix)))):=by
 unfold rv;split
 ·rename_i elem hu;split
  ·exact Gl P _
  ·rename_i size h;refine Sz fun r C H w ρ a b j d f=>?_
   split
   ·rename_i o v i len esz room k n;split
    ·rename_i g;split
     ·rename_i he;have l:n<len:=by rw[Ki] at g;simpa using g
      have m:esz=size:=Al he;subst m;generalize ρ x=s at d;generalize ρ ix=y at f;cases f;cases d with
      |sl p =>
       refine H9 j (.ptr (i:=i+n*esz) p) ?_;have q:(0:Int)≤Int.ofNat n∧Int.ofNat n<(len:Int):=⟨by simp,by simp;omega⟩;simp only[Instr.indexAt,asIntOf,Sem.run_bind,Sem.run_pure,Result.andThen_ok,Gn hu,Sem.run_ite,Ai q,Ku h];rw[Z9];rfl
     ·exact trivial
    ·exact trivial
   ·exact trivial
 ·rename_i len elem hu;split
  ·exact Gl P _
  ·rename_i size h;refine Sz fun r C H w ρ a b j d f=>?_
   split
   ·rename_i o v i k n;split
    ·rename_i g;have l:n<len:=by rw[Ki] at g;simpa using g
     generalize ρ x=s at d;generalize ρ ix=y at f;cases f;cases d with
     |ptr p =>
      refine H9 j (.ptr (i:=i+n*size) p) ?_;have q:(0:Int)≤Int.ofNat n∧Int.ofNat n<(len:Int):=⟨by simp,by simp;omega⟩;simp only[Instr.indexAt,asIntOf,Instr.sureAddr,Sem.run_bind,Sem.run_pure,Result.andThen_ok,Gn hu,Sem.run_ite,Ai q,Ku h];rw[Z9];rfl
    ·exact trivial
   ·exact trivial
 ·exact Gl P _
def zqp (P:Program)(t:TypeId)(x ix:Operand):F9 P (sw P t x ix) (fun ρ=>do pure (.value (←Instr.index t (ρ x) (ρ ix)))):=by
 unfold sw;split
 ·rename_i hu;refine Sz fun B C H w ρ a b m d h=>?_
  split
  ·rename_i len n k i;split
   ·rename_i j;have f:i<len:=by rw[Ki] at j;simpa using j
    generalize ρ x=D at d;generalize ρ ix=E at h;cases h;cases d with
    | @str _ _ s o F =>
     subst o F;have hi:i<s.size:=f;have p:s.data.toList[i]?=some s[i]:=by
      rw[Ah (by simpa using f)];rfl
     have G:=ziy p;refine H9 m (x:=.int .u8 s[i].toNat) ?_ ?_
     ·have:Int.ofNat (Nat.mod (Nat.div (Hh s.data.toList) (Nat.pow 256 i)) 256)=(s[i].toNat:Int):=by
       show ((Hh s.data.toList/256^i%256:Nat):Int)=_;rw[G]
      rw[this];exact .int _ _
     ·simp only[Instr.index,asIntOf,Sem.run_bind,Sem.run_pure,Result.andThen_ok,Gn hu];have I:(0:Int)≤Int.ofNat i:=by simp
      rw[Ai I];have:s[(Int.ofNat i).toNat]?=some s[i]:=by
       show s[i]?=some s[i];simp[hi]
      rw[this];rfl
   ·exact trivial
  ·exact trivial
 ·rename_i len elem hu;split
  ·rename_i g size p A;refine Sz fun B C H w ρ a b m d h=>?_
   split
   ·rename_i l k n;split
    ·rename_i j;have f:n<len:=by rw[Ki] at j;simpa using j
     generalize ρ x=D at d;generalize ρ ix=E at h;cases h;cases d with
     |agg d q =>
      refine ko m fun r J=>?_
      obtain⟨z,K,L⟩:=zfb (w:=w) p A J d q;refine⟨z,?_,L⟩;have o:(0:Int)≤Int.ofNat n∧Int.ofNat n<(len:Int):=⟨by simp,by simp;omega⟩;have y:(part elem _ ((Int.ofNat n).toNat*size)).run P w=.ok z w:=K;simp only[Instr.index,asIntOf,Sem.run_bind,Sem.run_pure,Result.andThen_ok,Gn hu,Sem.run_ite,Ai o,Ku A,y]
    ·exact trivial
   ·exact trivial
  ·exact Gl P _
 ·exact Gl P _
def zi9 {C:CM}:∀{l:List AV} {n:Nat} {vs:List Value},O1.bytesA l=some n→VRs C l vs→∃bs:List UInt8,bs.length=l.length∧Hh bs=n∧vs=bs.map (fun b=>Value.int .u8 (b.toNat:Int))
 |[],n,_,h,.nil=>by cases h;exact⟨[],rfl,rfl,rfl⟩
 |a::l,n,_,h,.cons e es=>by
  unfold O1.bytesA at h;split at h
  ·rename_i d;cases d
  ·rename_i b l' d;cases d;split at h
   ·rename_i f;split at h
    ·rename_i m hm;cases h;have g:b<256:=by rw[Ki] at f;simpa using f
     cases e;obtain⟨bs,j,o,p⟩:=zi9 hm es;have hu:(UInt8.ofNat b).toNat=b:=by simp;omega
     exact⟨UInt8.ofNat b::bs,by simp[j],by rw[Hh,hu,o],by rw[C6,hu,p];rfl⟩
    ·cases h
   ·cases h
  ·cases h
def zj9 (bs:List UInt8):(strOfNums (bs.map fun b=>(b.toNat:Int))).data.toList=bs:=by
 simp[strOfNums,Function.comp_def]
def zlb (w:World)(e:TypeId)(s:ByteArray):Lib.bytesWorld w e s=w.drew.alloc (.cells (Lib.bytesCells w e s) e ((Lib.bytesCells w e s).size,(Lib.bytesCells w e s).size+1)):=by
 have a:(Lib.bytesWorld w e s).heap=(w.drew.alloc (.cells (Lib.bytesCells w e s) e ((Lib.bytesCells w e s).size,(Lib.bytesCells w e s).size+1))).heap:=by
  apply Array.ext_getElem?;intro i;rcases Nat.lt_trichotomy i w.heap.size with h|h|h
  ·rw[Lib.bytesWorld_at_old w e s i h,z70 w.drew _ (show i<w.drew.heap.size from h)];rfl
  ·subst h;rw[Lib.bytesWorld_at_new];exact (Uq w.drew _).symm
  ·rw[D8 (by rw[Lib.bytesWorld_size];omega),D8 (by rw[World.size_alloc];show w.heap.size+1≤i;omega)]
 show ({ heap:=(Lib.bytesWorld w e s).heap,tape:=w.tape,drawn:=w.drawn+1,os:=w.os,output:=w.output }:World)=_;rw[a];rfl
def zv2 (P:Program)(src dst:TypeId)(x:Operand):F9 P (O1 P src dst x) (fun ρ=>do pure (.value (←convert src dst (ρ x)))):=by
 unfold O1;split
 ·rename_i s k m hd;refine Lj fun D C H w ρ a g f=>?_
  split
  ·rename_i k' n;generalize ρ x=A at f;cases f;refine H9 g (x:=.int k (k.wrap n)) (by rw[Sw];exact .int _ _) ?_;simp only[convert,Sem.run_bind,Gn m,Gn hd,Result.andThen_ok,Conv.intToInt,Sem.run_pure]
  ·exact trivial
 ·rename_i e m hd;split
  ·rename_i he;refine Lj fun D C H w ρ a g f=>?_
   split
   ·generalize ρ x=A at f;cases f;refine H9 g (x:=.string .empty) (.str rfl rfl) ?_;simp only[Sem.run_bind,run_convert_bytes_nil w src e m he 0 0 dst hd,Result.andThen_ok,Sem.run_pure]
   ·rename_i o v i len room;split
    ·rename_i l M;split
     ·rename_i n B;generalize ρ x=A at f;cases f with
      | @sl _ _ _ _ _ _ L cap N =>
       obtain⟨vs,K,E,X,Y,Z,O⟩:=g.read P M N;obtain⟨bs,q1,Q,R⟩:=zi9 B E;have z:bs.length=len:=by omega
       refine H9 g (x:=.string (strOfNums (bs.map fun b=>(b.toNat:Int)))) (.str (by rw[zj9,z]) (by rw[zj9,Q])) ?_;have F:=run_convert_bytes_arg (P:=P) w src e m he L.b (L.d+i) len cap (bs.map fun b=>(b.toNat:Int)) (by simp[z]) (fun j S=>by
        rw[Cs,O j S,R];simp[Cc,Ah (show j<bs.length by omega),List.getD]) dst hd
       simp only[Sem.run_bind,F,Result.andThen_ok,Sem.run_pure]
     ·exact trivial
    ·exact trivial
   ·exact trivial
  ·exact Gl P _
 ·rename_i s T m hd;refine Lj fun D C H w ρ a g f=>?_
  split
  ·rename_i l n;have G:=f;generalize U:ρ x=A at f;cases f;refine H9 g G ?_;rw[U];cases s<;>simp_all [convert,Gn m,Gn hd]
  ·exact trivial
 ·rename_i s e m hd;split
  ·rename_i he hz;refine Lj fun D C H w ρ a g f=>?_
   split
   ·rename_i len n;split
    ·rename_i o H' B;generalize ρ x=A at f;cases f with
     | @str _ _ d K E =>
      subst K E;rw[unpack_pack] at B;have hlen:d.size≤grownCap w d.size 0 e:=grownCap_ge w d.size 0 e;have h:VRs C ((d.data.toList.map (·.toNat)).map fun (b:Nat)=>AV.int .u8 (Int.ofNat b)) (d.data.toList.map fun b=>Value.int .u8 (b.toNat:Int)):=by
       generalize d.data.toList=q
       induction q with
       |nil=>exact .nil
       |cons b q V=>exact .cons (.int _ _) V
      have p:(Lib.bytesCells w e d).size=grownCap w d.size 0 e:=by simp[Lib.bytesCells];omega
      have y:((d.data.toList.map (·.toNat)).map fun (b:Nat)=>AV.int .u8 (Int.ofNat b)).length=d.size:=by simp
      obtain⟨W,hle,I,J⟩:=g.drew.newRow B e ((Lib.bytesCells w e d).size,(Lib.bytesCells w e d).size+1) (vs:=Lib.bytesCells w e d) (by rw[y,p];exact hlen)
       (by
        rw[y];have:(Lib.bytesCells w e d).toList.take d.size=d.data.toList.map fun b=>Value.int .u8 (b.toNat:Int):=by
         simp only[Lib.bytesCells,Dx,Ci];rw[Eh (by simp),Ax (by simp)]
        rw[this];exact h)
       (by intro a f;simp only[El] at f;obtain⟨b,_,rfl⟩:=f;rfl) (fun i hi=>by dsimp;omega)
      refine⟨W,_,.slice (some ⟨w.heap.size,0,none⟩) d.size (grownCap w d.size 0 e),hle,I,?_,.inl ?_⟩
      ·have:=VR.sl (i:=0) (len:=d.size) (esz:=1) (room:=none) (cap:=grownCap w d.size 0 e) J (by rw[y];dsimp only;omega) (by rw[p];dsimp only;omega) hlen (fun r F=>by cases F) (fun _=>by rw[p];simp);simpa using this
      ·simp only[Sem.run_bind,Lib.run_convert_string_bytes w src dst e d m hd he,Result.andThen_ok,Sem.run_pure,zlb]
    ·exact trivial
   ·exact trivial
  ·exact Gl P _
 ·exact Gl P _
def zlw (P:Program)(x:Operand)(i:Nat):F9 P (zh1 x i) (fun ρ=>do pure (.value (←Instr.extract (ρ x) i))):=by
 unfold zh1;refine Lj fun m C H w ρ a g d=>?_
 split
 ·generalize ρ x=o at d;cases d with
  | @tup _ vs d =>
   refine ko g fun r h=>?_
   obtain⟨v,j,l⟩:=d.get h;have f:vs[i]?=some v:=by simpa using j
   exact⟨v,by simp[Instr.extract,f],l⟩
 ·exact trivial
def znm (P:Program)(x:Operand)(q asserted:TypeId)(ok:Bool):F9 P (pj P x asserted ok) (fun ρ=>do pure (.value (←Instr.typeAssert (ρ x) q asserted ok))):=by
 unfold pj;split
 ·exact Gl P _
 ·rename_i d f hu;split
  ·exact Gl P _
  ·rename_i z r;refine Lj fun y C H w ρ a m g=>?_
   obtain⟨p,j,o⟩:=zpv (w:=w) r;have l:=zi7 (C:=C) o;split
   ·generalize ρ x=s at g;cases g;cases ok with
    |false=>exact trivial
    |true =>
     refine H9 m (x:=.tuple #[p,.bool false]) (.tup (.cons l (.cons (.bool _) .nil))) ?_;simp only[Instr.typeAssert,Sem.run_bind,Gn hu,Result.andThen_ok];cases d<;>first|(simp[j];done)|exact absurd hu (f _)
   ·rename_i t v;generalize ρ x=s at g;cases g with
    | @iface _ _ u g =>
     split
     ·rename_i he;have h:t=asserted:=Al he;subst h;cases ok with
      |false =>
       refine H9 m (x:=u) g ?_;simp only[Instr.typeAssert,Sem.run_bind,Gn hu,Result.andThen_ok];cases d<;>first|(simp;done)|exact absurd hu (f _)
      |true =>
       refine H9 m (x:=.tuple #[u,.bool true]) (.tup (.cons g (.cons (.bool _) .nil))) ?_;simp only[Instr.typeAssert,Sem.run_bind,Gn hu,Result.andThen_ok];cases d<;>first|(simp;done)|exact absurd hu (f _)
     ·rename_i he;have h:¬t=asserted:=fun e=>by rw[e,Bj] at he;cases he
      cases ok with
      |false=>exact trivial
      |true =>
       refine H9 m (x:=.tuple #[p,.bool false]) (.tup (.cons l (.cons (.bool _) .nil))) ?_;simp only[Instr.typeAssert,Sem.run_bind,Gn hu,Result.andThen_ok];cases d<;>first|(simp[j,h];done)|exact absurd hu (f _)
   ·exact trivial
 ·exact Gl P _
end Go.Sv
namespace Go.Sv
open Go.RowKit (Below)
def ze9 {P:Program}{t:TypeId}{d:TypeDesc}(h:Nr P t=some d):P.underlying t=some d∧(d=.bool∨(∃k,d=.int k)∨d=.string):=by
 unfold Nr at h;split at h
 ·rename_i hu;cases h;exact⟨hu,.inl rfl⟩
 ·rename_i k hu;cases h;exact⟨hu,.inr (.inl ⟨k,rfl⟩)⟩
 ·rename_i hu;cases h;exact⟨hu,.inr (.inr rfl)⟩
 ·cases h
def ja {P:Program}{w:World}{t:TypeId}{d:TypeDesc}(h:Nr P t=some d)(e:Bool)(v:Value):(Instr.checkKey e 10000 t v).run P w=.ok () w:=by
 obtain⟨hu,hd⟩:=ze9 h;show (Instr.checkKey e (9999+1) t v).run P w=_;unfold Instr.checkKey;simp only[Sem.run_bind,Gn hu,Result.andThen_ok];rcases hd with rfl|⟨k,rfl⟩|rfl<;>rfl
def ku {C:CM}{d:TypeDesc}{a b:AV}{r:Bool}(h:c8 d a b=some r){u v:Value}(hu:VR C a u)(hv:VR C b v) :
  Instr.sameNow d u v=some r∧(r=true→Instr.sameBits 10000 v u=true):=by
 unfold c8 at h;split at h
 ·split at h
  ·rename_i hk;have:=z7r hk;subst this;cases h;cases hu;cases hv;rename_i _ p x y _;refine⟨by simp[Instr.sameNow,qm],fun e=>?_⟩;rw[qm] at e;have:x=y:=by simpa using e
   subst this;simp[Instr.sameBits]
  ·cases h
 ·cases h;cases hu with
  | @str _ _ s g j =>
   cases hv with
   | @str _ _ f l m =>
    subst g j l m;rw[←zf3,←beq_toListBytes];refine⟨by simp[Instr.sameNow],fun e=>?_⟩;have:s=f:=by
     have o:s.data.toList=f.data.toList:=by rw[beq_toListBytes] at e;rw[←ByteArray.toList_eq,←ByteArray.toList_eq];simpa using e
     exact ByteArray.ext (Ec.1 o)
    subst this;simp only[Instr.sameBits];rw[beq_toListBytes];simp
 ·cases h;cases hu;cases hv;rename_i x y;refine⟨by simp[Instr.sameNow],fun e=>?_⟩;have:x=y:=by simpa using e
  subst this;simp[Instr.sameBits]
 ·cases h
def zfc {C:CM}{d:TypeDesc}{k:AV}{u:Value}(hu:VR C k u):∀{es:List (AV×AV×Nat)} {f:List MapEntry} {r:Option AV} (i:Nat),j4 d k es=some r→MR C es f →
  match r with
  |none=>Instr.findNow d u f i=some none
  |some a=>∃j v,Instr.findNow d u f i=some (some (j,v))∧VR C a v
 |[],[],r,i,h,.nil=>by cases h;rfl
 |(k',p,b)::l,e::_,r,i,h,.cons hk hv q hm=>by
  unfold j4 at h;split at h
  ·rename_i g;cases h;exact⟨i,e.val,by simp[Instr.findNow,(ku g hu hk).1],hv⟩
  ·rename_i g;have:=zfc hu (i+1) h hm;cases r with
   |none=>simpa [Instr.findNow,(ku g hu hk).1] using this
   |some a =>
    obtain⟨j,v,m,o⟩:=this;exact⟨j,v,by simpa [Instr.findNow,(ku g hu hk).1] using m,o⟩
  ·cases h
def gr {P:Program}{w:World}{t:TypeId}{d:TypeDesc}(hu:P.underlying t=some d){k:Value}{es:List MapEntry}{r:Option (Nat×Value)}(h:Instr.findNow d k es 0=some r) :
  (Instr.findKey t k es).run P w=.ok r w:=by
 simp[Instr.findKey,Gn hu,h]
def zns (P:Program)(t:TypeId)(x ix:Operand)(ok:Bool):F9 P (ot P t x ix ok) (fun ρ=>do pure (.value (←Instr.lookup t (ρ x) (ρ ix) ok))):=by
 unfold ot;split
 ·rename_i key elem hu;split
  ·rename_i d z hd O;refine Sz fun S C H w ρ a b E F M=>?_
   split
   ·exact trivial
   ·rename_i es g;obtain⟨l,_⟩:=ze9 hd;obtain⟨G,y,J⟩:=zpv (w:=w) O;have A:=zi7 (C:=C) J;have B:∃f:Array MapEntry,MR C es f.toList∧((ρ x=.map none∧f=#[])∨∃b s,ρ x=.map (some b)∧w.heap[b]?=some (.map f s)):=by
     unfold zd at g;split at g
     ·cases g;generalize ρ x=Q at F;cases F;exact⟨#[],.nil,.inl ⟨rfl,rfl⟩⟩
     ·rename_i o;split at g
      ·rename_i R s D;cases g;generalize ρ x=Q at F;cases F with
       |map N =>
        obtain⟨_,f,p,I⟩:=E.obj o _ (E.fresh _ _ _ N) D _ N;exact⟨f,I,.inr ⟨_,_,rfl,p⟩⟩
      ·cases g
     ·cases g
    obtain⟨f,hm,m⟩:=B;split
    ·rename_i v K;obtain⟨j,u,p,I⟩:=zfc M 0 K hm;have h:(Instr.lookup t (ρ x) (ρ ix) ok).run P w=.ok (if ok then .tuple #[u,.bool true] else u) w:=by
      unfold Instr.lookup;rcases m with ⟨q,rfl⟩|⟨r,s,q,L⟩
      ·simp only[Sem.run_bind,Gn hu,Result.andThen_ok,q,ja hd,gr l p,Sem.run_pure]
      ·have D:(getObj r).run P w=.ok (.map f s) w:=by simp[getObj,Sem.run,L]
       simp only[Sem.run_bind,Gn hu,Result.andThen_ok,q,D,ja hd,gr l p,Sem.run_pure]
     refine H9 E (x:=if ok then .tuple #[u,.bool true] else u) ?_ (by simp only[Sem.run_bind,h,Result.andThen_ok,Sem.run_pure]);cases ok with
     |true=>exact .tup (.cons I (.cons (.bool _) .nil))
     |false=>exact I
    ·rename_i K;have p:=zfc M 0 K hm;have h:(Instr.lookup t (ρ x) (ρ ix) ok).run P w=.ok (if ok then .tuple #[G,.bool false] else G) w:=by
      unfold Instr.lookup;rcases m with ⟨q,rfl⟩|⟨r,s,q,L⟩
      ·simp only[Sem.run_bind,Gn hu,Result.andThen_ok,q,ja hd,gr l p,Sem.run_pure,y]
      ·have D:(getObj r).run P w=.ok (.map f s) w:=by simp[getObj,Sem.run,L]
       simp only[Sem.run_bind,Gn hu,Result.andThen_ok,q,D,ja hd,gr l p,Sem.run_pure,y]
     refine H9 E (x:=if ok then .tuple #[G,.bool false] else G) ?_ (by simp only[Sem.run_bind,h,Result.andThen_ok,Sem.run_pure]);cases ok with
     |true=>exact .tup (.cons A (.cons (.bool _) .nil))
     |false=>exact A
    ·exact trivial
  ·exact Gl P _
 ·exact Gl P _
def zd1 (w:World){r k:Nat}(x:Obj)(h:k≠r):({ w with heap:=w.heap.setIfInBounds r x }:World).heap[k]?=w.heap[k]?:=by
 show (w.heap.setIfInBounds r x)[k]?=_;rw[Array.getElem?_setIfInBounds_ne (by omega)]
def putObj_heap_same (w:World){r:Nat}(x:Obj)(h:r<w.heap.size):({ w with heap:=w.heap.setIfInBounds r x }:World).heap[r]?=some x:=by
 show (w.heap.setIfInBounds r x)[r]?=_;simp[h]
def Rel.putObj {w0:World}{C:CM}{H:Heap}{w:World}(h:Rel w0 C H w){o v:Nat}{L:Loc}(hL:C o v=some L)(hB:w0.heap.size≤L.b)(ob:AObj)(x:Obj)
  (af:Ie w0.heap.size C { w with heap:=w.heap.setIfInBounds L.b x } o ob) (ad:∀c len aa ro,ob≠.cells c len aa ro):Rel w0 C (H.put o ob) { w with heap:=w.heap.setIfInBounds L.b x }:=by
 refine h.put (h.fresh _ _ _ hL) ob (h.low.trans ⟨rfl,rfl,rfl,by simp,fun k hk=>zd1 w x (by omega)⟩) (by simp) ?_ af (fun c len aa ro e=>absurd e (ad c len aa ro));intro o' v' L' ag ah;refine zd1 w x (fun e=>ag ?_);exact (h.excl _ _ _ _ _ _ hL ah e.symm hB).symm
def MR.length {C:CM}:∀{es:List (AV×AV×Nat)} {aa:List MapEntry},MR C es aa→es.length=aa.length
 |_,_,.nil=>rfl
 |_,_,.cons _ _ _ h=>by simp[MR.length h]
def zay {C:CM}{d:TypeDesc}{k v:AV}{u x:Value}(hu:VR C k u)(m:VR C v x){q:Nat}:∀{es f:List (AV×AV×Nat)} {a:List MapEntry} {n:Bool} (i:Nat),ky d k v q es=some (f,n)→MR C es a →
  match n with
  |true=>Instr.findNow d u a i=some none∧MR C f (a++[{ key:=u,val:=x,born:=q }])
  |false=>∃j e y,Instr.findNow d u a i=some (some (j+i,y))∧a[j]?=some e∧Instr.sameBits 10000 e.key u=true∧MR C f (a.modify j fun e=>{ e with key:=u,val:=x })
 |[],f,[],n,i,h,.nil=>by
  cases h;exact⟨rfl,.cons hu m rfl .nil⟩
 |(k',F,b)::l,f,e::r,n,i,h,.cons hk hv o hm=>by
  unfold ky at h;split at h
  ·rename_i p;cases h;obtain⟨g,s⟩:=ku p hu hk;exact⟨0,e,e.val,by simp[Instr.findNow,g],rfl,s rfl,by simpa using MR.cons (e:={ e with key:=u,val:=x }) hu m o hm⟩
  ·rename_i p;obtain⟨g,_⟩:=ku p hu hk;split at h
   ·rename_i r' G w;cases h;have:=zay hu m (i+1) w hm;cases n with
    |true=>exact⟨by simpa [Instr.findNow,g] using this.1,.cons hk hv o this.2⟩
    |false =>
     obtain⟨j,z,y,A,B,D,E⟩:=this;refine⟨j+1,z,y,?_,by simpa using B,D,by simpa using MR.cons hk hv o E⟩;rw[show j+1+i=j+(i+1) from by omega];simpa [Instr.findNow,g] using A
   ·cases h
  ·cases h
def zbs (P:Program)(t:TypeId)(m k x:Operand):F9 P (nc P t m k x) (fun ρ=>do Instr.mapUpdate t (ρ m) (ρ k) (ρ x);pure .skip):=by
 unfold nc;split
 ·rename_i key elem hu;split
  ·rename_i d hd;obtain⟨q,_⟩:=ze9 hd;intro X C H w E ρ r G;dsimp only;split
   ·rename_i o Y Z hm hk R;have s:=G _ _ hm;have z:=G _ _ hk;have A:=G _ _ R;split
    ·rename_i es D S;generalize T:ρ m=pm at s;cases s with
     |map l =>
      rename_i L;obtain⟨F,f,O,Q⟩:=r.obj o _ (r.fresh _ _ _ l) S _ l;have B:=r.lt _ _ _ l;have g:(getObj L.b).run P w=.ok (.map f D) w:=by simp[getObj,Sem.run,O]
      have h:∀y,(setObj L.b y).run P w=.ok () { w with heap:=w.heap.setIfInBounds L.b y }:=by intro y;simp[setObj,Sem.run,O]
      split
      ·rename_i I J;obtain⟨K,M⟩:=zay z A 0 J Q;refine⟨C,{ w with heap:=w.heap.setIfInBounds L.b (.map (f.push { key:=ρ k,val:=ρ x,born:=D }) (D+1)) },undef,CM.le_refl C,r.putObj l F _ _ ?_ (fun _ _ _ _ e=>by cases e),.tup .nil,.inr ⟨?_,rfl⟩⟩
       ·intro U a;rw[l] at a;cases a;exact⟨F,_,putObj_heap_same w _ B,by rw[Array.toList_push];exact M⟩
       ·simp only[Instr.mapUpdate,Sem.run_bind,Gn hu,Result.andThen_ok,g,ja hd,gr q K,h,Sem.run_pure]
      ·rename_i I J;obtain⟨j,e,y,K,M,V,W⟩:=zay z A 0 J Q;have N:f[j]?=some e:=by simpa using M
       refine⟨C,{ w with heap:=w.heap.setIfInBounds L.b (.map (f.modify j fun e=>{ e with key:=ρ k,val:=ρ x }) D) },undef,CM.le_refl C,r.putObj l F _ _ ?_ (fun _ _ _ _ e=>by cases e),.tup .nil,.inr ⟨?_,rfl⟩⟩
       ·intro U a;rw[l] at a;cases a;exact⟨F,_,putObj_heap_same w _ B,by rw[Array.toList_modify];exact W⟩
       ·have p:(Instr.keyThatStays e.key (ρ k)).run P w=.ok (ρ k) w:=by simp[Instr.keyThatStays,V]
        simp only[Instr.mapUpdate,Sem.run_bind,Gn hu,Result.andThen_ok,g,ja hd,gr q K,C5,N,Ck,B9,p,h,Sem.run_pure]
      ·exact trivial
    ·exact trivial
   ·exact trivial
  ·exact Gl P _
 ·exact Gl P _
def zqi (P:Program)(t:TypeId)(x:Operand):F9 P (rangeF P t x) (fun ρ=>do pure (.value (←Instr.range t (ρ x)))):=by
 unfold rangeF;split
 ·rename_i hu;refine Lj fun o C H w ρ a d f=>?_
  split
  ·rename_i len n;generalize ρ x=p at f;cases f with
   | @str _ _ s h j =>
    obtain⟨l,m⟩:=d.push (.iter len n 0) (.stringIter s 0) 0 0 (fun L g=>by
     rw[CM.ext_same] at g;cases g;exact⟨d.low.size,rfl,s,Uq _ _,h,j⟩)
    refine⟨_,_,.pointer (some ⟨w.heap.size,0,none⟩),m,l,by simpa using VR.ptr (i:=0) (CM.ext_same C H.next 0 ⟨w.heap.size,0,0,0⟩),.inl ?_⟩;simp only[Instr.range,Sem.run_bind,Gn hu,Sem.run_pure,Result.andThen_ok,run_newObj];rfl
  ·exact trivial
 ·exact Gl P _
def zui (P:Program)(x:Operand)(isString:Bool)(ty:TypeId):F9 P (zwd x isString) (fun ρ=>do pure (.value (←Instr.next (ρ x) isString ty))):=by
 unfold zwd;split
 ·rename_i O;subst O;refine Lj fun R C H w ρ a h I=>?_
  split
  ·rename_i o;split
   ·rename_i len n pos Q;generalize ρ x=S at I;cases I with
    | @ptr _ _ _ L j =>
     obtain⟨J,l,s,K,M,N⟩:=h.obj o _ (h.fresh _ _ _ j) Q _ j;have B:=h.lt _ _ _ j;have f:(getObj L.b).run P w=.ok (.stringIter s pos) w:=by simp[getObj,Sem.run,K]
     have m:∀y,(setObj L.b y).run P w=.ok () { w with heap:=w.heap.setIfInBounds L.b y }:=by intro y;simp[setObj,Sem.run,K]
     have g:(⟨L.b,L.d+0,none⟩:Addr)=⟨L.b,0,none⟩:=by rw[l]
     rw[g];split
     ·rename_i p;have q:pos<len:=by rw[Ki] at p;simpa using p
      have d:pos<s.size:=by have:s.data.toList.length=s.size:=rfl;omega
      split
      ·rename_i D;have E:s.data.toList[pos]?=some s[pos]:=by
        rw[Ah (by rw[M];exact q)];rfl
       have r:=ziy E;rw[N] at r;have F:Nat.mod (Nat.div n (Nat.pow 256 pos)) 256=s[pos].toNat:=r;rw[F] at D ⊢;have G:s[pos].toNat<128:=by rw[Ki] at D;simpa using D
       have z:=decode_ascii s pos d G;refine⟨C,{ w with heap:=w.heap.setIfInBounds L.b (.stringIter s (pos+1)) },.tuple #[.bool true,goInt pos,.int .i32 (s[pos].toNat:Int)],CM.le_refl C,
        h.putObj j J _ _ ?_ (fun _ _ _ _ e=>by cases e),.tup (.cons (.bool _) (.cons (.int _ _) (.cons (.int _ _) .nil))),.inl ?_⟩
       ·intro T A;rw[j] at A;cases A;exact⟨J,l,s,putObj_heap_same w _ B,M,N⟩
       ·simp only[Instr.next,Sem.run_bind,f,Result.andThen_ok,Ai d,z,m,Sem.run_pure]
      ·exact trivial
     ·rename_i p;have q:¬pos<len:=by rw[Ki] at p;simpa using p
      have d:¬pos<s.size:=by have:s.data.toList.length=s.size:=rfl;omega
      refine H9 h (x:=.tuple #[.bool false]) (.tup (.cons (.bool _) .nil)) ?_;simp only[Instr.next,Sem.run_bind,f,Result.andThen_ok,Ab d,Sem.run_pure]
   ·exact trivial
  ·exact trivial
 ·exact Gl P _
end Go.Sv
namespace Go.Sv
open Go.RowKit (Below)
def Rel.bump {w0:World}{C:CM}{H:Heap}{w w':World}(h:Rel w0 C H w){o aa len:Nat}{c:Tr AV}(ho:o<H.next)(ap:∃v L,C o v=some L)(hg:H.get o=some (.cells c len aa false))(L':Loc)(c':Tr AV)(ag:Nat)
  (aj:Below w0.heap.size w0 w') (aq:w.heap.size≤w'.heap.size) (ar:L'.b<w'.heap.size) (hex:∀o' v L,C o' v=some L→L.b=L'.b→o'=o)
  (aw:∀o' v L,o'≠o→C o' v=some L→w'.heap[L.b]?=w.heap[L.b]?) (ax:Ie w0.heap.size (C.ext o (aa+1) L') w' o (.cells c' ag (aa+1) false)) :
  Rel w0 (C.ext o (aa+1) L') (H.put o (.cells c' ag (aa+1) false)) w'∧C.le (C.ext o (aa+1) L'):=by
 have ah:C o (aa+1)=none:=by
  cases e:C o (aa+1) with
  |none=>rfl
  |some L=>have:=h.top _ _ _ _ _ ho hg _ _ e;omega
 have hle:C.le (C.ext o (aa+1) L'):=CM.le_ext _ ah (.inl ap);refine⟨⟨by show max C.nx (o+1)=H.next;rw[h.nx];exact Nat.max_eq_left ho,aj,?_,?_,?_,?_,?_⟩,hle⟩
 ·intro o' v L hL;by_cases e:o'=o∧v=aa+1
  ·rw[e.1];exact ho
  ·rw[CM.ext_ne _ _ e] at hL;exact h.fresh _ _ _ hL
 ·intro o' v L hL;by_cases e:o'=o∧v=aa+1
  ·obtain⟨rfl,rfl⟩:=e;rw[CM.ext_same] at hL;cases hL;exact ar
  ·rw[CM.ext_ne _ _ e] at hL;exact Bg (h.lt _ _ _ hL) aq
 ·intro o1 v1 L1 o2 v2 L2 h1 h2 hb hB;by_cases e1:o1=o∧v1=aa+1<;>by_cases e2:o2=o∧v2=aa+1
  ·rw[e1.1,e2.1]
  ·obtain⟨rfl,rfl⟩:=e1;rw[CM.ext_same] at h1;cases h1;rw[CM.ext_ne _ _ e2] at h2;exact (hex _ _ _ h2 hb.symm).symm
  ·obtain⟨rfl,rfl⟩:=e2;rw[CM.ext_same] at h2;cases h2;rw[CM.ext_ne _ _ e1] at h1;exact hex _ _ _ h1 hb
  ·rw[CM.ext_ne _ _ e1] at h1;rw[CM.ext_ne _ _ e2] at h2;exact h.excl _ _ _ _ _ _ h1 h2 hb hB
 ·intro o' ob af ad;by_cases e:o'=o
  ·subst e;rw[Heap.get_put_same] at ad;cases ad;exact ax
  ·have ao:o'<H.next:=af;rw[Heap.get_put_ne H _ e] at ad;exact (h.obj _ _ af ad).frame hle (fun v L hL=>by rwa [CM.ext_ne _ _ (fun q=>e q.1)] at hL) (fun v L hL=>aw _ _ _ e hL)
 ·intro o' c1 ay az aA af ad v L hL;by_cases e:o'=o
  ·subst e;rw[Heap.get_put_same] at ad;cases ad;by_cases e2:v=aa+1
   ·omega
   ·rw[CM.ext_ne _ _ (by omega)] at hL;have:=h.top _ _ _ _ _ ho hg _ _ hL;omega
  ·have ao:o'<H.next:=af;rw[Heap.get_put_ne H _ e] at ad;rw[CM.ext_ne _ _ (fun q=>e q.1)] at hL;exact h.top _ _ _ _ _ af ad _ _ hL
structure AppX (P:Program) (w:World) (elem:TypeId) (size:Nat) (xt:TypeId) (x:Value) (n:Nat) (news:Array Value):Prop where
 und:∃d,P.underlying xt=some d∧((d=.string∨∃e,d=.slice e)∧(Builtin.lenOf x).run P w=.ok n w∧(∀w',w'.heap=w.heap→(Builtin.firstCells size n x).run P w'=.ok news w')
  ∨ (∃k,d=.int k)∧x=.int .i64 (Int.ofNat n)∧n≤1048576∧0<size∧∃zv,(∀w',(zeroValue elem).run P w'=.ok zv w')∧(∃i,P.info? elem=some i∧i.bytes≤65536)∧news=Builtin.zeroCells zv.cells n∧zv.cells.size=size)
def zdt (z:Array Value):Builtin.zeroCells z 0=#[]:=by simp[Builtin.zeroCells]
def v5 {P:Program}{w w':World}{st p elem ty:TypeId}{size n len cap:Nat}{base:Option Addr}{x:Value}{news:Array Value}(hu:P.underlying st=some (.slice elem))(q:Hk P elem=some size)
  (s:AppX P w elem size p x n news) (hle:len+n≤cap)
  (f:match base with
   |none=>w'=w
   |some a=>(storeCells (a.add (len*size)) news.toList).run P w=.ok () w') :
  (Builtin.append_ #[st,p] ty #[.slice base len cap,x]).run P w=.ok (.slice base (len+n) cap) w':=by
 obtain⟨d,hd,g⟩:=s.und;unfold Builtin.append_;rcases g with ⟨j,hlen,y⟩|⟨⟨k,rfl⟩,rfl,z,r,G,A,⟨i,hi,l⟩,rfl,B⟩
 ·rcases j with rfl|⟨e,rfl⟩
  all_goals
   simp only[B7,A6,Av,Sem.run_bind,Gn hu,Gn hd,Ku q,Result.andThen_ok,Sem.run_pure,Cz,Dp,hlen,Sem.run_ite,Ai hle,Bool.not_false,Bu,y w rfl];cases base with
   |none=>subst f;rfl
   |some a=>simp only[Sem.run_bind,f,Result.andThen_ok,Sem.run_pure]
 ·have C:IntKind.i64.wrap (Int.ofNat n)=Int.ofNat n:=by simp only[IntKind.wrap,IntKind.bits,IntKind.signed];simp;omega
  have D:¬(Int.ofNat n<0):=by simp
  have E:¬(Int.ofNat n*(i.bytes:Int)>2^48):=by
   have:(Int.ofNat n*(i.bytes:Int))=((n*i.bytes:Nat):Int):=by simp
   rw[this];have:n*i.bytes≤1048576*65536:=Ca z l;omega
  simp only[B7,A6,Av,Sem.run_bind,Gn hu,Gn hd,Ku q,Result.andThen_ok,Sem.run_pure,Bu,asInt,asIntOf,C,Sem.run_ite,Ab D,Yl hi,Ab E,Bool.not_true,Cz,Dp];have F:(Int.ofNat n).toNat=n:=rfl;rw[F,Ai hle];by_cases m:n*size=0
  ·have o:n=0:=by
    rcases Nat.mul_eq_zero.1 m with h|h
    ·exact h
    ·omega
   subst o;rw[zdt] at f;rw[Ai m];simp only[Result.andThen_ok];cases base with
   |none=>subst f;rfl
   |some a=>simp only[Sem.run_bind,f,Result.andThen_ok,Sem.run_pure]
  ·rw[Ab m];simp only[A,Result.andThen_ok];cases base with
   |none=>subst f;rfl
   |some a=>simp only[Sem.run_bind,f,Result.andThen_ok,Sem.run_pure]
def z6l {P:Program}{w:World}{st F elem ty:TypeId}{i:TypeInfo}{n len cap:Nat}{base:Option Addr}{x y:Value}{olds news:Array Value}(hu:P.underlying st=some (.slice elem))(hi:P.info? elem=some i)
  (I:AppX P w elem i.size F x n news) (z:cap<len+n) (r:i.bytes≤65536) (p:len+n≤2000000000) (A:∀w',(zeroValue elem).run P w'=.ok y w')
  (hold:(Builtin.firstCells i.size len (.slice base len cap)).run P w.drew=.ok olds w.drew) :
  (Builtin.append_ #[st,F] ty #[.slice base len cap,x]).run P w =
   .ok (.slice (some ⟨w.heap.size,0,none⟩) (len+n) (grownCap w (len+n) cap elem)) (w.drew.alloc (.cells (olds++news++Builtin.zeroCells y.cells (grownCap w (len+n) cap elem - (len+n))) elem)):=by
 have G:Hk P elem=some i.size:=by simp[Hk,hi]
 obtain⟨d,hd,q⟩:=I.und;have l:¬(len+n≤cap):=by omega
 have m:¬(Builtin.nextslicecap (len+n) cap*i.bytes>2^48):=by
  have R:(len+n)*i.bytes≤2000000000*65536:=Ca p r;have:=growslice_fits (bytes:=i.bytes) z (by omega);omega
 have o:¬(((len+n:Nat):Int)>IntKind.i64.max):=by
  simp only[IntKind.max,IntKind.signed,IntKind.bits,Bu];omega
 have f:(Question.appendCap (len+n) cap elem).forced=false:=rfl;unfold Builtin.append_;rcases q with ⟨B,hlen,J⟩|⟨⟨k,rfl⟩,rfl,K,H,C,s,⟨j,S,_⟩,rfl,L⟩
 ·have g:(Builtin.firstCells i.size len (.slice base len cap)).run P { w with drawn:=w.drawn+1 }=.ok olds { w with drawn:=w.drawn+1 }:=hold;rcases B with rfl|⟨e,rfl⟩
  all_goals
   simp only[B7,A6,Av,Sem.run_bind,Gn hu,Gn hd,Ku G,Result.andThen_ok,Sem.run_pure,Cz,Dp,hlen,Sem.run_ite,Ab l,Yl hi,o,false_and,Ab m,run_choose,f,run_askRoom];simp only[g,Result.andThen_ok,Bool.not_false,Bu,J { w with drawn:=w.drawn+1 } rfl,A,newRow,Sem.run_bind,run_newObj,Sem.run_pure];rfl
 ·obtain rfl:C=y:=by have a:=s w;rw[A w] at a;cases a;rfl
  have M:IntKind.i64.wrap (Int.ofNat n)=Int.ofNat n:=by simp only[IntKind.wrap,IntKind.bits,IntKind.signed];simp;omega
  have N:¬(Int.ofNat n<0):=by simp
  have O:¬(Int.ofNat n*(i.bytes:Int)>2^48):=by
   have:(Int.ofNat n*(i.bytes:Int))=((n*i.bytes:Nat):Int):=by simp
   rw[this];have:n*i.bytes≤1048576*65536:=Ca K r;omega
  simp only[B7,A6,Av,Sem.run_bind,Gn hu,Gn hd,Ku G,Result.andThen_ok,Sem.run_pure,Bu,asInt,asIntOf,M,Sem.run_ite,Ab N,Yl hi,Ab O,Bool.not_true,Cz,Dp];have Q:(Int.ofNat n).toNat=n:=rfl;rw[Q,Ab l];simp only[o,false_and,Dp,Result.andThen_ok,Ab m,run_choose,f,Cz,run_askRoom];have g:(Builtin.firstCells i.size len (.slice base len cap)).run P { w with drawn:=w.drawn+1 }=.ok olds { w with drawn:=w.drawn+1 }:=hold;simp only[g,Result.andThen_ok];by_cases D:n*i.size=0
  ·have E:n=0:=by
    rcases Nat.mul_eq_zero.1 D with h|h
    ·exact h
    ·omega
   subst E;rw[Ai D];simp only[Sem.run_pure,Result.andThen_ok,zdt,A,newRow,Sem.run_bind,run_newObj];rfl
  ·rw[Ab D];simp only[Sem.run_bind,s,Sem.run_pure,Result.andThen_ok,newRow,run_newObj];rfl
def zff {P:Program}{t:TypeId}{l:List AV}(h:K3 P t=some l):∃v i,(∀w',(zeroValue t).run P w'=.ok v w')∧Mr v.cells.toList=some l∧P.info? t=some i∧l.length=i.size:=by
 unfold K3 at h;cases hi:P.info? t with
 |none=>simp[hi] at h
 |some i =>
  simp only[hi] at h;cases a:i.zero with
  |none=>simp[a] at h
  |some v =>
   simp only[a] at h;cases d:Mr v.cells.toList with
   |none=>simp[d] at h
   |some r =>
    simp only[d] at h;split at h
    ·cases h;rename_i f;exact⟨v,i,fun w'=>by simp[zeroValue,Yl hi,a],d,rfl,f⟩
    ·cases h
def zab {l r:List Value}{n:Nat}(h:l.length=n):(l++r).take n=l:=by rw[←h];simp
def zys {P:Program}{j:World}{C:CM}{H:Heap}{w:World}(m:Rel j C H w){elem:TypeId}{i:TypeInfo}{n:Nat}{l:List AV}{cs:Array Value}{cap:Nat}(d:n≤cap)
  (z:l.length=n*i.size) (p:cs.size=cap*i.size) (hv:VRs C l (cs.toList.take l.length)) (q:∀a∈l,a.one=true) {nx:Sem Next}
  (f:nx.run P w=.ok (.value (.slice (some ⟨w.heap.size,0,none⟩) n cap)) (w.drew.alloc (.cells cs elem))):Jt P j C w nx (Tc H n i.size l):=by
 unfold Tc;cases s:newObj H l with
 |none=>exact trivial
 |some r =>
  obtain⟨o,H'⟩:=r;have hm:n*i.size≤cap*i.size:=At _ d;obtain⟨x,hle,g,h⟩:=m.drew.newRow s elem (0,0) (vs:=cs) (by omega) hv q (by simp);refine⟨x,_,_,hle,g,?_,.inl f⟩;have:=VR.sl (i:=0) (len:=n) (esz:=i.size) (room:=none) (cap:=cap) h (by dsimp only;omega) (by dsimp only;omega) d (fun r y=>by cases y) (fun _=>by dsimp only;omega);simpa using this
def znn {P:Program}{w0:World}{C:CM}{H:Heap}{w:World}(A:Rel w0 C H w){st xt elem ty:TypeId}{i:TypeInfo}(hu:P.underlying st=some (.slice elem))(hi:P.info? elem=some i)(ad:0<i.size)
  (R:i.bytes≤65536) {z:List AV} (hz:K3 P elem=some z) {s:AV} {sv x:Value} (hs:VR C s sv) {n:Nat} {new:List AV} {news:Array Value} (K:AppX P w elem i.size xt x n news) (hn:n≤1048576)
  (p:VRs C new news.toList) (B:∀a∈new,a.one=true) (hlen:new.length=n*i.size) :
  Jt P w0 C w (do pure (.value (←Builtin.append_ #[st,xt] ty #[sv,x]))) (Pb H i.size s n new):=by
 have F:Hk P elem=some i.size:=by simp[Hk,hi]
 obtain⟨zv,j,S,ax,af,aM⟩:=zff hz;rw[hi] at af;cases af;have T:zv.cells.size=i.size:=by
  have:=(R0 (C:=C) ax).1.length;simp at this;omega
 have D:news.size=n*i.size:=by have:=p.length;simp at this;omega
 unfold Pb;split
 ·rename_i h0;have ag:n=0:=Al h0;subst ag;have ah:news=#[]:=C3 (by omega);subst ah;split
  ·cases hs;have f:=v5 (ty:=ty) (base:=none) (len:=0) (cap:=0) (w':=w) hu F K (by omega) rfl;exact H9 A .nilSl (by simp only[Sem.run_bind,f,Result.andThen_ok,Sem.run_pure])
  ·cases hs with
   | @emp a cap =>
    have f:=v5 (ty:=ty) (base:=some a) (len:=0) (cap:=cap) (w':=w) hu F K (by omega) rfl;exact H9 A (x:=.slice (some a) 0 cap) .emp (by simp only[Sem.run_bind,f,Result.andThen_ok,Sem.run_pure])
  ·rename_i o v k len esz room;have ay:=hs;cases hs with
   | @sl _ _ _ _ _ _ L cap E q1 q2 q3 =>
    have f:=v5 (ty:=ty) (base:=some ⟨L.b,L.d+k,none⟩) (len:=len) (cap:=cap) (w':=w) hu F K (by omega) rfl;exact H9 A ay (by simp only[Sem.run_bind,f,Result.andThen_ok,Sem.run_pure];rfl)
  ·exact trivial
 ·rename_i h0;have ag:n≠0:=fun e=>by rw[e] at h0;cases h0
  split
  ·cases hs;have G:=grownCap_ge w (0+n) 0 elem;refine zys A (elem:=elem) (cap:=grownCap w (0+n) 0 elem) (cs:=#[]++news++Builtin.zeroCells zv.cells (grownCap w (0+n) 0 elem - (0+n))) (by omega) hlen ?_ ?_ B ?_
   ·rw[C9,C9,size_zeroCells,T,D];have:=pu i.size (show 0+n≤grownCap w (0+n) 0 elem from G);simp at this ⊢;omega
   ·rw[Dx,Dx,zab (by simp;omega)];simpa using p
   ·have:=z6l (ty:=ty) (base:=none) (len:=0) (cap:=0) (olds:=#[]) hu hi K (by omega) R (by omega) S (by simp[Builtin.firstCells]);simp only[Sem.run_bind,this,Result.andThen_ok,Sem.run_pure,Bd]
  ·rename_i o v k len esz room;split
   ·exact trivial
   ·rename_i he;rw[Ac] at he;have O:len≤Io:=As he.2;have az:esz=i.size:=Al he.1;subst az;cases hs with
    | @sl _ _ _ _ _ _ L cap E q1 q2 q3 q4 q5 =>
     have I:(⟨L.b,L.d+k,none⟩:Addr).add (len*i.size)=⟨L.b,L.d+(k+len*i.size),none⟩:=Z9 _ _ _ _;have hmul:(len+n)*i.size=len*i.size+n*i.size:=Bb _ _ _;have hold:∀y,Jd H o v k (len*i.size)=some y→∃olds:Array Value,(Builtin.firstCells i.size len (.slice (some ⟨L.b,L.d+k,none⟩) len cap)).run P w.drew=.ok olds w.drew∧VRs C y olds.toList∧(∀a∈y,a.one=true)∧y.length=len*i.size:=by
      intro y f;obtain⟨vs,p1,J,p3,p4,_,_⟩:=A.drew.read P f E;exact⟨vs.toArray,by simpa [Builtin.firstCells] using p1,by simpa using J,p3,p4⟩
     split
     ·rename_i r;obtain⟨aj,U⟩:=q4 r rfl;subst aj;split
      ·rename_i hle;have q:len+n≤cap:=As hle;split
       ·rename_i H' hw;have V:Oz H o v (k+len*i.size) new=some H':=hw;obtain⟨w',p1,J⟩:=A.write P V E p B;have aA:(len+n)*i.size≤cap*i.size:=At _ q;refine⟨C,w',.slice (some ⟨L.b,L.d+k,none⟩) (len+n) cap,CM.le_refl C,J,.sl E (show k+(len+n)*i.size≤L.n by omega) q2 q (fun r f=>by cases f;exact⟨rfl,U⟩) (fun e=>by cases e),.inl ?_⟩;simp only[Sem.run_bind,v5 (w':=w') (base:=some ⟨L.b,L.d+k,none⟩) hu F K q (by dsimp only;rw[I];exact p1),Result.andThen_ok,Sem.run_pure]
       ·exact trivial
      ·rename_i hle;have aB:cap<len+n:=by
        rcases C4 cap (len+n) with h|h
        ·exact h
        ·rw[show Nat.ble (Nat.add len n) cap=true from Ak h] at hle;cases hle
       split
       ·rename_i y f;obtain⟨olds,p1,J,p3,p4⟩:=hold y f;have M:olds.size=len*i.size:=by have:=J.length;simp at this;omega
        have G:=grownCap_ge w (len+n) cap elem;refine zys A (elem:=elem) (cap:=grownCap w (len+n) cap elem) (cs:=olds++news++Builtin.zeroCells zv.cells (grownCap w (len+n) cap elem - (len+n))) G ?_ ?_ ?_ ?_ ?_
        ·rw[Aj,p4,hlen];exact hmul.symm
        ·rw[C9,C9,size_zeroCells,T,D,M];have:=pu i.size G;omega
        ·rw[Dx,Dx,zab (by simp;omega)];exact J.append p
        ·intro a ha;rcases Ay.1 ha with h|h
         ·exact p3 a h
         ·exact B a h
        ·have:=z6l (ty:=ty) (base:=some ⟨L.b,L.d+k,none⟩) hu hi K aB R (by unfold Io at O;omega) S p1;simp only[Sem.run_bind,this,Result.andThen_ok,Sem.run_pure]
       ·exact trivial
     ·have W:=q5 rfl;split
      ·rename_i c d aC G;split
       ·exact trivial
       ·rename_i hv;have aD:v=aC:=Al hv;subst aD;have ho:=A.fresh _ _ _ E;have aE:=A.obj o _ ho G;obtain⟨p1,J,p3,vs,e,lo,ao,p4,p5,p6,p7⟩:=aE L E;split
        ·rename_i hle;have q:k+(len+n)*i.size≤d:=As hle;have Q:len+n≤cap:=by
          have:(len+n)*i.size≤cap*i.size:=by omega
          exact En this ad
         split
         ·rename_i H' hw;have V:Oz H o v (k+len*i.size) new=some H':=hw;obtain⟨w',r1,r2⟩:=A.write P V E p B;refine⟨C,w',.slice (some ⟨L.b,L.d+k,none⟩) (len+n) cap,CM.le_refl C,r2,.sl E (show k+(len+n)*i.size≤L.n by omega) q2 Q (fun r f=>by cases f) (fun _=>W),.inl ?_⟩;simp only[Sem.run_bind,v5 (w':=w') (base:=some ⟨L.b,L.d+k,none⟩) hu F K Q (by dsimp only;rw[I];exact r1),Result.andThen_ok,Sem.run_pure]
         ·exact trivial
        ·rename_i aK;split
         ·exact trivial
         ·rename_i hk;have aF:k=0:=Al hk;subst aF;split
          ·exact trivial
          ·rename_i ap;have X:len*i.size=d:=Al ap;by_cases hc:len+n≤cap
           ·
            have aA:(len+n)*i.size≤cap*i.size:=At _ hc;obtain⟨w',aG,r1,r2,r3,r4,r5,r6,r7,r8,r9⟩:=z8l P ⟨L.b,L.d+(0+len*i.size),none⟩ news.toList 0 w vs e lo ao rfl p4 (p.one B) (by simp;omega)
             (fun j hj N=>by simp at hj N;exact p6 j (by omega) (by omega))
            obtain⟨Y,q⟩:=A.bump ho ⟨_,_,E⟩ G ⟨L.b,L.d,d+new.length,L.sz⟩ (Ju new d c) (d+new.length) (w':=w')
             (A.low.trans ⟨r6,r7,r8,by omega,fun j hj=>r4 j (by dsimp only;have:=J rfl;omega)⟩) (by omega) (show L.b<w'.heap.size by rw[r5];exact A.lt _ _ _ E)
             (fun o' v' L' g hb=>(A.excl _ _ _ _ _ _ E g hb.symm (J rfl)).symm)
             (fun o' v' L' aH g=>r4 _ (fun e'=>aH (A.excl _ _ _ _ _ _ E g e'.symm (J rfl)).symm))
             (by
              intro L' g;rw[CM.ext_same] at g;cases g;refine⟨rfl,fun _=>J rfl,by dsimp only;omega,aG,e,lo,ao,r2,by dsimp only;omega,p6,?_⟩;refine S9.mono (CM.le_ext _ ?_ (.inl ⟨_,_,E⟩)) (p7.lay p B (Am _) (Am _) (.inr rfl) (fun j=>?_))
              ·cases e':C o (v+1) with
               |none=>rfl
               |some aI=>have:=A.top _ _ _ _ _ ho G _ _ e';omega
              ·rw[r9 j];have:L.d+(0+len*i.size)+0=L.d+d:=by omega
               simp only[this])
            refine⟨_,w',.slice (some ⟨L.b,L.d+0,none⟩) (len+n) cap,q,Y,?_,.inl ?_⟩
            ·exact VR.sl (L:=⟨L.b,L.d,d+new.length,L.sz⟩) (i:=0) (len:=len+n) (esz:=i.size) (room:=none) (cap:=cap) (CM.ext_same C o (v+1) ⟨L.b,L.d,d+new.length,L.sz⟩)
              (by dsimp only;omega) (by dsimp only;omega) hc (fun r f=>by cases f) (fun _=>by dsimp only;omega)
            ·simp only[Sem.run_bind,v5 (w':=w') (base:=some ⟨L.b,L.d+0,none⟩) hu F K hc (by dsimp only;rw[I];exact r1),Result.andThen_ok,Sem.run_pure]
           ·
            have f:∃y,Jd H o v 0 (len*i.size)=some y:=by
             unfold Jd;rw[G];have hb:Nat.ble (Nat.add 0 (len*i.size)) d=true:=Ak (by show 0+len*i.size≤d;omega);simp only[Bj,hb];have:∀m a,a+m≤d→∃l,Kt c a m=some l:=by
              intro m
              induction m with
              |zero=>intro a _;exact⟨[],rfl⟩
              |succ m ih =>
               intro a ha;obtain⟨x1,Z,_⟩:=p7 a (by omega);obtain⟨l1,y2⟩:=ih (a+1) (by omega);exact⟨x1::l1,by simp only[Kt,Z,y2]⟩
             exact this _ 0 (by omega)
            obtain⟨y,f⟩:=f;obtain⟨olds,s1,s2,s3,s4⟩:=hold y f;have M:olds.size=len*i.size:=by have:=s2.length;simp at this;omega
            have aq:=grownCap_ge w (len+n) cap elem;have ar:=z6l (ty:=ty) (base:=some ⟨L.b,L.d+0,none⟩) hu hi K (by omega) R (by unfold Io at O;omega) S s1;have aN:=pu i.size aq;have aw:(olds++news++Builtin.zeroCells zv.cells (grownCap w (len+n) cap elem - (len+n))).size=grownCap w (len+n) cap elem*i.size:=by
             rw[C9,C9,size_zeroCells,T,D,M];omega
            obtain⟨Y,q⟩:=A.bump ho ⟨_,_,E⟩ G ⟨w.heap.size,0,d+new.length,grownCap w (len+n) cap elem*i.size⟩ (Ju new d c) (d+new.length)
             (w':=w.drew.alloc (.cells (olds++news++Builtin.zeroCells zv.cells (grownCap w (len+n) cap elem - (len+n))) elem))
             (A.low.drew.alloc A.low.size _) (by rw[World.size_alloc,World.size_drew];omega) (by rw[World.size_alloc,World.size_drew];dsimp only;omega)
             (fun o' v' L' g hb=>by have:=A.lt _ _ _ g;dsimp only at hb;omega)
             (fun o' v' L' _ g=>z70 w.drew _ (A.lt _ _ _ g))
             (by
              intro L' g;rw[CM.ext_same] at g;cases g;refine⟨rfl,fun _=>A.low.size,by dsimp only;omega,_,elem,0,0,Uq w.drew _,by rw[aw];exact Am _,fun _ _ _=>by omega,?_⟩;have aa:C o (v+1)=none:=by
               cases e':C o (v+1) with
               |none=>rfl
               |some aI=>have:=A.top _ _ _ _ _ ho G _ _ e';omega
              refine S9.mono (CM.le_ext _ aa (.inl ⟨_,_,E⟩)) ?_;obtain⟨g1,g2⟩:=X0 (show Kt c 0 (len*i.size)=some y by
               unfold Jd at f;rw[G] at f;dsimp only at f;split at f
               ·split at f
                ·exact f
                ·cases f
               ·cases f)
              intro j hj;rw[get_ofList new d c j,Bd];by_cases N:d≤j∧j<d+new.length
              ·rw[Ai N];obtain⟨a,x1,Z,y2,y3⟩:=p.get' (i:=j - d) (by omega);refine⟨a,Z,B a (A7 Z),x1,?_,y3⟩;rw[Dg (by rw[C9];omega),Array.getElem?_append_right (by omega),M,X];simpa using y2
              ·rw[Ab N];have aJ:j<len*i.size:=by omega
               have:=g2 j aJ;rw[Bd] at this;obtain⟨a,x1,Z,y2,y3⟩:=s2.get' (i:=j) (by omega);rw[Z] at this;refine⟨a,this,s3 a (A7 Z),x1,?_,y3⟩;rw[Dg (by rw[C9];omega),Dg (by omega)];simpa using y2)
            refine⟨_,_,.slice (some ⟨w.heap.size,0,none⟩) (len+n) (grownCap w (len+n) cap elem),q,Y,?_,.inl ?_⟩
            ·have:=VR.sl (i:=0) (len:=len+n) (esz:=i.size) (room:=none) (cap:=grownCap w (len+n) cap elem) (CM.ext_same C o (v+1) ⟨w.heap.size,0,d+new.length,grownCap w (len+n) cap elem*i.size⟩)
              (by dsimp only;omega) (by dsimp only;omega) aq (fun r f=>by cases f) (fun _=>by dsimp only;omega)
             simpa using this
            ·simp only[Sem.run_bind,ar,Result.andThen_ok,Sem.run_pure]
      ·exact trivial
  ·exact trivial
end Go.Sv
namespace Go.Sv
open Go.RowKit (Below)
def zn5 {w w':World}(h:w'.heap=w.heap)(a:Addr):w'.cell? a=w.cell? a:=by simp[World.cell?,h]
def zl6 {P:Program}{B:World}{C:CM}{H:Heap}{w:World}(D:Rel B C H w){size:Nat}{b:AV}{x:Value}(f:VR C b x){n:Nat}{l:List AV}(h:Vh H size b=some (n,l)) :
  ∃vs:List Value,VRs C l vs∧(∀a∈l,a.one=true)∧l.length=n*size∧(Builtin.lenOf x).run P w=.ok n w ∧
   ∀m,m≤n→∀w',w'.heap=w.heap→(Builtin.firstCells size m x).run P w'=.ok (vs.take (m*size)).toArray w':=by
 unfold Vh at h;split at h
 ·cases h;cases f;exact⟨[],.nil,by simp,by simp,rfl,fun m hm w' _=>by simp[Builtin.firstCells]⟩
 ·cases h;cases f with
  | @emp a cap =>
   refine⟨[],.nil,by simp,by simp,rfl,fun m hm w' _=>?_⟩;have:m=0:=by omega
   subst this;simp only[Builtin.firstCells,Dc];rw[za8 P w' a 0 [] rfl (fun j y=>by omega)];rfl
 ·rename_i o v i len esz room;split at h
  ·rename_i he;have p:esz=size:=Al he;subst p;split at h
   ·rename_i l' E;cases h;cases f with
    | @sl _ _ _ _ _ _ L cap F =>
     obtain⟨vs,_,g,G,z,_,I⟩:=D.read P E F;refine⟨vs,g,G,z,rfl,fun m hm w' hw=>?_⟩;have J:m*esz≤n*esz:=At _ hm;have K:vs.length=n*esz:=by have O:=g.length;have Q:l.length=n*esz:=z;omega
     simp only[Builtin.firstCells];refine za8 P w' _ _ _ (by simp;omega) (fun j y=>?_);rw[Z9,zn5 hw,I j (show j<Nat.mul n esz by show j<n*esz;omega),Ch y]
   ·cases h
  ·cases h
 ·rename_i len R;split at h
  ·rename_i r;cases h;have d:size=1:=Al r;subst d;cases f with
   | @str _ _ s M g =>
    subst M g;rw[unpack_pack];refine⟨s.data.toList.map fun b=>Value.int .u8 (b.toNat:Int),?_,?_,by simp,rfl,fun m hm w' _=>?_⟩
    ·generalize s.data.toList=q
     induction q with
     |nil=>exact .nil
     |cons b q N=>exact .cons (.int _ _) N
    ·intro a A;simp only[El] at A;obtain⟨b,_,rfl⟩:=A;rfl
    ·simp only[Builtin.firstCells,Sem.run_pure]
     congr 1
     apply Ec.1;rw[Ci,Lib.extract_data];simp
  ·cases h
 ·cases h
def F9.congr {P:Program}{f:OpF}{nx aa:(Operand→Value)→Sem Next}(h:∀ρ,nx ρ=aa ρ)(s:F9 P f nx):F9 P f aa:=fun w0 C H w E ρ hR hρ=>by rw[←h ρ];exact s w0 C H w E ρ hR hρ
def Rj {α:Type}{a:Array α}{x y:α}(h:a.toList=[x,y]):a=#[x,y]:=Ec.1 h
def Rk {α:Type}{a:Array α}{x:α}(h:a.toList=[x]):a=#[x]:=Ec.1 h
def zn9 (P:Program)(R:Array TypeId)(args:Array Operand)(ty:TypeId):F9 P (zp P R args) (fun ρ=>do pure (.value (←Builtin.append_ R ty (args.map ρ)))):=by
 unfold zp;split
 ·rename_i st E s x F o;have G:=Rj F;have p:=Rj o;subst G p;refine F9.congr (nx:=fun ρ=>do pure (.value (←Builtin.append_ #[st,E] ty #[ρ s,ρ x]))) (fun ρ=>by simp) ?_;have key:∀elem,P.underlying st=some (.slice elem)→∀d,P.underlying E=some d→(d=.string∨∃e,d=.slice e)→F9 P (gw P elem s x) (fun ρ=>do pure (.value (←Builtin.append_ #[st,E] ty #[ρ s,ρ x]))):=by
   intro elem hu d hd I;unfold gw;split
   ·rename_i i z hi y;split
    ·rename_i J;obtain⟨f,g⟩:=J;refine Sz fun U C H w ρ a b A K B=>?_
     split
     ·rename_i n l V;split
      ·rename_i L;have h:n≤1048576:=As L;obtain⟨vs,S,W,X,Y,Z⟩:=zl6 (P:=P) A B V;have aa:vs.length=n*i.size:=by have:=S.length;omega
       refine znn A hu hi f g y K (news:=vs.toArray) ⟨d,hd,.inl ⟨I,Y,fun w' hw=>?_⟩⟩ h (by simpa using S) W X;rw[Z n (Am _) w' hw,Ax (by omega)]
      ·exact trivial
     ·exact trivial
    ·exact Gl P _
   ·exact Gl P _
  split
  ·rename_i elem k hu q;unfold zmr;split
   ·rename_i i z hi y;split
    ·rename_i J;obtain⟨f,g⟩:=J;refine Sz fun U C H w ρ a b A K B=>?_
     split
     ·rename_i n;split
      ·rename_i L;have h:n≤1048576:=As L;obtain⟨D,j,M,N,r,O⟩:=zff y;rw[hi] at r;cases r;obtain⟨T,k2⟩:=R0 (C:=C) N;have Q:D.cells.size=i.size:=by have:=T.length;simp at this;omega
       have m:VRs C (Lu z n) (Builtin.zeroCells D.cells n).toList:=by
        unfold Builtin.zeroCells;rw[vh];exact tp T n
       generalize ρ x=px at B;cases B;exact znn A hu hi f g y K (news:=Builtin.zeroCells D.cells n) ⟨_,q,.inr ⟨⟨_,rfl⟩,rfl,h,f,D,M,⟨i,hi,g⟩,rfl,Q⟩⟩ h m (tz k2 n) (by rw[z5v,O])
      ·exact trivial
     ·exact trivial
    ·exact Gl P _
   ·exact Gl P _
  ·rename_i elem e hu q;exact key elem hu _ q (.inr ⟨e,rfl⟩)
  ·rename_i elem hu q;exact key elem hu _ q (.inl rfl)
  ·exact Gl P _
 ·exact Gl P _
def zvc (P:Program)(D:Array TypeId)(args:Array Operand)(ty:TypeId):F9 P (yz P D args) (fun ρ=>do pure (.value (←Builtin.copy_ D ty (args.map ρ)))):=by
 unfold yz;split
 ·rename_i st J s x m f;have p:=Rj m;have g:=Rj f;subst p g;refine F9.congr (nx:=fun ρ=>do pure (.value (←Builtin.copy_ #[st,J] ty #[ρ s,ρ x]))) (fun ρ=>by simp) ?_;split
  ·rename_i elem hu;split
   ·exact Gl P _
   ·rename_i size q;split
    ·rename_i E;refine Sz fun S C H w ρ a b j d K=>?_
     split
     ·rename_i n l M;obtain⟨vs,F,N,T,r,y⟩:=zl6 (P:=P) j K M;have O:vs.length=n*size:=by have:=F.length;omega
      split
      ·generalize ρ s=G at d;cases d;refine H9 j (x:=.int .i64 0) (.int _ _) ?_;have h:=y 0 (Dd _) w rfl;have z:Nat.min n 0=0:=Nat.min_zero n;unfold Builtin.copy_;simp only[B7,A6,Av,Sem.run_bind,Gn hu,Result.andThen_ok,r,Ku q,z,h,Sem.run_pure];rfl
      ·generalize ρ s=G at d;cases d with
       | @emp U cap =>
        refine H9 j (x:=.int .i64 0) (.int _ _) ?_;have h:=y 0 (Dd _) w rfl;have z:Nat.min n 0=0:=Nat.min_zero n;unfold Builtin.copy_;simp only[B7,A6,Av,Sem.run_bind,Gn hu,Result.andThen_ok,r,Ku q,z,h,Sem.run_pure];simp[storeCells,goInt]
      ·rename_i o v i len esz room;split
       ·rename_i he;have A:esz=size:=Al he;subst A;split
        ·rename_i H' hw;generalize ρ s=G at d;cases d with
         | @sl _ _ _ _ _ _ L cap Q V W X =>
          have hm:Is n len=Nat.min n len:=zhv n len;have h:=y (Nat.min n len) (Nat.min_le_left _ _) w rfl;obtain⟨w',I,R⟩:=j.write P hw Q (F.take _) (fun a d=>N a (List.mem_of_mem_take d));rw[hm] at I ⊢;refine⟨C,w',.int .i64 (Int.ofNat (Nat.min n len)),CM.le_refl C,R,.int _ _,.inl ?_⟩;unfold Builtin.copy_;have B:(storeCells ⟨L.b,L.d+i,none⟩ (vs.take (Nat.min n len*esz))).run P w=.ok () w':=I;simp only[B7,A6,Av,Sem.run_bind,Gn hu,Result.andThen_ok,r,Ku q,h,Sem.run_pure,B];rfl
        ·exact trivial
       ·exact trivial
      ·exact trivial
     ·exact trivial
    ·exact Gl P _
  ·exact Gl P _
 ·exact Gl P _
def zr5 (P:Program)(D:Array TypeId)(args:Array Operand)(ty:TypeId):F9 P (yb P D args) (fun ρ=>do pure (.value (←Builtin.clear_ D ty (args.map ρ)))):=by
 unfold yb;split
 ·rename_i st x h d;have l:=Rk h;have f:=Rk d;subst l f;refine F9.congr (nx:=fun ρ=>do pure (.value (←Builtin.clear_ #[st] ty #[ρ x]))) (fun ρ=>by simp) ?_;split
  ·rename_i elem hu;split
   ·rename_i size z R J;split
    ·rename_i E;refine Lj fun S C H w ρ a m g=>?_
     split
     ·generalize ρ x=F at g;cases g;refine H9 m (x:=.tuple #[]) (.tup .nil) ?_;simp[Builtin.clear_,Gn hu]
     ·generalize ρ x=F at g;cases g with
      | @emp T cap =>
       refine H9 m (x:=.tuple #[]) (.tup .nil) ?_;simp[Builtin.clear_,Gn hu]
     ·rename_i o v i len esz room;split
      ·rename_i he;have p:esz=size:=Al he;subst p;split
       ·rename_i H' hw;generalize ρ x=F at g;cases g with
        | @sl _ _ _ _ _ _ L cap K U V W =>
         obtain⟨q,j,r,s,M,N⟩:=zff J;obtain⟨O,Q⟩:=R0 (C:=C) s;obtain⟨w',y,G⟩:=m.write P hw K (tp O len) (tz Q len);by_cases A:len=0
         ·subst A;have:w'=w:=by
           have:(storeCells ⟨L.b,L.d+i,none⟩ (L8 q.cells.toList 0)).run P w=.ok () w:=rfl;rw[this] at y;cases y;rfl
          subst this;exact⟨C,w',.tuple #[],CM.le_refl C,G,.tup .nil,.inl (by simp[Builtin.clear_,Gn hu])⟩
         ·refine⟨C,w',.tuple #[],CM.le_refl C,G,.tup .nil,.inl ?_⟩;unfold Builtin.clear_;have B:(Builtin.zeroCells q.cells len).toList=L8 q.cells.toList len:=by unfold Builtin.zeroCells;exact vh _ _
          obtain⟨I,rfl⟩:∃k,len=k+1:=⟨len - 1,by omega⟩;simp only[B7,A6,Sem.run_bind,Gn hu,Result.andThen_ok,r,Sem.run_pure,B,y]
       ·exact trivial
      ·exact trivial
     ·exact trivial
    ·exact Gl P _
   ·exact Gl P _
  ·exact Gl P _
 ·exact Gl P _
def Sf (P:Program)(t ty:TypeId)(x:Operand):F9 P (Nw P t x) (fun ρ=>do pure (.value (←Builtin.len_ #[t] ty #[ρ x]))):=by
 unfold Nw;split
 ·rename_i hu;refine Lj fun l C H w ρ a f d=>?_
  split
  ·generalize ρ x=g at d;cases d with
   | @str _ _ s p q =>
    subst p q;exact H9 f (x:=.int .i64 (Int.ofNat s.size)) (.int _ _) (by simp[Builtin.len_,Gn hu,goInt])
  ·exact trivial
 ·rename_i e hu;refine Lj fun l C H w ρ a f d=>?_
  split
  ·rename_i o v i len esz room;generalize ρ x=g at d;cases d with
   |sl=>exact H9 f (x:=.int .i64 (Int.ofNat len)) (.int _ _) (by simp[Builtin.len_,Gn hu,goInt])
  ·generalize ρ x=g at d;cases d;exact H9 f (x:=.int .i64 0) (.int _ _) (by simp[Builtin.len_,Gn hu,goInt])
  ·generalize ρ x=g at d;cases d;exact H9 f (x:=.int .i64 0) (.int _ _) (by simp[Builtin.len_,Gn hu,goInt])
  ·exact trivial
 ·rename_i k e hu;refine Lj fun l C H w ρ a f d=>?_
  split
  ·generalize ρ x=g at d;cases d;exact H9 f (x:=.int .i64 0) (.int _ _) (by simp[Builtin.len_,Gn hu,goInt])
  ·rename_i o;split
   ·rename_i es r y;generalize ρ x=g at d;cases d with
    | @map _ L m =>
     obtain⟨_,h,z,A⟩:=f.obj o _ (f.fresh _ _ _ m) y _ m;have hlen:es.length=h.size:=by have:=A.length;simpa using this
     have j:(getObj L.b).run P w=.ok (.map h r) w:=by simp[getObj,Sem.run,z]
     exact H9 f (x:=.int .i64 (Int.ofNat es.length)) (.int _ _) (by simp[Builtin.len_,Gn hu,j,goInt,hlen])
   ·exact trivial
  ·exact trivial
 ·rename_i n e hu;refine Lj fun l C H w ρ a f d=>?_
  exact H9 f (x:=.int .i64 (Int.ofNat n)) (.int _ _) (by simp[Builtin.len_,Gn hu,goInt])
 ·exact Gl P _
def So (P:Program)(t ty:TypeId)(x:Operand):F9 P (Qf P t x) (fun ρ=>do pure (.value (←Builtin.cap_ #[t] ty #[ρ x]))):=by
 unfold Qf;split
 ·rename_i e hu;refine Lj fun l C H w ρ a f d=>?_
  split
  ·generalize ρ x=g at d;cases d;exact H9 f (x:=.int .i64 0) (.int _ _) (by simp[Builtin.cap_,Gn hu,goInt])
  ·rename_i r;generalize ρ x=g at d;cases d with
   |sl _ _ _ _ h =>
    obtain⟨j,_⟩:=h r rfl;subst j;exact H9 f (.int .i64 _) (by simp[Builtin.cap_,Gn hu,goInt])
  ·exact trivial
 ·exact Gl P _
def zz2 {P:Program}{w:World}{C:CM}{mx:Bool}{a b r:AV}(h:Ps mx a b=some r){u v:Value}(hu:VR C a u)(hv:VR C b v) :
  ∃z,(if mx then Builtin.max2 u v else Builtin.min2 u v).run P w=.ok z w∧VR C r z:=by
 unfold Ps at h;split at h
 ·rename_i k x k' y;split at h
  ·rename_i hk;have:=z7r hk;subst this;cases hu;cases hv;split at h
   ·split at h
    ·rename_i d;rw[ga] at d;cases h;refine⟨.int k y,?_,.int _ _⟩;have:y>x:=by simpa using d
     simp[Builtin.max2,this]
    ·rename_i d;rw[ga] at d;cases h;refine⟨.int k x,?_,.int _ _⟩;have:¬y>x:=by simpa using d
     simp[Builtin.max2,this]
   ·split at h
    ·rename_i d;rw[ga] at d;cases h;refine⟨.int k y,?_,.int _ _⟩;have:y<x:=by simpa using d
     simp[Builtin.min2,this]
    ·rename_i d;rw[ga] at d;cases h;refine⟨.int k x,?_,.int _ _⟩;have:¬y<x:=by simpa using d
     simp[Builtin.min2,this]
  ·cases h
 ·cases h
def zfp {P:Program}{w:World}{C:CM}{mx:Bool}:∀{l:List AV} {a r:AV},S6 mx a l=some r→∀{u:Value} {vs:List Value},VR C a u→VRs C l vs →
  ∃z,(vs.foldlM (if mx then Builtin.max2 else Builtin.min2) u).run P w=.ok z w∧VR C r z
 |[],a,r,h,u,[],hu,.nil=>by cases h;exact⟨u,by simp,hu⟩
 |b::l,a,r,h,u,v::vs,hu,.cons e es=>by
  unfold S6 at h;split at h
  ·rename_i c f;obtain⟨z,g,j⟩:=zz2 (P:=P) (w:=w) f hu e;obtain⟨m,o,p⟩:=zfp (P:=P) (w:=w) h j es;refine⟨m,?_,p⟩;have d:((if mx then Builtin.max2 else Builtin.min2) u v).run P w=.ok z w:=by cases mx<;>simpa using g
   simp only[List.foldlM_cons,Sem.run_bind,d,Result.andThen_ok,o]
  ·cases h
def zn0 (P:Program)(mx:Bool)(args:Array Operand)(g:Array TypeId)(ty:TypeId) :
  F9 P (M4 mx args.toList) (fun ρ=>do pure (.value (←if mx then Builtin.max_ g ty (args.map ρ) else Builtin.min_ g ty (args.map ρ)))):=by
 intro s C H w E ρ h j;unfold M4;dsimp only;cases m:(opds args.toList).run E with
 |none=>exact trivial
 |some o =>
  cases o with
  |nil=>exact trivial
  |cons a l =>
   cases a with
   |int k n =>
    refine ko h fun r p=>?_
    have hv:=rf j m;have d:(args.map ρ).toList=args.toList.map ρ:=Ci ..;generalize x:args.toList.map ρ=L at hv d;cases hv with
    |cons e es =>
     obtain⟨z,f,q⟩:=zfp (P:=P) (w:=w) p e es;refine⟨z,?_,q⟩;cases mx
     ·simp only[Cz,Dp,Builtin.min_,d] at f ⊢;simp only[Sem.run_bind,f,Result.andThen_ok,Sem.run_pure]
     ·simp only[Bu,Builtin.max_,d] at f ⊢;simp only[Sem.run_bind,f,Result.andThen_ok,Sem.run_pure]
   |_=>exact trivial
def zfy {C:CM}{d:TypeDesc}{k:AV}{u:Value}(hu:VR C k u):∀{es f:List (AV×AV×Nat)} {a:List MapEntry} (i:Nat),zh9 d k es=some f→MR C es a →
  (Instr.findNow d u a i=some none∧MR C f a)∨(∃j y,Instr.findNow d u a i=some (some (j+i,y))∧j<a.length∧MR C f (a.eraseIdx j))
 |[],f,[],i,h,.nil=>by cases h;exact .inl ⟨rfl,.nil⟩
 |(k',w,b)::l,f,e::r,i,h,.cons hk hv p hm=>by
  unfold zh9 at h;split at h
  ·rename_i g;cases h;exact .inr ⟨0,e.val,by simp[Instr.findNow,(ku g hu hk).1],by simp,by simpa using hm⟩
  ·rename_i g;split at h
   ·rename_i r' q;cases h;rcases zfy hu (i+1) q hm with ⟨m,o⟩|⟨j,y,m,o,s⟩
    ·exact .inl ⟨by simpa [Instr.findNow,(ku g hu hk).1] using m,.cons hk hv p o⟩
    ·refine .inr ⟨j+1,y,?_,by simpa using o,.cons hk hv p s⟩;rw[show j+1+i=j+(i+1) from by omega];simpa [Instr.findNow,(ku g hu hk).1] using m
   ·cases h
  ·cases h
def zne (P:Program)(J:Array TypeId)(args:Array Operand)(ty:TypeId):F9 P (y6 P J args) (fun ρ=>do pure (.value (←Builtin.delete_ J ty (args.map ρ)))):=by
 unfold y6;split
 ·rename_i st N s x D m;have E:=Rj D;have p:=Rj m;subst E p;refine F9.congr (nx:=fun ρ=>do pure (.value (←Builtin.delete_ #[st,N] ty #[ρ s,ρ x]))) (fun ρ=>by simp) ?_;split
  ·rename_i key e hu;split
   ·rename_i d hd;obtain⟨r,_⟩:=ze9 hd;refine Sz fun X C H w ρ a b z K O=>?_
    split
    ·rename_i o;split
     ·rename_i es F Q;split
      ·rename_i R S;generalize ρ s=Y at K;cases K with
       | @map _ L q =>
        obtain⟨B,f,M,T⟩:=z.obj o _ (z.fresh _ _ _ q) Q _ q;have A:=z.lt _ _ _ q;have h:(getObj L.b).run P w=.ok (.map f F) w:=by simp[getObj,Sem.run,M]
        have l:∀y,(setObj L.b y).run P w=.ok () { w with heap:=w.heap.setIfInBounds L.b y }:=by intro y;simp[setObj,Sem.run,M]
        rcases zfy O 0 S T with ⟨G,I⟩|⟨j,y,G,I,U⟩
        ·refine⟨C,{ w with heap:=w.heap.setIfInBounds L.b (.map f F) },.tuple #[],CM.le_refl C,z.putObj q B _ _ ?_ (fun _ _ _ _ e=>by cases e),.tup .nil,.inl ?_⟩
         ·intro V g;rw[q] at g;cases g;exact⟨B,_,putObj_heap_same w _ A,I⟩
         ·unfold Builtin.delete_;simp only[B7,A6,Av,Sem.run_bind,Gn hu,Result.andThen_ok,h,ja hd,gr r G,l,Sem.run_pure]
        ·refine⟨C,{ w with heap:=w.heap.setIfInBounds L.b (.map (f.eraseIdxIfInBounds j) F) },.tuple #[],CM.le_refl C,z.putObj q B _ _ ?_ (fun _ _ _ _ e=>by cases e),.tup .nil,.inl ?_⟩
         ·intro V g;rw[q] at g;cases g;refine⟨B,_,putObj_heap_same w _ A,?_⟩;have W:j<f.size:=by simpa using I
          have:(f.eraseIdxIfInBounds j).toList=f.toList.eraseIdx j:=by
           simp[Array.eraseIdxIfInBounds,W]
          rw[this];exact U
         ·unfold Builtin.delete_;simp only[B7,A6,Av,Sem.run_bind,Gn hu,Result.andThen_ok,h,ja hd,gr r G,C5,l,Sem.run_pure]
      ·exact trivial
     ·exact trivial
    ·exact trivial
   ·exact Gl P _
  ·exact Gl P _
 ·exact Gl P _
end Go.Sv
namespace Go.Sv
open Go.RowKit (Below)
def zbi {P:Program}{w:World}{f:Nat}(h:Y1 P f=true)(args:Array Value):(callFunc f args).run P w=.ok (.enter f args) w:=by
 unfold Y1 at h;cases a:P.funcs[f]? with
 |none=>rw[a] at h;cases h
 |some fn =>
  rw[a] at h;simp only[Ac,bne_iff_ne,ne_eq] at h;obtain⟨j,g⟩:=h;have d:fn.body≠none:=by intro e;rw[e] at g;cases g
  simp[callFunc,a,j,d]
def zyh {P:Program}{q:World}{C:CM}{w:World}{g:AV}{gv:Value}(o:VR C g gv){args:List AV}{vs:Array Value}(hv:VRs C args vs.toList){nx:Sem Next}
  (a:∀fn first cap,gv=.func fn first cap→nx.run P w=(invoke (.fn fn cap) (first++vs)).run P w):Jt P q C w nx (Ym P g args):=by
 unfold Ym;split
 ·rename_i f first cap
  split
  ·rename_i r;cases o with
   | @fn _ s _ _ l' r' d j p =>
    cases d with
    |same =>
     refine⟨l'.toList++vs.toList++r'.toList,(j.append hv).append p,.inl ⟨f,rfl,?_⟩⟩;rw[a _ _ _ rfl];have:(l'++vs++r')=(l'.toList++vs.toList++r'.toList).toArray:=by simp
     rw[←this];exact zbi r _
  ·exact trivial
 ·rename_i l cap;cases o with
  | @fn _ s _ _ l' r' d j p =>
   cases d with
   |same _ h=>exact absurd rfl (h l)
   | @yield _ L x =>
    have m:l'=#[]:=by
     have:=j.length;exact C3 (by simpa using this.symm)
    subst m;refine⟨vs.toList,hv,.inr ⟨l,L,rfl,x,?_⟩⟩;rw[a _ _ _ rfl];simp[invoke]
 ·exact trivial
theorem zu9 {fn : Func} (h1 : fn.name = "maps.clone") (h2 : fn.origin = "") : Extern.findNext fn = none ∧ Extern.find fn = some Extern.MapsClone.clone := by
 have e1 : Extern.allNextRows.lookup "maps.clone" = none := by kernel_rfl
 have e2 : Extern.allNextRows.lookup "" = none := by kernel_rfl
 have e3 : Extern.allGenericRows.lookup "maps.clone" = none := by kernel_rfl
 have e4 : Extern.allTypedRows.lookup "maps.clone" = none := by kernel_rfl
 have e5 : Extern.allRows.lookup "maps.clone" = some Extern.MapsClone.clone := by kernel_rfl
 refine⟨?_,?_⟩
 ·unfold Extern.findNext;dsimp only;rw[h1,h2,e1,e2];rfl
 ·unfold Extern.find;dsimp only;rw[h1,e3,e4,e5];rfl
def zvp {P:Program}{w:World}{r:Nat}{es:Array MapEntry}{clock:Nat}(t:TypeId)(hb:w.heap[r]?=some (.map es clock)) :
  (Extern.MapsClone.clone #[.iface t (.map (some r))]).run P w=.ok (.iface t (.map (some w.heap.size))) (w.alloc (.map es clock)):=by
 have e:Extern.MapsClone.clone #[.iface t (.map (some r))]=(getObj r >>= fun o=>match o with
   |.map entries clock=>(_root_.Go.newObj (.map entries clock) >>= fun n=>pure (.iface t (.map (some n))))
   | _ => stuck "maps.clone: a map expected") := rfl
 rw[e];simp[MapKept.run_getObj_map hb,Result.andThen,go_sem]
def T7 {P:Program}{s:World}{C:CM}{H:Heap}{w:World}(a:Rel s C H w){f:Nat}(d:vd P f=true){args:List AV}{vs:Array Value}(hv:VRs C args vs.toList) :
  Jt P s C w (callFunc f vs) (zt3 H args):=by
 unfold vd at d;split at d
 ·rename_i fn p;simp only[Ac,Du] at d;obtain⟨⟨x,A⟩,B⟩:=d;obtain⟨D,E⟩:=zu9 x A;have g:=run_callFunc_extern (P:=P) p (by rw[x];decide) B D E vs w;unfold zt3;split
  ·rename_i t o;split
   ·rename_i es y F
    ·generalize q:vs.toList=l at hv;cases hv with
     |cons r G =>
      cases G;cases r with
      |iface r =>
       cases r with
       | @map _ L z =>
        have h:vs=#[.iface t (.map (some L.b))]:=Ec.1 q;obtain⟨N,j,I,J⟩:=a.obj _ _ (a.fresh _ _ _ z) F L z;obtain⟨K,M⟩:=a.push (.map es y) (.map j y) 0 0 (fun O m=>by
         rw[CM.ext_same] at m;cases m;exact⟨a.low.size,j,Uq _ _,J.mono (CM.le_ext _ (a.next_none 0) (.inr (Di a.nx)))⟩)
        refine⟨_,_,.iface t (.map (some w.heap.size)),M,K,.iface (.map (CM.ext_same _ _ _ _)),.inl ?_⟩;rw[g,h,zvp t I];rfl
   ·exact trivial
  ·exact trivial
 ·cases d
def zp5 {P:Program}{w:World}{t:TypeId}{name:String}{f:Nat}(h:yq P t name=some f)(v:Value):(method (P.types.size+Made.depth) t v name).run P w=.ok (f,v) w:=by
 unfold yq at h;have hd:P.types.size+Made.depth=(P.types.size+99)+1:=rfl;rw[hd];cases hi:P.info? t with
 |none=>rw[hi] at h;cases h
 |some i =>
  rw[hi] at h;dsimp only at h;cases hm:i.methods.find? (·.name==name) with
  |none=>rw[hm] at h;cases h
  |some m =>
   rw[hm] at h;dsimp only at h;split at h
   ·rename_i l;have a:m.path=#[]:=Array.isEmpty_iff.1 l;unfold method;simp only[Sem.run_bind,Yl hi,Result.andThen_ok,hm,a,follow,Sem.run_pure];split at h
    ·rename_i o e g hu;cases h;simp only[g,Sem.run_bind,receiverAt,Gn hu,Result.andThen_ok,Place.get,Sem.run_pure]
    ·cases h
    ·rename_i o d j g hu;cases h;simp only[g,Sem.run_bind,receiverAt,Gn hu,Result.andThen_ok];cases d<;>first|rfl|exact absurd hu (j _)
    ·cases h
   ·cases h
def zul (P:Program)(c:Call)(o:Oper)(ho:o.op=.call c):F9 P (To P c) (fun ρ=>execOp ρ o):=by
 have hex:∀ρ,execOp ρ o=(do let d ←resolve ρ c o.type;invoke d.target d.args):=fun ρ=>by simp[execOp,ho]
 refine F9.congr (fun ρ=>(hex ρ).symm) ?_;unfold To;split
 ·rename_i b R;have s:∀ρ,(do let d ←resolve ρ c o.type;invoke d.target d.args:Sem Next)=builtin b c.argTypes o.type (c.args.map fun | .const _=>true|_=>false) (c.args.map ρ):=by
   intro ρ;simp only[resolve,R];rfl
  refine F9.congr (fun ρ=>(s ρ).symm) ?_;split
  ·split
   ·rename_i t x y z;have A:=Rk y;have ex:=Rk z;exact F9.congr (fun ρ=>by rw[A,ex];simp[builtin]) (Sf P t o.type x)
   ·exact Gl P _
  ·split
   ·rename_i t x y z;have A:=Rk y;have ex:=Rk z;exact F9.congr (fun ρ=>by rw[A,ex];simp[builtin]) (So P t o.type x)
   ·exact Gl P _
  ·exact F9.congr (fun ρ=>by simp[builtin]) (zn0 P true c.args c.argTypes o.type)
  ·exact F9.congr (fun ρ=>by simp[builtin]) (zn0 P false c.args c.argTypes o.type)
  ·exact F9.congr (fun ρ=>by simp[builtin]) (zn9 P c.argTypes c.args o.type)
  ·exact F9.congr (fun ρ=>by simp[builtin]) (zvc P c.argTypes c.args o.type)
  ·exact F9.congr (fun ρ=>by simp[builtin]) (zr5 P c.argTypes c.args o.type)
  ·exact F9.congr (fun ρ=>by simp[builtin]) (zne P c.argTypes c.args o.type)
  ·exact Gl P _
 ·rename_i f M;intro N C H w E ρ O h;dsimp only;split
  ·rename_i g Q;split
   ·rename_i l q;have j:Jt P N C w (do let d ←resolve ρ c o.type;invoke d.target d.args) (Ym P g l):=by
     refine zyh (h _ _ Q) (vs:=c.args.map ρ) (by rw[Ci];exact rf h q) (fun fn first cap hv=>?_);simp only[resolve,M,hv,Deferred.ofValue,Sem.run_bind,Sem.run_pure,Result.andThen_ok]
    unfold zhs;split
    ·rename_i S;split
     ·rename_i B;have hk:=T7 O B (vs:=c.args.map ρ) (by rw[Ci];exact rf h q);have hv:=h _ _ Q;generalize D:ρ f=gv at hv;cases hv with
      | @fn _ g' _ _ l' r' F G I =>
       cases F with
       |same =>
        have J:l'=#[]:=C3 (by simpa using G.length.symm);have K:r'=#[]:=C3 (by simpa using I.length.symm);subst J K;have m:(do let d ←resolve ρ c o.type;invoke d.target d.args:Sem Next).run P w=(callFunc S (c.args.map ρ)).run P w:=by
         simp only[resolve,M,D,Deferred.ofValue,Sem.run_bind,Sem.run_pure,Result.andThen_ok,invoke];simp
        unfold Jt at hk ⊢;split at hk
        ·exact trivial
        ·obtain⟨T,w',x,U,V,W,X⟩:=hk;exact⟨T,w',x,U,V,W,by rw[m];exact X⟩
        ·rename_i t args a;unfold zt3 at a;split at a
         ·split at a<;>cases a
         ·cases a
     ·exact j
    ·exact j
   ·exact trivial
  ·exact trivial
 ·rename_i r name Y;intro N C H w E ρ O h;dsimp only;split
  ·rename_i t v hv;split
   ·rename_i f hm;split
    ·rename_i l q;split
     ·rename_i Z;have p:=h _ _ hv;generalize L:ρ r=pv at p;cases p with
      | @iface _ _ u hu =>
       refine⟨u::c.args.toList.map ρ,.cons hu (rf h q),.inl ⟨f,rfl,?_⟩⟩;have J:(#[Value.iface t u]++c.args.map ρ)[0]?=some (Value.iface t u):=by rw[Dg (by simp)];rfl
       have K:(#[Value.iface t u]++c.args.map ρ).extract 1 (#[Value.iface t u]++c.args.map ρ).size=c.args.map ρ:=by simp
       have e3:(#[u]++c.args.map ρ)=(u::c.args.toList.map ρ).toArray:=by simp
       simp only[resolve,Y,L,Sem.run_bind,Sem.run_pure,Result.andThen_ok,invoke,J,K,callMethod,run_program,zp5 hm u,e3];exact zbi Z _
     ·exact trivial
    ·exact trivial
   ·exact trivial
  ·exact trivial
def Tv (P:Program)(o:Oper):F9 P (Gg P o.op) (fun ρ=>execOp ρ o):=by
 generalize ho:o.op=op;cases op with
 |move x=>exact F9.congr (fun ρ=>by simp[execOp,ho]) (zkf P x)
 |assign x=>exact F9.congr (fun ρ=>by simp[execOp,ho]) (zkf P x)
 |pick c a b=>exact F9.congr (fun ρ=>by simp[execOp,ho]) (zuu P c a b)
 |alloc t=>exact F9.congr (fun ρ=>by simp only[execOp,ho]) (zrg P t)
 |box t x=>exact F9.congr (fun ρ=>by simp[execOp,ho]) (zzv P t x)
 |build t g=>exact F9.congr (fun ρ=>by simp[execOp,ho]) (zrr P t g)
 |buildSlice t n g=>exact F9.congr (fun ρ=>by simp[execOp,ho]) (zgd P t n g)
 |load t a=>exact F9.congr (fun ρ=>by simp[execOp,ho]) (zu8 P t a)
 |store t a x=>exact F9.congr (fun ρ=>by simp[execOp,ho]) (zrf P t a x)
 |nilCheck x=>exact zk7 P x o ho
 |binOp op t x y h=>exact R7 P op t h x y o ho
 |unOp op t x=>exact Wz P op t x o ho
 |convert s d x=>exact F9.congr (fun ρ=>by simp[execOp,ho]) (zv2 P s d x)
 |makeInterface t x=>exact F9.congr (fun ρ=>by simp[execOp,ho]) (zl7 P t x)
 |makeFunc f a b =>
  cases f with
  |yield l=>exact Gl P _
  |_=>exact F9.congr (fun ρ=>by simp[execOp,ho]) (znk P _ a b (fun l e=>by cases e))
 |makeMap t r=>exact F9.congr (fun ρ=>by simp[execOp,ho]) (zr4 P t r)
 |makeSlice t l c=>exact F9.congr (fun ρ=>by simp[execOp,ho]) (zm9 P t l c)
 |slice t x a b c=>exact F9.congr (fun ρ=>by simp[execOp,ho]) (zqb P t x a b c)
 |fieldAddr t x f=>exact F9.congr (fun ρ=>by simp[execOp,ho]) (zi0 P t x f)
 |field t x f=>exact F9.congr (fun ρ=>by simp[execOp,ho]) (zrs P t x f)
 |indexAddr t x i=>exact F9.congr (fun ρ=>by simp[execOp,ho]) (zht P t x i)
 |index t x i=>exact F9.congr (fun ρ=>by simp[execOp,ho]) (zqp P t x i)
 |lookup t x i ok=>exact F9.congr (fun ρ=>by simp[execOp,ho]) (zns P t x i ok)
 |mapUpdate t m k x=>exact F9.congr (fun ρ=>by simp[execOp,ho]) (zbs P t m k x)
 |insert t m k x=>exact F9.congr (fun ρ=>by simp[execOp,ho]) (zbs P t m k x)
 |range t x=>exact F9.congr (fun ρ=>by simp[execOp,ho]) (zqi P t x)
 |next it s=>exact F9.congr (fun ρ=>by simp[execOp,ho]) (zui P it s o.type)
 |typeAssert x t a ok=>exact F9.congr (fun ρ=>by simp[execOp,ho]) (znm P x t a ok)
 |extract t i=>exact F9.congr (fun ρ=>by simp[execOp,ho]) (zlw P t i)
 |call c=>exact zul P c o ho
 |_=>exact Gl P _
end Go.Sv
namespace Go.Sv
open Go.RowKit (Below)
def zo2 (P:Program)(h:World)(C:CM)(w:World)(t:Tgt)(vs:List Value)(v:AV)(H':Heap):Prop :=
 match t with
 |.fn f=>∀cs,∃d w' g fr,C.le d∧Rel h d H' w'∧VR d v g∧Steps P (lone (Frame.enter P f vs.toArray .normal) cs w) (lone fr cs w')∧fr.fn=f∧fr.leaving P w' (.returned g)
 |.yield l=>∀L,C l 0=some L→∀c cs,∃d w' g f j a b,C.le d∧Rel h d H' w'∧VR d v g∧(Instr.yield L.b vs.toArray).run P w=.ok (.round L.b f j a b) w ∧
   Steps P (lone (Frame.round L.b f j a b .normal) (c::cs) w) (lone (c.finish g) cs w')
def Yk (P:Program)(c:Jh):Prop :=
 ∀d C H w t args vs v H',Rel d C H w→VRs C args vs→c t args H=.ok v H'→zo2 P d C w t vs v H'
noncomputable def Hn (d:Option Tmp)(a:AV)(E:Tr AV):Tr AV:=match d with
 |none=>E
 |some d=>Hc a (Fl d) E
def zan {n:Nat}{d:Option Tmp}{p:PutF}(h:Jb n d=some p):(∀a E,p.run a E=Hn d a E)∧∀t,d=some t→t<n:=by
 unfold Jb at h;split at h
 ·cases h;exact⟨fun _ _=>rfl,fun t e=>by cases e⟩
 ·split at h
  ·rename_i hd;cases h;exact⟨fun _ _=>rfl,fun t e=>by cases e;exact hd⟩
  ·cases h
def ER.put {n:Nat}{C:CM}{E:Tr AV}{a:Act}(h:ER n C E a.tmps){d:Option Tmp}(hd:∀t,d=some t→t<n){av:AV}{x:Value}(hv:VR C av x):ER n C (Hn d av E) (a.put d x).tmps:=by
 obtain⟨h1,h2,h3⟩:=h;cases d with
 |none=>exact⟨h1,h2,h3⟩
 |some d =>
  have aa:(d:Nat)<n:=hd d rfl;refine⟨by show (a.tmps.setIfInBounds d x).size=n;simpa using h1,h2,fun t ht=>?_⟩;show OVR C (E3 (Fl t) (Hc av (Fl d) E)) ((a.tmps.setIfInBounds d x).getD t undef);rw[zil];by_cases e:t=d
  ·subst e;rw[Ai rfl];have:(a.tmps.setIfInBounds t x).getD t undef=x:=by
    rw[Bk,Array.getElem?_setIfInBounds_self_of_lt (show t<a.tmps.size by rw[h1];exact aa)];rfl
   rw[this];exact hv
  ·rw[Ab e];have:(a.tmps.setIfInBounds d x).getD t undef=a.tmps.getD t undef:=by
    rw[Bk,Array.getElem?_setIfInBounds_ne (fun q=>e q.symm),←Bk]
   rw[this];exact h3 t ht
def zib {n:Nat}{C:CM}{E:Tr AV}{g:Array Value}(h:ER n C E g)(ops:Array Oper)(o:Oper):(Kz ops o).run E=Region.wanted o (yielded ops g):=by
 obtain⟨x,y,z⟩:=h;unfold Kz Region.wanted;cases B:o.guard with
 |none=>rfl
 |some A =>
  obtain⟨j,want⟩:=A;dsimp only;unfold yielded;cases hd:(ops[j]?).bind (·.dst) with
  |none=>rfl
  |some d =>
   dsimp only[Option.bind];split
   ·rename_i hle;dsimp only;have f:=z d hle;by_cases m:d<g.size
    ·have l:g[d]?=some g[d]:=Cd m;have q:g.getD d undef=g[d]:=by rw[Bk,l];rfl
     rw[q] at f;rw[l];generalize g[d]=v at f;cases p:E3 (Fl d) E with
     |none =>
      rw[p] at f;have:v=undef:=f;subst this;rfl
     |some r =>
      rw[p] at f;have s:VR C r v:=f;cases s with
      |bool b=>cases b<;>cases want<;>rfl
      |_=>rfl
    ·have l:g[d]?=none:=D8 (Nat.le_of_not_lt m);have q:g.getD d undef=undef:=by rw[Bk,l];rfl
     rw[q] at f;rw[l];cases p:E3 (Fl d) E with
     |none=>rfl
     |some r =>
      rw[p] at f;have s:VR C r undef:=f;cases s;rfl
   ·rename_i hle;have l:g[d]?=none:=D8 (by rw[x];exact Bo y (Ek (Nat.lt_of_not_le hle)));rw[l];rfl
section steps
variable {P : Program} {b : Frame} {a : Act} {k : List Item} {cs : List Frame} {w w' : World} {ops : Array Oper}
def zso {i:Nat}{rest:List Nat}{o:Oper}(ho:ops[i]?=some o)(v:Value):(b.atR a (.inRegion ops (i::rest)::k)).finish v=b.atR (a.put o.dst v) (.inRegion ops rest::k):=by
 rw[Frame.finish_atR,ho];rfl
def zs3 {i:Nat}{rest:List Nat}{o:Oper}{x:Value}(ho:ops[i]?=some o)(hw:Region.wanted o (yielded ops a.tmps)=true)(hd:∀c,o.op≠.defer c)
  (d:(execOp a.eval o).run P w=.ok (.value x) w') :
  step P (lone (b.atR a (.inRegion ops (i::rest)::k)) cs w)=.next (lone (b.atR (a.put o.dst x) (.inRegion ops rest::k)) cs w'):=by
 refine step_lone_go ?_;rw[stepGR_op (b:=b) (k:=k) (cs:=cs) ho hw,Oper.semAt_eq _ _ _ hd,←zso ho];simp[stepG.apply,Sem.runT_eq,d]
def Ux {i:Nat}{rest:List Nat}{o:Oper}(ho:ops[i]?=some o)(hw:Region.wanted o (yielded ops a.tmps)=true)(hd:∀c,o.op≠.defer c)
  (d:(execOp a.eval o).run P w=.ok .skip w') :
  step P (lone (b.atR a (.inRegion ops (i::rest)::k)) cs w)=.next (lone (b.atR (a.put o.dst undef) (.inRegion ops rest::k)) cs w'):=by
 refine step_lone_go ?_;rw[stepGR_op (b:=b) (k:=k) (cs:=cs) ho hw,Oper.semAt_eq _ _ _ hd,←zso ho];simp[stepG.apply,Sem.runT_eq,d]
def zud {i:Nat}{rest:List Nat}{o:Oper}{f:Nat}{args:Array Value}(ho:ops[i]?=some o)(hw:Region.wanted o (yielded ops a.tmps)=true)(hd:∀c,o.op≠.defer c)
  (d:(execOp a.eval o).run P w=.ok (.enter f args) w') :
  step P (lone (b.atR a (.inRegion ops (i::rest)::k)) cs w)=.next (lone (Frame.enter P f args .normal) (b.atR a (.inRegion ops (i::rest)::k)::cs) w'):=by
 refine step_lone_go ?_;rw[stepGR_op (b:=b) (k:=k) (cs:=cs) ho hw,Oper.semAt_eq _ _ _ hd];simp[stepG.apply,Sem.runT_eq,d,Frame.atR]
def Wb {i:Nat}{rest:List Nat}{o:Oper}{l f:Nat}{d:Array Value}{x y:Code}(ho:ops[i]?=some o)(hw:Region.wanted o (yielded ops a.tmps)=true)(hd:∀c,o.op≠.defer c)
  (g:(execOp a.eval o).run P w=.ok (.round l f d x y) w') :
  step P (lone (b.atR a (.inRegion ops (i::rest)::k)) cs w)=.next (lone (Frame.round l f d x y .normal) (b.atR a (.inRegion ops (i::rest)::k)::cs) w'):=by
 refine step_lone_go ?_;rw[stepGR_op (b:=b) (k:=k) (cs:=cs) ho hw,Oper.semAt_eq _ _ _ hd];simp[stepG.apply,Sem.runT_eq,g]
end steps
def zha {P:Program}{o:Oper}{E:Tr AV}{H:Heap}(h:(Gg P o.op).run E H≠.no):∀c,o.op≠.defer c:=by
 intro c e;rw[e] at h;exact h rfl
def zj3 {P:Program}{c:Jh}(V:Yk P c){n:Nat}{ops:Array Oper}{i:Nat}{o:Oper}(ho:ops[i]?=some o){M:World}{C:CM}{H H':Heap}{w:World}{E R:Tr AV}{a:Act}
  (N:Rel M C H w) (S:ER n C E a.tmps) (h:(I8 P n ops o).run c E H=.ok R H') (b:Frame) (rest:List Nat) (k:List Item) (cs:List Frame) :
  ∃r w' x T,C.le r∧Rel M r H' w'∧VR r T x∧R=Hn o.dst T E∧(∀t,o.dst=some t→t<n) ∧
   Steps P (lone (b.atR a (.inRegion ops (i::rest)::k)) cs w) (lone (b.atR (a.put o.dst x) (.inRegion ops rest::k)) cs w'):=by
 unfold I8 at h;cases O:Jb n o.dst with
 |none=>rw[O] at h;cases h
 |some p =>
  rw[O] at h;dsimp only at h;obtain⟨d,j⟩:=zan O;have J:=zib S ops o;cases G:(Kz ops o).run E with
  |false =>
   rw[G] at h J;cases h;refine⟨C,w,undef,J3,CM.le_refl C,N,.tup .nil,d _ _,j,.one ?_⟩;have:=stepR_op_skip (P:=P) (b:=b) (a:=a) (k:=k) (cs:=cs) (w:=w) (ops:=ops) (i:=i) (rest:=rest) (by rw[ho];simpa using J.symm);rw[this,ho];rfl
  |true =>
   rw[G] at h J;dsimp only at h;have hw:Region.wanted o (yielded ops a.tmps)=true:=J.symm;have K:=Tv P o M C H w E a.eval N (sk S);cases I:(Gg P o.op).run E H with
   |no=>rw[I] at h;cases h
   |val v W =>
    rw[I] at h K;cases h;have m:=zha (P:=P) (o:=o) (E:=E) (H:=H) (by rw[I];intro e;cases e);obtain⟨r,w',x,B,D,F,s⟩:=K;rcases s with s|⟨s,rfl⟩
    ·exact⟨r,w',x,v,B,D,F,d _ _,j,.one (zs3 ho hw m s)⟩
    ·exact⟨r,w',undef,v,B,D,F,d _ _,j,.one (Ux ho hw m s)⟩
   |call t args =>
    rw[I] at h K;dsimp only at h;have m:=zha (P:=P) (o:=o) (E:=E) (H:=H) (by rw[I];intro e;cases e);cases z:c t args H with
    |no=>rw[z] at h;cases h
    |ok v W =>
     rw[z] at h;cases h;obtain⟨vs,hv,A⟩:=K;have q:=V _ _ _ _ _ _ _ _ _ N hv z;rcases A with ⟨f,rfl,g⟩|⟨l,L,rfl,X,g⟩
     ·obtain⟨r,w',Q,fr,B,D,F,s,U,Y⟩:=q (b.atR a (.inRegion ops (i::rest)::k)::cs);refine⟨r,w',Q,v,B,D,F,d _ _,j,.head (zud ho hw m g) (Steps.trans s (.one ?_))⟩;rw[step_leave_returned Y,zso ho]
     ·obtain⟨r,w',Q,f,Z,x,y,B,D,F,s,U⟩:=q L X (b.atR a (.inRegion ops (i::rest)::k)) cs;rw[s] at g;refine⟨r,w',Q,v,B,D,F,d _ _,j,.head (Wb ho hw m g) ?_⟩;rw[←zso ho];exact U
def zpo {P:Program}{c:Jh}(z:Yk P c){n:Nat}{ops:Array Oper}(b:Frame)(k:List Item)(cs:List Frame):∀(l:List Oper) (i:Nat),ops.toList.drop i=l →
  ∀{f:World} {C:CM} {H H':Heap} {w:World} {E g:Tr AV} {a:Act},Rel f C H w→ER n C E a.tmps→(Xu P n ops l).run c E H=.ok g H' →
  ∃m w' p,C.le m∧Rel f m H' w'∧ER n m g p.tmps∧p.defers=a.defers ∧
   Steps P (lone (b.atR a (.inRegion ops (List.range' i l.length)::k)) cs w) (lone (b.atR p (.inRegion ops []::k)) cs w')
 |[],i,d,f,C,H,H',w,E,g,a,q,j,h=>by
  cases h;exact⟨C,w,a,CM.le_refl C,q,j,rfl,.refl _ _⟩
 |o::l,i,d,f,C,H,H',w,E,g,a,q,j,h=>by
  have hi:i<ops.toList.length:=by
   rcases C4 i ops.toList.length with r|r
   ·exact r
   ·rw[List.drop_eq_nil_of_le r] at d;cases d
  rw[B8 hi] at d;injection d with ho d
  have s:ops[i]?=some o:=by rw[←ho];simp at hi ⊢
  unfold Xu at h;dsimp only at h;cases y:(I8 P n ops o).run c E H with
  |no=>rw[y] at h;cases h
  |ok E1 H1 =>
   rw[y] at h;dsimp only at h;obtain⟨S,T,x,U,A,B,D,F,G,I⟩:=zj3 z s q j y b (List.range' (i+1) l.length) k cs;subst F;obtain⟨J,K,L,M,N,O,Q,R⟩:=zpo z b k cs l (i+1) d (a:=a.put o.dst x) B ((j.mono A).put G D) h;refine⟨J,K,L,CM.le_trans A M,N,O,?_,?_⟩
   ·rw[Q];cases o.dst<;>rfl
   ·rw[show (o::l).length=l.length+1 from rfl,List.range'_succ];exact Steps.trans I R
end Go.Sv
namespace Go.Sv
def J9 (a:List Nat)(E' E:Tr AV):Prop:=∀t∈a,t≤Io→E3 (Fl t) E'=E3 (Fl t) E
def Tw {x:Operand}{E E':Tr AV}(h:J9 (kc [x]) E' E):(Fq x).run E'=(Fq x).run E:=by
 cases x with
 |tmp t =>
  unfold Fq;dsimp only;split
  ·rename_i hle;dsimp only;rw[h t (by simp[kc]) (As hle)]
  ·rfl
 |const v=>unfold Fq;dsimp only;split<;>rfl
 |func f=>rfl
 |global g=>rfl
def J9.opds:∀{l:List Operand} {E E':Tr AV},J9 (kc l) E' E→∀x∈l,(Fq x).run E'=(Fq x).run E
 |[],_,_,_,x,hx=>by cases hx
 |y::l,E,E',h,x,hx=>by
  rcases An.1 hx with rfl|hx
  ·refine Tw (fun t ht=>h t ?_);cases x<;>simp_all [kc]
  ·refine J9.opds (l:=l) (fun t ht=>h t ?_) x hx;cases y<;>simp_all [kc]
section cong
variable {E E' : Tr AV} {H : Heap}
def opds_cong:∀{l:List Operand},(∀x∈l,(Fq x).run E'=(Fq x).run E)→(opds l).run E'=(opds l).run E
 |[],_=>rfl
 |x::l,h=>by
  simp only[opds];rw[h x (by simp),opds_cong (fun y a=>h y (by simp[a]))]
def My {x:Operand}{f:Heap→AV→OR}(h:(Fq x).run E'=(Fq x).run E):(Ik x f).run E' H=(Ik x f).run E H:=by
 simp only[Ik];rw[h]
def Si {x y:Operand}{f:Heap→AV→AV→OR}(h:(Fq x).run E'=(Fq x).run E)(k:(Fq y).run E'=(Fq y).run E):(Lp x y f).run E' H=(Lp x y f).run E H:=by
 simp only[Lp];rw[h,k]
def zhi {x:Option Operand}(h:∀y,x=some y→(Fq y).run E'=(Fq y).run E):(Ir x).run E'=(Ir x).run E:=by
 cases x with
 |none=>rfl
 |some y=>simp only[Ir];rw[h y rfl]
def fillA_cong:∀{a:List Part} {cs:List AV},(∀p∈a,p.v.run E'=p.v.run E)→Ul cs a E'=Ul cs a E
 |[],_,_=>rfl
 |p::a,cs,h=>by
  simp only[Ul];rw[h p (by simp)];split
  ·rfl
  ·split
   ·rfl
   ·split
    ·split
     ·exact fillA_cong (fun q d=>h q (by simp[d]))
     ·rfl
    ·rfl
def z8a {place:Nat→Option (Nat×Nat)}:∀{l:List (Nat×Operand)} {d:List Part},Yc place l=some d→(∀x∈l.map (·.2),(Fq x).run E'=(Fq x).run E)→∀p∈d,p.v.run E'=p.v.run E
 |[],d,h,_,p,a=>by cases h;cases a
 |(i,x)::l,d,h,f,p,a=>by
  simp only[Yc] at h;split at h
  ·cases h
  ·split at h
   ·cases h
   ·rename_i r j;cases h;rcases An.1 a with rfl|a
    ·exact f x (by simp)
    ·exact z8a j (fun y g=>f y (by simp at g ⊢;exact .inr g)) p a
end cong
def zuy {P:Program}{c:Call}{E E':Tr AV}{H:Heap}(h:∀x∈c.operands.toList,(Fq x).run E'=(Fq x).run E):(To P c).run E' H=(To P c).run E H:=by
 have a:∀x∈c.args.toList,(Fq x).run E'=(Fq x).run E:=fun x g=>h x (by simp[Call.operands] at g ⊢;exact .inr g)
 unfold To;split
 ·split
  ·split
   ·rename_i q;rw[q] at a;unfold Nw;split<;>first|rfl|exact My (a _ (by simp))
   ·rfl
  ·split
   ·rename_i q;rw[q] at a;unfold Qf;split<;>first|rfl|exact My (a _ (by simp))
   ·rfl
  ·simp only[M4];rw[opds_cong a]
  ·simp only[M4];rw[opds_cong a]
  ·unfold zp;split
   ·rename_i q;rw[q] at a;split
    ·unfold zmr;split
     ·split
      ·exact Si (a _ (by simp)) (a _ (by simp))
      ·rfl
     ·rfl
    ·unfold gw;split
     ·split
      ·exact Si (a _ (by simp)) (a _ (by simp))
      ·rfl
     ·rfl
    ·unfold gw;split
     ·split
      ·exact Si (a _ (by simp)) (a _ (by simp))
      ·rfl
     ·rfl
    ·rfl
   ·rfl
  ·unfold yz;split
   ·rename_i q;rw[q] at a;split
    ·split
     ·rfl
     ·split
      ·exact Si (a _ (by simp)) (a _ (by simp))
      ·rfl
    ·rfl
   ·rfl
  ·unfold yb;split
   ·rename_i q;rw[q] at a;split
    ·split
     ·split
      ·exact My (a _ (by simp))
      ·rfl
     ·rfl
    ·rfl
   ·rfl
  ·unfold y6;split
   ·rename_i q;rw[q] at a;split
    ·split
     ·exact Si (a _ (by simp)) (a _ (by simp))
     ·rfl
    ·rfl
   ·rfl
  ·rfl
 ·rename_i f q;have d:(Fq f).run E'=(Fq f).run E:=h f (by simp[Call.operands,q]);dsimp only;rw[d,opds_cong a]
 ·rename_i r j q;have d:(Fq r).run E'=(Fq r).run E:=h r (by simp[Call.operands,q]);dsimp only;rw[d,opds_cong a]
def zjc {P:Program}{o:Op}{E E':Tr AV}{H:Heap}(h:∀x∈o.operands.toList,(Fq x).run E'=(Fq x).run E):(Gg P o).run E' H=(Gg P o).run E H:=by
 unfold Gg;split
 ·exact My (h _ (by simp[Op.operands]))
 ·exact My (h _ (by simp[Op.operands]))
 ·rename_i c a b;dsimp only;rw[h c (by simp[Op.operands]),h a (by simp[Op.operands]),h b (by simp[Op.operands])]
 ·split<;>rfl
 ·exact My (h _ (by simp[Op.operands]))
 ·rename_i t parts;have g:∀x∈parts.toList.map (·.2),(Fq x).run E'=(Fq x).run E:=fun x d=>h x (by simpa [Op.operands] using d)
  unfold rq;split
  ·rfl
  ·split
   ·split
    ·rfl
    ·split
     ·rfl
     ·rename_i q;dsimp only;rw[fillA_cong (z8a q g)]
   ·split
    ·rfl
    ·split
     ·rfl
     ·rename_i q;dsimp only;rw[fillA_cong (z8a q g)]
   ·rfl
 ·rename_i t len parts;have g:∀x∈parts.toList.map (·.2),(Fq x).run E'=(Fq x).run E:=fun x d=>h x (by simpa [Op.operands] using d)
  unfold ik;split
  ·split
   ·rfl
   ·split
    ·rfl
    ·split
     ·split
      ·rfl
      ·rename_i q;dsimp only;rw[fillA_cong (z8a q g)]
     ·rfl
  ·rfl
 ·unfold se;split<;>first|rfl|exact My (h _ (by simp[Op.operands]))
 ·unfold zp0;split<;>first|rfl|exact Si (h _ (by simp[Op.operands])) (h _ (by simp[Op.operands]))
 ·exact My (h _ (by simp[Op.operands]))
 ·exact Si (h _ (by simp[Op.operands])) (h _ (by simp[Op.operands]))
 ·exact My (h _ (by simp[Op.operands]))
 ·unfold O1;split
  ·exact My (h _ (by simp[Op.operands]))
  ·split<;>first|rfl|exact My (h _ (by simp[Op.operands]))
  ·exact My (h _ (by simp[Op.operands]))
  ·split<;>first|rfl|exact My (h _ (by simp[Op.operands]))
  ·rfl
 ·unfold py;split<;>first|rfl|exact My (h _ (by simp[Op.operands]))
 ·rename_i f first cap
  split
  ·rfl
  ·simp only[rj];rw[opds_cong (l:=first.toList) (fun x d=>h x (by simp[Op.operands] at d ⊢;exact .inl d)),opds_cong (l:=cap.toList) (fun x d=>h x (by simp[Op.operands] at d ⊢;exact .inr d))]
 ·unfold j0;split
  ·rfl
  ·split<;>first|rfl|exact My (h _ (by simp[Op.operands]))
 ·unfold gq;split
  ·split
   ·rfl
   ·split
    ·rfl
    ·split
     ·exact Si (h _ (by simp[Op.operands])) (h _ (by simp[Op.operands]))
     ·rfl
  ·rfl
 ·rename_i t x lo hi mx;have j:=h x (by simp[Op.operands]);have p:(Ir lo).run E'=(Ir lo).run E:=zhi (fun y e=>h y (by simp[Op.operands,e]));have r:(Ir hi).run E'=(Ir hi).run E:=zhi (fun y e=>h y (by simp[Op.operands,e]));have s:(Ir mx).run E'=(Ir mx).run E:=zhi (fun y e=>h y (by simp[Op.operands,e]));unfold Zd;split
  ·split
   ·rfl
   ·dsimp only;rw[j,p,r]
  ·split
   ·rfl
   ·split
    ·rfl
    ·dsimp only;rw[j,p,r,s]
  ·split
   ·rfl
   ·split
    ·rfl
    ·dsimp only;rw[j,p,r,s]
  ·rfl
 ·unfold pe;split
  ·split
   ·rfl
   ·split<;>first|rfl|exact My (h _ (by simp[Op.operands]))
  ·rfl
 ·unfold ny;split
  ·split
   ·rfl
   ·split<;>first|rfl|exact My (h _ (by simp[Op.operands]))
  ·rfl
 ·unfold rv;split
  ·split
   ·rfl
   ·exact Si (h _ (by simp[Op.operands])) (h _ (by simp[Op.operands]))
  ·split
   ·rfl
   ·exact Si (h _ (by simp[Op.operands])) (h _ (by simp[Op.operands]))
  ·rfl
 ·unfold sw;split
  ·exact Si (h _ (by simp[Op.operands])) (h _ (by simp[Op.operands]))
  ·split
   ·exact Si (h _ (by simp[Op.operands])) (h _ (by simp[Op.operands]))
   ·rfl
  ·rfl
 ·unfold ot;split
  ·split
   ·exact Si (h _ (by simp[Op.operands])) (h _ (by simp[Op.operands]))
   ·rfl
  ·rfl
 ·rename_i t m k x;unfold nc;split
  ·split
   ·dsimp only;rw[h m (by simp[Op.operands]),h k (by simp[Op.operands]),h x (by simp[Op.operands])]
   ·rfl
  ·rfl
 ·rename_i t m k x;unfold nc;split
  ·split
   ·dsimp only;rw[h m (by simp[Op.operands]),h k (by simp[Op.operands]),h x (by simp[Op.operands])]
   ·rfl
  ·rfl
 ·unfold rangeF;split<;>first|rfl|exact My (h _ (by simp[Op.operands]))
 ·unfold zwd;split<;>first|rfl|exact My (h _ (by simp[Op.operands]))
 ·unfold pj;split
  ·rfl
  ·split
   ·rfl
   ·exact My (h _ (by simp[Op.operands]))
  ·rfl
 ·exact My (h _ (by simp[Op.operands]))
 ·exact zuy (fun x d=>h x (by simpa [Op.operands] using d))
 ·rfl
def iq {ops:Array Oper}{o:Oper}{E E':Tr AV}(h:J9 (Nf ops o) E' E):(Kz ops o).run E'=(Kz ops o).run E:=by
 unfold Kz;split
 ·rfl
 ·rename_i j want a;split
  ·rfl
  ·rename_i d hd;split
   ·rename_i hle;dsimp only;rw[h d (by simp[Nf,a,hd]) hle]
   ·rfl
end Go.Sv
namespace Go.Sv
inductive QR (H H2:Heap):OR→OR→Prop where
 |no:QR H H2 .no .no
 |val (v:AV):QR H H2 (.val v H) (.val v H2)
def Lv (F:OpF):Prop:=∀E H a,QR H a (F.run E H) (F.run E a)
inductive RR (H:Heap):OR→Prop where
 |no:RR H .no
 |val (v:AV):RR H (.val v H)
def Q0 (F:OpF):Prop:=∀E H,RR H (F.run E H)
def Lv.reads {F:OpF}(h:Lv F):Q0 F:=fun E H=>by
 have:=h E H H;generalize F.run E H=r at this;cases this with
 |no=>exact .no
 |val v=>exact .val v
def quiet_stuck:Lv Gc:=fun _ _ _=>.no
def reads_stuck:Q0 Gc:=fun _ _=>.no
def QR.ret1 {H H2:Heap}(o:Option AV):QR H H2 (ret1 H o) (Sv.ret1 H2 o):=by cases o<;>constructor
def RR.ret1 {H:Heap}(o:Option AV):RR H (Sv.ret1 H o):=by cases o<;>constructor
def Qa {x:Operand}{f:Heap→AV→OR}(h:∀a H d,QR H d (f H a) (f d a)):Lv (Ik x f):=fun E H d=>by
 simp only[Ik];cases (Fq x).run E with
 |none=>exact .no
 |some a=>exact h a H d
def z65 {x y:Operand}{f:Heap→AV→AV→OR}(h:∀a b H d,QR H d (f H a b) (f d a b)):Lv (Lp x y f):=fun E H d=>by
 simp only[Lp];cases (Fq x).run E with
 |none=>exact .no
 |some a =>
  cases (Fq y).run E with
  |none=>exact .no
  |some b=>exact h a b H d
def uo {x:Operand}{f:Heap→AV→OR}(h:∀a H,RR H (f H a)):Q0 (Ik x f):=fun E H=>by
 simp only[Ik];cases (Fq x).run E with
 |none=>exact .no
 |some a=>exact h a H
def zow {x y:Operand}{f:Heap→AV→AV→OR}(h:∀a b H,RR H (f H a b)):Q0 (Lp x y f):=fun E H=>by
 simp only[Lp];cases (Fq x).run E with
 |none=>exact .no
 |some a =>
  cases (Fq y).run E with
  |none=>exact .no
  |some b=>exact h a b H
def zqy (P:Program)(t:TypeId)(parts:Array (Nat×Operand)):Lv (rq P t parts):=by
 unfold rq;split
 ·exact quiet_stuck
 ·split
  ·split
   ·exact quiet_stuck
   ·split
    ·exact quiet_stuck
    ·intro E H a;dsimp only;split
     ·exact .val _
     ·exact .no
  ·split
   ·exact quiet_stuck
   ·split
    ·exact quiet_stuck
    ·intro E H a;dsimp only;split
     ·exact .val _
     ·exact .no
  ·exact quiet_stuck
def zk1 (H d:Heap)(a:AV):QR H d (pz H a) (pz d a):=by
 unfold pz;split<;>constructor
def zml (P:Program)(t:TypeId)(x:Operand):Lv (py P t x):=by
 unfold py;split
 ·exact quiet_stuck
 ·exact Qa fun a H d=>.val _
 ·exact quiet_stuck
def zoy (f:Fn)(x y:Array Operand):Lv (rj f x y):=fun E H a=>by
 simp only[rj];split
 ·split<;>constructor
 ·exact .no
def zim (P:Program)(s:TypeId)(x:Operand)(f:Nat):Lv (pe P s x f):=by
 unfold pe;split
 ·split
  ·exact quiet_stuck
  ·split
   ·exact quiet_stuck
   ·exact quiet_stuck
   ·exact Qa fun a H d=>by split<;>constructor
 ·exact quiet_stuck
def zrt (P:Program)(s:TypeId)(x:Operand)(f:Nat):Lv (ny P s x f):=by
 unfold ny;split
 ·split
  ·exact quiet_stuck
  ·split
   ·exact Qa fun a H d=>by
     split
     ·exact .ret1 _
     ·exact .no
   ·exact quiet_stuck
 ·exact quiet_stuck
def zhu (P:Program)(t:TypeId)(x ix:Operand):Lv (rv P t x ix):=by
 unfold rv;split
 ·split
  ·exact quiet_stuck
  ·refine z65 fun a b H d=>?_
   split
   ·rename_i len esz _ _ n;cases Nat.blt n len
    ·exact .no
    ·dsimp only;split<;>constructor
   ·exact .no
 ·split
  ·exact quiet_stuck
  ·refine z65 fun a b H d=>?_
   split
   ·split<;>constructor
   ·exact .no
 ·exact quiet_stuck
def zqz (P:Program)(t:TypeId)(x ix:Operand):Lv (sw P t x ix):=by
 unfold sw;split
 ·refine z65 fun a b H d=>?_
  split
  ·split<;>constructor
  ·exact .no
 ·split
  ·refine z65 fun a b H d=>?_
   split
   ·split
    ·exact .ret1 _
    ·exact .no
   ·exact .no
  ·exact quiet_stuck
 ·exact quiet_stuck
def zo9 (P:Program)(x:Operand)(t:TypeId)(ok:Bool):Lv (pj P x t ok):=by
 unfold pj;split
 ·exact quiet_stuck
 ·split
  ·exact quiet_stuck
  ·refine Qa fun a H d=>?_
   split
   ·cases ok<;>constructor
   ·split
    ·constructor
    ·cases ok<;>constructor
   ·exact .no
 ·exact quiet_stuck
def zmu (x:Operand)(i:Nat):Lv (zh1 x i):=Qa fun a H d=>by
 split
 ·exact .ret1 _
 ·exact .no
def ziz {P:Program}{t:TypeId}{x:Operand}{lo hi mx:Option Operand}(h:yf P t=false):Lv (Zd P t x lo hi mx):=by
 unfold Zd;split
 ·split
  ·exact quiet_stuck
  ·intro E H a;dsimp only;split
   ·split
    ·split<;>constructor
    ·exact .no
   ·exact .no
 ·split
  ·exact quiet_stuck
  ·split
   ·exact quiet_stuck
   ·intro E H a;dsimp only;split
    ·exact .ret1 _
    ·split<;>constructor
    ·split<;>constructor
    ·exact .no
 ·rename_i q;simp[yf,q] at h
 ·exact quiet_stuck
def zqv (P:Program)(t:TypeId)(x:Operand)(lo hi mx:Option Operand):Q0 (Zd P t x lo hi mx):=by
 cases a:yf P t
 ·exact (ziz a).reads
 ·unfold yf at a;unfold Zd;split at a
  ·rename_i q;rw[q];dsimp only;split
   ·exact reads_stuck
   ·split
    ·exact reads_stuck
    ·intro E H;dsimp only;split
     ·split
      ·split
       ·split
        ·exact .ret1 _
        ·exact .no
       ·exact .no
      ·exact .no
     ·exact .no
  ·cases a
def zvd {P:Program}{s d:TypeId}{x:Operand}(hd:iw P d=false)(f:iw P s=false):Lv (O1 P s d x):=by
 unfold O1;split
 ·exact Qa fun a H g=>by split<;>constructor
 ·rename_i q _;simp[iw,q] at f
 ·exact Qa fun a H g=>by split<;>constructor
 ·rename_i q;simp[iw,q] at hd
 ·exact quiet_stuck
def zub {P:Program}{s d:TypeId}{x:Operand}(hd:iw P d=false):Q0 (O1 P s d x):=by
 unfold O1;split
 ·exact uo fun a H=>by split<;>constructor
 ·split
  ·refine uo fun a H=>?_
   split
   ·exact .val _
   ·split
    ·split<;>constructor
    ·exact .no
   ·exact .no
  ·exact reads_stuck
 ·exact uo fun a H=>by split<;>constructor
 ·rename_i q;simp[iw,q] at hd
 ·exact reads_stuck
def zu4 (P:Program)(t:TypeId)(x:Operand):Q0 (se P t x):=by
 unfold se;split
 ·exact uo fun a H=>by
   split
   ·split<;>constructor
   ·exact .no
 ·exact uo fun a H=>by
   split
   ·split<;>constructor
   ·exact .no
 ·exact reads_stuck
def zpd (P:Program)(t:TypeId)(x ix:Operand)(ok:Bool):Q0 (ot P t x ix ok):=by
 unfold ot;split
 ·split
  ·refine zow fun a b H=>?_
   split
   ·exact .no
   ·split<;>constructor
  ·exact reads_stuck
 ·exact reads_stuck
def zpr {P:Program}{t:TypeId}{x:Operand}(h:yj P t=false):Lv (Nw P t x):=by
 unfold Nw;split
 ·exact Qa fun a H d=>by split<;>constructor
 ·exact Qa fun a H d=>by split<;>constructor
 ·rename_i q;simp[yj,q] at h
 ·exact Qa fun a H d=>.val _
 ·exact quiet_stuck
def zxf (P:Program)(t:TypeId)(x:Operand):Q0 (Nw P t x):=by
 cases d:yj P t
 ·exact (zpr d).reads
 ·unfold yj at d;unfold Nw;split at d
  ·rename_i q;rw[q];refine uo fun a H=>?_
   split
   ·exact .val _
   ·split<;>constructor
   ·exact .no
  ·cases d
def zzo (P:Program)(t:TypeId)(x:Operand):Lv (Qf P t x):=by
 unfold Qf;split
 ·exact Qa fun a H d=>by split<;>constructor
 ·exact quiet_stuck
def zna (mx:Bool)(l:List Operand):Lv (M4 mx l):=fun E H a=>by
 simp only[M4];split
 ·exact .ret1 _
 ·exact .no
def zoz {P:Program}{c:Call}:(uw P c=.quiet→Lv (To P c))∧(uw P c=.rd→Q0 (To P c)):=by
 unfold uw To;split
 ·rename_i q;rw[q];dsimp only;split
  ·rename_i t a;rw[a];split
   ·rename_i hm;exact⟨fun h=>(by cases h),fun _=>by
     split
     ·exact zxf _ _ _
     ·exact reads_stuck⟩
   ·rename_i hm;refine⟨fun _=>?_,fun h=>by cases h⟩;split
    ·rename_i e _ ;cases e;exact zpr (by simpa using hm)
    ·exact quiet_stuck
  ·exact⟨fun h=>(by cases h),fun h=>by cases h⟩
 ·rename_i q;rw[q];refine⟨fun _=>?_,fun h=>by cases h⟩;dsimp only;split
  ·exact zzo _ _ _
  ·exact quiet_stuck
 ·rename_i q;rw[q];exact⟨fun _=>zna _ _,fun h=>by cases h⟩
 ·rename_i q;rw[q];exact⟨fun _=>zna _ _,fun h=>by cases h⟩
 ·exact⟨fun h=>(by cases h),fun h=>by cases h⟩
def wi {P:Program}{o:Op}:(cls P o=.quiet→Lv (Gg P o))∧(cls P o=.rd→Q0 (Gg P o)):=by
 unfold cls;split
 ·exact⟨fun _=>Qa fun a H d=>.val _,fun h=>by cases h⟩
 ·exact⟨fun _=>Qa fun a H d=>.val _,fun h=>by cases h⟩
 ·refine⟨fun _ E H d=>?_,fun h=>by cases h⟩;simp only[Gg];split
  ·exact .ret1 _
  ·exact .ret1 _
  ·exact .no
 ·exact⟨fun _=>zqy _ _ _,fun h=>by cases h⟩
 ·exact⟨fun _=>Qa fun a H d=>zk1 _ _ _,fun h=>by cases h⟩
 ·exact⟨fun _=>z65 fun a b H d=>.ret1 _,fun h=>by cases h⟩
 ·exact⟨fun _=>Qa fun a H d=>.ret1 _,fun h=>by cases h⟩
 ·exact⟨fun _=>zml _ _ _,fun h=>by cases h⟩
 ·rename_i f x y;refine⟨fun _=>?_,fun h=>by cases h⟩;simp only[Gg];split
  ·exact quiet_stuck
  ·exact zoy _ _ _
 ·exact⟨fun _=>zim _ _ _ _,fun h=>by cases h⟩
 ·exact⟨fun _=>zrt _ _ _ _,fun h=>by cases h⟩
 ·exact⟨fun _=>zhu _ _ _ _,fun h=>by cases h⟩
 ·exact⟨fun _=>zqz _ _ _ _,fun h=>by cases h⟩
 ·exact⟨fun _=>zo9 _ _ _ _,fun h=>by cases h⟩
 ·exact⟨fun _=>zmu _ _,fun h=>by cases h⟩
 ·split
  ·exact⟨fun h=>(by cases h),fun _=>zqv _ _ _ _ _ _⟩
  ·rename_i h;exact⟨fun _=>ziz (by simpa using h),fun h=>by cases h⟩
 ·split
  ·exact⟨fun h=>(by cases h),fun h=>by cases h⟩
  ·rename_i hd;split
   ·exact⟨fun h=>(by cases h),fun _=>zub (by simpa using hd)⟩
   ·rename_i g;exact⟨fun _=>zvd (by simpa using hd) (by simpa using g),fun h=>by cases h⟩
 ·exact⟨fun h=>(by cases h),fun _=>zu4 _ _ _⟩
 ·exact⟨fun h=>(by cases h),fun _=>zpd _ _ _ _ _⟩
 ·exact zoz
 all_goals exact⟨fun h=>(by cases h),fun h=>by cases h⟩
def z5q {P:Program}{n:Nat}{ops:Array Oper}{o:Oper}{k:Jh}{E E1:Tr AV}{H H1:Heap}(h:(I8 P n ops o).run k E H=.ok E1 H1) :
  ∃v,E1=Hn o.dst v E∧(∀d,o.dst=some d→d<n)∧∀f,J9 (Nf ops o) f E→(I8 P n ops o).run k f H=.ok (Hn o.dst v f) H1:=by
 unfold I8 at h ⊢;cases r:Jb n o.dst with
 |none=>rw[r] at h;cases h
 |some p =>
  rw[r] at h;dsimp only at h ⊢;obtain⟨a,j⟩:=zan r;have l:∀f,J9 (Nf ops o) f E→(Gg P o.op).run f H=(Gg P o.op).run E H:=fun f g =>
   zjc (J9.opds (fun t w=>g t (by simp[Nf,w])))
  cases m:(Kz ops o).run E with
  |false =>
   rw[m] at h;cases h;refine⟨J3,a _ _,j,fun f g=>?_⟩;rw[iq g,m];dsimp only;rw[a]
  |true =>
   rw[m] at h;dsimp only at h;cases q:(Gg P o.op).run E H with
   |no=>rw[q] at h;cases h
   |val v x =>
    rw[q] at h;cases h;refine⟨v,a _ _,j,fun f g=>?_⟩;rw[iq g,m,l f g,q];dsimp only;rw[a]
   |call t args =>
    rw[q] at h;dsimp only at h;cases s:k t args H with
    |no=>rw[s] at h;cases h
    |ok v x =>
     rw[s] at h;cases h;refine⟨v,a _ _,j,fun f g=>?_⟩;rw[iq g,m,l f g,q];dsimp only;rw[s];dsimp only;rw[a]
def z5s {P:Program}{n:Nat}{ops:Array Oper}{o:Oper}{k:Jh}{E E1:Tr AV}{H H1:Heap}(g:Q0 (Gg P o.op))(h:(I8 P n ops o).run k E H=.ok E1 H1):H1=H:=by
 unfold I8 at h;cases a:Jb n o.dst with
 |none=>rw[a] at h;cases h
 |some p =>
  rw[a] at h;dsimp only at h;cases d:(Kz ops o).run E with
  |false=>rw[d] at h;cases h;rfl
  |true =>
   rw[d] at h;dsimp only at h;have f:=g E H;generalize (Gg P o.op).run E H=r at h f;cases f with
   |no=>cases h
   |val v=>cases h;rfl
def zjo {P:Program}{n:Nat}{ops:Array Oper}{o:Oper}{k:Jh}{E E1:Tr AV}{H H1:Heap}(j:Lv (Gg P o.op))(h:(I8 P n ops o).run k E H=.ok E1 H1)(a:Heap) :
  (I8 P n ops o).run k E a=.ok E1 a:=by
 unfold I8 at h ⊢;cases f:Jb n o.dst with
 |none=>rw[f] at h;cases h
 |some p =>
  rw[f] at h;dsimp only at h ⊢;cases g:(Kz ops o).run E with
  |false=>rw[g] at h;cases h;rfl
  |true =>
   rw[g] at h;dsimp only at h ⊢;have d:=j E H a;generalize (Gg P o.op).run E H=r at h d;generalize (Gg P o.op).run E a=l at d ⊢;cases d with
   |no=>cases h
   |val v=>cases h;rfl
end Go.Sv
