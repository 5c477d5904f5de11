/- Texts of the evaluator, of the logic over it, of plain arithmetic. -/
import Derived.Test.YtodjkjimaheggaaGreatSvG2
import Derived.Test.YtodjkjimaheggaaGreatSvG1
import Derived.OpenShut
import Derived.Carry
import Derived.WalkKit
import Derived.ProofKit
import Derived.WideKeyArgs
import Derived.ChangeCalls
namespace Go.Sv
noncomputable def wp (P:Program) (f n:Nat) (ro:Option Nat):LC→LEnv→List Nat→LHeap→Post→Prop
 | .skip,ρ,D,G,Q=>Q .normal ρ D G
 | .ops l,ρ,D,G,Q=>OpsL P l ρ G fun ρ' G'=>Q .normal ρ' D G'
 | .seq a b,ρ,D,G,Q=>wp P f n ro a ρ D G fun x ρ' D' G'=>match x with
  | .normal=>wp P f n ro b ρ' D' G' Q
  | x=>Q x ρ' D' G'
 | .cond x a b,ρ,D,G,Q=>brV (x.ev ρ) (wp P f n ro a ρ D G Q) (wp P f n ro b ρ D G Q)
 | .block id c,ρ,D,G,Q=>wp P f n ro c ρ D G fun x ρ' D' G'=>match x with
  | .exit i=>if i=id then Q .normal ρ' D' G' else Q (.exit i) ρ' D' G'
  | x=>Q x ρ' D' G'
 | .draw l,ρ,D,G,Q=>DrL P l ρ G fun ρ' G'=>Q .normal ρ' D G'
 | .exit id,ρ,D,G,Q=>Q (.exit id) ρ D G
 | .scope c,ρ,D,G,Q=>wp P f n ro c ρ D G Q
 | .label,ρ,D,G,Q=>Q .normal ρ D G
 | .ret,ρ,D,G,Q=>Q .ret ρ D G
 | .stuck,_,_,_,_=>False
 | s,ρ,D,G,Q=>W P f n s ro ρ D G Q
noncomputable def seqQ (P:Program) (f n:Nat) (ro:Option Nat) (b:LC) (Q:Post):Post:=fun x ρ' D' G'=>match x with
  | .normal=>wp P f n ro b ρ' D' G' Q
  | x=>Q x ρ' D' G'
def blkQ (id:Nat) (Q:Post):Post:=fun x ρ' D' G'=>match x with
  | .exit i=>if i=id then Q .normal ρ' D' G' else Q (.exit i) ρ' D' G'
  | x=>Q x ρ' D' G'
def nxQ (Nx:LEnv→List Nat→LHeap→Prop) (Q:Post):Post:=fun x ρ' D' G'=>match x with
  | .normal=>Nx ρ' D' G'
  | x=>Q x ρ' D' G'
def endK (K:LV→LHeap→Prop) (G:LHeap):List LV→Prop:=fun vs=>K (oneL vs) G
noncomputable def takK (ρ:LEnv) (rs:List RRes) (K:LV→LHeap→Prop):LHeap→Prop:=fun G2=>resL ρ G2 rs (endK K G2)
noncomputable def endQ (rs : List RRes) (K : LV → LHeap → Prop) : Post := fun x ρ D G' => match x with
   | .exit _=>False
   | _=>takeL D G' (takK ρ rs K)
def norQ (Q:Post) (D:List Nat):LEnv→LHeap→Prop:=fun ρ G=>Q .normal ρ D G
noncomputable def opsK (P:Program) (l:List LI) (K:LEnv→LHeap→Prop):LEnv→LHeap→Prop:=fun ρ' G'=>OpsL P l ρ' G' K
def itK (ρ:LEnv) (d:Option Nat) (K:LEnv→LHeap→Prop):LV→LHeap→Prop:=fun v G'=>K (updL ρ d v) G'
def atG (K:LV→LHeap→Prop) (G:LHeap):LV→Prop:=fun v=>K v G
noncomputable def drK (P:Program) (cs:List (LI×Bool)) (l:List (LI×List (LI×Bool))) (ρ:LEnv) (G:LHeap) (K:LEnv→LHeap→Prop):LEnv→LHeap→Prop:=fun ρ' G'=>cksL ρ G G' cs∧DrL P l ρ' G' K
noncomputable def tmpK (ρ:LEnv) (t:Nat) (K:List LV→Prop):List LV→Prop:=fun vs=>K (lk ρ t::vs)
def conK (v:LV) (K:List LV→Prop):List LV→Prop:=fun vs=>K (v::vs)
noncomputable def cnK (ρ:LEnv) (G:LHeap) (l:List RRes) (K:List LV→Prop):List LV→Prop:=fun cs=>resL ρ G l (conK (.agg cs) K)
theorem wp_W {P:Program} {f n:Nat} {ro:Option Nat}:∀ (s:LC) {ρ:LEnv} {D:List Nat} {G:LHeap} {Q:Post},wp P f n ro s ρ D G Q→W P f n s ro ρ D G Q
 | .skip,_,_,_,_,h=>W_skip h
 | .ops l,_,_,_,_,h=>W_ops h
 | .seq a b,_,_,_,_,h=>W_seq ((wp_W a h).post fun x ρ D G k=>by
  cases x with
  | normal=>exact wp_W b k
  | exit i=>exact k
  | ret=>exact k)
 | .cond x a b,ρ,_,_,_,h=>by
  simp only[wp] at h
  obtain⟨t,hx,h⟩:=brV_bool h
  exact W_cond hx (fun e=>wp_W a (h.1 e)) (fun e=>wp_W b (h.2 e))
 | .block id c,_,_,_,_,h=>W_block (wp_W c h)
 | .exit id,_,_,_,_,h=>W_exit h
 | .scope c,_,_,_,_,h=>W_scope (wp_W c h)
 | .label,_,_,_,_,h=>W_label h
 | .ret,_,_,_,_,h=>W_ret h
 | .stuck,_,_,_,_,h=>h.elim
 | .draw l,_,_,_,_,h=>W_draw h
 | .loop c,_,_,_,_,h=>h
 | .rangeF g ps a b,_,_,_,_,h=>h
section rules
variable {P : Program}
theorem call_body {f:Nat} {s:LC} {n:Nat} {rs:List RRes} (hf:resFn P f=some ⟨n,s.r,rs⟩) (hok:s.ok=true) {args:List LV} {G:LHeap} {K:LV→LHeap→Prop} (hn:args.length≤n)
  (h:wp P f n none s (argsL args 0) [] G (endQ rs K)):CallL P (.fn f) args G K :=
 CallL_body hf hok hn ((wp_W s h).post fun x ρ D G' k=>by
  cases x with
  | normal=>exact⟨trivial,k⟩
  | exit i=>exact k.elim
  | ret=>exact⟨trivial,k⟩)
theorem FnS.val {f:Nat} {args:List LV} {v0:LV} (hsim:v0.sim 0=true) (h:CallL P (.fn f) args [] fun v _=>v=subV [] v0):FnS P f args v0 [] :=
 .mk hsim (h.mono fun v G e=>⟨[],e,rfl,trivial⟩) (fun j ob e=>by simp at e)
theorem loop_wp {f n:Nat} {ro:Option Nat} {ρ:LEnv} {D:List Nat} {G:LHeap} {Q:Post} {s:LC} (I:LEnv→List Nat→LHeap→Nat→Prop) {N:Nat} (h0:I ρ D G N)
  (h:∀ N ρ D G,I ρ D G N→wp P f n ro s ρ D G (nxQ (fun ρ' D' G'=>∃ N',N' < N∧I ρ' D' G' N') Q)):W P f n (.loop s) ro ρ D G Q :=
 W_loop I h0 fun N ρ D G k=>wp_W s (h N ρ D G k)
theorem loop_nx {f n:Nat} {ro:Option Nat} {ρ:LEnv} {D:List Nat} {G:LHeap} {Q:Post} {s:LC} (I:LEnv→List Nat→LHeap→Nat→Prop) {N:Nat} (h0:I ρ D G N)
  (h:∀ (N:Nat) (ρ:LEnv) (D:List Nat) (G:LHeap),I ρ D G N→∀ Nx:LEnv→List Nat→LHeap→Prop,(∀ (ρ':LEnv) (D':List Nat) (G':LHeap),(∃ N',N' < N∧I ρ' D' G' N')→Nx ρ' D' G')→wp P f n ro s ρ D G (nxQ Nx Q)):W P f n (.loop s) ro ρ D G Q :=
 W_loop I h0 fun N ρ D G k=>wp_W s (h N ρ D G k (fun ρ' D' G'=>∃ N',N' < N∧I ρ' D' G' N') fun _ _ _ e=>e)
end rules
section congr
variable {P : Program} {ρ ρ' : LEnv} {G G' : LHeap} {x x' y y' : LV} {K : LV → LHeap → Prop} {Kv : LV → Prop}
@[congr] theorem W_congr {f n:Nat} {s:LC} {ro:Option Nat} {D:List Nat} {Q:Post} (h1:ρ=ρ') (h2:G=G'):W P f n s ro ρ D G Q=W P f n s ro ρ' D G' Q:=by rw[h1,h2]
@[congr] theorem wp_congr {f n:Nat} {s:LC} {ro:Option Nat} {D:List Nat} {Q:Post} (h1:ρ=ρ') (h2:G=G'):wp P f n ro s ρ D G Q=wp P f n ro s ρ' D G' Q:=by rw[h1,h2]
@[congr] theorem CallL_congr {t:LTgt} {a a':List LV} (h1:a=a') (h2:G=G'):CallL P t a G K=CallL P t a' G' K:=by rw[h1,h2]
@[congr] theorem binL_congr {op:BinOp} {g:Bool} {t:TypeId} (h1:x=x') (h2:y=y'):binL P op g t x y Kv=binL P op g t x' y' Kv:=by rw[h1,h2]
@[congr] theorem unL_congr {op:UnOp} (h1:x=x'):unL op x Kv=unL op x' Kv:=by rw[h1]
@[congr] theorem cvL_congr {k:IntKind} (h1:x=x'):cvL k x Kv=cvL k x' Kv:=by rw[h1]
@[congr] theorem readL_congr {n:Nat} {K:List LV→Prop} (h1:G=G') (h2:x=x'):readL G x n K=readL G' x' n K:=by rw[h1,h2]
@[congr] theorem read1_congr (h1:G=G') (h2:x=x'):read1 G x Kv=read1 G' x' Kv:=by rw[h1,h2]
@[congr] theorem nthL_congr {l l':List LV} {i i':Nat} (h1:l=l') (h2:i=i'):nthL l i Kv=nthL l' i' Kv:=by rw[h1,h2]
@[congr] theorem writeL_congr {r r':List LV} {K:LHeap→Prop} (h1:G=G') (h2:x=x') (h3:r=r'):writeL G x r K=writeL G' x' r' K:=by rw[h1,h2,h3]
@[congr] theorem rowL_congr {n:Nat} {K:Nat→List LV→Prop} (h1:G=G') (h2:x=x'):rowL G n x K=rowL G' n x' K:=by rw[h1,h2]
@[congr] theorem lenL_congr {K:Nat→Prop} (h1:G=G') (h2:x=x'):lenL G x K=lenL G' x' K:=by rw[h1,h2]
@[congr] theorem appL_congr {size n n':Nat} {l l':List LV} (h1:G=G') (h2:x=x') (h3:n=n') (h4:l=l'):appL G size x n l K=appL G' size x' n' l' K:=by rw[h1,h2,h3,h4]
@[congr] theorem brG_congr {A B Z:Prop} (h:x=x'):brG x A B Z=brG x' A B Z:=by rw[h]
@[congr] theorem brV_congr {A B:Prop} (h:x=x'):brV x A B=brV x' A B:=by rw[h]
end congr
theorem brV_bool' {t:Bool} {A B:Prop}:brV (.bool t) A B=brL t A B:=(rfl)
theorem brG_bool {t:Bool} {A B Z:Prop}:brG (.bool t) A B Z=brL t A B:=(rfl)
theorem brG_nil {A B Z:Prop}:brG (.tup []) A B Z=Z:=(rfl)
theorem brL_true {A B:Prop}:brL true A B=A:=by simp[brL]
theorem brL_false {A B:Prop}:brL false A B=B:=by simp[brL]
theorem brL_dec {p:Prop} [Decidable p] {A B:Prop}:brL (decide p) A B=((p→A)∧(¬ p→B)):=by simp[brL]
theorem brL_not {b:Bool} {A B:Prop}:brL (!b) A B=brL b B A:=by cases b <;> simp[brL]
theorem nthL_zero (v:LV) (l:List LV) (K:LV→Prop):nthL (v::l) 0 K=K v:=by simp[nthL]
theorem nthL_succ (v:LV) (l:List LV) (i:Nat) (K:LV→Prop):nthL (v::l) (i+1) K=nthL l i K:=by simp[nthL]
theorem nthL_map {α:Type} (f:α→LV) (d:α) (l:List α) (i:Nat) (K:LV→Prop):nthL (l.map f) i K=(i < l.length∧K (f (l.getD i d))):=by
 unfold nthL
 by_cases h:i < l.length
 ·simp[h]
 ·simp[h]
theorem nthL_u (l:List UInt64) (i:Nat) (K:LV→Prop):nthL (l.map .u) i K=(i < l.length∧K (.u (l.getD i 0))):=nthL_map _ _ _ _ _
def atC (o:Option LObj) (K:List LV→Nat→Prop):Prop:=match o with
 | some (.cells l st)=>K l st
 | _=>False
def atD (o:Option LObj) (K:List LV→Nat→Nat→Nat→Nat→Prop):Prop:=match o with
 | some (.dyn l len esz ver st)=>K l len esz ver st
 | _=>False
def cellsL (o:Option (List LV)) (K:List LV→Prop):Prop:=match o with
 | some l=>K l
 | none=>False
def pickL (c a b:LV) (K:LV→Prop):Prop:=match c with
 | .bool t=>match a,b with
  | .bool x,.bool y=>K (.bool (match t with | true=>x | false=>y))
  | x,y=>brL t (K x) (K y)
 | _=>False
def chkL (x:LV) (K:LV→Prop):Prop:=match x with
 | .ptr p i=>K (.ptr p i)
 | .dptr p k i=>K (.dptr p k i)
 | .cptr l i=>K (.cptr l i)
 | .fn (.func f) a b=>K (.fn (.func f) a b)
 | _=>False
def mkSlL (x y:LV) (K:Nat→Prop):Prop:=match x,y with
 | .i l,.i c=>l=c∧0≤l∧l≤1048576∧K l.toNat
 | _,_=>False
def bndV (x:LV) (K:Nat→Prop):Prop:=match x with
 | .i n=>0≤n∧K n.toNat
 | .u n=>K n.toNat
 | _=>False
def slL (G:LHeap) (size:Nat) (x:LV) (lo:(Nat→Prop)→Prop) (hi:Nat→(Nat→Prop)→Prop) (K:LV→Prop):Prop:=match x with
 | .nilSl=>lo fun a=>hi 0 fun b=>a=0∧b=0∧K .nilSl
 | .dy p k=>atD G[p]? fun _ len esz ver _=>k=ver∧esz=size∧lo fun a=>hi len fun b=>a≤b∧b≤len∧K (.vw p k a (b - a))
 | .vw p k l0 len=>atD G[p]? fun _ _ esz ver _=>k=ver∧esz=size∧lo fun a=>hi len fun b=>a≤b∧b≤len∧K (.vw p k (l0+a) (b - a))
 | .lst l len esz=>esz=size∧lo fun a=>hi len fun b=>a≤b∧b≤len∧K (.lst ((l.drop (a * esz)).take ((b - a) * esz)) (b - a) esz)
 | _=>False
def offL (off:Nat) (x:LV) (K:LV→Prop):Prop:=match x with
 | .ptr p i=>K (.ptr p (i+off))
 | .dptr p k i=>K (.dptr p k (i+off))
 | .cptr l i=>K (.cptr l (i+off))
 | _=>False
def ixV (G:LHeap) (size:Nat) (x:LV) (n:Int) (K:LV→Prop):Prop:=match x with
 | .dy p k=>atD G[p]? fun _ len esz ver _=>k=ver∧esz=size∧0≤n∧n < len∧K (.dptr p k (n.toNat * size))
 | .vw p k lo len=>atD G[p]? fun _ _ esz ver _=>k=ver∧esz=size∧0≤n∧n < len∧K (.dptr p k ((lo+n.toNat) * size))
 | .lst l len esz=>esz=size∧0≤n∧n < len∧K (.cptr l (n.toNat * size))
 | _=>False
def ixL (G:LHeap) (size:Nat) (x i:LV) (K:LV→Prop):Prop:=match i with
 | .i n=>ixV G size x n K
 | .u n=>ixV G size x (n.toNat:Int) K
 | _=>False
def tupL (i:Nat) (x:LV) (K:LV→Prop):Prop:=match x with
 | .tup l=>nthL l i K
 | _=>False
def maxL (mx:Bool) (x y:LV) (K:LV→Prop):Prop:=match x,y with
 | .i a,.i b=>K (.i (match mx with | true=>max a b | false=>min a b))
 | .u a,.u b=>K (.u (match mx with | true=>if a < b then b else a | false=>if b < a then b else a))
 | _,_=>False
def copyL (G:LHeap) (size:Nat) (d:LV) (n:Nat) (l:List LV) (K:LV→LHeap→Prop):Prop:=match d with
 | .dy p k=>atD G[p]? fun r len esz ver st=>k=ver∧esz=size∧K (.i (min n len:Nat)) (G.set p (.dyn (layLV r 0 (l.take (min n len * size))) len esz ver (st+1)))
 | .vw p k lo len=>atD G[p]? fun r len0 esz ver st=>k=ver∧esz=size∧(lo+len) * size≤r.length∧K (.i (min n len:Nat)) (G.set p (.dyn (layLV r (lo * size) (l.take (min n len * size))) len0 esz ver (st+1)))
 | _=>False
def goL (P:Program) (f:LV) (args:List LV) (G:LHeap) (K:LV→LHeap→Prop):Prop:=match f with
 | .fn (.func g) a b=>CallL P (.fn g) (a++args++b) G K
 | .fn (.yield p) [] _=>CallL P (.yield p) args G K
 | _=>False
section byOps
variable {P : Program} {ρ : LEnv} {G : LHeap} {K : LV → LHeap → Prop} {x y c a b s d i f : Lx} {l cs z : List LV} {ps : List (Nat × Nat × Lx)} {n size len off : Nat} {lo hi : Option Lx}
theorem OpL_move:OpL P ρ G (.move x) K=K (x.ev ρ) G:=(rfl)
theorem OpL_pick:OpL P ρ G (.pick c a b) K=pickL (c.ev ρ) (a.ev ρ) (b.ev ρ) (atG K G):=(rfl)
theorem OpL_alloc:OpL P ρ G (.alloc l) K=K (.ptr G.length 0) (G++[.cells l 0]):=(rfl)
theorem OpL_box:OpL P ρ G (.box x) K=cellsL (x.ev ρ).cells fun l=>K (.ptr G.length 0) (G++[.cells l 0]):=(rfl)
theorem OpL_build:OpL P ρ G (.build cs ps) K=cellsL (fillL ρ cs ps) fun l=>K (.agg l) G:=(rfl)
theorem OpL_buildSl:OpL P ρ G (.buildSl size len cs ps) K=cellsL (fillL ρ cs ps) fun l=>l.length=len * size∧K (.dy G.length 0) (G++[.dyn l len size 0 0]):=(rfl)
theorem OpL_load1:OpL P ρ G (.load1 x) K=read1 G (x.ev ρ) (atG K G):=(rfl)
theorem OpL_loadN:OpL P ρ G (.loadN n x) K=readL G (x.ev ρ) n fun l=>K (.agg l) G:=(rfl)
theorem OpL_store:OpL P ρ G (.store n x y) K=cellsL (y.ev ρ).cells fun l=>l.length=n∧writeL G (x.ev ρ) l fun G'=>K (.tup []) G':=(rfl)
theorem OpL_nilChk:OpL P ρ G (.nilChk x) K=chkL (x.ev ρ) (atG K G):=(rfl)
theorem OpL_bin {op:BinOp} {g:Bool} {t:TypeId}:OpL P ρ G (.bin op g t x y) K=binL P op g t (x.ev ρ) (y.ev ρ) (atG K G):=(rfl)
theorem OpL_un {op:UnOp}:OpL P ρ G (.un op x) K=unL op (x.ev ρ) (atG K G):=(rfl)
theorem OpL_cvInt {k:IntKind}:OpL P ρ G (.cvInt k x) K=cvL k (x.ev ρ) (atG K G):=(rfl)
theorem OpL_mkFunc {g:Nat} {fs gs:List Lx}:OpL P ρ G (.mkFunc g fs gs) K=K (.fn (.func g) (fs.map (·.ev ρ)) (gs.map (·.ev ρ))) G:=(rfl)
theorem OpL_mkSl:OpL P ρ G (.mkSl size z a b) K=mkSlL (a.ev ρ) (b.ev ρ) fun n=>z.length=size∧K (.dy G.length 0) (G++[.dyn (repL z n) n size 0 0]):=by
 simp only[OpL,mkSlL]
 cases a.ev ρ <;> cases b.ev ρ <;> rfl
theorem bndL_some {x:Lx} {d:Nat} {K:Nat→Prop}:bndL ρ d (some x) K=bndV (x.ev ρ) K:=(rfl)
theorem bndL_none {d:Nat} {K:Nat→Prop}:bndL ρ d none K=K d:=(rfl)
theorem OpL_slSl:OpL P ρ G (.slSl size x lo hi) K=slL G size (x.ev ρ) (fun k=>bndL ρ 0 lo k) (fun d k=>bndL ρ d hi k) (atG K G):=by
 simp only[OpL,slL,atD]
 cases x.ev ρ <;> try rfl
 all_goals (cases G[_]? <;> try rfl)
theorem OpL_fieldAddr:OpL P ρ G (.fieldAddr off x) K=offL off (x.ev ρ) (atG K G):=(rfl)
theorem OpL_ixAddr:OpL P ρ G (.ixAddr size x i) K=ixL G size (x.ev ρ) (i.ev ρ) (atG K G):=by
 simp only[OpL,ixL,ixV,ixO,atD]
 cases i.ev ρ <;> try rfl
theorem OpL_extract:OpL P ρ G (.extract n x) K=tupL n (x.ev ρ) (atG K G):=(rfl)
theorem OpL_lenSl:OpL P ρ G (.lenSl x) K=lenL G (x.ev ρ) fun n=>K (.i n) G:=(rfl)
theorem OpL_maxi {g:Bool}:OpL P ρ G (.maxi g x y) K=maxL g (x.ev ρ) (y.ev ρ) (atG K G):=(rfl)
theorem OpL_appG:OpL P ρ G (.appG size s x) K=rowL G size (x.ev ρ) fun n l=>n≤1048576∧appL G size (s.ev ρ) n l K:=(rfl)
theorem OpL_copy:OpL P ρ G (.copy size d x) K=rowL G size (x.ev ρ) fun n l=>copyL G size (d.ev ρ) n l K:=by
 simp only[OpL,copyL,atD]
 congr 1
theorem OpL_callV {args:List Lx}:OpL P ρ G (.callV f args) K=goL P (f.ev ρ) (args.map (·.ev ρ)) G K:=(rfl)
end byOps
section opened
variable {P : Program} {G : LHeap} {p k i n size lo len off esz : Nat} {l r new : List LV} {K : List LV → Prop} {K1 : LV → Prop} {KG : LHeap → Prop} {KN : Nat → Prop} {KR : Nat → List LV → Prop} {KV : LV → LHeap → Prop} {KS : List UInt8 → Prop} {lof mxf : (Nat → Prop) → Prop} {hif : Nat → (Nat → Prop) → Prop}
theorem atC_some {l:List LV} {st:Nat} {K:List LV→Nat→Prop}:atC (some (.cells l st)) K=K l st:=(rfl)
theorem atD_some {l:List LV} {len esz ver st:Nat} {K:List LV→Nat→Nat→Nat→Nat→Prop}:atD (some (.dyn l len esz ver st)) K=K l len esz ver st:=(rfl)
theorem cellsL_some:cellsL (some l) K=K l:=(rfl)
theorem pickL_true {a b:LV}:pickL (.bool true) a b K1=K1 a:=by cases a <;> cases b <;> simp[pickL,brL]
theorem pickL_false {a b:LV}:pickL (.bool false) a b K1=K1 b:=by cases a <;> cases b <;> simp[pickL,brL]
theorem pickL_and {t x:Bool}:pickL (.bool t) (.bool x) (.bool false) K1=K1 (.bool (t && x)):=by cases t <;> rfl
theorem pickL_or {t x:Bool}:pickL (.bool t) (.bool true) (.bool x) K1=K1 (.bool (t || x)):=by cases t <;> rfl
theorem chkL_ptr:chkL (.ptr p i) K1=K1 (.ptr p i):=(rfl)
theorem mkSlL_i {a b:Int}:mkSlL (.i a) (.i b) KN=(a=b∧0≤a∧a≤1048576∧KN a.toNat):=(rfl)
theorem bndV_i {a:Int}:bndV (.i a) KN=(0≤a∧KN a.toNat):=(rfl)
theorem slL_nil:slL G size .nilSl lof hif K1=(lof fun a=>hif 0 fun b=>a=0∧b=0∧K1 .nilSl):=(rfl)
theorem slL_dy:slL G size (.dy p k) lof hif K1=(atD G[p]? fun _ len esz ver _=>k=ver∧esz=size∧lof fun a=>hif len fun b=>a≤b∧b≤len∧K1 (.vw p k a (b - a))):=(rfl)
theorem slL_vw:slL G size (.vw p k lo len) lof hif K1=(atD G[p]? fun _ _ esz ver _=>k=ver∧esz=size∧lof fun a=>hif len fun b=>a≤b∧b≤len∧K1 (.vw p k (lo+a) (b - a))):=(rfl)
theorem slL_lst:slL G size (.lst l len esz) lof hif K1=(esz=size∧lof fun a=>hif len fun b=>a≤b∧b≤len∧K1 (.lst ((l.drop (a * esz)).take ((b - a) * esz)) (b - a) esz)):=(rfl)
theorem offL_ptr:offL off (.ptr p i) K1=K1 (.ptr p (i+off)):=(rfl)
theorem offL_cptr:offL off (.cptr l i) K1=K1 (.cptr l (i+off)):=(rfl)
theorem ixL_i {x:LV} {n:Int}:ixL G size x (.i n) K1=ixV G size x n K1:=(rfl)
theorem ixL_u {x:LV} {n:UInt64}:ixL G size x (.u n) K1=ixV G size x (n.toNat:Int) K1:=(rfl)
theorem ixV_dy {n:Int}:ixV G size (.dy p k) n K1=(atD G[p]? fun _ len esz ver _=>k=ver∧esz=size∧0≤n∧n < len∧K1 (.dptr p k (n.toNat * size))):=(rfl)
theorem ixV_vw {n:Int}:ixV G size (.vw p k lo len) n K1=(atD G[p]? fun _ _ esz ver _=>k=ver∧esz=size∧0≤n∧n < len∧K1 (.dptr p k ((lo+n.toNat) * size))):=(rfl)
theorem ixV_lst {n:Int}:ixV G size (.lst l len esz) n K1=(esz=size∧0≤n∧n < len∧K1 (.cptr l (n.toNat * size))):=(rfl)
theorem tupL_tup:tupL i (.tup l) K1=nthL l i K1:=(rfl)
theorem maxL_it {a b:Int}:maxL true (.i a) (.i b) K1=K1 (.i (max a b)):=(rfl)
theorem maxL_if {a b:Int}:maxL false (.i a) (.i b) K1=K1 (.i (min a b)):=(rfl)
theorem copyL_dy {n:Nat}:copyL G size (.dy p k) n l KV=(atD G[p]? fun r len esz ver st=>k=ver∧esz=size∧KV (.i (min n len:Nat)) (G.set p (.dyn (layLV r 0 (l.take (min n len * size))) len esz ver (st+1)))):=(rfl)
theorem copyL_vw {n:Nat}:copyL G size (.vw p k lo len) n l KV=(atD G[p]? fun r len0 esz ver st=>k=ver∧esz=size∧(lo+len) * size≤r.length∧KV (.i (min n len:Nat)) (G.set p (.dyn (layLV r (lo * size) (l.take (min n len * size))) len0 esz ver (st+1)))):=(rfl)
theorem goL_fn {g:Nat} {a b args:List LV}:goL P (.fn (.func g) a b) args G KV=CallL P (.fn g) (a++args++b) G KV:=(rfl)
theorem readL_ptr:readL G (.ptr p i) n K=atC G[p]? fun l _=>i+n≤l.length∧K ((l.drop i).take n):=by
 simp only[readL,atC]; cases G[p]? <;> try rfl
theorem readL_cptr:readL G (.cptr l i) n K=(i+n≤l.length∧K ((l.drop i).take n)):=(rfl)
theorem read1_ptr:read1 G (.ptr p i) K1=atC G[p]? fun l _=>nthL l i K1:=by
 simp only[read1,atC]; cases G[p]? <;> try rfl
theorem read1_dptr:read1 G (.dptr p k i) K1=atD G[p]? fun l _ _ ver _=>k=ver∧nthL l i K1:=by
 simp only[read1,atD]; cases G[p]? <;> try rfl
theorem read1_cptr:read1 G (.cptr l i) K1=nthL l i K1:=(rfl)
theorem writeL_ptr:writeL G (.ptr p i) r KG=atC G[p]? fun l st=>i+r.length≤l.length∧KG (G.set p (.cells (layLV l i r) (st+1))):=by
 simp only[writeL,atC]; cases G[p]? <;> try rfl
theorem writeL_dptr:writeL G (.dptr p k i) r KG=atD G[p]? fun l len esz ver st=>k=ver∧i+r.length≤l.length∧KG (G.set p (.dyn (layLV l i r) len esz ver (st+1))):=by
 simp only[writeL,atD]; cases G[p]? <;> try rfl
theorem rowL_dy:rowL G size (.dy p k) KR=atD G[p]? fun l len esz ver _=>k=ver∧esz=size∧KR len l:=by
 simp only[rowL,atD]; cases G[p]? <;> try rfl
theorem rowL_lst:rowL G size (.lst l len esz) KR=(esz=size∧KR len l):=(rfl)
theorem lenL_dy:lenL G (.dy p k) KN=atD G[p]? fun _ len _ ver _=>k=ver∧KN len:=by
 simp only[lenL,atD]; cases G[p]? <;> try rfl
theorem lenL_vw:lenL G (.vw p k lo len) KN=atD G[p]? fun _ _ _ ver _=>k=ver∧KN len:=by
 simp only[lenL,atD]; cases G[p]? <;> try rfl
theorem lenL_lst:lenL G (.lst l len esz) KN=KN len:=(rfl)
theorem appL_nil:appL G size .nilSl n new KV=KV (.dy G.length 0) (G++[.dyn new n size 0 0]):=(rfl)
theorem appL_dy:appL G size (.dy p k) n new KV=atD G[p]? fun l len esz ver st=>k=ver∧(esz=size∧0 < esz)∧len≤1000000000∧KV (.dy p (ver+1)) (G.set p (.dyn (l++new) (len+n) esz (ver+1) (st+1))):=by
 simp only[appL,atD]; cases G[p]? <;> try rfl
theorem appL_vw:appL G size (.vw p k lo len) n new KV=atD G[p]? fun l len0 esz ver st=>k=ver∧(esz=size∧lo=0∧0 < n)∧len≤1000000000∧if (len+n) * esz≤l.length then KV (.vw p k 0 (len+n)) (G.set p (.dyn (layLV l (len * esz) new) len0 esz ver (st+1)))∧KV (.dy G.length 0) (G++[.dyn (l.take (len * esz)++new) (len+n) size 0 0]) else len=len0∧0 < esz∧KV (.dy p (ver+1)) (G.set p (.dyn (l++new) (len+n) esz (ver+1) (st+1)))∧KV (.dy G.length 0) (G++[.dyn (l++new) (len+n) size 0 0]):=by
 simp only[appL,atD]; cases G[p]? <;> try rfl
variable {op : BinOp} {g : Bool} {t : TypeId}
theorem binL_uu {a b:UInt64}:binL P op g t (.u a) (.u b) K1=uuL op a b K1:=(rfl)
theorem binL_ii {a b:Int}:binL P op g t (.i a) (.i b) K1=iiL op a b K1:=(rfl)
theorem unL_not {b:Bool}:unL .not (.bool b) K1=K1 (.bool (!b)):=(rfl)
theorem cvL_ui {a:Int}:cvL .u64 (.i a) K1=K1 (.u (iU a)):=(rfl)
theorem cvL_iu {a:UInt64}:cvL .i64 (.u a) K1=(a.toNat < 9223372036854775808∧K1 (.i a.toNat)):=(rfl)
end opened
section code
variable {P : Program} {f n : Nat} {ro : Option Nat} {ρ ρ' : LEnv} {D : List Nat} {G G' : LHeap} {Q : Post} {a b c : LC} {x : Lx} {id i t d : Nat} {l : List LI} {ds : List (LI × List (LI × Bool))} {cs : List (LI × Bool)} {K : LEnv → LHeap → Prop} {KV : LV → LHeap → Prop} {KL : List LV → Prop} {KG : LHeap → Prop} {Nx : LEnv → List Nat → LHeap → Prop} {rs : List RRes} {o : LOp} {od : Option Nat} {v w : LV} {vs : List LV} {it : LI}
theorem wp_skip:wp P f n ro .skip ρ D G Q=Q .normal ρ D G:=(rfl)
theorem wp_ops:wp P f n ro (.ops l) ρ D G Q=OpsL P l ρ G (norQ Q D):=(rfl)
theorem wp_seq:wp P f n ro (.seq a b) ρ D G Q=wp P f n ro a ρ D G (seqQ P f n ro b Q):=(rfl)
theorem wp_cond:wp P f n ro (.cond x a b) ρ D G Q=brV (x.ev ρ) (wp P f n ro a ρ D G Q) (wp P f n ro b ρ D G Q):=(rfl)
theorem wp_block:wp P f n ro (.block id c) ρ D G Q=wp P f n ro c ρ D G (blkQ id Q):=(rfl)
theorem wp_draw:wp P f n ro (.draw ds) ρ D G Q=DrL P ds ρ G (norQ Q D):=(rfl)
theorem wp_exit:wp P f n ro (.exit id) ρ D G Q=Q (.exit id) ρ D G:=(rfl)
theorem wp_ret:wp P f n ro .ret ρ D G Q=Q .ret ρ D G:=(rfl)
theorem wp_loop:wp P f n ro (.loop c) ρ D G Q=W P f n (.loop c) ro ρ D G Q:=(rfl)
theorem seqQ_n:seqQ P f n ro b Q .normal ρ D G=wp P f n ro b ρ D G Q:=(rfl)
theorem seqQ_e:seqQ P f n ro b Q (.exit i) ρ D G=Q (.exit i) ρ D G:=(rfl)
theorem seqQ_r:seqQ P f n ro b Q .ret ρ D G=Q .ret ρ D G:=(rfl)
theorem blkQ_n:blkQ id Q .normal ρ D G=Q .normal ρ D G:=(rfl)
theorem blkQ_e:blkQ id Q (.exit i) ρ D G=if i=id then Q .normal ρ D G else Q (.exit i) ρ D G:=(rfl)
theorem blkQ_r:blkQ id Q .ret ρ D G=Q .ret ρ D G:=(rfl)
theorem nxQ_n:nxQ Nx Q .normal ρ D G=Nx ρ D G:=(rfl)
theorem nxQ_e:nxQ Nx Q (.exit i) ρ D G=Q (.exit i) ρ D G:=(rfl)
theorem nxQ_r:nxQ Nx Q .ret ρ D G=Q .ret ρ D G:=(rfl)
theorem endQ_n:endQ rs KV .normal ρ D G=takeL D G (takK ρ rs KV):=(rfl)
theorem endQ_r:endQ rs KV .ret ρ D G=takeL D G (takK ρ rs KV):=(rfl)
theorem norQ_app:norQ Q D ρ G=Q .normal ρ D G:=(rfl)
theorem takeL_nil:takeL [] G KG=KG G:=(rfl)
theorem takK_app:takK ρ rs KV G=resL ρ G rs (endK KV G):=(rfl)
theorem endK_app:endK KV G vs=KV (oneL vs) G:=(rfl)
theorem resL_nil:resL ρ G [] KL=KL []:=(rfl)
theorem resL_tmp:resL ρ G (.tmp t::rs) KL=resL ρ G rs (tmpK ρ t KL):=(rfl)
theorem resL_cN:resL ρ G (.cellN t n::rs) KL=readL G (lk ρ t) n (cnK ρ G rs KL):=(rfl)
theorem tmpK_app:tmpK ρ t KL vs=KL (lk ρ t::vs):=(rfl)
theorem conK_app:conK v KL vs=KL (v::vs):=(rfl)
theorem cnK_app:cnK ρ G rs KL vs=resL ρ G rs (conK (.agg vs) KL):=(rfl)
theorem oneL_1:oneL [v]=v:=(rfl)
theorem oneL_0:oneL []=.tup []:=(rfl)
theorem oneL_2:oneL (v::w::vs)=.tup (v::w::vs):=(rfl)
theorem OpsL_nil:OpsL P [] ρ G K=K ρ G:=(rfl)
theorem OpsL_cons:OpsL P (it::l) ρ G K=ItL P it ρ G (opsK P l K):=(rfl)
theorem opsK_app:opsK P l K ρ G=OpsL P l ρ G K:=(rfl)
theorem ItL_n:ItL P ⟨od,none,o⟩ ρ G K=OpL P ρ G o (itK ρ od K):=(rfl)
theorem ItL_t:ItL P ⟨od,some (t,true),o⟩ ρ G K=brG (lk ρ t) (OpL P (setL t (.bool true) ρ) G o (itK (setL t (.bool true) ρ) od K)) (itK (setL t (.bool false) ρ) od K (.tup []) G) (itK ρ od K (.tup []) G):=(rfl)
theorem ItL_f:ItL P ⟨od,some (t,false),o⟩ ρ G K=brG (lk ρ t) (itK (setL t (.bool true) ρ) od K (.tup []) G) (OpL P (setL t (.bool false) ρ) G o (itK (setL t (.bool false) ρ) od K)) (itK ρ od K (.tup []) G):=(rfl)
theorem itK_some:itK ρ (some d) K v G=K ((d,v)::ρ) G:=(rfl)
theorem itK_none:itK ρ none K v G=K ρ G:=(rfl)
theorem atG_app:atG KV G v=KV v G:=(rfl)
theorem DrL_nil:DrL P [] ρ G K=K ρ G:=(rfl)
theorem DrL_cons:DrL P ((it,cs)::ds) ρ G K=ItL P it ρ G (drK P cs ds ρ G K):=(rfl)
theorem drK_app:drK P cs ds ρ G K ρ' G'=(cksL ρ G G' cs∧DrL P ds ρ' G' K):=(rfl)
theorem ev_t:(Lx.t i).ev ρ=lk ρ i:=(rfl)
theorem ev_c:(Lx.c v).ev ρ=v:=(rfl)
theorem argsL_nil:argsL [] i=[]:=(rfl)
theorem argsL_cons:argsL (v::vs) i=(i,v)::argsL vs (i+1):=(rfl)
theorem setL_cons:setL t v ((d,w)::ρ)=if t=d then (d,v)::ρ else (d,w)::setL t v ρ:=(rfl)
end code
section nums
variable {K : LV → Prop}
theorem uuL_add {a b:UInt64}:uuL .add a b K=K (.u (addU a b)):=(rfl)
theorem uuL_sub {a b:UInt64}:uuL .sub a b K=K (.u (subU a b)):=(rfl)
theorem uuL_mul {a b:UInt64}:uuL .mul a b K=K (.u (mulU a b)):=(rfl)
theorem uuL_rem {a b:UInt64}:uuL .rem a b K=(b≠0∧K (.u (modU a b))):=(rfl)
theorem uuL_shl {a b:UInt64}:uuL .shl a b K=K (.u (shlU a b.toNat)):=(rfl)
theorem uuL_shr {a b:UInt64}:uuL .shr a b K=K (.u (shrU a b.toNat)):=(rfl)
theorem uuL_and {a b:UInt64}:uuL .and a b K=K (.u (andU a b)):=(rfl)
theorem uuL_or {a b:UInt64}:uuL .or a b K=K (.u (orU a b)):=(rfl)
theorem uuL_xor {a b:UInt64}:uuL .xor a b K=K (.u (xorU a b)):=(rfl)
theorem uuL_eql {a b:UInt64}:uuL .eql a b K=K (.bool (decide (a=b))):=(rfl)
theorem uuL_neq {a b:UInt64}:uuL .neq a b K=K (.bool (decide (a≠b))):=(rfl)
theorem uuL_lss {a b:UInt64}:uuL .lss a b K=K (.bool (decide (a < b))):=(rfl)
theorem uuL_leq {a b:UInt64}:uuL .leq a b K=K (.bool (decide (a≤b))):=(rfl)
theorem uuL_gtr {a b:UInt64}:uuL .gtr a b K=K (.bool (decide (b < a))):=(rfl)
theorem uuL_geq {a b:UInt64}:uuL .geq a b K=K (.bool (decide (b≤a))):=(rfl)
theorem iiL_add {a b:Int}:iiL .add a b K=(inI (a+b)∧K (.i (a+b))):=(rfl)
theorem iiL_sub {a b:Int}:iiL .sub a b K=(inI (a - b)∧K (.i (a - b))):=(rfl)
theorem iiL_mul {a b:Int}:iiL .mul a b K=(inI (a * b)∧K (.i (a * b))):=(rfl)
theorem iiL_quo {a b:Int}:iiL .quo a b K=(b≠0∧inI (a.tdiv b)∧K (.i (a.tdiv b))):=(rfl)
theorem iiL_rem {a b:Int}:iiL .rem a b K=(b≠0∧K (.i (a.tmod b))):=(rfl)
theorem iiL_eql {a b:Int}:iiL .eql a b K=K (.bool (decide (a=b))):=(rfl)
theorem iiL_neq {a b:Int}:iiL .neq a b K=K (.bool (decide (a≠b))):=(rfl)
theorem iiL_lss {a b:Int}:iiL .lss a b K=K (.bool (decide (a < b))):=(rfl)
theorem iiL_leq {a b:Int}:iiL .leq a b K=K (.bool (decide (a≤b))):=(rfl)
theorem iiL_gtr {a b:Int}:iiL .gtr a b K=K (.bool (decide (b < a))):=(rfl)
theorem iiL_geq {a b:Int}:iiL .geq a b K=K (.bool (decide (b≤a))):=(rfl)
end nums
section congr2
variable {P : Program} {G G' : LHeap} {x x' y y' z z' : LV} {K : LV → LHeap → Prop} {Kv : LV → Prop} {n n' size : Nat}
@[congr] theorem atC_congr {o o':Option LObj} {K:List LV→Nat→Prop} (h:o=o'):atC o K=atC o' K:=by rw[h]
@[congr] theorem atD_congr {o o':Option LObj} {K:List LV→Nat→Nat→Nat→Nat→Prop} (h:o=o'):atD o K=atD o' K:=by rw[h]
@[congr] theorem cellsL_congr {o o':Option (List LV)} {K:List LV→Prop} (h:o=o'):cellsL o K=cellsL o' K:=by rw[h]
@[congr] theorem pickL_congr (h1:x=x') (h2:y=y') (h3:z=z'):pickL x y z Kv=pickL x' y' z' Kv:=by rw[h1,h2,h3]
@[congr] theorem chkL_congr (h1:x=x'):chkL x Kv=chkL x' Kv:=by rw[h1]
@[congr] theorem mkSlL_congr {K:Nat→Prop} (h1:x=x') (h2:y=y'):mkSlL x y K=mkSlL x' y' K:=by rw[h1,h2]
@[congr] theorem bndV_congr {K:Nat→Prop} (h1:x=x'):bndV x K=bndV x' K:=by rw[h1]
@[congr] theorem slL_congr {lo:(Nat→Prop)→Prop} {hi:Nat→(Nat→Prop)→Prop} (h1:G=G') (h2:x=x'):slL G size x lo hi Kv=slL G' size x' lo hi Kv:=by rw[h1,h2]
@[congr] theorem offL_congr (h1:x=x'):offL n x Kv=offL n x' Kv:=by rw[h1]
@[congr] theorem ixL_congr (h1:G=G') (h2:x=x') (h3:y=y'):ixL G size x y Kv=ixL G' size x' y' Kv:=by rw[h1,h2,h3]
@[congr] theorem ixV_congr {i i':Int} (h1:G=G') (h2:x=x') (h3:i=i'):ixV G size x i Kv=ixV G' size x' i' Kv:=by rw[h1,h2,h3]
@[congr] theorem tupL_congr (h1:x=x'):tupL n x Kv=tupL n x' Kv:=by rw[h1]
@[congr] theorem maxL_congr {g:Bool} (h2:x=x') (h3:y=y'):maxL g x y Kv=maxL g x' y' Kv:=by rw[h2,h3]
@[congr] theorem copyL_congr {l l':List LV} (h1:G=G') (h2:x=x') (h3:n=n') (h4:l=l'):copyL G size x n l K=copyL G' size x' n' l' K:=by rw[h1,h2,h3,h4]
@[congr] theorem goL_congr {l l':List LV} (h1:x=x') (h2:l=l') (h3:G=G'):goL P x l G K=goL P x' l' G' K:=by rw[h1,h2,h3]
end congr2
def LU (a:List UInt64):LV:=.lst (a.map .u) a.length 1
theorem dat_us (a:List UInt64):dats (a.map LV.u)=true:=dats_map (fun _=>rfl) a
theorem dat_app (a b:List LV):dats (a++b)=(dats a && dats b):=by
 induction a with
 | nil=>simp[dats]
 | cons x a ih=>simp[dats,ih,Bool.and_assoc]
theorem layLV_zero (l r:List LV):layLV l 0 r=r++l.drop r.length:=by simp[layLV]
theorem layLV_succ (v:LV) (l r:List LV) (i:Nat):layLV (v::l) (i+1) r=v::layLV l i r:=by
 unfold layLV
 rw[show i+1+r.length=(i+r.length)+1 from by omega]
 simp
attribute [simp] dat_app cksL ckL ckC keptL tgtL LObj.stp LObj.st nthL_zero nthL_succ nthL_u lk_nil lk_cons fillL LV.cells subV subVs SelR notP shV shVs frV frVs bor bors LV.dat dats LV.scal LV.sim sims dat_us layLV_zero layLV_succ LU inI
attribute [simp] brV_bool' brG_bool brG_nil brL_true brL_false brL_dec brL_not
attribute [simp ↓] brV_bool' brG_bool brG_nil brL_true brL_false brL_not nthL_zero nthL_succ nthL_u
attribute [simp ↓] OpL_move OpL_pick OpL_alloc OpL_box OpL_build OpL_buildSl OpL_load1 OpL_loadN OpL_store OpL_nilChk OpL_bin OpL_un OpL_cvInt OpL_mkFunc OpL_mkSl bndL_some bndL_none OpL_slSl OpL_fieldAddr OpL_ixAddr OpL_extract OpL_lenSl OpL_maxi OpL_appG OpL_copy OpL_callV
attribute [simp] atC_some atD_some cellsL_some pickL_true pickL_false pickL_and pickL_or chkL_ptr mkSlL_i bndV_i slL_nil slL_dy slL_vw slL_lst offL_ptr offL_cptr ixL_i ixL_u ixV_dy ixV_vw ixV_lst tupL_tup maxL_it maxL_if copyL_dy copyL_vw goL_fn readL_ptr readL_cptr read1_ptr read1_dptr read1_cptr writeL_ptr writeL_dptr rowL_dy rowL_lst lenL_dy lenL_vw lenL_lst appL_nil appL_dy appL_vw binL_uu binL_ii unL_not cvL_ui cvL_iu
attribute [simp ↓] atC_some atD_some cellsL_some pickL_true pickL_false pickL_and pickL_or chkL_ptr mkSlL_i bndV_i slL_nil slL_dy slL_vw slL_lst offL_ptr offL_cptr ixL_i ixL_u ixV_dy ixV_vw ixV_lst tupL_tup maxL_it maxL_if copyL_dy copyL_vw goL_fn readL_ptr readL_cptr read1_ptr read1_dptr read1_cptr writeL_ptr writeL_dptr rowL_dy rowL_lst lenL_dy lenL_vw lenL_lst appL_nil appL_dy appL_vw binL_uu binL_ii unL_not cvL_ui cvL_iu
attribute [simp] wp_skip wp_ops wp_seq wp_cond wp_block wp_draw wp_exit wp_ret wp_loop seqQ_n seqQ_e seqQ_r blkQ_n blkQ_e blkQ_r nxQ_n nxQ_e nxQ_r endQ_n endQ_r norQ_app takeL_nil takK_app endK_app resL_nil resL_tmp resL_cN tmpK_app conK_app cnK_app oneL_1 oneL_0 oneL_2 OpsL_nil OpsL_cons opsK_app ItL_n ItL_t ItL_f itK_some itK_none atG_app DrL_nil DrL_cons drK_app ev_t ev_c argsL_nil argsL_cons setL_cons uuL_add uuL_sub uuL_mul uuL_rem uuL_shl uuL_shr uuL_and uuL_or uuL_xor uuL_eql uuL_neq uuL_lss uuL_leq uuL_gtr uuL_geq iiL_add iiL_sub iiL_mul iiL_quo iiL_rem iiL_eql iiL_neq iiL_lss iiL_leq iiL_gtr iiL_geq
attribute [simp ↓] wp_skip wp_ops wp_seq wp_cond wp_block wp_draw wp_exit wp_ret wp_loop seqQ_n seqQ_e seqQ_r blkQ_n blkQ_e blkQ_r nxQ_n nxQ_e nxQ_r endQ_n endQ_r norQ_app takeL_nil takK_app endK_app resL_nil resL_tmp resL_cN tmpK_app conK_app cnK_app oneL_1 oneL_0 oneL_2 OpsL_nil OpsL_cons opsK_app ItL_n ItL_t ItL_f itK_some itK_none atG_app DrL_nil DrL_cons drK_app ev_t ev_c argsL_nil argsL_cons setL_cons uuL_add uuL_sub uuL_mul uuL_rem uuL_shl uuL_shr uuL_and uuL_or uuL_xor uuL_eql uuL_neq uuL_lss uuL_leq uuL_gtr uuL_geq iiL_add iiL_sub iiL_mul iiL_quo iiL_rem iiL_eql iiL_neq iiL_lss iiL_leq iiL_gtr iiL_geq
section maps
variable {P : Program} {ρ : LEnv} {G G' : LHeap} {K : LV → LHeap → Prop} {K1 : LV → Prop} {x i m k v z x' k' : LV} {X I M V : Lx} {d : TypeDesc} {ok : Bool} {es es' : List (LV × LV × Nat)} {KE : List (LV × LV × Nat) → Prop} {KB : List (LV × LV × Nat) → Bool → Prop} {KH : LHeap → Prop} {p ck st n size : Nat} {lo hi : Option Lx} {A B : Prop} {lof : (Nat → Prop) → Prop} {hif : Nat → (Nat → Prop) → Prop}
end maps
abbrev LI.z (d:Nat) (o:LOp):LI:=⟨some d,none,o⟩
abbrev LI.m (d t:Nat):LI:=⟨some d,none,.move (.t t)⟩
abbrev LI.l (d t:Nat):LI:=⟨some d,none,.load1 (.t t)⟩
abbrev LI.f (d n t:Nat):LI:=⟨some d,none,.fieldAddr n (.t t)⟩
end Go.Sv
namespace Go.Sv
open Go.RowKit (Below)
mutual
inductive Sh where
 | bool
 | u
 | b
 | i
 | k (k:IntKind)
 | str
 | sl (s:Sh)
 | st (l:ShL)
inductive ShL where
 | nil
 | cons (s:Sh) (l:ShL)
end
mutual
def Sh.n:Sh→Nat
 | .st l=>l.n
 | _=>1
def ShL.n:ShL→Nat
 | .nil=>0
 | .cons s l=>s.n+l.n
end
mutual
def Sh.T:Sh→Type
 | .bool=>Bool
 | .u=>UInt64
 | .b=>UInt8
 | .i=>{ n:Int // inI n }
 | .k _=>Int
 | .str=>{ l:List UInt8 // l.length≤maxLen }
 | .sl s=>{ l:List s.T // l.length≤maxLen }
 | .st l=>l.T
def ShL.T:ShL→Type
 | .nil=>Unit
 | .cons s l=>s.T×l.T
end
mutual
def Sh.enc:(s:Sh)→s.T→List LV
 | .bool,x=>[.bool x]
 | .u,x=>[.u x]
 | .b,x=>[.b x]
 | .i,x=>[.i x.1]
 | .k k,x=>[.int k x]
 | .str,x=>[.str x.1]
 | .sl s,x=>[.lst (x.1.flatMap s.enc) x.1.length s.n]
 | .st l,x=>l.enc x
def ShL.enc:(l:ShL)→l.T→List LV
 | .nil,_=>[]
 | .cons s l,x=>s.enc x.1++l.enc x.2
end
mutual
theorem Sh.enc_length:∀ (s:Sh) (x:s.T),(s.enc x).length=s.n
 | .bool,_=>rfl
 | .u,_=>rfl
 | .b,_=>rfl
 | .i,_=>rfl
 | .k _,_=>rfl
 | .str,_=>rfl
 | .sl _,_=>rfl
 | .st l,x=>by simp only[Sh.enc,Sh.n]; exact ShL.enc_length l x
theorem ShL.enc_length:∀ (l:ShL) (x:l.T),(l.enc x).length=l.n
 | .nil,_=>rfl
 | .cons s l,x=>by simp only[ShL.enc,ShL.n,List.length_append,Sh.enc_length s x.1,ShL.enc_length l x.2]
end
noncomputable def shFs (P:Program) (f:TypeId→Option Sh) (tot:Nat):List Field→Nat→Option ShL
 | [],off=>if off=tot then some .nil else none
 | fd::l,off=>match f fd.type with
  | none=>none
  | some s=>if fd.offset=off∧P.cellsOf fd.type=s.n then match shFs P f tot l (off+s.n) with
   | none=>none
   | some r=>some (.cons s r)
   else none
noncomputable def shOf (P:Program):Nat→TypeId→Option Sh
 | 0,_=>none
 | d+1,t=>match P.underlying t with
  | some .bool=>some .bool
  | some (.int k)=>match k with
   | .u64=>some .u
   | .u8=>some .b
   | .i64=>some .i
   | k=>some (.k k)
  | some .string=>some .str
  | some (.slice e)=>match shOf P d e with
   | none=>none
   | some s=>if P.cellsOf e=s.n∧0 < s.n then some (.sl s) else none
  | some (.struct fs)=>match shFs P (shOf P d) (P.cellsOf t) fs.toList 0 with
   | none=>none
   | some l=>some (.st l)
  | _=>none
noncomputable def shsOf (P:Program) (d:Nat):List TypeId→Option ShL
 | []=>some .nil
 | t::l=>match shOf P d t with
  | none=>none
  | some s=>if P.cellsOf t=s.n then match shsOf P d l with
   | none=>none
   | some r=>some (.cons s r)
   else none
theorem Rel.ro {W:World} {C:CM} {H:Heap} (h:Rel W C H W) {L:Loc} (hL:L.b < W.heap.size) {l:List AV} (hob:C.le (C.ext H.next 0 L)→ObjR W.heap.size (C.ext H.next 0 L) W H.next (.cells (ofListFrom l 0 .e) l.length 0 true)) :
  Rel W (C.ext H.next 0 L) (H.push (.cells (ofListFrom l 0 .e) l.length 0 true)) W∧C.le (C.ext H.next 0 L):=by
 have hle:C.le (C.ext H.next 0 L):=CM.le_ext _ (h.next_none 0) (.inr (Nat.le_of_eq h.nx))
 refine⟨⟨by show max C.nx (H.next+1)=H.next+1; rw[h.nx]; exact Nat.max_eq_right (Nat.le_succ _),h.low,?_,?_,?_,?_,?_⟩,hle⟩
 ·intro o v L' hL'
  show o < H.next+1
  by_cases e:o=H.next∧v=0
  ·omega
  ·rw[CM.ext_ne _ _ e] at hL'; have:=h.fresh _ _ _ hL'; omega
 ·intro o v L' hL'
  by_cases e:o=H.next∧v=0
  ·obtain⟨rfl,rfl⟩:=e; rw[CM.ext_same] at hL'; cases hL'; exact hL
  ·rw[CM.ext_ne _ _ e] at hL'; exact h.lt _ _ _ hL'
 ·intro o v L1 o' v' L2 h1 h2 hb hB
  by_cases e:o=H.next∧v=0
  ·obtain⟨rfl,rfl⟩:=e; rw[CM.ext_same] at h1; cases h1; omega
  ·by_cases e':o'=H.next∧v'=0
   ·obtain⟨rfl,rfl⟩:=e'; rw[CM.ext_same] at h2; cases h2; omega
   ·rw[CM.ext_ne _ _ e] at h1; rw[CM.ext_ne _ _ e'] at h2; exact h.excl _ _ _ _ _ _ h1 h2 hb hB
 ·intro o ob ho hg
  by_cases e:o=H.next
  ·subst e; rw[Heap.get_push_same] at hg; cases hg; exact hob hle
  ·have ho':o < H.next:=by have:o < H.next+1:=ho; omega
   rw[Heap.get_push_ne _ _ ho'] at hg
   refine (h.obj _ _ ho' hg).frame hle (fun v L' hL'=>?_) (fun _ _ _=>rfl)
   rwa [CM.ext_ne _ _ (by omega)] at hL'
 ·intro o c len ver ro ho hg v L' hL'
  by_cases e:o=H.next
  ·subst e
   by_cases ev:v=0
   ·omega
   ·rw[CM.ext_ne _ _ (by omega)] at hL'; have:=h.fresh _ _ _ hL'; omega
  ·have ho':o < H.next:=by have:o < H.next+1:=ho; omega
   rw[Heap.get_push_ne _ _ ho'] at hg
   rw[CM.ext_ne _ _ (by omega)] at hL'
   exact h.top _ _ _ _ _ ho' hg _ _ hL'
def outC (H:Heap):Cx:=⟨[],fun o=>o < H.next,H⟩
def Grow (H H':Heap):Prop:=H.next≤H'.next∧∀ o,o < H.next→H'.get o=H.get o
theorem Grow.refl (H:Heap):Grow H H:=⟨Nat.le_refl _,fun _ _=>rfl⟩
theorem Grow.trans {A B C:Heap} (h:Grow A B) (k:Grow B C):Grow A C:=⟨Nat.le_trans h.1 k.1,fun o ho=>by rw[k.2 o (Nat.lt_of_lt_of_le ho h.1),h.2 o ho]⟩
theorem Grow.le {H H':Heap} (h:Grow H H'):CxLe (outC H) (outC H') :=
 ⟨fun p k x e=>by simp[outC] at e,fun o ho=>⟨Nat.lt_of_lt_of_le ho h.1,h.2 o ho⟩⟩
section imp
variable {HH : Type} {enc : TypeId × Value → HH} {P : Program} {W : World}
def Got (W:World) (C:CM) (H:Heap) (cs:List Value) (s:Nat) (T:Type) (e:T→List LV):Prop :=
 ∃ C' H' as,∃ y:T,C.le C'∧Rel W C' H' W∧Grow H H'∧VRs C' as cs∧(∀ a∈as,a.one=true)∧ARs (outC H') (e y) as∧as.length=s
theorem got_one {C:CM} {H:Heap} (hR:Rel W C H W) {v:Value} {T:Type} {e:T→List LV} (y:T) (a:AV) (l:LV) (he:e y=[l]) (hv:VR C a v) (h1:a.one=true) (hl:AR (outC H) l a):Got W C H [v] 1 T e :=
 ⟨C,H,[a],y,CM.le_refl C,hR,.refl H,.cons hv .nil,by simpa using h1,by rw[he]; exact .cons hl .nil,rfl⟩
theorem not_frozen_row {ps:List MemPlace} (hz:W.noneFrozen ps) {b off n:Nat} (h:∀ x∈MemPlace.row ⟨b,off,none⟩ n,x∈ps) {i:Nat} (hi:i < n):W.frozen? ⟨b,off+i,none⟩=false :=
 hz b (off+i) (h _ (List.mem_map.2 ⟨i,List.mem_range.2 hi,rfl⟩))
theorem got_cells:∀ (fuel:Nat) (d:Nat) (t:TypeId) (s:Sh) (cs:List Value) (x:DataW HH×List MemPlace) (C:CM) (H:Heap),shOf P d t=some s→DataW.trod enc P W 0 (fun _=>true) true fuel t cs=some x→W.noneFrozen x.2→Rel W C H W →
  Got W C H cs s.n s.T s.enc:=by
 intro fuel
 induction fuel with
 | zero=>intro d t s cs x C H _ h; simp[DataW.trod] at h
 | succ fuel ih =>
  intro d t s cs x C H hs h hz hR
  cases d with
  | zero=>cases hs
  | succ d =>
   simp only[shOf] at hs
   split at hs
   ·rename_i hu
    cases hs
    obtain⟨b,rfl,_⟩:=DataW.trod_bool hu h
    exact got_one hR (T:=Bool) b (.bool b) (.bool b) rfl (.bool b) rfl (.bool b)
   ·rename_i k hu
    obtain⟨n,rfl,_,hw⟩:=DataW.trod_int hu h
    split at hs
    ·cases hs
     have hb:=bounds_u64 hw
     refine got_one hR (T:=UInt64) (UInt64.ofNat n.toNat) (.int .u64 n) (.u (UInt64.ofNat n.toNat)) rfl (.int _ _) rfl (.u' ?_)
     rw[UInt64.toNat_ofNat']
     simp only[Int.ofNat_eq_natCast]
     omega
    ·cases hs
     have hb:=bounds_u8 hw
     refine got_one hR (T:=UInt8) (UInt8.ofNat n.toNat) (.int .u8 n) (.b (UInt8.ofNat n.toNat)) rfl (.int _ _) rfl (.b' ?_)
     rw[UInt8.toNat_ofNat']
     simp only[Int.ofNat_eq_natCast]
     omega
    ·cases hs
     have hb:=bounds_i64 hw
     exact got_one hR (T:={ n:Int // inI n }) ⟨n,by unfold inI; omega⟩ (.int .i64 n) (.i n) rfl (.int _ _) rfl (.i n)
    ·cases hs
     exact got_one hR (T:=Int) n (.int k n) (.int k n) rfl (.int _ _) rfl (.int k n)
   ·rename_i hu
    cases hs
    obtain⟨b,rfl,_,hm⟩:=DataW.trod_string hu h
    exact got_one hR (T:={ l:List UInt8 // l.length≤maxLen }) ⟨b.data.toList,by simpa using hm⟩ (.str b.data.toList.length (packL b.data.toList)) (.str b.data.toList) rfl (.str rfl rfl) rfl (.str _)
   ·rename_i e hu
    split at hs
    ·cases hs
    ·rename_i se hse
     by_cases hc:P.cellsOf e=se.n∧0 < se.n
     ·rw[if_pos hc] at hs
      cases hs
      obtain⟨hce,hpos⟩:=hc
      rcases DataW.trod_slice hu h with ⟨rfl,_⟩ | ⟨a,len,cap,elems,rest,n,hn,rfl,hx,_,hle,hmax,hlen,hel,hsp,_⟩
      ·exact got_one hR (T:={ l:List se.T // l.length≤maxLen }) ⟨[],by simp⟩ .nilSl (.lst [] 0 se.n) rfl .nilSl rfl .lstNil
      ·cases hn
       by_cases h0:len=0
       ·subst h0
        exact got_one hR (T:={ l:List se.T // l.length≤maxLen }) ⟨[],by simp⟩ .emp (.lst [] 0 se.n) rfl .emp rfl .lstEmp
       ·-- the elements,one behind the other
        obtain⟨b,off,spot⟩:=a
        have hsome:∀ i,i < cap→∃ ecs,W.cells? 0 ((⟨b,off,spot⟩:Addr).add (i * P.cellsOf e)) (P.cellsOf e)=some ecs:=by
         intro i hi
         by_cases hil:i < len
         ·have:=hel i hil
          rw[List.getElem?_eq_getElem (by omega)] at this
          cases hq:W.cells? 0 ((⟨b,off,spot⟩:Addr).add (i * P.cellsOf e)) (P.cellsOf e) with
          | none=>rw[hq] at this; cases this
          | some ecs=>exact⟨ecs,rfl⟩
         ·obtain⟨hr1,hr2⟩:=hsp rfl
          have:=hr2 (i - len) (by omega)
          rw[show len+(i - len)=i from by omega,List.getElem?_eq_getElem (by omega)] at this
          cases hq:W.cells? 0 ((⟨b,off,spot⟩:Addr).add (i * P.cellsOf e)) (P.cellsOf e) with
          | none=>rw[hq] at this; cases this
          | some ecs=>exact⟨ecs,rfl⟩
        have hspot:spot=none:=by
         obtain⟨ecs,he⟩:=hsome 0 (by omega)
         obtain⟨_,hl,hcell⟩:=World.cells?_some he
         have:=hcell 0 (by omega)
         rw[List.getElem?_eq_getElem (by omega)] at this
         simpa [Addr.add] using World.cell?_spot this
        subst hspot
        have hcells:∀ i j,i < cap→j < se.n→∃ v,W.cell? ⟨b,off+(i * se.n+j),none⟩=some v:=by
         intro i j hi hj
         obtain⟨ecs,he⟩:=hsome i hi
         obtain⟨_,hl,hcell⟩:=World.cells?_some he
         have:=hcell j (by omega)
         rw[List.getElem?_eq_getElem (by omega)] at this
         rw[hce] at this
         rw[WideShapes.add_plain,WideShapes.add_plain] at this
         rw[←Nat.add_assoc]
         exact⟨_,this⟩
        obtain⟨v0,hv0⟩:=hcells 0 0 (by omega) hpos
        obtain⟨vs,ty,lo,hi,hblk⟩:∃ vs ty lo hi,W.heap[b]?=some (.cells vs ty (lo,hi)):=by
         unfold World.cell? at hv0
         dsimp only at hv0
         split at hv0
         ·rename_i vs ty fz hblk; exact⟨vs,ty,fz.1,fz.2,hblk⟩
         ·cases hv0
        have hcv:∀ q,q < cap * se.n→∃ v,vs[off+q]?=some v:=by
         intro q hq
         obtain⟨v,hv⟩:=hcells (q / se.n) (q % se.n) (by rw[Nat.div_lt_iff_lt_mul hpos]; exact hq) (Nat.mod_lt _ hpos)
         have:q / se.n * se.n+q % se.n=q:=by rw[Nat.mul_comm]; exact Nat.div_add_mod q se.n
         rw[this,cell_at hblk] at hv
         exact⟨v,hv⟩
        have hvsz:off+cap * se.n≤vs.size:=by
         have hcpos:0 < cap * se.n:=Nat.mul_pos (by omega) hpos
         obtain⟨v,hv⟩:=hcv (cap * se.n - 1) (by omega)
         have:=(Array.getElem?_eq_some_iff.1 hv).1
         omega
        have hrow:∀ x',x'∈MemPlace.row ⟨b,off,none⟩ (cap * se.n)→x'∈x.2:=by
         intro x' hx'
         rw[hx]
         have:(elems.length+rest.length) * P.cellsOf e=cap * se.n:=by rw[hlen,(hsp rfl).1,hce]; congr 1; omega
         rw[this]
         exact List.mem_append_left _ hx'
        have loop:∀ m,m≤len→∃ C' H' as,∃ ys:List se.T,C.le C'∧Rel W C' H' W∧Grow H H'∧(∀ a∈as,a.one=true)∧ARs (outC H') (ys.flatMap se.enc) as∧ys.length=m∧as.length=m * se.n∧∀ q,q < m * se.n→∃ a v,as[q]?=some a∧vs[off+q]?=some v∧VR C' a v:=by
         intro m
         induction m with
         | zero=>intro _; exact⟨C,H,[],[],CM.le_refl C,hR,.refl H,by simp,.nil,rfl,by simp,fun q hq=>by omega⟩
         | succ m ihm =>
          intro hm
          obtain⟨C1,H1,as1,ys1,a1,a2,a3,a4,a5,a6,a7,a8⟩:=ihm (by omega)
          obtain⟨ecs,he⟩:=hsome m (by omega)
          have hem:=hel m (by omega)
          rw[he,List.getElem?_eq_getElem (by omega)] at hem
          obtain⟨_,hl,hcell⟩:=World.cells?_some he
          have hz' : W.noneFrozen (elems[m]'(by omega)).2 := fun b' off' hb' => hz b' off' (by
           rw[hx]
           exact List.mem_append_right _ (List.mem_flatMap.2 ⟨elems[m]'(by omega), by simp, hb'⟩))
          obtain⟨C2,H2,as2,y,b1,b2,b3,b4,b5,b6,b7⟩:=ih d e se ecs _ C1 H1 hse hem hz' a2
          refine⟨C2,H2,as1++as2,ys1++[y],CM.le_trans a1 b1,b2,a3.trans b3,?_,?_,by simp[a6],?_,?_⟩
          ·intro z hz
           rcases List.mem_append.1 hz with h | h
           ·exact a4 z h
           ·exact b5 z h
          ·rw[List.flatMap_append]
           refine (a5.mono b3.le).append ?_
           simpa using b6
          ·rw[List.length_append,a7,b7,Nat.add_mul,Nat.one_mul]
          ·intro q hq
           by_cases hqm:q < m * se.n
           ·obtain⟨a,v,c1,c2,c3⟩:=a8 q hqm
            exact⟨a,v,by rw[List.getElem?_append_left (by omega)]; exact c1,c2,c3.mono b1⟩
           ·have hq2:q - m * se.n < se.n:=by rw[Nat.add_mul,Nat.one_mul] at hq; omega
            obtain⟨a,v,c1,c2,c3⟩:=b4.get' (i:=q - m * se.n) (by omega)
            refine⟨a,v,by rw[List.getElem?_append_right (by omega),a7]; exact c1,?_,c3⟩
            have:=hcell (q - m * se.n) (by omega)
            rw[hce,WideShapes.add_plain,WideShapes.add_plain,cell_at hblk,c2] at this
            rw[←this]
            congr 1
            omega
        obtain⟨C1,H1,as,ys,a1,a2,a3,a4,a5,a6,a7,a8⟩:=loop len (Nat.le_refl _)
        have hbl:b < W.heap.size:=by
         have:=(Array.getElem?_eq_some_iff.1 hblk).1
         exact this
        have hmle:len * se.n≤cap * se.n:=Nat.mul_le_mul_right _ hle
        have hnf:∀ q,off≤q→q < off+cap * se.n→¬ (lo≤q∧q < hi):=by
         intro q h1 h2
         have:=not_frozen_row hz (fun x' hx'=>hrow x' hx') (i:=q - off) (n:=cap * se.n) (by omega)
         rw[show off+(q - off)=q from by omega] at this
         unfold World.frozen? at this
         dsimp only at this
         rw[hblk] at this
         simp at this
         omega
        obtain⟨c1,c2⟩:=a2.ro (L:=⟨b,off,len * se.n,off+cap * se.n⟩) hbl (l:=as) (fun hle' L hL=>by
         rw[CM.ext_same] at hL
         cases hL
         refine⟨by rw[a7],fun e=>(by cases e),by show off+as.length≤off+cap * se.n; omega,vs,ty,lo,hi,hblk,hvsz,hnf,?_⟩
         intro q hq
         rw[get_ofList,if_pos (by omega)]
         obtain⟨a,v,d1,d2,d3⟩:=a8 q (by omega)
         exact⟨a,by simpa using d1,a4 a (List.mem_of_getElem? d1),v,d2,d3.mono hle'⟩)
        have hg:Grow H1 (H1.push (.cells (ofListFrom as 0 .e) as.length 0 true)):=⟨Nat.le_succ _,fun o ho=>Heap.get_push_ne _ _ ho⟩
        refine⟨_,_,[.sl H1.next 0 0 len se.n none],(⟨ys,by omega⟩:{ l:List se.T // l.length≤maxLen }),CM.le_trans a1 c2,c1,a3.trans hg,.cons ?_ .nil,by simp[AV.one],?_,rfl⟩
        ·exact VR.sl (L:=⟨b,off,len * se.n,off+cap * se.n⟩) (i:=0) (CM.ext_same _ _ _ _) (by dsimp only; omega) (by dsimp only; omega) hle (fun r e=>by cases e) (fun _=>rfl)
        ·show ARs _ [LV.lst (ys.flatMap se.enc) ys.length se.n] _
         rw[a6]
         refine .cons (.lst (Nat.lt_succ_self H1.next) (fun r e=>by cases e) ?_ ?_ (a5.mono hg.le)) .nil
         ·have:=a5.length
          omega
         ·have hr:=readAt_of (H:=H1.push (.cells (ofListFrom as 0 .e) as.length 0 true)) (i:=0) (n:=len * se.n) (Heap.get_push_same _ _) (getCells_new as) (Nat.le_refl _) (by omega)
          rw[List.drop_zero,List.take_of_length_le (by omega)] at hr
          exact hr
     ·rw[if_neg hc] at hs; cases hs
   ·rename_i fs hu
    split at hs
    ·cases hs
    ·rename_i l hl
     cases hs
     obtain⟨xs,n,hn,hx,hcl,hxl,hfs⟩:=DataW.trod_struct hu h
     cases hn
     have key:∀ (fl:List Field) (j off:Nat) (l:ShL) (C:CM) (H:Heap),fs.toList.drop j=fl→shFs P (shOf P d) (P.cellsOf t) fl off=some l→Rel W C H W→Got W C H (cs.drop off) l.n l.T l.enc:=by
      intro fl
      induction fl with
      | nil =>
       intro j off l C H hj hl hR
       simp only[shFs] at hl
       split at hl
       ·rename_i he
        cases hl
        refine⟨C,H,[],(():Unit),CM.le_refl C,hR,.refl H,?_,by simp,.nil,rfl⟩
        rw[he,←hcl,List.drop_length]
        exact .nil
       ·cases hl
      | cons fd fl ihf =>
       intro j off l C H hj hl hR
       simp only[shFs] at hl
       split at hl
       ·cases hl
       ·rename_i s hs
        by_cases hc:fd.offset=off∧P.cellsOf fd.type=s.n
        ·rw[if_pos hc] at hl
         split at hl
         ·cases hl
         ·rename_i r hr
          cases hl
          have hjl:j < fs.toList.length:=by
           rcases Nat.lt_or_ge j fs.toList.length with h | h
           ·exact h
           ·rw[List.drop_eq_nil_of_le h] at hj; cases hj
          have hfd:fs[j]?=some fd:=by
           rw[List.drop_eq_getElem_cons hjl] at hj
           injection hj with h1 h2
           rw[←h1]
           simp
          have hfj:=hfs j fd hfd
          rw[hc.1,hc.2] at hfj
          have hxj:j < xs.length:=by rw[hxl]; simpa using hjl
          rw[List.getElem?_eq_getElem hxj] at hfj
          obtain⟨C1,H1,as1,y,a1,a2,a3,a4,a5,a6,a7⟩:=ih d fd.type s _ _ C H hs hfj (fun b' off' hb'=>hz b' off' (by rw[hx]; exact List.mem_flatMap.2 ⟨_,by simp,hb'⟩)) hR
          obtain⟨C2,H2,as2,ys,b1,b2,b3,b4,b5,b6,b7⟩:=ihf (j+1) (off+s.n) r C1 H1 (by rw[List.drop_eq_getElem_cons hjl] at hj; injection hj) hr a2
          refine⟨C2,H2,as1++as2,(y,ys),CM.le_trans a1 b1,b2,a3.trans b3,?_,?_,(a6.mono b3.le).append b6,by rw[List.length_append,a7,b7]; rfl⟩
          ·have:=(a4.mono b1).append b4
           rwa [←List.drop_drop,List.take_append_drop] at this
          ·intro z hz
           rcases List.mem_append.1 hz with h | h
           ·exact a5 z h
           ·exact b5 z h
        ·rw[if_neg hc] at hl; cases hl
     have:=key fs.toList 0 0 l C H (by simp) hl hR
     rw[List.drop_zero] at this
     exact this
   ·cases hs
end imp
end Go.Sv
namespace Go.Sv
open Go.RowKit Go.ChangeShapes Go.WideShapes Go.ChangeAt
def Sh.arg:(s:Sh)→s.T→LV
 | .st l,x=>.agg (l.enc x)
 | .bool,x=>.bool x
 | .u,x=>.u x
 | .b,x=>.b x
 | .i,x=>.i x.1
 | .k kk,x=>.int kk x
 | .str,x=>.str x.1
 | .sl s,x=>.lst (x.1.flatMap s.enc) x.1.length s.n
def ShL.args:(l:ShL)→l.T→List LV
 | .nil,_=>[]
 | .cons s l,x=>s.arg x.1::l.args x.2
section law
variable {H : Type} {enc : TypeId × Value → H} {P : Program}
theorem args_got {W:World} {d base:Nat}:∀ {ts:List TypeId} {l:ShL} {args:List Value} {ds:List (DataW H)} {ps:List MemPlace} {C:CM} {Hp:Heap},shsOf P d ts=some l→DataW.TrodAll enc P W 0 (fun _=>true) true ts args ds ps→W.noneFrozen ps →
  (∀ (j:Nat) (t:TypeId) (v:Value),ts[j]?=some t→args[j]?=some v→Value.okWide P W .any base t v)→Rel W C Hp W→∃ C' H' as,∃ y:l.T,C.le C'∧Rel W C' H' W∧Grow Hp H'∧VRs C' as args∧ARs (outC H') (l.args y) as
 | [],l,args,ds,ps,C,Hp,hs,hA,_,_,hR=>by
  cases hs
  obtain⟨rfl,_,_⟩:=trodAll_nil hA
  exact⟨C,Hp,[],(():Unit),CM.le_refl C,hR,.refl Hp,.nil,.nil⟩
 | t::ts,l,args,ds,ps,C,Hp,hs,hA,hz,hv,hR=>by
  simp only[shsOf] at hs
  split at hs
  ·cases hs
  ·rename_i s hst
   by_cases hc:P.cellsOf t=s.n
   ·rw[if_pos hc] at hs
    split at hs
    ·cases hs
    ·rename_i r hr
     cases hs
     obtain⟨v,vs,dd,ds',p,q,rfl,rfl,rfl,⟨fuel,hd⟩,hrest⟩:=trodAll_cons hA
     obtain⟨C1,H1,as1,y,a1,a2,a3,a4,a5,a6,a7⟩:=got_cells fuel d t s _ _ C Hp hst hd (fun b o hb=>hz b o (List.mem_append_left _ hb)) hR
     obtain⟨C2,H2,as2,ys,b1,b2,b3,b4,b5⟩:=args_got (C:=C1) (Hp:=H1) hr hrest (fun b o hb=>hz b o (List.mem_append_right _ hb)) (fun j t' v' h1 h2=>hv (j+1) t' v' (by simpa using h1) (by simpa using h2)) a2
     have hok:=hv 0 t v rfl rfl
     have one:∃ a,VR C1 a v∧AR (outC H1) (s.arg y) a:=by
      cases d with
      | zero=>cases hst
      | succ d =>
       have single:∀ {L:LV},s.enc y=[L]→s.arg y=L→v.cells.toList=[v]→∃ a,VR C1 a v∧AR (outC H1) (s.arg y) a:=by
        intro L e1 e2 e3
        rw[e3] at a4
        rw[e1] at a6
        cases a4 with
        | cons h1 h2 =>
         cases a6 with
         | cons h3 h4=>exact⟨_,h1,by rw[e2]; exact h3⟩
       simp only[shOf] at hst
       split at hst
       ·rename_i hu
        cases hst
        obtain⟨b,rfl⟩:=okWide_bool hu hok
        exact single rfl rfl rfl
       ·rename_i k hu
        obtain⟨n,rfl⟩:=okWide_int hu hok
        split at hst <;> cases hst <;> exact single rfl rfl rfl
       ·rename_i hu
        cases hst
        obtain⟨b,rfl⟩:=okWide_string hu hok
        exact single rfl rfl rfl
       ·rename_i e hu
        obtain⟨a,len,cap,rfl⟩:=okWide_slice hu hok
        split at hst
        ·cases hst
        ·rename_i se hse
         by_cases hce:P.cellsOf e=se.n∧0 < se.n
         ·rw[if_pos hce] at hst; cases hst
          exact single rfl rfl rfl
         ·rw[if_neg hce] at hst; cases hst
       ·rename_i fs hu
        obtain⟨cs,rfl,_⟩:=okWide_struct hu hok
        split at hst
        ·cases hst
        ·rename_i l hl
         cases hst
         exact⟨.agg as1,.agg a4 a5,.agg a6⟩
       ·cases hst
     obtain⟨a,o1,o2⟩:=one
     exact⟨C2,H2,a::as2,(y,ys),CM.le_trans a1 b1,b2,a3.trans b3,.cons (o1.mono b1) b4,.cons (o2.mono b3.le) b5⟩
   ·rw[if_neg hc] at hs; cases hs
theorem walk_of {f d base:Nat} {ts:List TypeId} {l:ShL} (hm:P.follows .mixedOrders=true) (hsh:shsOf P d ts=some l) (h:∀ y:l.T,CallL P (.fn f) (l.args y) [] fun v _=>v=.bool true) {W:World} {args:Array Value} {ds:List (DataW H)} {ps:List MemPlace}
  (hA:DataW.TrodAll enc P W 0 (fun _=>true) true ts args.toList ds ps) (hz:W.noneFrozen ps) (hv:∀ (j:Nat) (t:TypeId) (v:Value),ts[j]?=some t→args.toList[j]?=some v→Value.okWide P W .any base t v) :
  Calls P f args W fun e w'=>e=.returned (.bool true)∧Below W.heap.size W w':=by
 obtain⟨C,Hp,as,y,_,hR,_,hV,hAs⟩:=args_got hsh hA hz hv (Rel.start W)
 obtain⟨m,v1,H',q1,c',v,G',q2,q3,q4,q5,q6⟩:=(h y).2 (outC Hp) (.fn f) as (HSim.empty (fun o ho=>ho)) rfl hAs
 subst q6
 cases q5
 intro cs
 obtain⟨C',w',v',fr,h1,h2,h3,h4,h5,h6⟩:=callA_sound hm (OL_sound P) m W _ _ W (.fn f) as _ _ _ hR hV q1 cs
 cases h3
 exact⟨.returned (.bool true),w',fr,⟨rfl,h2.low⟩,h4,h5,h6⟩
theorem stays_all (hl:laidOutB P=true) {W W':World} (hb:Below W.heap.size W W') {sp:Nat→Bool}:∀ {ts:List TypeId} {vs:List Value} {ds:List (DataW H)} {ps:List MemPlace},(∀ t∈ts,P.readableRec t=true∧t < P.types.size)→DataW.TrodAll enc P W 0 (fun _=>true) true ts vs ds ps →
  (∀ x∈ps,x.block < W.heap.size)→(∀ x∈ps,sp x.block=true)→DataW.TrodAll enc P W' 0 sp true ts vs ds ps
 | [],[],[],_,_,h,_,_=>h
 | t::ts,v::vs,d::ds,_,hr,⟨p,q,h1,h2,e⟩,hlt,hsp=>by
  subst e
  exact⟨p,q,WideElems.Trod_stays hl (hr t (by simp)).1 (hr t (by simp)).2 h1 (fun x hx=>hb.same (hlt x (List.mem_append_left _ hx))) (fun x hx=>hsp x (List.mem_append_left _ hx)),
   stays_all hl hb (fun t' ht=>hr t' (by simp[ht])) h2 (fun x hx=>hlt x (List.mem_append_right _ hx)) (fun x hx=>hsp x (List.mem_append_right _ hx)),rfl⟩
 | [],[],_::_,_,_,h,_,_=>h.elim
 | [],_::_,_,_,_,h,_,_=>h.elim
 | _::_,[],_,_,_,h,_,_=>h.elim
 | _::_,_::_,[],_,_,h,_,_=>h.elim
theorem law_post {f:Func} {s:ChangeSpec} {apart fresh handsOn again:Bool} {W W':World} {args:Array Value} {ds gs:List (DataW H)} {before:List MemPlace} {tb:TypeId} (hW:DataW.Whole enc P f.params.toList s.vars apart W args.toList ds gs before) (hvars:s.vars=[])
  (hspec:∀ ds':List (DataW H),ds'.length=f.params.toList.length→s.fn H ds'={ results:=[.lit (.bool true)],args:=ds' }) (hb:Below W.heap.size W W') (hl:laidOutB P=true) (hr:∀ t∈f.params.toList,P.readableRec t=true∧t < P.types.size)
  (hres:f.resultTypes=#[tb]) (hbool:P.underlying tb=some .bool):s.post enc P f apart fresh handsOn again W args (.bool true) W':=by
 have hW':=hW
 obtain⟨p,q,hA,hV,rfl,hfz,hnd⟩:=hW
 rw[hvars] at hV
 obtain⟨rfl,rfl⟩:=trodVars_none hV
 have hlen:ds.length=f.params.toList.length:=(trodAll_length hA).2
 have hs:=hspec ds hlen
 have hs':s.fn H (ds++[])={ results:=[.lit (.bool true)],args:=ds }:=by rw[List.append_nil]; exact hs
 have hlt:=hW'.lt
 refine post_below (pa:=p) (pv:=[]) hW' (fun b sp hd=>?_) (fun sp hsp=>?_) (fun sp _=>?_) rfl hb ?_
 ·rw[hs',hres]
  exact trodAll_cons_mk (shut_bool hbool _) trodAll_mk0
 ·rw[hs']
  exact stays_all hl hb hr hA (fun x hx=>hlt x (by simp[hx])) (fun x hx=>hsp x (by simp[hx]))
 ·rw[hs',hvars]; rfl
 ·exact ok_one hres rfl (okWide_bool_mk hbool _)
end law
end Go.Sv
namespace Go.Sv
def borR (G:LHeap) (v d:LV):Prop:=match v with
 | .tup l=>∃ r,d=.tup r∧bors G l r
 | v=>bor G v d
def FnV (P:Program) (f:Nat) (args:List LV) (v0:LV):Prop :=
 tgtOk P (.fn f)∧v0.dat=true∧∀ (Fz:Nat→Prop) (H:Heap) (args1:List AV),(∀ o,Fz o→o < H.next)→ARs ⟨[],Fz,H⟩ args args1 →
  ∃ (m:Nat) (v1:AV) (Fz':Nat→Prop) (H':Heap),callA P (OL P) m (.fn f) args1 H=.ok v1 H'∧H.next≤H'.next∧(∀ o,Fz o→Fz' o)∧(∀ o,Fz' o→o < H'.next∧(Fz o∨H.next≤o))∧(∀ o,o < H.next→H'.get o=H.get o)∧AR ⟨[],Fz',H'⟩ v0 v1
section calls
variable {P : Program}
theorem borR_ok {c:Cx} {G:LHeap} (hs:HSim c G) (v d:LV) (a:AV) (hb:borR G v d) (h:AR c v a):AR ⟨[],fun o=>c.Fz o∨Own c G o,c.H⟩ d a:=by
 unfold borR at hb
 split at hb
 ·obtain⟨r,rfl,hb⟩:=hb
  cases h with
  | tup h=>exact .tup (bors_ok hs _ _ _ hb h)
 ·exact bor_ok hs _ _ _ hb h
theorem FnV.mk {f:Nat} {args:List LV} {v0:LV} (hd:v0.dat=true) (h:CallL P (.fn f) args [] fun v G=>borR G v v0):FnV P f args v0:=by
 refine⟨h.1,hd,fun Fz H args1 hfz ha=>?_⟩
 obtain⟨m,v1,H',q1,c1,v,G,rfl,q3,q4,q5,q6⟩:=h.2 ⟨[],Fz,H⟩ (.fn f) args1 (.empty hfz) rfl ha
 have hno:∀ o,¬ Own ⟨[],Fz,H⟩ [] o:=fun o ⟨p,_,_,_,e,_⟩=>by simp at e
 refine⟨m,v1,_,c1.H,q1,q4.nx,fun o ho=>.inl (q4.le.fz o ho).1,fun o ho=>⟨ho.elim (q3.fz o) (q3.lt o),?_⟩,fun o ho=>q4.frame o ho (hno o),borR_ok q3 v v0 v1 q6 q5⟩
 rcases ho with ho | ho
 ·rcases q4.fznew o ho with h | h | h
  ·exact .inl h
  ·exact absurd h (hno o)
  ·exact .inr h
 ·rcases q4.new o ho with h | h
  ·exact absurd h (hno o)
  ·exact .inr h
theorem call_keep {c:Cx} {G:LHeap} (hs:HSim c G) {Fz':Nat→Prop} {H':Heap} (q2:c.H.next≤H'.next) (q3:∀ o,c.Fz o→Fz' o) (q4:∀ o,Fz' o→o < H'.next∧(c.Fz o∨c.H.next≤o)) (q5:∀ o,o < c.H.next→H'.get o=c.H.get o) :
  HSim ⟨c.hd,Fz',H'⟩ G∧Step c G ⟨c.hd,Fz',H'⟩ G:=by
 have hle:CxLe c ⟨c.hd,Fz',H'⟩:=⟨fun p k h e=>⟨k,h,e,Nat.le_refl _,fun _=>rfl,fun _=>rfl⟩,fun o ho=>⟨q3 o ho,q5 o (hs.fz o ho)⟩⟩
 have hown:∀ o,Own ⟨c.hd,Fz',H'⟩ G o→Own c G o:=fun o ⟨p,ob,k,h,e1,e2,e3,e4⟩=>⟨p,ob,k,h,e1,e2,e3,e4⟩
 refine⟨⟨hs.len,fun o ho=>(q4 o ho).1,fun o ho=>Nat.lt_of_lt_of_le (hs.lt o (hown o ho)) q2,fun o ho hf=>?_,fun p ob k h e1 e2=>?_,fun p q ob ob' k h k' h' o e1 e2 e3 e4 e5 e6 e7 e8=>hs.excl p q ob ob' k h k' h' o e1 e2 e3 e4 e5 e6 e7 e8⟩,?_⟩
 ·rcases (q4 o hf).2 with h | h
  ·exact hs.sep o (hown o ho) h
  ·have:=hs.lt o (hown o ho); omega
 ·by_cases hl:ob.live=true
  ·exact (hs.obj p ob k h e1 e2).mono hle (fun o ho=>q5 o (hs.lt o ⟨p,ob,k,h,e1,hl,e2,ho⟩))
  ·cases ob <;> first | exact absurd rfl hl | trivial
 ·refine⟨hle,q2,fun o ho _=>q5 o ho,fun o ho=>.inl (hown o ho),fun o ho=>(q4 o ho).2.elim .inl (fun h=>.inr (.inr h)),fun p ob ob' e1 e2=>?_,fun p ob ob' k h o e1 e2 e3 e4 e5 e6=>?_⟩
  ·rw[e1] at e2; cases e2; exact Nat.le_refl _
  ·rw[e1] at e2; cases e2
   have hl:ob.live=true:=by cases ob <;> first | rfl | cases e5
   exact⟨rfl,q5 o (hs.lt o ⟨p,ob,k,h,e1,hl,e3,e4⟩),rfl⟩
theorem CallL_V {f:Nat} {args:List LV} {v0:LV} {G:LHeap} {K:LV→LHeap→Prop} (hc:FnV P f args v0) (hb:dats args=true) (k:K v0 G):CallL P (.fn f) args G K:=by
 obtain⟨ht,hd,hrun⟩:=hc
 refine⟨ht,fun c t1 args1 hs htr ha=>?_⟩
 cases t1 with
 | yield o=>exact htr.elim
 | fn g =>
  obtain rfl:f=g:=htr
  obtain⟨m,v1,Fz',H',q1,q2,q3,q4,q5,q6⟩:=hrun c.Fz c.H args1 hs.fz (ARs.dat (c:=c) (c':=⟨[],c.Fz,c.H⟩) (fun o ho=>⟨ho,rfl⟩) args args1 hb ha)
  obtain⟨r1,r2⟩:=call_keep hs q2 q3 q4 q5
  exact⟨m,v1,H',q1,⟨c.hd,Fz',H'⟩,v0,G,rfl,r1,r2,AR.dat (c:=⟨[],Fz',H'⟩) (c':=⟨c.hd,Fz',H'⟩) (fun o ho=>⟨ho,rfl⟩) v0 v1 hd q6,k⟩
mutual
def LV.flat:LV→Bool
 | .bool _ | .u _ | .b _ | .i _ | .int _ _ | .str _ | .nilPtr | .nilSl | .nilMap | .nilFn | .nilIf=>true
 | .agg l=>flats l
 | .tup l=>flats l
 | _=>false
def flats:List LV→Bool
 | []=>true
 | v::l=>v.flat && flats l
end
mutual
theorem AR.flat {c c':Cx} (v:LV) (a:AV) (hd:v.flat=true) (h:AR c v a):AR c' v a:=by
 cases v with
 | agg l =>
  simp only[LV.flat] at hd
  cases h with
  | agg h=>exact .agg (ARs.flat l _ hd h)
 | tup l =>
  simp only[LV.flat] at hd
  cases h with
  | tup h=>exact .tup (ARs.flat l _ hd h)
 | _=>first | (simp only[LV.flat] at hd; cases hd; done) | (cases h; constructor)
termination_by SizeOf.sizeOf v
theorem ARs.flat {c c':Cx} (l:List LV) (r:List AV) (hd:flats l=true) (h:ARs c l r):ARs c' l r:=by
 cases l with
 | nil=>cases h; exact .nil
 | cons v l =>
  simp only[flats,Bool.and_eq_true] at hd
  cases h with
  | cons e es=>exact .cons (AR.flat v _ hd.1 e) (ARs.flat l _ hd.2 es)
termination_by SizeOf.sizeOf l
end
theorem CallL_B {f:Nat} {args dargs:List LV} {v0:LV} {G:LHeap} {K:LV→LHeap→Prop} (hc:FnV P f dargs v0) (hb:bors G args dargs) (hv:v0.flat=true) (k:K v0 G):CallL P (.fn f) args G K:=by
 obtain⟨ht,hd,hrun⟩:=hc
 refine⟨ht,fun c t1 args1 hs htr ha=>?_⟩
 cases t1 with
 | yield o=>exact htr.elim
 | fn g =>
  obtain rfl:f=g:=htr
  obtain⟨m,v1,Fz',H',q1,q2,q3,q4,q5,q6⟩:=hrun (fun o=>c.Fz o∨Own c G o) c.H args1 (fun o ho=>ho.elim (hs.fz o) (hs.lt o)) (bors_ok hs args dargs args1 hb ha)
  obtain⟨r1,r2⟩:=call_keep hs (Fz':=c.Fz) q2 (fun _ h=>h) (fun o ho=>⟨Nat.lt_of_lt_of_le (hs.fz o ho) q2,.inl ho⟩) q5
  exact⟨m,v1,H',q1,⟨c.hd,c.Fz,H'⟩,v0,G,rfl,r1,r2,AR.flat v0 v1 hv q6,k⟩
end calls
theorem FnS.lives {P:Program} {f:Nat} (ht:callable P f=true∧isClone P f=false) (hl:livesF P f=true) (hr:LivesRight P f):FnS P f [] (.bool true) []:=by
 refine⟨ht,rfl,fun j ob e=>by simp at e,fun Fz H args1 hfz ha=>?_⟩
 cases ha
 refine⟨1,.bool true,[],H,?_,.empty hfz,.bool true,Nat.le_refl _,fun _ _=>rfl,fun o ⟨p,_,_,_,e,_⟩=>by simp at e⟩
 unfold callA
 dsimp only
 rw[OL_yes hl hr]
section cuts
variable {P : Program} {f n : Nat} {ro : Option Nat} {ρ : LEnv} {D : List Nat} {G : LHeap} {Q : Post}
theorem seqQ_assoc {b c:LC}:seqQ P f n ro (.seq b c) Q=seqQ P f n ro b (seqQ P f n ro c Q):=by
 funext x ρ D G
 cases x <;> rfl
theorem wp_assoc {a b c:LC}:wp P f n ro (.seq a (.seq b c)) ρ D G Q=wp P f n ro (.seq (.seq a b) c) ρ D G Q:=by
 rw[wp_seq,wp_seq,wp_seq,seqQ_assoc]
theorem wp_cut {a b:LC} (Φ:LEnv→List Nat→LHeap→Prop) (h1:∀ Nx:LEnv→List Nat→LHeap→Prop,(∀ (ρ':LEnv) (D':List Nat) (G':LHeap),Φ ρ' D' G'→Nx ρ' D' G')→wp P f n ro a ρ D G (nxQ Nx Q))
  (h2:∀ (ρ':LEnv) (D':List Nat) (G':LHeap),Φ ρ' D' G'→wp P f n ro b ρ' D' G' Q):wp P f n ro (.seq a b) ρ D G Q:=by
 rw[wp_seq]
 exact h1 (fun ρ' D' G'=>wp P f n ro b ρ' D' G' Q) h2
end cuts
attribute [simp] borR LV.flat flats
end Go.Sv
namespace Go.Sv
end Go.Sv
namespace Go.Sv
def Stk (b:Nat) (G:LHeap) (v:LV) (esz n:Nat) (l:List LV):Prop :=
 (v=.nilSl∧n=0∧l=[])∨∃ (p k:Nat) (R:List LV) (m st:Nat),b≤p∧G[p]?=some (.dyn R m esz k st)∧R.length=m * esz∧n≤m∧l=R.take (n * esz)∧((v=.dy p k∧n=m)∨v=.vw p k 0 n)
section stk
variable {b : Nat} {G G' : LHeap} {v : LV} {esz n : Nat} {l x : List LV}
theorem Stk.length (h:Stk b G v esz n l):l.length=n * esz:=by
 rcases h with ⟨_,rfl,rfl⟩ | ⟨p,k,R,m,st,_,_,h2,h3,rfl,_⟩
 ·simp
 ·have:=Nat.mul_le_mul_right esz h3
  rw[List.length_take]; omega
theorem Stk.lenL (h:Stk b G v esz n l) {K:Nat→Prop} (k:K n):lenL G v K:=by
 rcases h with ⟨rfl,rfl,_⟩ | ⟨p,ver,R,m,st,_,h1,_,_,_,⟨rfl,rfl⟩ | rfl⟩
 ·exact k
 ·rw[lenL_dy,h1]; exact⟨rfl,k⟩
 ·rw[lenL_vw,h1]; exact⟨rfl,k⟩
theorem Stk.ix (h:Stk b G v esz n l) {i:Int} (h0:0≤i) (hi:i < n) {K:LV→Prop}
  (k:∀ (p ver:Nat) (R:List LV) (m st:Nat),b≤p→G[p]?=some (.dyn R m esz ver st)→(∀ j,j < n * esz→R[j]?=l[j]?)→n * esz≤R.length→K (.dptr p ver (i.toNat * esz))):ixV G esz v i K:=by
 rcases h with ⟨rfl,rfl,rfl⟩ | ⟨p,ver,R,m',st,h1,h2,h3,h4,rfl,⟨rfl,rfl⟩ | rfl⟩
 ·omega
 ·rw[ixV_dy,h2]
  exact⟨rfl,rfl,h0,hi,k _ _ _ _ _ h1 h2 (fun j hj=>by rw[List.getElem?_take_of_lt hj]) (by omega)⟩
 ·rw[ixV_vw,h2]
  have:=Nat.mul_le_mul_right esz h4
  refine⟨rfl,rfl,h0,hi,?_⟩
  rw[Nat.zero_add]
  exact k _ _ _ _ _ h1 h2 (fun j hj=>by rw[List.getElem?_take_of_lt hj]) (by omega)
theorem Stk.cells (h:Stk b G v esz n l):v.cells=some [v]:=by
 rcases h with ⟨rfl,_⟩ | ⟨_,_,_,_,_,_,_,_,_,_,⟨rfl,_⟩ | rfl⟩ <;> rfl
end stk
end Go.Sv
namespace Go.Sv
theorem HSim.freeze' {c:Cx} {G:LHeap} (hs:HSim c G) {p k st:Nat} {x:AV} {ob:LObj} (hG:G[p]?=some ob) (hl:ob.live=true) (hst:ob.st < st) (hp:c.hd[p]?=some (k,x)) :
  HSim ⟨c.hd,fun q=>c.Fz q∨idOf x=some q,c.H⟩ (G.set p (.dead st))∧Step c G ⟨c.hd,fun q=>c.Fz q∨idOf x=some q,c.H⟩ (G.set p (.dead st)):=by
 have hpg:p < G.length:=(List.getElem?_eq_some_iff.1 hG).1
 have hle:CxLe c ⟨c.hd,fun q=>c.Fz q∨idOf x=some q,c.H⟩:=⟨fun p k h e=>⟨k,h,e,Nat.le_refl _,fun _=>rfl,fun _=>rfl⟩,fun q hq=>⟨.inl hq,rfl⟩⟩
 have hino:∀ q,idOf x=some q→Own c G q:=fun q hq=>⟨p,ob,k,x,hG,hl,hp,hq⟩
 have hinv:∀ {q:Nat} {ob1:LObj},(G.set p (.dead st))[q]?=some ob1→(q=p∧ob1=.dead st)∨(q≠p∧G[q]?=some ob1):=by
  intro q ob1 e
  by_cases hq:q=p
  ·subst hq
   rw[List.getElem?_set_self hpg] at e
   cases e; exact .inl ⟨rfl,rfl⟩
  ·rw[List.getElem?_set_ne (Ne.symm hq)] at e
   exact .inr ⟨hq,e⟩
 have hown:∀ q,Own ⟨c.hd,fun q=>c.Fz q∨idOf x=some q,c.H⟩ (G.set p (.dead st)) q→Own c G q∧idOf x≠some q:=by
  rintro q ⟨p1,ob1,k1,h1,e1,e2,e3,e4⟩
  rcases hinv e1 with ⟨_,rfl⟩ | ⟨hne,e1⟩
  ·cases e2
  ·exact⟨⟨p1,ob1,k1,h1,e1,e2,e3,e4⟩,fun hq=>hne (hs.excl p1 p ob1 ob k1 h1 k x q e1 hG e2 hl e3 hp e4 hq)⟩
 refine⟨⟨by simp[hs.len],fun q hq=>hq.elim (hs.fz q) (fun e=>hs.lt q (hino q e)),fun q hq=>hs.lt q (hown q hq).1,fun q hq hf=>hf.elim (hs.sep q (hown q hq).1) (hown q hq).2,fun q ob1 k1 h1 e1 e2=>?_,?_⟩,⟨hle,Nat.le_refl _,fun _ _ _=>rfl,fun q hq=>.inl (hown q hq).1,fun q hq=>hq.elim .inl (fun e=>.inr (.inl (hino q e))),fun q ob1 ob2 e1 e2=>?_,fun q ob1 ob2 k1 h1 o1 e1 e2 e3 e4 e5 e6=>?_⟩⟩
 ·rcases hinv e1 with ⟨_,rfl⟩ | ⟨_,e1⟩
  ·trivial
  ·by_cases hl1:ob1.live=true
   ·exact (hs.obj q ob1 k1 h1 e1 e2).mono hle (fun _ _=>rfl)
   ·cases ob1 <;> first | exact absurd rfl hl1 | trivial
 ·intro q r ob1 ob2 k1 h1 k2 h2 o1 e1 e2 e3 e4 e5 e6 e7 e8
  rcases hinv e1 with ⟨_,rfl⟩ | ⟨_,e1⟩
  ·cases e3
  ·rcases hinv e2 with ⟨_,rfl⟩ | ⟨_,e2⟩
   ·cases e4
   ·exact hs.excl q r ob1 ob2 k1 h1 k2 h2 o1 e1 e2 e3 e4 e5 e6 e7 e8
 ·rcases hinv e2 with ⟨rfl,rfl⟩ | ⟨_,e2⟩
  ·rw[hG] at e1; cases e1
   exact Nat.le_of_lt hst
  ·rw[e1] at e2; cases e2
   exact Nat.le_refl _
 ·rcases hinv e2 with ⟨rfl,rfl⟩ | ⟨_,e2⟩
  ·rw[hG] at e1; cases e1
   have:ob.st=st:=e6
   omega
  ·rw[e1] at e2; cases e2
   exact⟨rfl,rfl,rfl⟩
theorem ARs.parts {c:Cx}:∀ {a b:List LV} {v:LV} {r:List AV},ARs c (a++v::b) r→∃ ra x rb,r=ra++x::rb∧ARs c a ra∧AR c v x∧ARs c b rb
 | [],b,v,r,h=>by
  cases h with
  | cons e es=>exact⟨[],_,_,rfl,.nil,e,es⟩
 | w::a,b,v,r,h=>by
  cases h with
  | cons e es =>
   obtain⟨ra,x,rb,rfl,h1,h2,h3⟩:=ARs.parts (a:=a) es
   exact⟨_::ra,x,rb,rfl,.cons e h1,h2,h3⟩
theorem ARs.join {c:Cx}:∀ {a b:List LV} {v:LV} {ra rb:List AV} {x:AV},ARs c a ra→AR c v x→ARs c b rb→ARs c (a++v::b) (ra++x::rb)
 | [],_,_,_,_,_,h1,h2,h3=>by cases h1; exact .cons h2 h3
 | _::a,_,_,_,_,_,h1,h2,h3=>by
  cases h1 with
  | cons e es=>exact .cons e (ARs.join es h2 h3)
end Go.Sv
namespace Go.Sv
theorem HSim.sub {c:Cx} {G:LHeap} (hs:HSim c G) {p len esz ver st:Nat} {l l':List LV} (hG:G[p]?=some (.dyn l len esz ver st)) (hl:∀ r,ARs c l r→ARs c l' r) :
  HSim c (G.set p (.dyn l' len esz ver (st+1)))∧Step c G c (G.set p (.dyn l' len esz ver (st+1))):=by
 have hpg:p < G.length:=(List.getElem?_eq_some_iff.1 hG).1
 have hle:CxLe c c:=⟨fun p k h e=>⟨k,h,e,Nat.le_refl _,fun _=>rfl,fun _=>rfl⟩,fun q hq=>⟨hq,rfl⟩⟩
 have hinv:∀ {q:Nat} {ob1:LObj},(G.set p (.dyn l' len esz ver (st+1)))[q]?=some ob1→(q=p∧ob1=.dyn l' len esz ver (st+1))∨(q≠p∧G[q]?=some ob1):=by
  intro q ob1 e
  by_cases hq:q=p
  ·subst hq
   rw[List.getElem?_set_self hpg] at e
   cases e; exact .inl ⟨rfl,rfl⟩
  ·rw[List.getElem?_set_ne (Ne.symm hq)] at e
   exact .inr ⟨hq,e⟩
 have hback:∀ {q:Nat} {ob1:LObj},(G.set p (.dyn l' len esz ver (st+1)))[q]?=some ob1→ob1.live=true→∃ ob2,G[q]?=some ob2∧ob2.live=true:=by
  intro q ob1 e hl1
  rcases hinv e with ⟨rfl,rfl⟩ | ⟨_,e⟩
  ·exact⟨_,hG,rfl⟩
  ·exact⟨_,e,hl1⟩
 have hown:∀ q,Own c (G.set p (.dyn l' len esz ver (st+1))) q→Own c G q:=by
  rintro q ⟨p1,ob1,k1,h1,e1,e2,e3,e4⟩
  obtain⟨ob2,f1,f2⟩:=hback e1 e2
  exact⟨p1,ob2,k1,h1,f1,f2,e3,e4⟩
 refine⟨⟨by simp[hs.len],hs.fz,fun q hq=>hs.lt q (hown q hq),fun q hq=>hs.sep q (hown q hq),fun q ob1 k1 h1 e1 e2=>?_,?_⟩,⟨hle,Nat.le_refl _,fun _ _ _=>rfl,fun q hq=>.inl (hown q hq),fun q hq=>.inl hq,fun q ob1 ob2 e1 e2=>?_,fun q ob1 ob2 k1 h1 o1 e1 e2 e3 e4 e5 e6=>?_⟩⟩
 ·rcases hinv e1 with ⟨rfl,rfl⟩ | ⟨_,e1⟩
  ·obtain⟨a1,a2,a3⟩:=hs.obj q _ k1 h1 hG e2
   rcases a3 with ⟨b1,b2⟩ | ⟨o,v,room,t,clen,lr,b1,b2,b3,b4,b5,b6,b7⟩
   ·have hl0:l=[]:=List.eq_nil_of_length_eq_zero (by rw[a2,b2]; simp)
    subst hl0
    have h9:=hl [] .nil
    cases h9
    exact⟨a1,a2,.inl ⟨b1,b2⟩⟩
   ·have h9:=hl _ b5
    exact⟨a1,by rw[h9.length,←b5.length]; exact a2,.inr ⟨o,v,room,t,clen,lr,b1,b2,b3,b4,h9,b6,b7⟩⟩
  ·exact hs.obj q ob1 k1 h1 e1 e2
 ·intro q r ob1 ob2 k1 h1 k2 h2 o1 e1 e2 e3 e4 e5 e6 e7 e8
  obtain⟨ob3,f1,f2⟩:=hback e1 e3
  obtain⟨ob4,f3,f4⟩:=hback e2 e4
  exact hs.excl q r ob3 ob4 k1 h1 k2 h2 o1 f1 f3 f2 f4 e5 e6 e7 e8
 ·rcases hinv e2 with ⟨rfl,rfl⟩ | ⟨_,e2⟩
  ·rw[hG] at e1; cases e1
   exact Nat.le_succ _
  ·rw[e1] at e2; cases e2
   exact Nat.le_refl _
 ·rcases hinv e2 with ⟨rfl,rfl⟩ | ⟨_,e2⟩
  ·rw[hG] at e1; cases e1
   have:st=st+1:=e6
   omega
  ·rw[e1] at e2; cases e2
   exact⟨rfl,rfl,rfl⟩
section sub
variable {P : Program} {G : LHeap} {p len esz ver st : Nat} {l l' : List LV}
theorem CallL_cells {t:LTgt} {args:List LV} {K:LV→LHeap→Prop} (hG:G[p]?=some (.dyn l len esz ver st)) (hl:∀ c r,ARs c l r→ARs c l' r) (k:CallL P t args (G.set p (.dyn l' len esz ver (st+1))) K):CallL P t args G K:=by
 refine⟨k.1,fun c t1 args1 hs ht ha=>?_⟩
 obtain⟨s1,s2⟩:=hs.sub hG (hl c)
 obtain⟨m,v1,H',q1,c',v,G',rfl,q3,q4,q5,q6⟩:=k.2 c t1 args1 s1 ht ha
 exact⟨m,v1,_,q1,c',v,G',rfl,q3,Step.trans hs s1 s2 q4,q5,q6⟩
end sub
theorem nil_lst {c:Cx} {a:AV} (h:AR c .nilSl a):AR c (.lst [] 0 1) a:=by cases h; exact .lstNil
end Go.Sv
namespace Go.Sv
theorem CallL_fzG {P:Program} {t:LTgt} {args args':List LV} {p k len esz st:Nat} {l:List LV} {G:LHeap} {K:LV→LHeap→Prop} (hg:G[p]?=some (.dyn l len esz k st))
  (hargs:∀ (c c':Cx) (r:List AV),CxLe c c'→(∀ x,AR c (.dy p k) x→AR c' (.lst l len esz) x)→ARs c args r→ARs c' args' r) (h:CallL P t args' (G.set p (.dead (st+1))) K):CallL P t args G K:=by
 refine⟨h.1,fun c t1 args1 hs htr ha=>?_⟩
 have hp:p < c.hd.length:=by rw[hs.len]; exact (List.getElem?_eq_some_iff.1 hg).1
 obtain⟨⟨k1,hh⟩,e⟩:∃ y,c.hd[p]?=some y:=⟨_,List.getElem?_eq_getElem hp⟩
 obtain⟨r0,r1,r2⟩:=hs.obj p _ _ _ hg e
 obtain⟨u1,u2⟩:=hs.freeze' (st:=st+1) hg rfl (Nat.lt_succ_self _) e
 have hx:∀ x,AR c (.dy p k) x→AR ⟨c.hd,fun q=>c.Fz q∨idOf hh=some q,c.H⟩ (.lst l len esz) x:=by
  intro x hx
  cases hx with
  | @dy _ _ k' h2 _ e2 hk haa hsl =>
   rw[e] at e2
   cases e2
   have hha:=haa r0.symm
   rw[hha]
   rcases r2 with ⟨r2,r3⟩ | ⟨o,v,room,t,clen,l',r2,r3,r4,r5,r6,r7,r8⟩
   ·subst r3
    have hl:l=[]:=List.eq_nil_of_length_eq_zero (by simpa using r1)
    subst hl
    rw[r2]; exact .lstNil
   ·have hl':l'.length=len * esz:=by rw[←r6.length]; exact r1
    have hr:=readAt_of (i:=0) (n:=len * esz) r3 r5 r4 (by omega)
    rw[List.drop_zero,List.take_of_length_le (by omega)] at hr
    rw[r2]
    exact .lst (.inr rfl) (fun r e=>(r7 r e).2) r1 hr (r6.mono (r2 ▸ u2.le))
 have htr':TgtR ⟨c.hd,fun q=>c.Fz q∨idOf hh=some q,c.H⟩ t t1:=by
  cases t <;> cases t1 <;> exact htr
 obtain⟨m,v1,H',q1,c1,v,G1,q2,q3,q4,q5,q6⟩:=h.2 _ t1 _ u1 htr' (hargs _ _ _ u2.le hx ha)
 exact⟨m,v1,H',q1,c1,v,G1,q2,q3,u2.trans hs u1 q4,q5,q6⟩
end Go.Sv
namespace Go.Sv
theorem HSim.subC {c:Cx} {G:LHeap} (hs:HSim c G) {p st:Nat} {l l':List LV} (hG:G[p]?=some (.cells l st)) (hl:∀ r,ARs c l r→ARs c l' r) :
  HSim c (G.set p (.cells l' (st+1)))∧Step c G c (G.set p (.cells l' (st+1))):=by
 have hpg:p < G.length:=(List.getElem?_eq_some_iff.1 hG).1
 have hle:CxLe c c:=⟨fun p k h e=>⟨k,h,e,Nat.le_refl _,fun _=>rfl,fun _=>rfl⟩,fun q hq=>⟨hq,rfl⟩⟩
 have hinv:∀ {q:Nat} {ob1:LObj},(G.set p (.cells l' (st+1)))[q]?=some ob1→(q=p∧ob1=.cells l' (st+1))∨(q≠p∧G[q]?=some ob1):=by
  intro q ob1 e
  by_cases hq:q=p
  ·subst hq
   rw[List.getElem?_set_self hpg] at e
   cases e; exact .inl ⟨rfl,rfl⟩
  ·rw[List.getElem?_set_ne (Ne.symm hq)] at e
   exact .inr ⟨hq,e⟩
 have hback:∀ {q:Nat} {ob1:LObj},(G.set p (.cells l' (st+1)))[q]?=some ob1→ob1.live=true→∃ ob2,G[q]?=some ob2∧ob2.live=true:=by
  intro q ob1 e hl1
  rcases hinv e with ⟨rfl,rfl⟩ | ⟨_,e⟩
  ·exact⟨_,hG,rfl⟩
  ·exact⟨_,e,hl1⟩
 have hown:∀ q,Own c (G.set p (.cells l' (st+1))) q→Own c G q:=by
  rintro q ⟨p1,ob1,k1,h1,e1,e2,e3,e4⟩
  obtain⟨ob2,f1,f2⟩:=hback e1 e2
  exact⟨p1,ob2,k1,h1,f1,f2,e3,e4⟩
 refine⟨⟨by simp[hs.len],hs.fz,fun q hq=>hs.lt q (hown q hq),fun q hq=>hs.sep q (hown q hq),fun q ob1 k1 h1 e1 e2=>?_,?_⟩,⟨hle,Nat.le_refl _,fun _ _ _=>rfl,fun q hq=>.inl (hown q hq),fun q hq=>.inl hq,fun q ob1 ob2 e1 e2=>?_,fun q ob1 ob2 k1 h1 o1 e1 e2 e3 e4 e5 e6=>?_⟩⟩
 ·rcases hinv e1 with ⟨rfl,rfl⟩ | ⟨_,e1⟩
  ·obtain⟨a1,o,t,lr,b1,b2,b3,b4⟩:=hs.obj q _ k1 h1 hG e2
   have h9:=hl _ b4
   have hlen:l'.length=l.length:=by rw[h9.length,←b4.length]
   exact⟨a1,o,t,lr,b1,by rw[hlen]; exact b2,by rw[hlen]; exact b3,h9⟩
  ·exact hs.obj q ob1 k1 h1 e1 e2
 ·intro q r ob1 ob2 k1 h1 k2 h2 o1 e1 e2 e3 e4 e5 e6 e7 e8
  obtain⟨ob3,f1,f2⟩:=hback e1 e3
  obtain⟨ob4,f3,f4⟩:=hback e2 e4
  exact hs.excl q r ob3 ob4 k1 h1 k2 h2 o1 f1 f3 f2 f4 e5 e6 e7 e8
 ·rcases hinv e2 with ⟨rfl,rfl⟩ | ⟨_,e2⟩
  ·rw[hG] at e1; cases e1
   exact Nat.le_succ _
  ·rw[e1] at e2; cases e2
   exact Nat.le_refl _
 ·rcases hinv e2 with ⟨rfl,rfl⟩ | ⟨_,e2⟩
  ·rw[hG] at e1; cases e1
   have:st=st+1:=e6
   omega
  ·rw[e1] at e2; cases e2
   exact⟨rfl,rfl,rfl⟩
theorem HSim.froze {c:Cx} {G:LHeap} (hs:HSim c G) {p k len esz st:Nat} {l:List LV} (hg:G[p]?=some (.dyn l len esz k st)) :
  ∃ c',HSim c' (G.set p (.dead (st+1)))∧Step c G c' (G.set p (.dead (st+1)))∧CxLe c c'∧c'.hd=c.hd∧c'.H=c.H∧(∀ x,AR c (.dy p k) x→AR c' (.lst l len esz) x)∧∀ x,AR c' (.dy p k) x→AR c' (.lst l len esz) x:=by
 have hp:p < c.hd.length:=by rw[hs.len]; exact (List.getElem?_eq_some_iff.1 hg).1
 obtain⟨⟨k1,hh⟩,e⟩:∃ y,c.hd[p]?=some y:=⟨_,List.getElem?_eq_getElem hp⟩
 obtain⟨r0,r1,r2⟩:=hs.obj p _ _ _ hg e
 obtain⟨u1,u2⟩:=hs.freeze' (st:=st+1) hg rfl (Nat.lt_succ_self _) e
 have key:AR ⟨c.hd,fun q=>c.Fz q∨idOf hh=some q,c.H⟩ (.lst l len esz) hh:=by
  rcases r2 with ⟨r2,r3⟩ | ⟨o,v,room,t,clen,l',r2,r3,r4,r5,r6,r7,r8⟩
  ·subst r3
   have hl:l=[]:=List.eq_nil_of_length_eq_zero (by simpa using r1)
   subst hl
   rw[r2]; exact .lstNil
  ·have hl':l'.length=len * esz:=by rw[←r6.length]; exact r1
   have hr:=readAt_of (i:=0) (n:=len * esz) r3 r5 r4 (by omega)
   rw[List.drop_zero,List.take_of_length_le (by omega)] at hr
   rw[r2]
   exact .lst (.inr rfl) (fun r e=>(r7 r e).2) r1 hr (r6.mono (r2 ▸ u2.le))
 refine⟨_,u1,u2,u2.le,rfl,rfl,fun x hx=>?_,fun x hx=>?_⟩
 ·cases hx with
  | @dy _ _ k' h2 _ e2 hk haa hsl =>
   rw[e] at e2
   cases e2
   rw[haa r0.symm]; exact key
 ·cases hx with
  | @dy _ _ k' h2 _ e2 hk haa hsl =>
   have e2:c.hd[p]?=some (k',h2):=e2
   rw[e] at e2
   cases e2
   rw[haa r0.symm]; exact key
theorem ARs.put {c c':Cx} {v w:LV} (hle:CxLe c c') (h:∀ x,AR c v x→AR c' w x) {a b:List LV} {r:List AV} (ha:ARs c (a++v::b) r):ARs c' (a++w::b) r:=by
 obtain⟨ra,x,rb,rfl,h1,h2,h3⟩:=ha.parts
 exact .join (h1.mono hle) (h x h2) (h3.mono hle)
theorem TgtR.hd {c c':Cx} {t:LTgt} {t1:Tgt} (h:TgtR c t t1) (e:c'.hd=c.hd):TgtR c' t t1:=by
 cases t <;> cases t1 <;> simp only[TgtR] at h ⊢ <;> first | exact h | (rw[e]; exact h)
theorem CallL_fzC {P:Program} {t:LTgt} {args args' a b:List LV} {p q k len esz st sq:Nat} {l:List LV} {G:LHeap} {K:LV→LHeap→Prop} (hg:G[p]?=some (.dyn l len esz k st)) (hq:G[q]?=some (.cells (a++.dy p k::b) sq))
  (hargs:∀ (c c':Cx) (r:List AV),CxLe c c'→(∀ x,AR c (.dy p k) x→AR c' (.lst l len esz) x)→ARs c args r→ARs c' args' r) (h:CallL P t args' ((G.set p (.dead (st+1))).set q (.cells (a++.lst l len esz::b) (sq+1))) K):CallL P t args G K:=by
 have hpq:p≠q:=fun e=>by rw[e,hq] at hg; cases hg
 refine⟨h.1,fun c t1 args1 hs htr ha=>?_⟩
 obtain⟨c1,u1,u2,u3,u4,u7,u5,u6⟩:=hs.froze hg
 obtain⟨w1,w2⟩:=u1.subC (p:=q) (st:=sq) (l:=a++.dy p k::b) (l':=a++.lst l len esz::b) (by rw[List.getElem?_set_ne hpq]; exact hq) fun r hr=>ARs.put ⟨fun p k h e=>⟨k,h,e,Nat.le_refl _,fun _=>rfl,fun _=>rfl⟩,fun q hq=>⟨hq,rfl⟩⟩ u6 hr
 obtain⟨m,v1,H',q1,c2,v,G1,q2,q3,q4,q5,q6⟩:=h.2 _ t1 _ w1 (htr.hd u4) (hargs _ _ _ u3 u5 ha)
 exact⟨m,v1,H',u7 ▸ q1,c2,v,G1,q2,q3,(u2.trans hs u1 w2).trans hs w1 q4,q5,q6⟩
end Go.Sv
namespace Go.Sv
theorem dats_of {l:List LV} (h:∀ v∈l,v.dat=true):dats l=true:=by
 induction l with
 | nil=>rfl
 | cons v l ih=>rw[dats,h v (List.mem_cons_self ..),ih fun w hw=>h w (List.mem_cons_of_mem _ hw)]; rfl
theorem dats_mem {l:List LV} (h:dats l=true):∀ v∈l,v.dat=true:=by
 induction l with
 | nil=>intro v hv; cases hv
 | cons w l ih =>
  rw[dats,Bool.and_eq_true] at h
  intro v hv
  rcases List.mem_cons.1 hv with rfl | hv
  ·exact h.1
  ·exact ih h.2 v hv
theorem dats_take' {l:List LV} (n:Nat) (h:dats l=true):dats (l.take n)=true:=dats_of fun v hv=>dats_mem h v (List.mem_of_mem_take hv)
theorem dats_drop' {l:List LV} (n:Nat) (h:dats l=true):dats (l.drop n)=true:=dats_of fun v hv=>dats_mem h v (List.mem_of_mem_drop hv)
theorem dats_app' {a b:List LV} (h:dats a=true) (k:dats b=true):dats (a++b)=true:=dats_of fun v hv=>(List.mem_append.1 hv).elim (dats_mem h v) (dats_mem k v)
theorem dats_lay {l r:List LV} {i:Nat} (h:dats l=true) (k:dats r=true):dats (layLV l i r)=true:=by
 unfold layLV; exact dats_app' (dats_app' (dats_take' _ h) k) (dats_drop' _ h)
theorem oldP {G x:LHeap} {i:Nat} (h:i < G.length):(G++x)[i]?=G[i]?:=List.getElem?_append_left h
def StD (b:Nat) (G:LHeap) (v:LV) (esz n:Nat) (l:List LV):Prop :=
 (v=.nilSl∧n=0∧l=[])∨∃ (p k:Nat) (R:List LV) (m st:Nat),b≤p∧G[p]?=some (.dyn R m esz k st)∧R.length=m * esz∧n≤m∧l=R.take (n * esz)∧dats R=true∧((v=.dy p k∧n=m)∨v=.vw p k 0 n)
section std
variable {b : Nat} {G G' : LHeap} {v : LV} {esz n : Nat} {l x : List LV}
theorem StD.nil:StD b G .nilSl esz 0 []:=.inl ⟨rfl,rfl,rfl⟩
theorem StD.stk (h:StD b G v esz n l):Stk b G v esz n l:=by
 rcases h with h | ⟨p,k,R,m,st,h1,h2,h3,h4,h5,_,h6⟩
 ·exact .inl h
 ·exact .inr ⟨p,k,R,m,st,h1,h2,h3,h4,h5,h6⟩
theorem StD.dy {p k st:Nat} (hb:b≤p) (hp:G[p]?=some (.dyn l n esz k st)) (hl:l.length=n * esz) (hd:dats l=true):StD b G (.dy p k) esz n l :=
 .inr ⟨p,k,l,n,st,hb,hp,hl,Nat.le_refl _,by rw[List.take_of_length_le (by omega)],hd,.inl ⟨rfl,rfl⟩⟩
theorem StD.frame (h:StD b G v esz n l) (hf:∀ q,b≤q→q < G.length→G'[q]?=G[q]?):StD b G' v esz n l:=by
 rcases h with h | ⟨p,k,R,m,st,h1,h2,h3⟩
 ·exact .inl h
 ·exact .inr ⟨p,k,R,m,st,h1,by rw[hf p h1 (List.getElem?_eq_some_iff.1 h2).1]; exact h2,h3⟩
theorem StD.set_lt (h:StD b G v esz n l) {q:Nat} {ob:LObj} (hq:q < b):StD b (G.set q ob) v esz n l :=
 h.frame fun r hr _=>List.getElem?_set_ne (by omega)
theorem StD.push_end (h:StD b G v esz n l) {ob:List LObj}:StD b (G++ob) v esz n l :=
 h.frame fun _ _ hr=>List.getElem?_append_left hr
theorem StD.set_cells (h:StD b G v esz n l) {q st:Nat} {c:List LV} {ob:LObj} (hq:G[q]?=some (.cells c st)):StD b (G.set q ob) v esz n l:=by
 rcases h with h | ⟨p,k,R,m,s,h1,h2,h3⟩
 ·exact .inl h
 ·exact .inr ⟨p,k,R,m,s,h1,by rw[List.getElem?_set_ne (fun e=>by rw[e,h2] at hq; cases hq)]; exact h2,h3⟩
theorem StD.push (h:StD b G v esz n l) (hz:0 < esz) (hb:b≤G.length) (hn:n≤1000000000) (hx:x.length=esz) (hxd:dats x=true) {K:LV→LHeap→Prop}
  (k:∀ (v':LV) (G':LHeap),StD b G' v' esz (n+1) (l++x)→(∀ q,q < b→G'[q]?=G[q]?)→G.length≤G'.length→(∀ (q:Nat) (ob:LObj),(∀ R m k st,ob≠LObj.dyn R m esz k st)→G[q]?=some ob→G'[q]?=some ob)→K v' G'):appL G esz v 1 x K:=by
 have hll:=h.stk.length
 have fresh:∀ l',l'=l++x→dats l'=true→K (.dy G.length 0) (G++[.dyn l' (n+1) esz 0 0]):=by
  rintro l' rfl hd
  refine k _ _ (.dy hb (st:=0) List.getElem?_concat_length (by rw[List.length_append,hll,hx,Nat.add_mul]; omega) hd) (fun q hq=>List.getElem?_append_left (by omega)) (by simp) (fun q ob _ e=>by rw[List.getElem?_append_left (List.getElem?_eq_some_iff.1 e).1]; exact e)
 rcases h with ⟨rfl,rfl,rfl⟩ | ⟨p,ver,R,m,st,h0,h1,h2,h3,rfl,hd,⟨rfl,rfl⟩ | rfl⟩
 ·rw[appL_nil]
  exact fresh _ rfl hxd
 ·have hp:p < G.length:=(List.getElem?_eq_some_iff.1 h1).1
  rw[List.take_of_length_le (by omega)] at k
  rw[appL_dy,h1]
  refine⟨rfl,⟨rfl,hz⟩,hn,k _ _ (.dy h0 (List.getElem?_set_self hp) (by rw[List.length_append,h2,hx,Nat.add_mul]; omega) (dats_app' hd hxd)) (fun q hq=>List.getElem?_set_ne (by omega)) (by simp) (fun q ob ho e=>?_)⟩
  rw[List.getElem?_set_ne (fun q'=>by rw[←q',h1] at e; exact ho _ _ _ _ (Option.some.inj e).symm)]; exact e
 ·have hp:p < G.length:=(List.getElem?_eq_some_iff.1 h1).1
  have hm:=Nat.mul_le_mul_right esz h3
  have ha:(n+1) * esz=n * esz+esz:=by rw[Nat.add_mul]; omega
  rw[appL_vw,h1]
  refine⟨rfl,⟨rfl,rfl,by omega⟩,hn,?_⟩
  by_cases hf:(n+1) * esz≤R.length
  ·rw[if_pos hf]
   have hnm:n+1≤m:=by
    rw[h2] at hf
    exact Nat.le_of_mul_le_mul_right hf hz
   refine⟨k _ _ (.inr ⟨p,ver,_,m,_,h0,List.getElem?_set_self hp,?_,hnm,?_,dats_lay hd hxd,.inr rfl⟩) (fun q hq=>List.getElem?_set_ne (by omega)) (by simp) (fun q ob ho e=>?_),fresh _ rfl (dats_app' (dats_take' _ hd) hxd)⟩
   ·unfold layLV; simp; omega
   ·unfold layLV
    have e1:(R.take (n * esz)++x).length=(n+1) * esz:=by rw[List.length_append,hll,hx,ha]
    rw[List.take_left' e1]
   ·rw[List.getElem?_set_ne (fun q'=>by rw[←q',h1] at e; exact ho _ _ _ _ (Option.some.inj e).symm)]; exact e
  ·rw[if_neg hf]
   have hnm:n=m:=by
    rw[h2] at hf
    have:¬ n+1≤m:=fun q=>hf (Nat.mul_le_mul_right _ q)
    omega
   subst hnm
   have ht:R.take (n * esz)=R:=List.take_of_length_le (by omega)
   rw[ht] at k fresh
   refine⟨rfl,hz,k _ _ (.dy h0 (List.getElem?_set_self hp) (by rw[List.length_append,h2,hx,Nat.add_mul]; omega) (dats_app' hd hxd)) (fun q hq=>List.getElem?_set_ne (by omega)) (by simp) (fun q ob ho e=>?_),fresh _ rfl (dats_app' hd hxd)⟩
   rw[List.getElem?_set_ne (fun q'=>by rw[←q',h1] at e; exact ho _ _ _ _ (Option.some.inj e).symm)]; exact e
theorem StD.cut (h:StD b G v esz n l) {m:Nat} (hm:m≤n) {lo:(Nat→Prop)→Prop} {hi:Nat→(Nat→Prop)→Prop} (hlo:∀ K':Nat→Prop,K' 0→lo K') (hhi:∀ (d:Nat) (K':Nat→Prop),K' m→hi d K') {K:LV→Prop}
  (k:∀ v',StD b G v' esz m (l.take (m * esz))→K v'):slL G esz v lo hi K:=by
 rcases h with ⟨rfl,rfl,rfl⟩ | ⟨p,ver,R,m',st,h0,h1,h2,h3,rfl,hd,⟨rfl,rfl⟩ | rfl⟩
 ·have:m=0:=by omega
  subst this
  rw[slL_nil]
  exact hlo _ (hhi _ _ ⟨rfl,rfl,k _ (.inl ⟨rfl,rfl,by simp⟩)⟩)
 ·rw[slL_dy,h1]
  refine⟨rfl,rfl,hlo _ (hhi _ _ ⟨by omega,hm,k _ (.inr ⟨p,ver,R,n,st,h0,h1,h2,hm,?_,hd,.inr rfl⟩)⟩)⟩
  rw[List.take_take,Nat.min_eq_left (Nat.mul_le_mul_right _ hm)]
 ·rw[slL_vw,h1]
  refine⟨rfl,rfl,hlo _ (hhi _ _ ⟨by omega,hm,k _ (.inr ⟨p,ver,R,m',st,h0,h1,h2,by omega,?_,hd,.inr rfl⟩)⟩)⟩
  rw[List.take_take,Nat.min_eq_left (Nat.mul_le_mul_right _ hm)]
theorem StD.bor (h:StD b G v esz n l):Go.Sv.bor G v (.lst l n esz):=by
 rcases h with ⟨rfl,rfl,rfl⟩ | ⟨p,k,R,m,st,h1,h2,h3,h4,rfl,hd,⟨rfl,rfl⟩ | rfl⟩
 ·exact .inr ⟨_,rfl⟩
 ·exact⟨R,_,_,_,by rw[List.take_of_length_le (by omega)],h2,hd⟩
 ·have:=Nat.mul_le_mul_right esz h4
  exact⟨R,_,_,_,by rw[Nat.zero_mul,List.drop_zero],h2,by omega,hd⟩
theorem StD.lenL (h:StD b G v esz n l) {K:Nat→Prop} (k:K n):Go.Sv.lenL G v K:=h.stk.lenL k
theorem StD.cells (h:StD b G v esz n l):v.cells=some [v]:=h.stk.cells
theorem StD.at1 (h:StD b G v 1 n l) {i:Int} (h0:0≤i) (hi:i < n) {K:LV→Prop} (k:∀ a,(∀ K':LV→Prop,nthL l i.toNat K'→read1 G a K')→K a):ixV G 1 v i K:=by
 refine h.stk.ix h0 hi fun p ver R m st h1 h2 h3 h4=>k _ fun K' hk=>?_
 rw[read1_dptr,h2]
 obtain⟨w,hw,hk⟩:=hk
 refine⟨rfl,w,?_,hk⟩
 rw[Nat.mul_one] at h3 ⊢
 rw[h3 _ (by omega)]; exact hw
def rowOf:LV→Option Nat
 | .dy p _=>some p
 | .vw p _ _ _=>some p
 | _=>none
theorem StD.frame2 (h:StD b G v esz n l) (hf:∀ q,rowOf v=some q→G'[q]?=G[q]?):StD b G' v esz n l:=by
 rcases h with h | ⟨p,k,R,m,st,h1,h2,h3,h4,h5,h6,h7⟩
 ·exact .inl h
 ·refine .inr ⟨p,k,R,m,st,h1,?_,h3,h4,h5,h6,h7⟩
  rw[hf p (by rcases h7 with ⟨rfl,_⟩ | rfl <;> rfl)]; exact h2
theorem StD.row (h:StD b G v esz n l) {q:Nat} (hq:rowOf v=some q):b≤q∧q < G.length∧∃ R m k st,G[q]?=some (.dyn R m esz k st):=by
 rcases h with ⟨rfl,_⟩ | ⟨p,k,R,m,st,h1,h2,h3,h4,h5,h6,⟨rfl,_⟩ | rfl⟩
 ·cases hq
 ·cases hq; exact⟨h1,(List.getElem?_eq_some_iff.1 h2).1,_,_,_,_,h2⟩
 ·cases hq; exact⟨h1,(List.getElem?_eq_some_iff.1 h2).1,_,_,_,_,h2⟩
theorem StD.cut2 (h:StD b G v esz n l) {m:Nat} (hm:m≤n) {lo:(Nat→Prop)→Prop} {hi:Nat→(Nat→Prop)→Prop} (hlo:∀ K':Nat→Prop,K' 0→lo K') (hhi:∀ (d:Nat) (K':Nat→Prop),K' m→hi d K') {K:LV→Prop}
  (k:∀ v',StD b G v' esz m (l.take (m * esz))→rowOf v'=rowOf v→K v'):slL G esz v lo hi K:=by
 rcases h with ⟨rfl,rfl,rfl⟩ | ⟨p,ver,R,m',st,h0,h1,h2,h3,rfl,hd,⟨rfl,rfl⟩ | rfl⟩
 ·have:m=0:=by omega
  subst this
  rw[slL_nil]
  exact hlo _ (hhi _ _ ⟨rfl,rfl,k _ (.inl ⟨rfl,rfl,by simp⟩) rfl⟩)
 ·rw[slL_dy,h1]
  refine⟨rfl,rfl,hlo _ (hhi _ _ ⟨by omega,hm,k _ (.inr ⟨p,ver,R,n,st,h0,h1,h2,hm,?_,hd,.inr rfl⟩) rfl⟩)⟩
  rw[List.take_take,Nat.min_eq_left (Nat.mul_le_mul_right _ hm)]
 ·rw[slL_vw,h1]
  refine⟨rfl,rfl,hlo _ (hhi _ _ ⟨by omega,hm,k _ (.inr ⟨p,ver,R,m',st,h0,h1,h2,by omega,?_,hd,.inr rfl⟩) rfl⟩)⟩
  rw[List.take_take,Nat.min_eq_left (Nat.mul_le_mul_right _ hm)]
theorem StD.push2 (h:StD b G v esz n l) (hz:0 < esz) (hb:b≤G.length) (hn:n≤1000000000) (hx:x.length=esz) (hxd:dats x=true) {K:LV→LHeap→Prop}
  (k:∀ (v':LV) (G':LHeap),StD b G' v' esz (n+1) (l++x)→(∀ q,q < G.length→rowOf v≠some q→G'[q]?=G[q]?)→G.length≤G'.length→(rowOf v'=rowOf v∨rowOf v'=some G.length)→K v' G'):appL G esz v 1 x K:=by
 have hll:=h.stk.length
 have fresh:∀ l',l'=l++x→dats l'=true→K (.dy G.length 0) (G++[.dyn l' (n+1) esz 0 0]):=by
  rintro l' rfl hd
  refine k _ _ (.dy hb (st:=0) List.getElem?_concat_length (by rw[List.length_append,hll,hx,Nat.add_mul]; omega) hd) (fun q hq _=>List.getElem?_append_left hq) (by simp) (.inr rfl)
 rcases h with ⟨rfl,rfl,rfl⟩ | ⟨p,ver,R,m,st,h0,h1,h2,h3,rfl,hd,⟨rfl,rfl⟩ | rfl⟩
 ·rw[appL_nil]
  exact fresh _ rfl hxd
 ·have hp:p < G.length:=(List.getElem?_eq_some_iff.1 h1).1
  rw[List.take_of_length_le (by omega)] at k
  rw[appL_dy,h1]
  refine⟨rfl,⟨rfl,hz⟩,hn,k _ _ (.dy h0 (List.getElem?_set_self hp) (by rw[List.length_append,h2,hx,Nat.add_mul]; omega) (dats_app' hd hxd)) (fun q _ hq=>List.getElem?_set_ne (fun e=>hq (by rw[←e]; rfl))) (by simp) (.inl rfl)⟩
 ·have hp:p < G.length:=(List.getElem?_eq_some_iff.1 h1).1
  have hm:=Nat.mul_le_mul_right esz h3
  have ha:(n+1) * esz=n * esz+esz:=by rw[Nat.add_mul]; omega
  rw[appL_vw,h1]
  refine⟨rfl,⟨rfl,rfl,by omega⟩,hn,?_⟩
  by_cases hf:(n+1) * esz≤R.length
  ·rw[if_pos hf]
   have hnm:n+1≤m:=by
    rw[h2] at hf
    exact Nat.le_of_mul_le_mul_right hf hz
   refine⟨k _ _ (.inr ⟨p,ver,_,m,_,h0,List.getElem?_set_self hp,?_,hnm,?_,dats_lay hd hxd,.inr rfl⟩) (fun q _ hq=>List.getElem?_set_ne (fun e=>hq (by rw[←e]; rfl))) (by simp) (.inl rfl),fresh _ rfl (dats_app' (dats_take' _ hd) hxd)⟩
   ·unfold layLV; simp; omega
   ·unfold layLV
    have e1:(R.take (n * esz)++x).length=(n+1) * esz:=by rw[List.length_append,hll,hx,ha]
    rw[List.take_left' e1]
  ·rw[if_neg hf]
   have hnm:n=m:=by
    rw[h2] at hf
    have:¬ n+1≤m:=fun q=>hf (Nat.mul_le_mul_right _ q)
    omega
   subst hnm
   have ht:R.take (n * esz)=R:=List.take_of_length_le (by omega)
   rw[ht] at k fresh
   refine⟨rfl,hz,k _ _ (.dy h0 (List.getElem?_set_self hp) (by rw[List.length_append,h2,hx,Nat.add_mul]; omega) (dats_app' hd hxd)) (fun q _ hq=>List.getElem?_set_ne (fun e=>hq (by rw[←e]; rfl))) (by simp) (.inl rfl),fresh _ rfl (dats_app' hd hxd)⟩
end std
end Go.Sv
namespace Go.Sv
section deep
variable {P : Program}
theorem FnV.mkS {f:Nat} {args:List LV} {v0:LV} (hd:v0.dat=true) (h:CallL P (.fn f) args [] fun v G=>∀ (c:Cx) (a:AV),HSim c G→AR c v a→AR ⟨[],fun o=>c.Fz o∨Own c G o,c.H⟩ v0 a):FnV P f args v0:=by
 refine⟨h.1,hd,fun Fz H args1 hfz ha=>?_⟩
 obtain⟨m,v1,H',q1,c1,v,G,rfl,q3,q4,q5,q6⟩:=h.2 ⟨[],Fz,H⟩ (.fn f) args1 (.empty hfz) rfl ha
 have hno:∀ o,¬ Own ⟨[],Fz,H⟩ [] o:=fun o ⟨p,_,_,_,e,_⟩=>by simp at e
 refine⟨m,v1,_,c1.H,q1,q4.nx,fun o ho=>.inl (q4.le.fz o ho).1,fun o ho=>⟨ho.elim (q3.fz o) (q3.lt o),?_⟩,fun o ho=>q4.frame o ho (hno o),q6 c1 v1 q3 q5⟩
 rcases ho with ho | ho
 ·rcases q4.fznew o ho with h | h | h
  ·exact .inl h
  ·exact absurd h (hno o)
  ·exact .inr h
 ·rcases q4.new o ho with h | h
  ·exact absurd h (hno o)
  ·exact .inr h
theorem row_ok {c:Cx} {G:LHeap} (hs:HSim c G) {p k len esz st:Nat} {l r:List LV} {a:AV} (hg:G[p]?=some (.dyn l len esz k st)) (hb:bors G l r) (h:AR c (.dy p k) a):AR ⟨[],fun o=>c.Fz o∨Own c G o,c.H⟩ (.lst r len esz) a:=by
 cases h with
 | @dy _ _ k' hh _ e hk ha _ =>
  obtain⟨r0,r1,r2⟩:=hs.obj p _ _ _ hg e
  have hha:=ha (by omega)
  rcases r2 with ⟨r2,r3⟩ | ⟨o,v,room,t,clen,l',r2,r3,r4,r5,r6,r7,r8⟩
  ·subst r3
   have hl:l=[]:=List.eq_nil_of_length_eq_zero (by simpa using r1)
   subst hl
   simp only[bors] at hb
   subst hb
   rw[hha,r2]; exact .lstNil
  ·have hl':l'.length=len * esz:=by rw[←r6.length]; exact r1
   have hr:=readAt_of (i:=0) (n:=len * esz) r3 r5 r4 (by omega)
   rw[List.drop_zero,List.take_of_length_le (by omega)] at hr
   rw[hha,r2]
   have hars:=bors_ok hs l r l' hb r6
   refine .lst (.inr ⟨p,_,_,_,hg,rfl,e,by rw[r2]; rfl⟩) (fun r e=>(r7 r e).2) (by rw[hars.length,hl']) hr hars
theorem tup3_ok {c:Cx} {G:LHeap} (hs:HSim c G) {p k len esz st:Nat} {l r:List LV} {v d:LV} {x:LV} {a:AV} (hg:G[p]?=some (.dyn l len esz k st)) (hb:bors G l r) (hv:bor G v d) (hx:bor G x x) (h:AR c (.tup [.dy p k,v,x]) a):AR ⟨[],fun o=>c.Fz o∨Own c G o,c.H⟩ (.tup [.lst r len esz,d,x]) a:=by
 cases h with
 | tup h=>cases h with
  | cons e es=>cases es with
   | cons e2 es=>cases es with
    | cons e3 es =>
     cases es
     exact .tup (.cons (row_ok hs hg hb e) (.cons (bor_ok hs v d _ hv e2) (.cons (bor_ok hs x x _ hx e3) .nil)))
end deep
end Go.Sv
namespace Go.Sv
def DyS (b:Nat) (G:LHeap) (v:LV) (esz n:Nat) (l:List LV):Prop :=
 dats l=true∧l.length=n * esz∧((v=.nilSl∧n=0∧l=[])∨∃ (p k st:Nat),b≤p∧v=.dy p k∧G[p]?=some (.dyn l n esz k st))
section dys
variable {b : Nat} {G G' : LHeap} {v : LV} {esz n : Nat} {l x : List LV}
theorem DyS.nil:DyS b G .nilSl esz 0 []:=⟨rfl,by simp,.inl ⟨rfl,rfl,rfl⟩⟩
theorem DyS.frame (h:DyS b G v esz n l) (hf:∀ q,b≤q→q < G.length→G'[q]?=G[q]?):DyS b G' v esz n l:=by
 obtain⟨h1,h2,h | ⟨p,k,st,a,e,c⟩⟩:=h
 ·exact⟨h1,h2,.inl h⟩
 ·exact⟨h1,h2,.inr ⟨p,k,st,a,e,by rw[hf p a (List.getElem?_eq_some_iff.1 c).1]; exact c⟩⟩
theorem DyS.set_lt (h:DyS b G v esz n l) {q:Nat} {ob:LObj} (hq:q < b):DyS b (G.set q ob) v esz n l :=
 h.frame fun r hr _=>List.getElem?_set_ne (by omega)
theorem DyS.push_end (h:DyS b G v esz n l) {ob:List LObj}:DyS b (G++ob) v esz n l :=
 h.frame fun _ _ hr=>List.getElem?_append_left hr
theorem DyS.cells (h:DyS b G v esz n l):v.cells=some [v]:=by
 obtain⟨_,_,⟨rfl,_⟩ | ⟨p,k,st,_,rfl,_⟩⟩:=h <;> rfl
theorem DyS.push {c:Nat} (h:DyS b G v esz n l) (hz:0 < esz) (hb:b≤G.length) (hn:n≤1000000000) (hx:x.length=c * esz) (hxd:dats x=true) {K:LV→LHeap→Prop}
  (k:∀ (v':LV) (G':LHeap),DyS b G' v' esz (n+c) (l++x)→(∀ q,q < b→G'[q]?=G[q]?)→G.length≤G'.length→K v' G'):appL G esz v c x K:=by
 obtain⟨h1,h2,h⟩:=h
 have hl:(l++x).length=(n+c) * esz:=by rw[List.length_append,h2,hx,Nat.add_mul]
 rcases h with ⟨rfl,rfl,rfl⟩ | ⟨p,ver,st,a,rfl,e⟩
 ·rw[appL_nil]
  refine k _ _ ⟨by simpa using hxd,hl,.inr ⟨G.length,0,0,hb,rfl,?_⟩⟩ (fun q hq=>List.getElem?_append_left (by omega)) (by simp)
  rw[List.getElem?_concat_length]; simp
 ·have hp:=(List.getElem?_eq_some_iff.1 e).1
  rw[appL_dy,e]
  exact⟨rfl,⟨rfl,hz⟩,hn,k _ _ ⟨dats_app h1 hxd,hl,.inr ⟨p,ver+1,st+1,a,rfl,List.getElem?_set_self hp⟩⟩ (fun q hq=>List.getElem?_set_ne (by omega)) (by simp)⟩
theorem DyS.bor (h:DyS b G v esz n l):Go.Sv.bor G v (.lst l n esz):=by
 obtain⟨h1,h2,⟨rfl,rfl,rfl⟩ | ⟨p,k,st,a,rfl,e⟩⟩:=h
 ·exact .inr ⟨_,rfl⟩
 ·exact⟨l,n,esz,st,rfl,e,h1⟩
end dys
end Go.Sv
namespace Go.Sv
def spl:Nat→LC→LC×LC
 | 0,.seq a b=>(a,b)
 | n+1,.seq a b=>(.seq a (spl n b).1,(spl n b).2)
 | _,s=>(s,.skip)
def okS:Nat→LC→Bool
 | 0,.seq _ _=>true
 | n+1,.seq _ b=>okS n b
 | _,_=>false
section spl
variable {P : Program} {f n : Nat} {ro : Option Nat}
theorem W_spl {Q:Post} {Φ:LEnv→List Nat→LHeap→Prop}:∀ (k:Nat) (s:LC) {ρ:LEnv} {D:List Nat} {G:LHeap},okS k s=true →
  (h1:∀ Nx:LEnv→List Nat→LHeap→Prop,(∀ (ρ':LEnv) (D':List Nat) (G':LHeap),Φ ρ' D' G'→Nx ρ' D' G')→wp P f n ro (spl k s).1 ρ D G (nxQ Nx Q)) →
  (h2:∀ (ρ':LEnv) (D':List Nat) (G':LHeap),Φ ρ' D' G'→W P f n (spl k s).2 ro ρ' D' G' Q)→W P f n s ro ρ D G Q:=by
 suffices H:∀ (k:Nat) (s:LC) {ρ:LEnv} {D:List Nat} {G:LHeap},okS k s=true→wp P f n ro (spl k s).1 ρ D G (nxQ (fun ρ' D' G'=>W P f n (spl k s).2 ro ρ' D' G' Q) Q)→W P f n s ro ρ D G Q from
  fun k s ρ D G hk h1 h2=>H k s hk (h1 _ h2)
 intro k
 induction k with
 | zero =>
  intro s ρ D G hk h
  cases s with
  | seq a b =>
   refine W_seq ((wp_W a h).post fun x ρ' D' G' q=>?_)
   cases x <;> exact q
  | _=>simp[okS] at hk
 | succ k ih =>
  intro s ρ D G hk h
  cases s with
  | seq a b =>
   simp only[spl] at h
   rw[wp_seq] at h
   refine W_seq ((wp_W a h).post fun x ρ' D' G' q=>?_)
   cases x with
   | normal=>exact ih b hk q
   | _=>exact q
  | _=>simp[okS] at hk
theorem W_fz {s:LC} {ρ:LEnv} {D:List Nat} {G:LHeap} {Q:Post} {t p k len esz st:Nat} {l:List LV} (hg:G[p]?=some (.dyn l len esz k st)) (ht:lk ρ t=.dy p k) (h:W P f n s ro ((t,.lst l len esz)::ρ) D (G.set p (.dead (st+1))) Q):W P f n s ro ρ D G Q:=by
 intro code c E D1 ro1 h1 h2 h3 h4 h5 h6
 obtain⟨c1,u1,u2,u3,u4,u7,u5,u6⟩:=h3.froze hg
 have e4:EnvL c1 ((t,.lst l len esz)::ρ) E:=fun x=>by
  by_cases e:x=t
  ·subst e
   have:=h4 x
   rw[ht] at this
   simpa using u5 _ this
  ·have:=(h4 x).mono u3
   simpa [e] using this
 obtain⟨m,x,E',D1',c',ρ',D',G',q1,q2,q3,q4,q5,q6⟩:=h code c1 E D1 ro1 h1 h2 u1 e4 (h5.mono u3) (h6.mono u3)
 exact⟨m,x,E',D1',c',ρ',D',G',u7 ▸ q1,q2,u2.trans h3 u1 q3,q4,q5,q6⟩
theorem call_spl {s:LC} {rs:List RRes} {args:List LV} {G:LHeap} {K:LV→LHeap→Prop} (hf:resFn P f=some ⟨n,s.r,rs⟩) (hok:s.ok=true) (hn:args.length≤n) (h:W P f n s none (argsL args 0) [] G (endQ rs K)):CallL P (.fn f) args G K :=
 CallL_body hf hok hn (h.post fun x ρ D G' k=>by
  cases x with
  | normal=>exact⟨trivial,k⟩
  | exit i=>exact k.elim
  | ret=>exact⟨trivial,k⟩)
end spl
end Go.Sv
namespace Go.Sv
theorem iU_nat {n:Nat} (h:n < 18446744073709551616):(iU (n:Int)).toNat=n:=by
 rw[iU_eq,UInt64.ofInt,UInt64.toNat_ofNat']
 omega
def val:List UInt64→Nat
 | []=>0
 | x::l=>x.toNat+18446744073709551616 * val l
theorem pow64_succ (n:Nat):2 ^ (64 * (n+1))=18446744073709551616 * 2 ^ (64 * n):=by
 rw[Nat.mul_add,Nat.pow_add,Nat.mul_comm]
theorem val_append:∀ a b:List UInt64,val (a++b)=val a+2 ^ (64 * a.length) * val b
 | [],b=>by simp[val]
 | x::a,b=>by
  rw[List.cons_append,val,val,val_append a b,List.length_cons,pow64_succ,Nat.mul_add,Nat.mul_assoc]; omega
theorem val_lt:∀ a:List UInt64,val a < 2 ^ (64 * a.length)
 | []=>by simp[val]
 | x::a=>by
  have h1:=x.toNat_lt
  have h2:=val_lt a
  rw[val,List.length_cons,pow64_succ]
  omega
theorem val_single (x:UInt64):val [x]=x.toNat:=by simp[val]
theorem val_snoc (a:List UInt64) (x:UInt64):val (a++[x])=val a+2 ^ (64 * a.length) * x.toNat:=by
 rw[val_append,val_single]
theorem val_rep0:∀ n,val (List.replicate n 0)=0
 | 0=>rfl
 | n+1=>by rw[List.replicate_succ,val,val_rep0 n]; rfl
theorem take_succ_getD {a:List UInt64} {n:Nat} (h:n < a.length):a.take (n+1)=a.take n++[a.getD n 0]:=by
 rw[List.take_succ_eq_append_getElem h]; simp[h]
theorem val_take_succ {a:List UInt64} {n:Nat} (h:n < a.length):val (a.take (n+1))=val (a.take n)+2 ^ (64 * n) * (a.getD n 0).toNat:=by
 rw[take_succ_getD h,val_snoc,List.length_take,Nat.min_eq_left (by omega)]
def toLf:Nat→Nat→List UInt64
 | 0,_=>[]
 | f+1,n=>if n=0 then [] else UInt64.ofNat n::toLf f (n / 18446744073709551616)
def toL (n:Nat):List UInt64:=toLf n n
theorem toLf_more:∀ (f g n:Nat),n≤f→n≤g→toLf f n=toLf g n
 | 0,0,_,_,_=>rfl
 | 0,g+1,n,h,_=>by
  have:n=0:=by omega
  subst this; simp[toLf]
 | f+1,0,n,_,h=>by
  have:n=0:=by omega
  subst this; simp[toLf]
 | f+1,g+1,n,h1,h2=>by
  simp only[toLf]
  by_cases h0:n=0
  ·simp[h0]
  ·rw[if_neg h0,if_neg h0,toLf_more f g (n / 18446744073709551616) (by omega) (by omega)]
theorem toL_zero:toL 0=[]:=rfl
theorem toL_pos {n:Nat} (h:n≠0):toL n=UInt64.ofNat n::toL (n / 18446744073709551616):=by
 unfold toL
 cases n with
 | zero=>exact absurd rfl h
 | succ n =>
  rw[toLf,if_neg h,toLf_more n ((n+1) / 18446744073709551616) _ (by omega) (Nat.le_refl _)]
theorem val_toL (n:Nat):val (toL n)=n:=by
 induction n using Nat.strongRecOn with
 | _ n ih =>
  by_cases h:n=0
  ·subst h; rfl
  ·rw[toL_pos h,val,ih _ (by omega),UInt64.toNat_ofNat']
   omega
def Trm (l:List UInt64):Prop:=l=[]∨l.getLast?.getD 0≠0
theorem Trm_cons {x:UInt64} {l:List UInt64} (h:Trm (x::l)):Trm l:=by
 cases l with
 | nil=>exact .inl rfl
 | cons y l =>
  rcases h with h | h
  ·cases h
  ·exact .inr (by simpa [List.getLast?_cons_cons] using h)
theorem val_pos_of_Trm:∀ {l:List UInt64},l≠[]→Trm l→val l≠0
 | [],h,_=>absurd rfl h
 | [x],_,h=>by
  rcases h with h | h
  ·cases h
  ·simp at h
   rw[val_single]
   intro e
   exact h (UInt64.toNat_inj.1 e)
 | x::y::l,_,h=>by
  have:=val_pos_of_Trm (l:=y::l) (by simp) (Trm_cons h)
  rw[val]; omega
theorem toL_val:∀ {l:List UInt64},Trm l→toL (val l)=l
 | [],_=>rfl
 | x::l,h=>by
  have hp:=val_pos_of_Trm (by simp) h
  rw[toL_pos hp]
  have hx:=x.toNat_lt
  have e1:UInt64.ofNat (val (x::l))=x:=by
   apply UInt64.toNat_inj.1
   rw[UInt64.toNat_ofNat',val]
   omega
  have e2:val (x::l) / 18446744073709551616=val l:=by rw[val]; omega
  rw[e1,e2,toL_val (Trm_cons h)]
theorem Trm_snoc {l:List UInt64} {x:UInt64} (h:x≠0):Trm (l++[x]):=.inr (by simpa using h)
theorem Trm_toL (n:Nat):Trm (toL n):=by
 induction n using Nat.strongRecOn with
 | _ n ih =>
  by_cases h:n=0
  ·subst h; exact .inl rfl
  ·rw[toL_pos h]
   have:=ih (n / 18446744073709551616) (by omega)
   by_cases h2:n / 18446744073709551616=0
   ·rw[h2,toL_zero]
    refine .inr ?_
    simp
    intro e
    have:=congrArg UInt64.toNat e
    rw[UInt64.toNat_ofNat'] at this
    simp at this
    omega
   ·rw[toL_pos h2] at this ⊢
    rcases this with e | e
    ·cases e
    ·exact .inr (by simpa [List.getLast?_cons_cons] using e)
theorem toL_length_le {n k:Nat} (h:n < 2 ^ (64 * k)):(toL n).length≤k:=by
 induction k generalizing n with
 | zero => have : n = 0 := by simpa using h
           subst this; simp[toL_zero]
 | succ k ih =>
  by_cases h0:n=0
  ·subst h0; simp[toL_zero]
  ·rw[toL_pos h0,List.length_cons]
   have:=ih (n:=n / 18446744073709551616) (by rw[pow64_succ] at h; exact Nat.div_lt_of_lt_mul h)
   omega
theorem toL_length_val (a:List UInt64):(toL (val a)).length≤a.length:=toL_length_le (val_lt a)
theorem toL_eq_nil {n:Nat}:toL n=[]↔n=0:=⟨fun h=>by rw[←val_toL n,h]; rfl,fun h=>by rw[h]; rfl⟩
def RU (l:List UInt64):LObj:=.dyn (l.map .u) l.length 1 0 0
def RowAt (G:LHeap) (v:LV) (l:List UInt64):Prop:=(v=.nilSl∧l=[])∨∃ p k st,v=.dy p k∧G[p]?=some (.dyn (l.map .u) l.length 1 k st)
theorem RowAt.sel {G:LHeap} {v:LV} {l:List UInt64} (h:RowAt G v l):SelR G [v] [RU l]:=by
 rcases h with ⟨rfl,rfl⟩ | ⟨p,k,st,rfl,hg⟩
 ·simp[RU]
 ·simp[RU,hg]
theorem RU_ok {l:List UInt64}:∀ (j:Nat) (ob:LObj),[RU l][j]?=some ob→∃ c len esz,ob=.dyn c len esz 0 0∧c.all LV.scal=true:=by
 intro j ob e
 cases j with
 | zero=>simp at e; subst e; exact⟨_,_,_,rfl,by simp⟩
 | succ j=>simp at e
theorem RU_ok2 {l r:List UInt64}:∀ (j:Nat) (ob:LObj),[RU l,RU r][j]?=some ob→∃ c len esz,ob=.dyn c len esz 0 0∧c.all LV.scal=true:=by
 intro j ob e
 match j with
 | 0=>simp at e; subst e; exact⟨_,_,_,rfl,by simp⟩
 | 1=>simp at e; subst e; exact⟨_,_,_,rfl,by simp⟩
 | j+2=>simp at e
theorem FnS.row {P:Program} {f:Nat} {args:List LV} {l:List UInt64} (h:CallL P (.fn f) args [] fun v G=>RowAt G v l):FnS P f args (.dy 0 0) [RU l] :=
 FnS.mk rfl (h.mono fun v G e=>⟨[v],by simp,rfl,e.sel⟩) RU_ok
theorem FnS.rowE {P:Program} {f:Nat} {args:List LV} {l:List UInt64} {e:Int} (h:CallL P (.fn f) args [] fun v G=>∃ w,v=.tup [w,.i e]∧RowAt G w l):FnS P f args (.tup [.dy 0 0,.i e]) [RU l] :=
 FnS.mk rfl (h.mono fun v G ⟨w,e1,e2⟩=>⟨[w],by simp[e1],rfl,e2.sel⟩) RU_ok
theorem FnS.row2E {P:Program} {f:Nat} {args:List LV} {l r:List UInt64} {e:Int} (h:CallL P (.fn f) args [] fun v G=>∃ w w',v=.tup [w,w',.i e]∧RowAt G w l∧RowAt G w' r∧∀ p k,w=.dy p k→notP p w'):FnS P f args (.tup [.dy 0 0,.dy 1 0,.i e]) [RU l,RU r] :=
 FnS.mk rfl (h.mono fun v G ⟨w,w',e1,e2,e3,e4⟩=>⟨[w,w'],by simp[e1],rfl,by
  have h3:=e3.sel
  rcases e2 with ⟨rfl,rfl⟩ | ⟨p,k,st,rfl,hg⟩
  ·simp only[SelR,RU] at h3 ⊢; exact⟨by simp,by simp,by simp,by simp,h3⟩
  ·have h4:=e4 p k rfl
   simp only[SelR,RU,List.mem_singleton,forall_eq] at h3 ⊢; exact⟨by simp,by simp,⟨st,hg⟩,by simp,h4,h3⟩⟩) RU_ok2
def addC (a b:UInt64):Bool→UInt64×Bool
 | false=>(a+b,decide (a+b < a))
 | true=>(a+b+1,decide (a+b < a) || decide (a+b+1=0))
def subC (a b:UInt64):Bool→UInt64×Bool
 | false=>(a - b,decide (a < b))
 | true=>(a - b - 1,decide (a < b) || decide (a - b=0))
theorem u_zero_iff (x:UInt64):x=0↔x.toNat=0:=⟨fun h=>by rw[h]; rfl,fun h=>UInt64.toNat_inj.1 (by rw[h]; rfl)⟩
theorem toNat_ite (b:Bool):b.toNat=if b=true then 1 else 0:=by cases b <;> rfl
theorem addC_val (a b:UInt64) (c:Bool):(addC a b c).1.toNat+18446744073709551616 * (addC a b c).2.toNat=a.toNat+b.toNat+c.toNat:=by
 have h1:=a.toNat_lt
 have h2:=b.toNat_lt
 cases c with
 | false =>
  simp only[addC,toNat_ite,decide_eq_true_eq,UInt64.lt_iff_toNat_lt,UInt64.toNat_add]
  split <;> simp <;> omega
 | true =>
  simp only[addC,toNat_ite,Bool.or_eq_true,decide_eq_true_eq,UInt64.lt_iff_toNat_lt,u_zero_iff,UInt64.toNat_add,UInt64.toNat_one]
  split <;> simp <;> omega
theorem subC_val (a b:UInt64) (c:Bool):(subC a b c).1.toNat+b.toNat+c.toNat=a.toNat+18446744073709551616 * (subC a b c).2.toNat:=by
 have h1:=a.toNat_lt
 have h2:=b.toNat_lt
 cases c with
 | false =>
  have e:(subC a b false).2=decide (a.toNat < b.toNat):=by simp[subC,UInt64.lt_iff_toNat_lt]
  rw[e]
  simp only[subC,UInt64.toNat_sub]
  by_cases h:a.toNat < b.toNat <;> simp[h] <;> omega
 | true =>
  have e:(subC a b true).2=decide (a.toNat≤b.toNat):=by
   simp only[subC,UInt64.lt_iff_toNat_lt,u_zero_iff,UInt64.toNat_sub]
   by_cases h:a.toNat≤b.toNat
   ·by_cases h':a.toNat < b.toNat
    ·simp[h,h']
    ·have:a.toNat=b.toNat:=by omega
     simp[this]; omega
   ·simp[h]; omega
  rw[e]
  simp only[subC,UInt64.toNat_sub,UInt64.toNat_one]
  by_cases h:a.toNat≤b.toNat <;> simp[h] <;> omega
theorem gapp {G:LHeap} {p:Nat} {ob:LObj} (h:G[p]?=some ob) (x:LHeap):(G++x)[p]?=some ob:=by
 rw[List.getElem?_append_left (List.getElem?_eq_some_iff.1 h).1]; exact h
theorem gset {G:LHeap} {p:Nat} {ob:LObj} (h:G[p]?=some ob) (ob':LObj):(G.set p ob')[p]?=some ob':=List.getElem?_set_self (List.getElem?_eq_some_iff.1 h).1
theorem gset_ne {G:LHeap} {p q:Nat} (h:q≠p) (ob':LObj):(G.set p ob')[q]?=G[q]?:=List.getElem?_set_ne (Ne.symm h)
theorem RowAt.app {G:LHeap} {v:LV} {l:List UInt64} (h:RowAt G v l) (x:LHeap):RowAt (G++x) v l:=by
 rcases h with h | ⟨p,k,st,h1,h2⟩
 ·exact .inl h
 ·exact .inr ⟨p,k,st,h1,gapp h2 x⟩
@[simp] theorem dats_rep (n:Nat) (x:UInt64):dats (List.replicate n (LV.u x))=true:=by
 rw[show List.replicate n (LV.u x)=(List.replicate n x).map LV.u by simp]; exact dat_us _
theorem flat_u (l:List UInt64):l.flatMap (fun x=>[LV.u x])=l.map .u:=by
 induction l with
 | nil=>rfl
 | cons x l ih=>simp[ih]
theorem appL_row {G:LHeap} {v:LV} {l xs:List UInt64} {n:Nat} {new:List LV} {K:LV→LHeap→Prop} (h:RowAt G v l) (hn:n=xs.length) (hnew:new=xs.map .u) (hl:l.length≤1000000000)
  (k:∀ v' G',RowAt G' v' (l++xs)→(∀ (q:Nat) (ob:LObj),G[q]?=some ob→(∀ k,v≠.dy q k)→G'[q]?=some ob∧∀ k,v'≠.dy q k)→K v' G'):appL G 1 v n new K:=by
 subst hn hnew
 rcases h with ⟨rfl,rfl⟩ | ⟨p,ver,st,rfl,hg⟩
 ·refine k _ _ (.inr ⟨G.length,0,0,rfl,by simp⟩) (fun q ob hq _=>⟨gapp hq _,fun k e=>?_⟩)
  cases e
  have:=(List.getElem?_eq_some_iff.1 hq).1
  omega
 ·simp only[appL,hg]
  refine⟨by simp,⟨by simp,by simp⟩,by simpa using hl,k _ _ (.inr ⟨p,ver+1,st+1,rfl,by rw[gset hg]; simp⟩) (fun q ob hq hne=>?_)⟩
  have hqp:q≠p:=fun e=>hne ver (by rw[e])
  exact⟨by rw[gset_ne hqp]; exact hq,fun k e=>by cases e; exact hqp rfl⟩
theorem RowAt.bor {G:LHeap} {v:LV} {l:List UInt64} (h:RowAt G v l):bor G v (LU l):=by
 rcases h with ⟨rfl,rfl⟩ | ⟨p,k,st,rfl,hg⟩
 ·exact .inr ⟨1,by simp⟩
 ·exact⟨_,_,_,st,rfl,hg,by simp⟩
theorem bors1 {G:LHeap} {v d:LV} (h:Go.Sv.bor G v d):bors G [v] [d]:=⟨d,[],rfl,h,rfl⟩
theorem bors2 {G:LHeap} {v d v' d':LV} (h:Go.Sv.bor G v d) (h':Go.Sv.bor G v' d'):bors G [v,v'] [d,d']:=⟨d,_,rfl,h,bors1 h'⟩
theorem bors3 {G:LHeap} {v d v' d' v'' d'':LV} (h:Go.Sv.bor G v d) (h':Go.Sv.bor G v' d') (h'':Go.Sv.bor G v'' d''):bors G [v,v',v''] [d,d',d'']:=⟨d,_,rfl,h,bors2 h' h''⟩
theorem RowAt.new {G:LHeap} {l:List UInt64}:RowAt (G++[RU l]) (.dy G.length 0) l:=.inr ⟨G.length,0,0,rfl,by simp[RU]⟩
theorem CallL_row {P:Program} {f:Nat} {args dargs:List LV} {l:List UInt64} {G:LHeap} {K:LV→LHeap→Prop} (hc:FnS P f dargs (.dy 0 0) [RU l]) (hb:bors G args dargs) (k:K (.dy G.length 0) (G++[RU l])):CallL P (.fn f) args G K :=
 CallL_S hc hb (by simpa using k)
theorem val_take_big {a:List UInt64} {n:Nat} (h:a.length≤n):val (a.take n)=val a:=by rw[List.take_of_length_le h]
theorem val_bound {a:List UInt64} {n:Nat} (h:a.length≤n):val a < 2 ^ (64 * n):=Nat.lt_of_lt_of_le (val_lt a) (Nat.pow_le_pow_right (by omega) (by omega))
theorem pow64 (m:Nat):2 ^ (64 * (m+1))=2 ^ (64 * m) * 18446744073709551616:=by
 rw[Nat.pow_mul,Nat.pow_mul,Nat.pow_succ]
theorem val_take_next (a:List UInt64) (n:Nat):val (a.take (n+1))=val (a.take n)+2 ^ (64 * n) * (a.getD n 0).toNat:=by
 by_cases h:n < a.length
 ·exact val_take_succ h
 ·rw[List.take_of_length_le (by omega),List.take_of_length_le (by omega)]
  have:a.getD n 0=0:=by simp; rw[List.getElem?_eq_none (by omega)]; rfl
  rw[this]; simp
theorem val_one (x:UInt64):val [x]=x.toNat:=by simp[val]
theorem val_getD:∀ {a b:List UInt64},val a=val b→∀ i,a.getD i 0=b.getD i 0
 | [],[],_,_=>rfl
 | [],y::b,h,i=>by
  simp only[val] at h
  have hy:y=0:=(u_zero_iff y).2 (by omega)
  have hb:val []=val b:=by simp only[val]; omega
  have ih:=val_getD hb
  cases i with
  | zero=>simp[hy]
  | succ i=>simpa using ih i
 | x::a,[],h,i=>by
  simp only[val] at h
  have hx:x=0:=(u_zero_iff x).2 (by omega)
  have ha:val a=val []:=by simp only[val]; omega
  have ih:=val_getD ha
  cases i with
  | zero=>simp[hx]
  | succ i=>simpa using ih i
 | x::a,y::b,h,i=>by
  simp only[val] at h
  have h1:=x.toNat_lt
  have h2:=y.toNat_lt
  have e:x.toNat=y.toNat:=by omega
  have ih:=val_getD (a:=a) (b:=b) (by omega)
  cases i with
  | zero=>simpa using UInt64.toNat_inj.1 e
  | succ i=>simpa using ih i
theorem no_carry {x y z Q B:Nat} {c:Bool} (hB:2≤B) (hv:x+Q * B * c.toNat=y+z) (hy:y < Q) (hz:z < Q):x=y+z:=by
 cases c
 ·simpa using hv
 ·have:Q * 2≤Q * B:=Nat.mul_le_mul_left _ hB
  simp at hv; omega
theorem add_end {a b out:List UInt64} {c:Bool} {n m:Nat} (h:n=m+1) (ha:a.length≤m) (hb:b.length≤m) (hv:val out+2 ^ (64 * n) * c.toNat=val a+val b):val out=val a+val b:=by
 subst h
 rw[pow64] at hv
 exact no_carry (by decide) hv (val_bound ha) (val_bound hb)
theorem addn {o A A' Q B s x y c c':Nat} (hv:o+Q * c=A+A') (h:s+B * c'=x+y+c):o+Q * s+Q * B * c'=A+Q * x+(A'+Q * y):=by
 have:Q * (s+B * c')=Q * (x+y+c):=by rw[h]
 simp only[Nat.mul_add,←Nat.mul_assoc] at this
 omega
theorem add_step {a b out:List UInt64} {c:Bool} {i:Nat} (hl:out.length=i) (hv:val out+2 ^ (64 * i) * c.toNat=val (a.take i)+val (b.take i)) :
  val (out++[(addC (a.getD i 0) (b.getD i 0) c).1])+2 ^ (64 * (i+1)) * (addC (a.getD i 0) (b.getD i 0) c).2.toNat=val (a.take (i+1))+val (b.take (i+1)):=by
 rw[val_take_next,val_take_next,pow64,val_append,hl,val_one]
 exact addn hv (addC_val _ _ _)
theorem opened:(∀ a b,addU a b=a+b)∧(∀ a b,subU a b=a - b)∧(∀ a b,mulU a b=a * b):=⟨addU_eq,subU_eq,mulU_eq⟩
end Go.Sv
namespace Go.Sv
theorem repU (n:Nat):repL [LV.u 0] n=(List.replicate n (0:UInt64)).map .u:=by
 induction n with
 | zero=>rfl
 | succ n ih=>simp[repL,ih,List.replicate_succ]
def LN (l:List (List UInt64)):LV:=.lst (l.map LU) l.length 1
attribute [simp] LN
theorem nthL_n (l:List (List UInt64)) (i:Nat) (K:LV→Prop):nthL (l.map LU) i K=(i < l.length∧K (LU (l.getD i []))):=nthL_map _ _ _ _ _
theorem dats_n (l:List (List UInt64)):dats (l.map LU)=true:=dats_map (fun x=>by simp) l
attribute [simp] nthL_n dats_n
attribute [simp ↓] nthL_n
end Go.Sv
namespace Go.Sv
def mulHi (a b:UInt64):UInt64:=UInt64.ofNat (a.toNat * b.toNat / 18446744073709551616)
theorem mulHi_val (a b:UInt64):(mulHi a b).toNat * 18446744073709551616+(a * b).toNat=a.toNat * b.toNat:=by
 have h1:=a.toNat_lt
 have h2:=b.toNat_lt
 have h3:a.toNat * b.toNat≤18446744073709551615 * 18446744073709551615:=Nat.mul_le_mul (by omega) (by omega)
 rw[mulHi,UInt64.toNat_ofNat',UInt64.toNat_mul]
 omega
theorem and_low (x:UInt64):(x &&& 4294967295).toNat=x.toNat % 4294967296:=by
 rw[UInt64.toNat_and]
 exact Nat.and_two_pow_sub_one_eq_mod x.toNat 32
theorem mul_hi (a b:UInt64) :
  addU (addU (mulU (shrU a 32) (shrU b 32)) (shrU (addU (mulU (shrU a 32) (andU b 4294967295)) (shrU (mulU (andU a 4294967295) (andU b 4294967295)) 32)) 32)) (shrU (addU (mulU (andU a 4294967295) (shrU b 32)) (andU (addU (mulU (shrU a 32) (andU b 4294967295)) (shrU (mulU (andU a 4294967295) (andU b 4294967295)) 32)) 4294967295)) 32)=mulHi a b:=by
 simp only[addU_eq,mulU_eq,shrU_eq,andU_eq]
 apply UInt64.toNat_inj.1
 have h1:=a.toNat_lt
 have h2:=b.toNat_lt
 simp only[mulHi,UInt64.toNat_add,UInt64.toNat_mul,UInt64.toNat_ofNat',and_low,Nat.reducePow]
 generalize a.toNat=x at *
 generalize b.toNat=y at *
 have e1:x=x / 4294967296 * 4294967296+x % 4294967296:=by omega
 have e2:y=y / 4294967296 * 4294967296+y % 4294967296:=by omega
 have b1:x / 4294967296 < 4294967296:=by omega
 have b2:x % 4294967296 < 4294967296:=by omega
 have b3:y / 4294967296 < 4294967296:=by omega
 have b4:y % 4294967296 < 4294967296:=by omega
 have m1:x / 4294967296 % 18446744073709551616=x / 4294967296:=by omega
 have m2:y / 4294967296 % 18446744073709551616=y / 4294967296:=by omega
 rw[m1,m2]
 have e3:x * y=(x / 4294967296 * (y / 4294967296)) * 18446744073709551616+(x / 4294967296 * (y % 4294967296)) * 4294967296+(x % 4294967296 * (y / 4294967296)) * 4294967296+x % 4294967296 * (y % 4294967296):=by
  generalize x / 4294967296=p at *
  generalize x % 4294967296=q at *
  generalize y / 4294967296=r at *
  generalize y % 4294967296=s at *
  subst e1 e2
  grind
 rw[e3]
 generalize x / 4294967296=p at *
 generalize x % 4294967296=q at *
 generalize y / 4294967296=r at *
 generalize y % 4294967296=s at *
 have c1:p * r≤4294967295 * 4294967295:=Nat.mul_le_mul (by omega) (by omega)
 have c2:p * s≤4294967295 * 4294967295:=Nat.mul_le_mul (by omega) (by omega)
 have c3:q * r≤4294967295 * 4294967295:=Nat.mul_le_mul (by omega) (by omega)
 have c4:q * s≤4294967295 * 4294967295:=Nat.mul_le_mul (by omega) (by omega)
 generalize p * r=k1 at *
 generalize p * s=k2 at *
 generalize q * r=k3 at *
 generalize q * s=k4 at *
 clear e1 e2 m1 m2 b1 b2 b3 b4 h1 h2 e3
 omega
def blen (n:Nat):Nat:=if n=0 then 0 else n.log2+1
theorem blen_zero:blen 0=0:=rfl
theorem blen_half {n:Nat} (h:n≠0):blen n=blen (n / 2)+1:=by
 unfold blen
 rw[if_neg h]
 by_cases h2:n / 2=0
 ·have:n=1:=by omega
  subst this; decide
 ·rw[if_neg h2,Nat.log2_def n,if_pos (by omega)]
theorem blen_lt (n:Nat):n < 2 ^ blen n:=by
 unfold blen
 by_cases h:n=0
 ·subst h; decide
 ·rw[if_neg h]; exact (Nat.log2_lt h).1 (Nat.lt_succ_self _)
theorem blen_le {n k:Nat} (h:n < 2 ^ k):blen n≤k:=by
 unfold blen
 by_cases h0:n=0
 ·subst h0; simp
 ·rw[if_neg h0]; exact (Nat.log2_lt h0).2 h
theorem blen_shift {n:Nat}:∀ s:Nat,n / 2 ^ s≠0→blen n=s+blen (n / 2 ^ s)
 | 0,_=>by simp
 | s+1,h=>by
  have h1:n / 2 ^ s / 2≠0:=by rw[Nat.div_div_eq_div_mul,←Nat.pow_succ]; exact h
  have h2:n / 2 ^ s≠0:=fun e=>h1 (by rw[e])
  rw[blen_shift s h2,blen_half h2,Nat.div_div_eq_div_mul,show 2 ^ s * 2=2 ^ (s+1) from rfl]
  omega
theorem shr_val (v:UInt64) (s:Nat):(shrU v s).toNat=v.toNat / 2 ^ s:=by
 have h:=v.toNat_lt
 have:v.toNat / 2 ^ s≤v.toNat:=Nat.div_le_self _ _
 rw[shrU_eq,UInt64.toNat_ofNat',Nat.mod_eq_of_lt (by omega)]
theorem and_one (v:UInt64):(andU v 1).toNat=v.toNat % 2:=by
 rw[andU_eq,UInt64.toNat_and]
 exact Nat.and_two_pow_sub_one_eq_mod v.toNat 1
theorem bit_u' (v:UInt64) (s:Nat):andU (shrU v s) 1=if v.toNat.testBit s=true then 1 else 0:=by
 apply UInt64.toNat_inj.1
 rw[and_one,shr_val,Nat.testBit_eq_decide_div_mod_eq]
 by_cases h:v.toNat / 2 ^ s % 2=1
 ·simp[h]
 ·have:v.toNat / 2 ^ s % 2=0:=by omega
  simp[this]
theorem one_shl {i:Nat} (h:i < 64):(shlU 1 i).toNat=2 ^ i:=by
 rw[shlU_eq,UInt64.toNat_ofNat']
 have:2 ^ i < 2 ^ 64:=Nat.pow_lt_pow_right (by omega) h
 simp
 omega
end Go.Sv
namespace Go.Sv
theorem limb_at:∀ (a:List UInt64) (i:Nat),(a.getD i 0).toNat=val a / 2 ^ (64 * i) % 18446744073709551616
 | [],i=>by simp[val]
 | x::a,0=>by
  have:=x.toNat_lt
  simp[val]
 | x::a,i+1=>by
  have h:=x.toNat_lt
  have ih:=limb_at a i
  rw[pow64_succ,←Nat.div_div_eq_div_mul,val,show (x.toNat+18446744073709551616 * val a) / 18446744073709551616=val a by omega,←ih]
  simp
theorem bit_at (a:List UInt64) (i:Nat):(a.getD (i / 64) 0).toNat.testBit (i % 64)=(val a).testBit i:=by
 rw[limb_at,show (18446744073709551616:Nat)=2 ^ 64 from rfl,Nat.testBit_mod_two_pow,Nat.testBit_div_two_pow]
 have:i % 64+64 * (i / 64)=i:=by omega
 simp[this]
 intro; omega
theorem val_set:∀ (a:List UInt64) (i:Nat) (x:UInt64),i < a.length→val (a.set i x)+2 ^ (64 * i) * (a.getD i 0).toNat=val a+2 ^ (64 * i) * x.toNat
 | [],i,x,h=>by simp at h
 | y::a,0,x,_=>by simp[val]; omega
 | y::a,i+1,x,h=>by
  have ih:=val_set a i x (by simpa using h)
  rw[pow64_succ]
  simp only[List.set_cons_succ,val,List.getD_cons_succ,Nat.mul_assoc]
  omega
theorem val_set0 {a:List UInt64} {i:Nat} {x:UInt64} (h:i < a.length) (h0:a.getD i 0=0):val (a.set i x)=val a+2 ^ (64 * i) * x.toNat:=by
 have:=val_set a i x h
 rw[h0] at this
 simpa using this
theorem getD_set (a:List UInt64) (i j:Nat) (x:UInt64) (h:i≠j):(a.set i x).getD j 0=a.getD j 0:=by simp[List.getElem?_set_ne h]
theorem layU (a:List UInt64) (i:Nat) (x:UInt64) (h:i < a.length):layLV (a.map .u) i [.u x]=(a.set i x).map .u:=by
 unfold layLV
 rw[List.set_eq_take_append_cons_drop,if_pos h]
 simp
theorem blen_val {l:List UInt64} {n:Nat} (h:Trm l) (hl:l.length=n+1):blen (val l)=64 * n+blen (l.getD n 0).toNat:=by
 have h1:val l=val (l.take n)+2 ^ (64 * n) * (l.getD n 0).toNat:=by rw[←val_take_succ (by omega),List.take_of_length_le (by omega)]
 have h2:=val_bound (a:=l.take n) (n:=n) (by simp; omega)
 have h3:val l / 2 ^ (64 * n)=(l.getD n 0).toNat:=by
  rw[h1,Nat.add_mul_div_left _ _ (Nat.two_pow_pos _),Nat.div_eq_of_lt h2,Nat.zero_add]
 have h4:(l.getD n 0).toNat≠0:=by
  rcases h with h | h
  ·rw[h] at hl; simp at hl
  ·intro e
   refine h ?_
   have:l.getLast?.getD 0=l.getD n 0:=by
    rw[List.getLast?_eq_getElem?,hl]; simp
   rw[this]
   exact (u_zero_iff _).2 e
 rw[blen_shift (64 * n) (by rw[h3]; exact h4),h3]
def cmpN (a b:Nat):Int:=if a < b then -1 else if b < a then 1 else 0
theorem cmpN_step {v w k x y:Nat} (hv:v < k) (hw:w < k):cmpN (v+k * x) (w+k * y)=if x < y then -1 else if y < x then 1 else cmpN v w:=by
 have e:∀ z,k * (z+1)=k * z+k:=fun z=>by rw[Nat.mul_add,Nat.mul_one]
 by_cases h1:x < y
 ·have:=Nat.mul_le_mul_left k (show x+1≤y from h1)
  rw[e] at this
  rw[if_pos h1,cmpN,if_pos (by omega)]
 ·rw[if_neg h1]
  by_cases h2:y < x
  ·have:=Nat.mul_le_mul_left k (show y+1≤x from h2)
   rw[e] at this
   rw[if_pos h2,cmpN,if_neg (by omega),if_pos (by omega)]
  ·rw[if_neg h2]
   have:x=y:=by omega
   subst this
   unfold cmpN
   by_cases h3:v < w
   ·rw[if_pos h3,if_pos (by omega)]
   ·rw[if_neg h3,if_neg (by omega)]
    by_cases h4:w < v
    ·rw[if_pos h4,if_pos (by omega)]
    ·rw[if_neg h4,if_neg (by omega)]
theorem val_take_lt (a:List UInt64) (i:Nat):val (a.take i) < 2 ^ (64 * i):=val_bound (by simp; omega)
theorem cmp_next (a b:List UInt64) (i:Nat):cmpN (val (a.take (i+1))) (val (b.take (i+1)))=if a.getD i 0 < b.getD i 0 then -1 else if b.getD i 0 < a.getD i 0 then 1 else cmpN (val (a.take i)) (val (b.take i)):=by
 rw[val_take_next,val_take_next,cmpN_step (val_take_lt a i) (val_take_lt b i)]
 simp only[UInt64.lt_iff_toNat_lt]
theorem cmpN_lt {a b:Nat}:cmpN a b < 0↔a < b:=by
 unfold cmpN
 split
 ·simp; assumption
 ·split <;> simp <;> omega
theorem cmpN_eq {a b:Nat}:cmpN a b=0↔a=b:=by
 unfold cmpN
 split
 ·simp; omega
 ·split <;> simp <;> omega
theorem cmpN_ge {a b:Nat}:0≤cmpN a b↔b≤a:=by
 have:=@cmpN_lt a b
 omega
theorem sub_step {a b:List UInt64} {i:Nat} {c:Bool} {out:List UInt64} (hl:out.length=i) (hv:val out+val (b.take i)=val (a.take i)+2 ^ (64 * i) * c.toNat) :
  val (out++[(subC (a.getD i 0) (b.getD i 0) c).1])+val (b.take (i+1))=val (a.take (i+1))+2 ^ (64 * (i+1)) * (subC (a.getD i 0) (b.getD i 0) c).2.toNat:=by
 have hs:=subC_val (a.getD i 0) (b.getD i 0) c
 rw[val_snoc,hl,val_take_next,val_take_next,pow64]
 generalize (subC (a.getD i 0) (b.getD i 0) c).1.toNat=s at *
 generalize (subC (a.getD i 0) (b.getD i 0) c).2.toNat=d at *
 generalize (a.getD i 0).toNat=x at *
 generalize (b.getD i 0).toNat=y at *
 generalize 2 ^ (64 * i)=k at *
 have e:k * (s+y+c.toNat)=k * (x+18446744073709551616 * d):=by rw[hs]
 simp only[Nat.mul_add] at e
 have e2:k * (18446744073709551616 * d)=k * 18446744073709551616 * d:=by rw[Nat.mul_assoc]
 omega
theorem sub_end {a b out:List UInt64} {m:Nat} {c:Bool} (ha:a.length≤m) (hb:b.length≤m) (hl:out.length=m) (hv:val out+val (b.take m)=val (a.take m)+2 ^ (64 * m) * c.toNat) :
  (c=true↔val a < val b)∧(c=false→val out=val a - val b):=by
 rw[val_take_big ha,val_take_big hb] at hv
 have h1:=val_bound (a:=out) (n:=m) (by omega)
 have h2:=val_bound hb
 cases c with
 | true=>simp at hv ⊢; omega
 | false=>simp at hv ⊢; omega
def mulC (o x y m:UInt64):UInt64×UInt64:=((addC (addC o (x * y) false).1 m false).1,(addC (addC (mulHi x y) 0 (addC o (x * y) false).2).1 0 (addC (addC o (x * y) false).1 m false).2).1)
theorem mulC_val (o x y m:UInt64):(mulC o x y m).1.toNat+18446744073709551616 * (mulC o x y m).2.toNat=o.toNat+x.toNat * y.toNat+m.toNat:=by
 have h1:=addC_val o (x * y) false
 have h2:=addC_val (addC o (x * y) false).1 m false
 have h3:=addC_val (mulHi x y) 0 (addC o (x * y) false).2
 have h4:=addC_val (addC (mulHi x y) 0 (addC o (x * y) false).2).1 0 (addC (addC o (x * y) false).1 m false).2
 have h5:=mulHi_val x y
 have l1:=o.toNat_lt
 have l2:=m.toNat_lt
 have l3:=x.toNat_lt
 have l4:=y.toNat_lt
 have l5:x.toNat * y.toNat≤18446744073709551615 * 18446744073709551615:=Nat.mul_le_mul (by omega) (by omega)
 have l6:=(addC (mulHi x y) 0 (addC o (x * y) false).2).1.toNat_lt
 have l7:=(addC (addC (mulHi x y) 0 (addC o (x * y) false).2).1 0 (addC (addC o (x * y) false).1 m false).2).1.toNat_lt
 unfold mulC
 dsimp only
 generalize (addC (addC (mulHi x y) 0 (addC o (x * y) false).2).1 0 (addC (addC o (x * y) false).1 m false).2)=r4 at *
 generalize (addC (mulHi x y) 0 (addC o (x * y) false).2)=r3 at *
 generalize (addC (addC o (x * y) false).1 m false)=r2 at *
 generalize (addC o (x * y) false)=r1 at *
 have z:(0:UInt64).toNat=0:=rfl
 rw[z] at h3 h4
 simp at h1 h2
 have b1:r1.2.toNat≤1:=Bool.toNat_le _
 have b2:r2.2.toNat≤1:=Bool.toNat_le _
 have b3:r3.2.toNat≤1:=Bool.toNat_le _
 have b4:r4.2.toNat≤1:=Bool.toNat_le _
 have l8:=(x * y).toNat_lt
 generalize (x * y).toNat=lo at *
 generalize (mulHi x y).toNat=hi at *
 generalize x.toNat * y.toNat=p at *
 omega
def MulInv (a b:List UInt64) (i k:Nat) (out:List UInt64) (more:UInt64):Prop :=
 out.length=a.length+b.length∧val out+2 ^ (64 * (i+k)) * more.toNat=val (a.take i) * val b+2 ^ (64 * i) * ((a.getD i 0).toNat * val (b.take k))∧∀ j,i+b.length≤j→out.getD j 0=0
theorem mul_first (a b:List UInt64):MulInv a b 0 0 (List.replicate (a.length+b.length) 0) 0:=by
 refine⟨by simp,by simp[val,val_rep0],fun j hj=>?_⟩
 simp only[List.getD_eq_getElem?_getD,List.getElem?_replicate]
 split <;> rfl
theorem mul_inner {a b out:List UInt64} {i k:Nat} {more:UInt64} (hi:i < a.length) (hk:k < b.length) (h:MulInv a b i k out more) :
  MulInv a b i (k+1) (out.set (i+k) (mulC (out.getD (i+k) 0) (a.getD i 0) (b.getD k 0) more).1) (mulC (out.getD (i+k) 0) (a.getD i 0) (b.getD k 0) more).2:=by
 obtain⟨h1,h2,h3⟩:=h
 have hm:=mulC_val (out.getD (i+k) 0) (a.getD i 0) (b.getD k 0) more
 have hs:=val_set out (i+k) (mulC (out.getD (i+k) 0) (a.getD i 0) (b.getD k 0) more).1 (by omega)
 refine⟨by simp[h1],?_,fun j hj=>by rw[getD_set _ _ _ _ (by omega)]; exact h3 j hj⟩
 rw[val_take_next b k,show i+(k+1)=(i+k)+1 by omega,pow64]
 generalize (mulC (out.getD (i+k) 0) (a.getD i 0) (b.getD k 0) more).2.toNat=m2 at *
 generalize hs1:(mulC (out.getD (i+k) 0) (a.getD i 0) (b.getD k 0) more).1=s1 at *
 generalize (out.getD (i+k) 0).toNat=o at *
 generalize (a.getD i 0).toNat=x at *
 generalize (b.getD k 0).toNat=y at *
 rw[show 64 * (i+k)=64 * i+64 * k by omega,Nat.pow_add] at *
 generalize 2 ^ (64 * i)=p at *
 generalize 2 ^ (64 * k)=q at *
 generalize s1.toNat=s at *
 generalize val (a.take i) * val b=X at *
 generalize val (b.take k)=Y at *
 generalize val (out.set (i+k) s1)=V at *
 generalize val out=U at *
 generalize more.toNat=m at *
 grind
theorem mul_outer {a b out:List UInt64} {i:Nat} {more:UInt64} (hi:i < a.length) (h:MulInv a b i b.length out more):MulInv a b (i+1) 0 (out.set (i+b.length) more) 0:=by
 obtain⟨h1,h2,h3⟩:=h
 have hs:=val_set0 (a:=out) (i:=i+b.length) (x:=more) (by omega) (h3 _ (Nat.le_refl _))
 refine⟨by simp[h1],?_,fun j hj=>by rw[getD_set _ _ _ _ (by omega)]; exact h3 j (by omega)⟩
 rw[hs,val_take_next a i]
 rw[List.take_length] at h2
 generalize (a.getD i 0).toNat=x at *
 simp[val,Nat.add_mul]
 rw[←Nat.mul_assoc] at h2
 rw[h2]
theorem mul_start {a b out:List UInt64} {i:Nat} (h:MulInv a b i 0 out 0):val out=val (a.take i) * val b:=by
 have:=h.2.1
 simpa [val] using this
theorem mul_last {a b out:List UInt64} (h:MulInv a b a.length 0 out 0):val out=val a * val b:=by
 have:=mul_start h
 rwa [List.take_length] at this
def DivInv (A B N:Nat) (q:List UInt64) (r:Nat):Prop:=r=A / 2 ^ N % B∧val q=A / 2 ^ N / B * 2 ^ N
theorem div_step0 {A B N r:Nat} (hB:0 < B) (hr:r=A / 2 ^ (N+1) % B):(2 * r+(A.testBit N).toNat < B→A / 2 ^ N % B=2 * r+(A.testBit N).toNat∧A / 2 ^ N / B=2 * (A / 2 ^ (N+1) / B)) ∧
  (B≤2 * r+(A.testBit N).toNat→A / 2 ^ N % B=2 * r+(A.testBit N).toNat - B∧A / 2 ^ N / B=2 * (A / 2 ^ (N+1) / B)+1):=by
 have h1:A / 2 ^ (N+1)=A / 2 ^ N / 2:=by rw[Nat.div_div_eq_div_mul]; rfl
 have h2:(A.testBit N).toNat=A / 2 ^ N % 2:=by
  rw[Nat.testBit_eq_decide_div_mod_eq]
  by_cases h:A / 2 ^ N % 2=1
  ·simp[h]
  ·have:A / 2 ^ N % 2=0:=by omega
   simp[this]
 rw[h1] at hr ⊢
 rw[h2]
 generalize A / 2 ^ N=x at *
 have e1:=Nat.div_add_mod (x / 2) B
 have e2:r < B:=by rw[hr]; exact Nat.mod_lt _ hB
 rw[←hr] at e1
 have e3:x=2 * (x / 2)+x % 2:=by omega
 have e4:x % 2 < 2:=by omega
 generalize x / 2 / B=c at *
 generalize x / 2=y at *
 generalize x % 2=d at *
 subst e1
 have key:∀ z w,w < B→x=B * z+w→x % B=w∧x / B=z:=fun z w hw e=>by
  subst e
  exact⟨by rw[Nat.mul_add_mod,Nat.mod_eq_of_lt hw],by rw[Nat.mul_add_div hB,Nat.div_eq_of_lt hw,Nat.add_zero]⟩
 refine⟨fun h=>key _ _ h ?_,fun h=>key _ _ (by omega) ?_⟩
 ·rw[e3,Nat.mul_left_comm]; grind
 ·have:B * (2 * c+1)=2 * (B * c)+B:=by grind
  omega
theorem setbit {q:List UInt64} {N:Nat} (hN:N / 64 < q.length) (h:2 ^ (N+1) ∣ val q):val (q.set (N / 64) (orU (q.getD (N / 64) 0) (shlU 1 (N % 64))))=val q+2 ^ N:=by
 have hs:=val_set q (N / 64) (orU (q.getD (N / 64) 0) (shlU 1 (N % 64))) hN
 have hl:=limb_at q (N / 64)
 have hlt:N % 64 < 64:=by omega
 have e1:2 ^ (N % 64+1) ∣ (q.getD (N / 64) 0).toNat:=by
  obtain⟨c,hc⟩:=h
  rw[hl,hc,show (2:Nat) ^ (N+1)=2 ^ (64 * (N / 64)) * 2 ^ (N % 64+1) by rw[←Nat.pow_add]; congr 1; omega,Nat.mul_assoc,Nat.mul_div_cancel_left _ (Nat.two_pow_pos _)]
  refine (Nat.dvd_mod_iff ?_).2 (Nat.dvd_mul_right _ _)
  rw[show (18446744073709551616:Nat)=2 ^ 64 from rfl]
  exact Nat.pow_dvd_pow 2 (by omega)
 obtain⟨c,hc⟩:=e1
 have e2:(orU (q.getD (N / 64) 0) (shlU 1 (N % 64))).toNat=(q.getD (N / 64) 0).toNat+2 ^ (N % 64):=by
  rw[orU_eq,UInt64.toNat_or,one_shl hlt]
  have:=Nat.two_pow_add_eq_or_of_lt (i:=N % 64+1) (b:=2 ^ (N % 64)) (Nat.pow_lt_pow_right (by omega) (by omega)) c
  rw[←hc] at this
  exact this.symm
 rw[e2,Nat.mul_add,←Nat.pow_add,show 64 * (N / 64)+N % 64=N by omega] at hs
 omega
theorem div_keep {A B N:Nat} {q:List UInt64} {r:Nat} (hB:0 < B) (h:DivInv A B (N+1) q r) (hlt:2 * r+(A.testBit N).toNat < B):DivInv A B N q (2 * r+(A.testBit N).toNat):=by
 obtain⟨h1,h2⟩:=h
 obtain⟨e1,e2⟩:=(div_step0 hB h1).1 hlt
 refine⟨e1.symm,?_⟩
 rw[e2,h2,Nat.pow_succ]
 grind
theorem div_take {A B N:Nat} {q:List UInt64} {r:Nat} (hB:0 < B) (hN:N / 64 < q.length) (h:DivInv A B (N+1) q r) (hge:B≤2 * r+(A.testBit N).toNat):DivInv A B N (q.set (N / 64) (orU (q.getD (N / 64) 0) (shlU 1 (N % 64)))) (2 * r+(A.testBit N).toNat - B):=by
 obtain⟨h1,h2⟩:=h
 obtain⟨e1,e2⟩:=(div_step0 hB h1).2 hge
 refine⟨e1.symm,?_⟩
 rw[setbit hN (by rw[h2]; exact Nat.dvd_mul_left _ _),e2,h2,Nat.pow_succ]
 grind
theorem div_start {A B:Nat} {n:Nat}:DivInv A B (blen A) (List.replicate n 0) 0:=by
 have h:A / 2 ^ blen A=0:=Nat.div_eq_of_lt (blen_lt A)
 refine⟨by rw[h]; simp,by rw[h,val_rep0]; simp⟩
theorem div_end {A B:Nat} {q:List UInt64} {r:Nat} (h:DivInv A B 0 q r):val q=A / B∧r=A % B:=by
 obtain⟨h1,h2⟩:=h
 simp at h1 h2
 exact⟨h2,h1⟩
end Go.Sv
namespace Go.Sv
def mE (n:Nat):Int:=if n=0 then 2 else 0
def mR (n r:Nat):List UInt64:=if n=0 then [] else toL r
theorem mE_0 {n:Nat} (h:n=0):mE n=2:=by simp[mE,h]
theorem mE_p {n:Nat} (h:n≠0):mE n=0:=by simp[mE,h]
theorem mR_p {n r:Nat} (h:n≠0):mR n r=toL r:=by simp[mR,h]
theorem mR_0 {n r:Nat} (h:n=0):mR n r=[]:=by simp[mR,h]
def subM (a b n:Nat):Nat:=(a % n+n - b % n) % n
theorem modc (a n:Nat):∃ k:Int,((a % n:Nat):Int)=a+n * k:=⟨-(a / n:Nat),by
 have:=Nat.div_add_mod a n
 have h:(a:Int)=n * (a / n:Nat)+(a % n:Nat):=by exact_mod_cast this.symm
 rw[h]
 generalize ((a % n:Nat):Int)=x
 generalize ((a / n:Nat):Int)=y
 grind⟩
theorem subM_cast {a b n:Nat} (hn:n≠0):∃ k:Int,((subM a b n:Nat):Int)=a - b+n * k:=by
 obtain⟨k1,h1⟩:=modc (a % n+n - b % n) n
 obtain⟨k2,h2⟩:=modc a n
 obtain⟨k3,h3⟩:=modc b n
 have hb:b % n < n:=Nat.mod_lt _ (by omega)
 have h4:((a % n+n - b % n:Nat):Int)=(a % n:Nat)+n - (b % n:Nat):=by omega
 refine⟨k1+k2 - k3+1,?_⟩
 unfold subM
 rw[h1,h4,h2,h3]
 grind
theorem eq_of_cast {a b n:Nat} (ha:a < n) (hb:b < n) {k:Int} (h:(a:Int)=b+n * k):a=b:=by
 have hk:k=0:=by
  rcases Int.lt_trichotomy k 0 with h1 | h1 | h1
  ·have:(n:Int) * k≤n * (-1):=Int.mul_le_mul_of_nonneg_left (by omega) (by omega)
   omega
  ·exact h1
  ·have:(n:Int) * 1≤n * k:=Int.mul_le_mul_of_nonneg_left (by omega) (by omega)
   omega
 subst hk
 omega
theorem subM_lt {a b n:Nat} (hn:n≠0):subM a b n < n:=Nat.mod_lt _ (by omega)
noncomputable def invN (a n:Nat):Nat:=by
 classical exact if h:∃ x,x < n∧a * x % n=1 % n then h.choose else 0
theorem invN_eq {a n x:Nat} (h1:x < n) (h2:a * x % n=1 % n):invN a n=x:=by
 unfold invN
 have hx:∃ x,x < n∧a * x % n=1 % n:=⟨x,h1,h2⟩
 rw[dif_pos hx]
 obtain⟨y1,y2⟩:=hx.choose_spec
 generalize hx.choose=y at *
 have e1:y * (a * x) % n=y % n:=by rw[Nat.mul_mod,h2,←Nat.mul_mod,Nat.mul_one]
 have e2:x * (a * y) % n=x % n:=by rw[Nat.mul_mod,y2,←Nat.mul_mod,Nat.mul_one]
 have e3:y * (a * x)=x * (a * y):=by grind
 rw[e3,e2,Nat.mod_eq_of_lt h1,Nat.mod_eq_of_lt y1] at e1
 exact e1.symm
def EU (n x u v s t:Nat):Prop:=(∃ c:Int,(s:Int) * x - u=n * c)∧(∃ c:Int,(t:Int) * x - v=n * c)∧Nat.gcd u v=Nat.gcd x n
theorem EU_start (n x:Nat):EU n x n x 0 1:=⟨⟨-1,by grind⟩,⟨0,by grind⟩,Nat.gcd_comm _ _⟩
theorem EU_step {n x u v s t:Nat} (hn:n≠0) (h:EU n x u v s t):EU n x v (u % v) t (subM s (u / v * t % n) n):=by
 obtain⟨⟨c1,h1⟩,h2,h3⟩:=h
 refine⟨h2,?_,?_⟩
 ·obtain⟨c2,h2⟩:=h2
  obtain⟨k,hk⟩:=subM_cast (a:=s) (b:=u / v * t % n) hn
  obtain⟨k2,hk2⟩:=modc (u / v * t) n
  have hu:(u:Int)=v * (u / v:Nat)+(u % v:Nat):=by exact_mod_cast (Nat.div_add_mod u v).symm
  have hm:((u / v * t:Nat):Int)=(u / v:Nat) * (t:Int):=Int.natCast_mul _ _
  rw[hm] at hk2
  refine⟨c1 - (u / v:Nat) * c2+k * x - k2 * x,?_⟩
  rw[hk,hk2]
  generalize ((u / v:Nat):Int)=q at *
  generalize ((u % v:Nat):Int)=r at *
  grind
 ·rw[←h3,Nat.gcd_comm u v,Nat.gcd_rec v u,Nat.gcd_comm]
theorem EU_end {n x u s t:Nat} (h:EU n x u 0 s t):u=Nat.gcd x n:=by
 have:=h.2.2
 simpa using this
theorem EU_inv {n x s t:Nat} (hn:n≠0) (h:EU n x 1 0 s t):invN x n=s % n:=by
 obtain⟨⟨c,hc⟩,_,_⟩:=h
 refine invN_eq (Nat.mod_lt _ (by omega)) ?_
 obtain⟨k1,h1⟩:=modc (x * (s % n)) n
 obtain⟨k2,h2⟩:=modc s n
 obtain⟨k3,h3⟩:=modc 1 n
 rw[Int.natCast_mul,h2] at h1
 refine eq_of_cast (Nat.mod_lt _ (by omega)) (Nat.mod_lt _ (by omega)) (k:=c+x * k2+k1 - k3) ?_
 rw[h1,h3]
 push_cast
 grind
theorem invN_spec {a n:Nat} (hn:n≠0) (hg:Nat.gcd a n=1):invN a n < n∧a * invN a n % n=1 % n:=by
 have key:∀ v u s t,EU n (a % n) u v s t→∃ s' t',EU n (a % n) (Nat.gcd (a % n) n) 0 s' t':=by
  intro v
  induction v using Nat.strongRecOn with
  | _ v ih =>
   intro u s t h
   by_cases hv:v=0
   ·subst hv; rw[←EU_end h]; exact⟨s,t,h⟩
   ·exact ih (u % v) (Nat.mod_lt _ (by omega)) v t _ (EU_step hn h)
 obtain⟨s,t,h⟩:=key _ _ _ _ (EU_start n (a % n))
 rw[←Nat.gcd_rec,Nat.gcd_comm,hg] at h
 have e:=EU_inv hn h
 have e2:invN a n=s % n:=by
  refine invN_eq (Nat.mod_lt _ (by omega)) ?_
  obtain⟨⟨c,hc⟩,_,_⟩:=h
  obtain⟨k0,h0⟩:=modc a n
  obtain⟨k1,h1⟩:=modc (a * (s % n)) n
  obtain⟨k2,h2⟩:=modc s n
  obtain⟨k3,h3⟩:=modc 1 n
  rw[Int.natCast_mul,h2] at h1
  rw[h0] at hc
  refine eq_of_cast (Nat.mod_lt _ (by omega)) (Nat.mod_lt _ (by omega)) (k:=c - s * k0+a * k2+k1 - k3) ?_
  rw[h1,h3]
  push_cast at hc ⊢
  grind
 refine⟨by rw[e2]; exact Nat.mod_lt _ (by omega),?_⟩
 rw[e2]
 obtain⟨⟨c,hc⟩,_,_⟩:=h
 obtain⟨k0,h0⟩:=modc a n
 obtain⟨k1,h1⟩:=modc (a * (s % n)) n
 obtain⟨k2,h2⟩:=modc s n
 obtain⟨k3,h3⟩:=modc 1 n
 rw[Int.natCast_mul,h2] at h1
 rw[h0] at hc
 refine eq_of_cast (Nat.mod_lt _ (by omega)) (Nat.mod_lt _ (by omega)) (k:=c - s * k0+a * k2+k1 - k3) ?_
 rw[h1,h3]
 push_cast at hc ⊢
 grind
theorem invN_mod {a n:Nat} (hn:n≠0) (hg:Nat.gcd a n=1):invN (a % n) n=invN a n:=by
 obtain⟨h1,h2⟩:=invN_spec hn hg
 exact invN_eq h1 (by rw[←h2]; simp[Nat.mul_mod])
noncomputable def ivE (a n:Nat):Int:=if n=0 then 2 else if Nat.gcd a n=1 then 0 else 5
noncomputable def ivR (a n:Nat):List UInt64:=if n≠0∧Nat.gcd a n=1 then toL (invN a n) else []
theorem toL_len_lt {n:Nat} {b:List UInt64} (h:n < val b):(toL n).length≤b.length:=toL_length_le (Nat.lt_trans h (val_lt b))
theorem toL_len_le {n:Nat} {b:List UInt64} (h:n≤val b):(toL n).length≤b.length:=toL_length_le (Nat.lt_of_le_of_lt h (val_lt b))
def oddL (n:List UInt64):Bool:=decide (n.getD 0 0 % 2=1)
theorem oddL_val (n:List UInt64):oddL n=(val n).testBit 0:=by
 have h:=limb_at n 0
 have e:(n.getD 0 0 % 2=1)↔(n.getD 0 0).toNat % 2=1:=by
  constructor
  ·intro h; simpa using congrArg UInt64.toNat h
  ·intro h; apply UInt64.toNat_inj.1; simpa using h
 unfold oddL
 rw[Nat.testBit_zero]
 simp only[e,h]
 simp
theorem oddL_odd {n:List UInt64} (h:oddL n=true):val n % 2=1:=by
 rw[oddL_val,Nat.testBit_zero] at h
 simpa using h
theorem oddL_ne {n:List UInt64} (h:oddL n=true):val n≠0:=by
 have:=oddL_odd h
 omega
def rdE (l:Int) (n:Nat):Int:=if l < 0∨512 < l then 2 else mE n
def rdR (l:Int) (n:Nat):List UInt64:=if l < 0∨512 < l then [] else mR n (2 ^ (64 * l.toNat) % n)
def reE (n:List UInt64) (l:Int):Int:=if oddL n=true∧0≤l∧l≤512 then 0 else 2
noncomputable def reR (t n:List UInt64) (l:Int):List UInt64:=if oddL n=true∧0≤l∧l≤512 then toL (val t * invN (2 ^ (64 * l.toNat) % val n) (val n) % val n) else []
theorem radix_coprime {n:Nat} (h:n % 2=1) (k:Nat):Nat.gcd (2 ^ k) n=1:=by
 have h2:Nat.Coprime 2 n:=by
  unfold Nat.Coprime
  rw[Nat.gcd_rec,h]
  decide
 exact h2.pow_left k
theorem radix_coprime' {n:Nat} (h:n % 2=1) (k:Nat):Nat.gcd (2 ^ k % n) n=1:=by
 rw[←Nat.gcd_rec,Nat.gcd_comm]; exact radix_coprime h k
theorem val_radix (l:Nat):val (List.replicate l 0++[1])=2 ^ (64 * l):=by
 rw[val_append,val_rep0,val_one]; simp
theorem gcd_mod (a n:Nat):Nat.gcd (a % n) n=Nat.gcd a n:=by rw[←Nat.gcd_rec,Nat.gcd_comm]
theorem ivE_mod {a n:Nat}:ivE (a % n) n=ivE a n:=by
 have e:(Nat.gcd (a % n) n=1)=(Nat.gcd a n=1):=by rw[gcd_mod]
 unfold ivE
 simp only[e]
theorem ivR_mod {a n:Nat}:ivR (a % n) n=ivR a n:=by
 have e:(Nat.gcd (a % n) n=1)=(Nat.gcd a n=1):=by rw[gcd_mod]
 unfold ivR
 simp only[e]
 by_cases h:n≠0∧Nat.gcd a n=1
 ·rw[if_pos h,if_pos h,invN_mod h.1 h.2]
 ·rw[if_neg h,if_neg h]
end Go.Sv
namespace Go.Sv
theorem nthL_at {l:List LV} {i:Nat} {v:LV} {K:LV→Prop} (h:l[i]?=some v):nthL l i K=K v:=by simp[nthL,h]
theorem map_at {α:Type} {f:α→LV} {l:List α} {i:Nat} {a:α} (h:l[i]?=some a):(l.map f)[i]?=some (f a):=by simp[h]
mutual
theorem bor_self {G:LHeap} (v:LV) (h:v.dat=true):bor G v v:=by
 cases v with
 | agg l=>simp only[LV.dat] at h; exact⟨l,rfl,bors_self l h⟩
 | nilSl=>exact .inl rfl
 | dy p k=>simp[LV.dat] at h
 | vw p k lo len=>simp[LV.dat] at h
 | _=>exact⟨rfl,h⟩
termination_by SizeOf.sizeOf v
theorem bors_self {G:LHeap} (l:List LV) (h:dats l=true):bors G l l:=by
 cases l with
 | nil=>rfl
 | cons v l =>
  simp only[dats,Bool.and_eq_true] at h
  exact⟨v,l,rfl,bor_self v h.1,bors_self l h.2⟩
termination_by SizeOf.sizeOf l
end
end Go.Sv
namespace Go.Sv
def gd (l:List Int) (u:Nat):Int:=l.getD u 0
theorem at_getD {l:List Int} {u:Nat} (h:u < l.length):l[u]?=some (gd l u):=by simp[gd,List.getD_eq_getElem?_getD,h]
def strict (l:List Int) (m:Nat):Prop:=∀ u v,u < v→v < m→gd l u < gd l v
structure Cmp (l0 l:List Int) (m d:Nat):Prop where
 len:l.length=l0.length
 m1:1≤m
 md:m≤d
 st:strict l m
 mem:∀ x,(∃ u,u < m∧gd l u=x)↔∃ u,u < d∧gd l0 u=x
 last:gd l (m - 1)=gd l0 (d - 1)
 rest:∀ u,d - 1≤u→gd l u=gd l0 u∨u < m
end Go.Sv
namespace Go.Sv
theorem fm_len {α:Type} {f:α→List LV} {k:Nat} (hf:∀ a,(f a).length=k):∀ l:List α,(l.flatMap f).length=l.length * k
 | []=>by simp
 | a::l=>by rw[List.flatMap_cons,List.length_append,fm_len hf l,hf,List.length_cons,Nat.add_mul]; omega
theorem fm_drop {α:Type} {f:α→List LV} {k:Nat} (hf:∀ a,(f a).length=k):∀ (l:List α) (i:Nat),(l.flatMap f).drop (i * k)=(l.drop i).flatMap f
 | _,0=>by simp
 | [],i+1=>by simp
 | a::l,i+1=>by
  rw[List.flatMap_cons,List.drop_append,hf,show (i+1) * k - k=i * k by rw[Nat.add_mul]; omega,fm_drop hf l i]
  rw[List.drop_of_length_le (by rw[hf,Nat.add_mul]; omega)]; rfl
theorem fm_take {α:Type} {f:α→List LV} {k:Nat} (hf:∀ a,(f a).length=k) {l:List α} {i:Nat} {a:α} (h:l[i]?=some a):((l.flatMap f).drop (i * k)).take k=f a:=by
 rw[fm_drop hf]
 obtain⟨hi,rfl⟩:=List.getElem?_eq_some_iff.1 h
 rw[List.drop_eq_getElem_cons hi,List.flatMap_cons,List.take_append_of_le_length (by rw[hf]; exact Nat.le_refl _),List.take_of_length_le (by rw[hf]; exact Nat.le_refl _)]
theorem fm_at {α:Type} {f:α→List LV} {k:Nat} (hf:∀ a,(f a).length=k) {l:List α} {i:Nat} {a:α} (h:l[i]?=some a) {j:Nat} (hj:j < k):(l.flatMap f)[i * k+j]?=(f a)[j]?:=by
 rw[←List.getElem?_drop,←fm_take hf h,List.getElem?_take_of_lt hj]
theorem fm_dats {α:Type} {f:α→List LV} (hf:∀ a,dats (f a)=true):∀ l:List α,dats (l.flatMap f)=true
 | []=>rfl
 | a::l=>by rw[List.flatMap_cons]; exact dats_app (hf a) (fm_dats hf l)
theorem fm_lt {α:Type} {f:α→List LV} {k:Nat} (hf:∀ a,(f a).length=k) {l:List α} {i:Nat} (h:i < l.length):i * k+k≤(l.flatMap f).length:=by
 rw[fm_len hf,←Nat.succ_mul]; exact Nat.mul_le_mul_right _ h
structure Vr where
 limbs:Int
 sec:Bool
 mode:Int
structure Ko where
 kind:Int
 d:Int
 e:Int
 a:Int
 b:Int
 c:Int
 imm:UInt64
def Vr.f (v:Vr):List LV:=[.i v.limbs,.bool v.sec,.i v.mode]
def Ko.f (o:Ko):List LV:=[.i o.kind,.i o.d,.i o.e,.i o.a,.i o.b,.i o.c,.u o.imm]
def gv (l:List Vr) (n:Nat):Vr:=l.getD n ⟨0,false,0⟩
def go (l:List Ko) (n:Nat):Ko:=l.getD n ⟨0,0,0,0,0,0,0⟩
def takesL (o:Ko):List Int:=[o.a,o.b,o.c].filter (fun v=>!decide (v < 0))++if o.kind=14 then [o.d,o.e] else []
def alikeL (o:Ko):List Int :=
 if o.kind=6 then [o.a,o.b] else if o.kind=14 then [o.d,o.e] else if o.kind=8 then [o.d,o.a,o.b] else if o.kind=9 then [o.d,o.c] else if o.kind=10∨o.kind=11∨o.kind=12 then [o.d,o.a,o.b,o.c] else if o.kind=13 then [o.d,o.a,o.c] else []
structure PartsIn (n:Nat) (o:Ko):Prop where
 d:o.d=-1∨(0≤o.d∧o.d < n)
 e:o.e=-1∨(0≤o.e∧o.e < n)
 takes:∀ v∈takesL o,0≤v∧v < n
 alike:∀ v∈alikeL o,0≤v∧v < n
 swap:o.kind=14→o.a=-1∧o.b=-1
end Go.Sv
namespace Go.Sv
inductive Fr (α:Type) where
 | nil
 | op (o:α) (r:Fr α)
 | loop (o:α) (b:Fr α) (e:α) (r:Fr α)
section tree
variable {α : Type}
def Fr.flat:Fr α→List α
 | .nil=>[]
 | .op o r=>o::r.flat
 | .loop o b e r=>o::(b.flat++e::r.flat)
def Fr.size:Fr α→Nat
 | .nil=>0
 | .op _ r=>r.size+1
 | .loop _ b _ r=>b.size+r.size+2
theorem Fr.flat_len:∀ f:Fr α,f.flat.length=f.size
 | .nil=>rfl
 | .op _ r=>by simp[flat,size,flat_len r]
 | .loop _ b _ r=>by simp[flat,size,flat_len b,flat_len r]; omega
def Fr.wf (kd:α→Nat):Fr α→Prop
 | .nil=>True
 | .op o r=>kd o=0∧r.wf kd
 | .loop o b e r=>kd o=1∧kd e=2∧b.wf kd∧r.wf kd
def bal (kd:α→Nat):Nat→List α→Prop
 | d,[]=>d=0
 | d,o::l=>if kd o=1 then bal kd (d+1) l else if kd o=2 then 0 < d∧bal kd (d - 1) l else kd o=0∧bal kd d l
def Fr.ends:Nat→Fr α→List Int
 | _,.nil=>[]
 | i,.op _ r=>-1::r.ends (i+1)
 | i,.loop _ b _ r=>((i+b.size+1:Nat):Int)::(b.ends (i+1)++(i:Int)::r.ends (i+b.size+2))
theorem Fr.ends_len:∀ (f:Fr α) (i:Nat),(f.ends i).length=f.size
 | .nil,_=>rfl
 | .op _ r,i=>by simp[ends,size,ends_len r]
 | .loop _ b _ r,i=>by simp[ends,size,ends_len b,ends_len r]; omega
end tree
end Go.Sv
namespace Go.Sv
structure Bf where
 size:Int
 kind:Int
 sec:Bool
structure Lo where
 kind:Int
 d:Int
 e:Int
 a:Int
 b:Int
 c:Int
 buf:Int
 imm:UInt64
 deriving DecidableEq
def Bf.f (v:Bf):List LV:=[.i v.size,.i v.kind,.bool v.sec]
def Lo.f (o:Lo):List LV:=[.i o.kind,.i o.d,.i o.e,.i o.a,.i o.b,.i o.c,.i o.buf,.u o.imm]
def bfC (l:List Bf):List LV:=l.flatMap Bf.f
def loC (l:List Lo):List LV:=l.flatMap Lo.f
theorem Bf.f_len (v:Bf):v.f.length=3:=rfl
theorem Lo.f_len (o:Lo):o.f.length=8:=rfl
theorem loC_len (l:List Lo):(loC l).length=l.length * 8:=fm_len Lo.f_len l
theorem bfC_dats (l:List Bf):dats (bfC l)=true:=fm_dats (fun _=>rfl) l
theorem loC_dats (l:List Lo):dats (loC l)=true:=fm_dats (fun _=>rfl) l
theorem lo_eight {l:List Lo} {i:Nat} {v:Lo} (h:l[i]?=some v):((loC l).drop (i * 8)).take 8=v.f:=fm_take Lo.f_len h
theorem bf_at0 {l:List Bf} {i:Nat} {v:Bf} (h:l[i]?=some v):(bfC l)[i * 3]?=some (.i v.size):=by have:=fm_at Bf.f_len h (j:=0) (by omega); simpa [bfC,Bf.f] using this
theorem bf_at1 {l:List Bf} {i:Nat} {v:Bf} (h:l[i]?=some v):(bfC l)[i * 3+1]?=some (.i v.kind):=by have:=fm_at Bf.f_len h (j:=1) (by omega); simpa [bfC,Bf.f] using this
theorem bf_at2 {l:List Bf} {i:Nat} {v:Bf} (h:l[i]?=some v):(bfC l)[i * 3+2]?=some (.bool v.sec):=by have:=fm_at Bf.f_len h (j:=2) (by omega); simpa [bfC,Bf.f] using this
theorem lo_at {l:List Lo} {i:Nat} {v:Lo} (h:l[i]?=some v) {j:Nat} (hj:j < 8):(loC l)[i * 8+j]?=v.f[j]?:=fm_at Lo.f_len h hj
theorem bf_lt {l:List Bf} {i:Nat} (h:i < l.length):i * 3+3≤(bfC l).length:=fm_lt Bf.f_len h
theorem lo_lt {l:List Lo} {i:Nat} (h:i < l.length):i * 8+8≤(loC l).length:=fm_lt Lo.f_len h
theorem loC_app (a b:List Lo):loC (a++b)=loC a++loC b:=by simp[loC]
def gbf (l:List Bf) (n:Nat):Bf:=l.getD n ⟨0,0,false⟩
def glo (l:List Lo) (n:Nat):Lo:=l.getD n ⟨0,0,0,0,0,0,0,0⟩
theorem at_gbf {l:List Bf} {n:Nat} (h:n < l.length):l[n]?=some (gbf l n):=by simp[gbf,List.getD_eq_getElem?_getD,h]
theorem at_glo {l:List Lo} {n:Nat} (h:n < l.length):l[n]?=some (glo l n):=by simp[glo,List.getD_eq_getElem?_getD,h]
theorem drop_glo {l:List Lo} {n:Nat} (h:n < l.length):l.drop n=glo l n::l.drop (n+1):=by
 rw[List.drop_eq_getElem_cons h]; congr 1
 have:=at_glo h; rw[List.getElem?_eq_getElem h] at this; exact Option.some.inj this
theorem repBs (n:Nat):repL [.bool false] n=(List.replicate n false).map LV.bool:=by
 induction n with
 | zero=>rfl
 | succ n ih=>rw[repL,ih,List.replicate_succ]; rfl
def takesR (o:Lo):List Int :=
 if o.kind=2∨o.kind=8∨o.kind=9 then [o.a]
 else if (3≤o.kind∧o.kind≤7)∨o.kind=10 then [o.a,o.b]
 else if o.kind=11∨o.kind=12∨o.kind=13 then [o.a,o.b,o.c]
 else if o.kind=14∧¬ o.a=-1 then [o.a]
 else if o.kind=15∧¬ o.a=-1 then [o.a,o.b]
 else if o.kind=15 then [o.b] else []
def makesR (o:Lo):List Int :=
 if o.kind=10∨o.kind=11∨o.kind=12 then [o.d,o.e]
 else if o.kind=15∨o.kind=17 then [] else [o.d]
def fieldR (regs r:Int) (has:Bool):Bool:=if has=true then decide (0≤r) && decide (r < regs) else decide (r=-1)
def hasD (k:Int):Bool:=!decide (k=15) && !decide (k=17)
def hasE (k:Int):Bool:=decide (k=10) || (decide (k=11) || decide (k=12))
def hasA (k:Int):Bool:=!decide (k=1) && (!decide (k=16) && !decide (k=17))
def hasB' (k:Int):Bool:=(decide (3≤k) && decide (k≤7)) || ((decide (10≤k) && decide (k≤13)) || decide (k=15))
def hasC' (k:Int):Bool:=decide (11≤k) && decide (k≤13)
def memK (k:Int):Bool:=decide (k=14) || decide (k=15)
noncomputable def fieldsR (regs:Int) (bs:List Bf) (o:Lo):Bool :=
 (decide (1≤o.kind) && decide (o.kind≤17)) && (fieldR regs o.d (hasD o.kind) && (fieldR regs o.e (hasE o.kind) && ((fieldR regs o.a (hasA o.kind) || (memK o.kind && decide (o.a=-1))) && (fieldR regs o.b (hasB' o.kind) && (fieldR regs o.c (hasC' o.kind) && (!(hasE o.kind && decide (o.d=o.e)) &&
  (if memK o.kind=true then decide (0≤o.buf) && (decide (o.buf < bs.length) && (!(decide (o.kind=15) && decide ((gbf bs o.buf.toNat).kind=1)) && (!decide (o.a=-1) || decide (o.imm < iU (gbf bs o.buf.toNat).size))))
   else decide (o.buf=0) && (if o.kind=1 then true else if o.kind=8∨o.kind=9 then decide (1≤o.imm) && decide (o.imm≤63) else if o.kind=16 then decide (1≤o.imm) && decide (o.imm≤1048576) else decide (o.imm=0)))))))))
def madeR (m:List Bool) (r:Int):Bool:=m.getD r.toNat false
noncomputable def stepR (regs:Int) (bs:List Bf) (m:List Bool) (ls:List Int) (o:Lo):Int×List Bool×List Int :=
 if fieldsR regs bs o=false then (2,m,ls)
 else if o.kind=17 then (match ls.getLast? with | none=>(9,m,ls) | some d=>(0,m.set d.toNat false,ls.dropLast))
 else if (makesR o).any (fun r=>ls.contains r)=true then (9,m,ls)
 else if o.kind=16∧madeR m o.d=true then (9,m,ls)
 else if o.kind=16∧ls.length=8 then (10,m,ls)
 else if (takesR o).any (fun r=>!madeR m r)=true then (5,m,ls)
 else (0,(makesR o).foldl (fun m r=>m.set r.toNat true) m,if o.kind=16 then ls++[o.d] else ls)
noncomputable def goR (regs:Int) (bs:List Bf):Nat→List Bool→List Int→List Lo→Int×Int
 | i,_,ls,[]=>if ls=[] then (i,0) else (i,9)
 | i,m,ls,o::l=>if (stepR regs bs m ls o).1=0 then goR regs bs (i+1) (stepR regs bs m ls o).2.1 (stepR regs bs m ls o).2.2 l else (i,(stepR regs bs m ls o).1)
noncomputable def chkR (regs:Int) (bs:List Bf) (os:List Lo):Int×Int :=
 if 64 < regs∨32 < bs.length∨65536 < os.length then (0,3)
 else if (bs.any fun b=>decide (65536 < b.size))=true then (0,3)
 else if regs < 0 then (0,2)
 else if (bs.any fun b=>decide (b.size < 1) || (decide (b.kind < 1) || decide (3 < b.kind)))=true then (0,2)
 else goR regs bs 0 (List.replicate regs.toNat false) [] os
structure Ms where
 i:Nat
 first:Bool
 r:List UInt64
 bufs:List (List UInt64)
 l:List (Int×Int)
def atR (r:List UInt64) (x:Int):UInt64:=if x < 0 then 0 else r.getD x.toNat 0
def bitR (b:Bool):UInt64:=if b then 1 else 0
def putR (r:List UInt64) (x:Int) (v:UInt64):List UInt64:=if 0≤x then r.set x.toNat v else r
def valR (o:Lo) (a b:UInt64) (c:Bool):UInt64×UInt64 :=
 if o.kind=1 then (o.imm,0) else if o.kind=2 then (a,0) else if o.kind=3 then (a+b,0) else if o.kind=4 then (a - b,0)
 else if o.kind=5 then (a &&& b,0) else if o.kind=6 then (a ||| b,0) else if o.kind=7 then (a ^^^ b,0)
 else if o.kind=8 then (UInt64.ofNat (a.toNat * 2 ^ o.imm.toNat),0) else if o.kind=9 then (UInt64.ofNat (a.toNat / 2 ^ o.imm.toNat),0)
 else if o.kind=10 then (mulHi a b,a * b) else if o.kind=11 then ((addC a b c).1,bitR (addC a b c).2) else if o.kind=12 then ((subC a b c).1,bitR (subC a b c).2)
 else if o.kind=13 then (if c then a else b,0) else (0,0)
def rowR (bufs:List (List UInt64)) (x:Int):List UInt64:=bufs.getD x.toNat []
def doR (o:Lo) (s:Ms):Option Ms :=
 if o.kind=14 then
  (if (o.imm+atR s.r o.a).toNat < (rowR s.bufs o.buf).length then
   some ⟨s.i+1,s.first,putR (putR s.r o.d ((rowR s.bufs o.buf).getD (o.imm+atR s.r o.a).toNat 0)) o.e 0,s.bufs,s.l++[((s.i:Int),(((o.imm+atR s.r o.a).toNat:Nat):Int))]⟩ else none)
 else if o.kind=15 then
  (if (o.imm+atR s.r o.a).toNat < (rowR s.bufs o.buf).length then
   some ⟨s.i+1,s.first,putR (putR s.r o.d 0) o.e 0,s.bufs.set o.buf.toNat ((rowR s.bufs o.buf).set (o.imm+atR s.r o.a).toNat (atR s.r o.b)),s.l++[((s.i:Int),(((o.imm+atR s.r o.a).toNat:Nat):Int))]⟩ else none)
 else some ⟨s.i+1,s.first,putR (putR s.r o.d (valR o (atR s.r o.a) (atR s.r o.b) (decide (atR s.r o.c % 2=1))).1) o.e (valR o (atR s.r o.a) (atR s.r o.b) (decide (atR s.r o.c % 2=1))).2,s.bufs,s.l++[((s.i:Int),(-1:Int))]⟩
def stepZ (os:List Lo) (es:List Int) (s:Ms):Option Ms :=
 match os[s.i]? with
 | none=>some s
 | some o =>
  if o.kind=16 then some ⟨s.i+1,true,if s.first then putR s.r o.d 0 else s.r,s.bufs,s.l++[((s.i:Int),(-1:Int))]⟩
  else if o.kind=17 then
   (match os[(es.getD s.i 0).toNat]? with
   | none=>none
   | some p=>if atR s.r p.d+1 < p.imm then some ⟨(es.getD s.i 0).toNat,false,putR s.r p.d (atR s.r p.d+1),s.bufs,s.l⟩ else some ⟨s.i+1,s.first,s.r,s.bufs,s.l⟩)
  else doR o s
def runZ (os:List Lo) (es:List Int):Nat→Ms→Option Ms
 | 0,s=>some s
 | n+1,s=>match stepZ os es s with
  | none=>none
  | some s'=>runZ os es n s'
end Go.Sv
namespace Go.Sv
def kdL (o:Lo):Nat:=if o.kind=16 then 1 else if o.kind=17 then 2 else 0
structure Fs where
 r:Nat→UInt64
 m:Nat→Nat→UInt64
def Fs.put (s:Fs) (d:Nat) (v:UInt64):Fs:=⟨fun x=>if x=d then v else s.r x,s.m⟩
def Fs.sto (s:Fs) (b n:Nat) (v:UInt64):Fs:=⟨s.r,fun x y=>if x=b∧y=n then v else s.m x y⟩
def atZ (s:Fs) (x:Int):UInt64:=if x < 0 then 0 else s.r x.toNat
def putZ (s:Fs) (x:Int) (v:UInt64):Fs:=if 0≤x then s.put x.toNat v else s
def opZ (sz:Nat→Nat) (o:Lo) (s:Fs):Option Fs :=
 if o.kind=14 then (if (o.imm+atZ s o.a).toNat < sz o.buf.toNat then some (putZ (putZ s o.d (s.m o.buf.toNat (o.imm+atZ s o.a).toNat)) o.e 0) else none)
 else if o.kind=15 then (if (o.imm+atZ s o.a).toNat < sz o.buf.toNat then some (putZ (putZ (s.sto o.buf.toNat (o.imm+atZ s o.a).toNat (atZ s o.b)) o.d 0) o.e 0) else none)
 else some (putZ (putZ s o.d (valR o (atZ s o.a) (atZ s o.b) (decide (atZ s o.c % 2=1))).1) o.e (valR o (atZ s o.a) (atZ s o.b) (decide (atZ s o.c % 2=1))).2)
def itZ (f:Fs→Option Fs) (d:Nat):Nat→Nat→Fs→Option Fs
 | 0,_,s=>some s
 | n+1,j,s=>match f (s.put d (UInt64.ofNat j)) with
  | none=>none
  | some s'=>itZ f d n (j+1) s'
def exZ (sz:Nat→Nat):Fr Lo→Fs→Option Fs
 | .nil,s=>some s
 | .op o r,s=>match opZ sz o s with
  | none=>none
  | some s'=>exZ sz r s'
 | .loop o b _ r,s=>match itZ (exZ sz b) o.d.toNat o.imm.toNat 0 s with
  | none=>none
  | some s'=>exZ sz r s'
def Fr.noW (x:Nat):Fr Lo→Bool
 | .nil=>true
 | .op o r=>!decide (o.d=x) && (!decide (o.e=x) && r.noW x)
 | .loop o b _ r=>!decide (o.d.toNat=x) && (b.noW x && r.noW x)
theorem putZ_r {s:Fs} {d:Int} {v:UInt64} {x:Nat} (h:¬ d=x):(putZ s d v).r x=s.r x:=by
 unfold putZ
 split
 ·show (if x=d.toNat then v else s.r x)=s.r x
  rw[if_neg (by omega)]
 ·rfl
theorem opZ_r {sz:Nat→Nat} {o:Lo} {s s':Fs} {x:Nat} (h:opZ sz o s=some s') (h1:¬ o.d=x) (h2:¬ o.e=x):s'.r x=s.r x:=by
 unfold opZ at h
 split at h
 ·split at h
  ·cases h; rw[putZ_r h2,putZ_r h1]
  ·cases h
 ·split at h
  ·split at h
   ·cases h; rw[putZ_r h2,putZ_r h1]; rfl
   ·cases h
  ·cases h; rw[putZ_r h2,putZ_r h1]
theorem itZ_keep {f:Fs→Option Fs} {P:Fs→Prop} {d:Nat} (hd:∀ s v,P s→P (s.put d v)) (hf:∀ s s',P s→f s=some s'→P s'):∀ (n j:Nat) (s s':Fs),P s→itZ f d n j s=some s'→P s'
 | 0,_,s,s',hp,h=>by cases h; exact hp
 | n+1,j,s,s',hp,h=>by
  unfold itZ at h
  split at h
  ·cases h
  ·rename_i s1 h1
   exact itZ_keep hd hf n (j+1) s1 s' (hf _ _ (hd _ _ hp) h1) h
theorem exZ_r {sz:Nat→Nat} {x:Nat}:∀ (f:Fr Lo) (s s':Fs),f.noW x=true→exZ sz f s=some s'→s'.r x=s.r x
 | .nil,s,s',_,h=>by cases h; rfl
 | .op o r,s,s',hw,h=>by
  simp only[Fr.noW,Bool.and_eq_true,Bool.not_eq_true',decide_eq_false_iff_not] at hw
  unfold exZ at h
  split at h
  ·cases h
  ·rename_i s1 h1
   rw[exZ_r r s1 s' hw.2.2 h,opZ_r h1 hw.1 hw.2.1]
 | .loop o b e r,s,s',hw,h=>by
  simp only[Fr.noW,Bool.and_eq_true,Bool.not_eq_true',decide_eq_false_iff_not] at hw
  unfold exZ at h
  split at h
  ·cases h
  ·rename_i s1 h1
   rw[exZ_r r s1 s' hw.2.2 h]
   refine itZ_keep (P:=fun t=>t.r x=s.r x) (fun t v ht=>?_) (fun t t' ht h=>by rw[exZ_r b t t' hw.2.1 h,ht]) _ _ _ _ rfl h1
   show (if x=o.d.toNat then v else t.r x)=_
   rw[if_neg (fun q=>hw.1 q.symm)]; exact ht
def regOk (ls:List Nat) (x:Int):Bool:=decide (-1≤x) && (decide (x < 64) && !ls.contains x.toNat || decide (x=-1))
def Fr.regs (nb:Nat):List Nat→Fr Lo→Bool
 | _,.nil=>true
 | ls,.op o r=>regOk ls o.d && (regOk ls o.e && (decide (o.a < 64) && (decide (o.b < 64) && (decide (o.c < 64) && (decide (o.buf.toNat < nb) && r.regs nb ls)))))
 | ls,.loop o b _ r=>regOk ls o.d && (decide (0≤o.d) && (decide (1≤o.imm.toNat) && (b.regs nb (o.d.toNat::ls) && r.regs nb ls)))
theorem regs_noW {nb x:Nat}:∀ (f:Fr Lo) (ls:List Nat),x∈ls→f.regs nb ls=true→f.noW x=true
 | .nil,_,_,_=>rfl
 | .op o r,ls,hx,h=>by
  simp only[Fr.regs,Bool.and_eq_true,regOk,decide_eq_true_eq,Bool.or_eq_true,Bool.not_eq_true',List.contains_eq_mem,decide_eq_false_iff_not] at h
  obtain⟨⟨h1,h2⟩,⟨h3,h4⟩,_,_,_,_,h5⟩:=h
  simp only[Fr.noW,Bool.and_eq_true,Bool.not_eq_true',decide_eq_false_iff_not]
  refine⟨fun q=>?_,fun q=>?_,regs_noW r ls hx h5⟩
  ·rcases h2 with ⟨_,h2⟩ | h2
   ·apply h2; rw[q]; exact hx
   ·omega
  ·rcases h4 with ⟨_,h4⟩ | h4
   ·apply h4; rw[q]; exact hx
   ·omega
 | .loop o b e r,ls,hx,h=>by
  simp only[Fr.regs,Bool.and_eq_true,regOk,decide_eq_true_eq,Bool.or_eq_true,Bool.not_eq_true',List.contains_eq_mem,decide_eq_false_iff_not] at h
  obtain⟨⟨h1,h2⟩,h3,_,h4,h5⟩:=h
  simp only[Fr.noW,Bool.and_eq_true,Bool.not_eq_true',decide_eq_false_iff_not]
  refine⟨fun q=>?_,regs_noW b _ (List.mem_cons_of_mem _ hx) h4,regs_noW r ls hx h5⟩
  rcases h2 with ⟨_,h2⟩ | h2
  ·apply h2; rw[q]; exact hx
  ·omega
structure Rep (nb:Nat) (sz:Nat→Nat) (s:Ms) (t:Fs):Prop where
 rl:s.r.length=64
 r:∀ x,x < 64→s.r.getD x 0=t.r x
 bl:s.bufs.length=nb
 len:∀ b,b < nb→(s.bufs.getD b []).length=sz b
 m:∀ b n,b < nb→n < sz b→(s.bufs.getD b []).getD n 0=t.m b n
section rep
variable {nb : Nat} {sz : Nat → Nat} {s : Ms} {t : Fs}
theorem Rep.at (h:Rep nb sz s t) {x:Int} (hx:x < 64):atR s.r x=atZ t x:=by
 unfold atR atZ
 split
 ·rfl
 ·exact h.r _ (by omega)
theorem getD_setZ {α:Type} (l:List α) (i j:Nat) (v d:α) (h:i < l.length):(l.set i v).getD j d=if j=i then v else l.getD j d:=by
 simp only[List.getD_eq_getElem?_getD,List.getElem?_set]
 by_cases q:j=i
 ·subst q; simp[h]
 ·rw[if_neg (Ne.symm q),if_neg q]
theorem Rep.put (h:Rep nb sz s t) {x:Int} {v:UInt64} {i:Nat} {f:Bool} {l:List (Int×Int)} (hx:x < 64):Rep nb sz ⟨i,f,putR s.r x v,s.bufs,l⟩ (putZ t x v):=by
 unfold putR putZ
 split
 ·refine⟨by simpa using h.rl,fun y hy=>?_,h.bl,h.len,h.m⟩
  show (s.r.set x.toNat v).getD y 0=if y=x.toNat then v else t.r y
  rw[getD_setZ _ _ _ _ _ (by rw[h.rl]; omega)]
  split
  ·rfl
  ·exact h.r y hy
 ·exact⟨h.rl,h.r,h.bl,h.len,h.m⟩
theorem Rep.ctl (h:Rep nb sz s t) {i:Nat} {f:Bool} {l:List (Int×Int)}:Rep nb sz ⟨i,f,s.r,s.bufs,l⟩ t:=⟨h.rl,h.r,h.bl,h.len,h.m⟩
theorem Rep.sto (h:Rep nb sz s t) {b n:Nat} {v:UInt64} {i:Nat} {f:Bool} {l:List (Int×Int)} (hb:b < nb) (hn:n < sz b):Rep nb sz ⟨i,f,s.r,s.bufs.set b ((s.bufs.getD b []).set n v),l⟩ (t.sto b n v):=by
 have hbl:b < s.bufs.length:=by rw[h.bl]; exact hb
 refine⟨h.rl,h.r,by simpa using h.bl,fun x hx=>?_,fun x y hx hy=>?_⟩
 ·show ((s.bufs.set b _).getD x []).length=_
  rw[getD_setZ _ _ _ _ _ hbl]
  split
  ·rename_i q; subst q; rw[List.length_set]; exact h.len x hx
  ·exact h.len x hx
 ·show ((s.bufs.set b _).getD x []).getD y 0=if x=b∧y=n then v else t.m x y
  rw[getD_setZ _ _ _ _ _ hbl]
  by_cases q:x=b
  ·subst q
   rw[if_pos rfl,getD_setZ _ _ _ _ _ (by rw[h.len x hx]; exact hn)]
   by_cases q2:y=n
   ·simp[q2]
   ·simp only[q2,and_false,if_false]; exact h.m x y hx hy
  ·simp only[q,false_and,if_false]; exact h.m x y hx hy
end rep
theorem runZ_add {os:List Lo} {es:List Int}:∀ (n k:Nat) (s s':Ms),runZ os es n s=some s'→runZ os es (n+k) s=runZ os es k s'
 | 0,k,s,s',h=>by cases h; rw[Nat.zero_add]
 | n+1,k,s,s',h=>by
  unfold runZ at h
  split at h
  ·cases h
  ·rename_i s1 h1
   rw[show n+1+k=(n+k)+1 by omega]
   show (match stepZ os es s with | none=>none | some s'=>runZ os es (n+k) s')=_
   rw[h1]
   exact runZ_add n k s1 s' h
theorem doR_ok {nb:Nat} {sz:Nat→Nat} {s:Ms} {t t':Fs} {o:Lo} (h:Rep nb sz s t) (hd:o.d < 64) (he:o.e < 64) (ha:o.a < 64) (hb:o.b < 64) (hc:o.c < 64) (hbuf:o.buf.toNat < nb) (hx:opZ sz o t=some t') :
  ∃ s',doR o s=some s'∧s'.i=s.i+1∧s'.first=s.first∧Rep nb sz s' t'∧s'.l.length=s.l.length+1:=by
 unfold opZ at hx
 unfold doR
 rw[h.at ha,h.at hb,h.at hc]
 unfold rowR
 have hbl:o.buf.toNat < s.bufs.length:=by rw[h.bl]; exact hbuf
 split at hx
 ·rename_i k14
  rw[if_pos k14,h.len _ hbuf]
  split at hx
  ·rename_i hlt
   rw[if_pos hlt]
   cases hx
   refine⟨_,rfl,rfl,rfl,?_,by simp⟩
   rw[h.m _ _ hbuf hlt]
   have h1:=h.put (x:=o.d) (v:=t.m o.buf.toNat (o.imm+atZ t o.a).toNat) (i:=0) (f:=true) (l:=[]) hd
   exact h1.put he
  ·cases hx
 ·rename_i k14
  rw[if_neg k14]
  split at hx
  ·rename_i k15
   rw[if_pos k15,h.len _ hbuf]
   split at hx
   ·rename_i hlt
    rw[if_pos hlt]
    cases hx
    refine⟨_,rfl,rfl,rfl,?_,by simp⟩
    have h0:=h.sto (v:=atZ t o.b) (i:=0) (f:=true) (l:=[]) hbuf hlt
    have h1:=h0.put (x:=o.d) (v:=0) (i:=0) (f:=true) (l:=[]) hd
    exact h1.put he
   ·cases hx
  ·rename_i k15
   rw[if_neg k15]
   cases hx
   refine⟨_,rfl,rfl,rfl,?_,by simp⟩
   have h1:=h.put (x:=o.d) (v:=(valR o (atZ t o.a) (atZ t o.b) (decide (atZ t o.c % 2=1))).1) (i:=0) (f:=true) (l:=[]) hd
   exact h1.put he
def Fr.costZ:Fr Lo→Nat
 | .nil=>0
 | .op _ r=>1+r.costZ
 | .loop o b _ r=>o.imm.toNat * (b.costZ+2)+r.costZ
theorem dropZ_at {α:Type} {l:List α} {i:Nat} {a:α} {r:List α} (h:l.drop i=a::r):l[i]?=some a∧l.drop (i+1)=r:=by
 have h1:=congrArg (fun l=>l[0]?) h
 simp at h1
 refine⟨h1,?_⟩
 rw[←List.drop_drop,h]; rfl
theorem drop_app' {α:Type} {l a r:List α} {i:Nat} (h:l.drop i=a++r):l.drop (i+a.length)=r:=by
 rw[←List.drop_drop,h,List.drop_left]
theorem ofNat_lt {j:Nat}:(UInt64.ofNat j+1:UInt64)=UInt64.ofNat (j+1):=by
 apply UInt64.toNat.inj
 simp
theorem run_tree {os:List Lo} {es:List Int} {nb:Nat} {sz:Nat→Nat}:∀ (f:Fr Lo) (i:Nat) (ls:List Nat) (rest:List Lo) (rs:List Int) (s:Ms) (t t':Fs),f.wf kdL→f.regs nb ls=true→os.drop i=f.flat++rest→es.drop i=f.ends i++rs→s.i=i→s.first=true→Rep nb sz s t→exZ sz f t=some t' →
  ∃ n s',runZ os es n s=some s'∧s'.i=i+f.size∧s'.first=true∧Rep nb sz s' t'∧n≤f.costZ∧s'.l.length≤s.l.length+f.costZ
 | .nil,i,ls,rest,rs,s,t,t',_,_,_,_,hi,hf,hr,hx=>by
  cases hx
  exact⟨0,s,rfl,by simp[Fr.size,hi],hf,hr,Nat.le_refl _,Nat.le_refl _⟩
 | .op o r,i,ls,rest,rs,s,t,t',hw,hg,ho,he,hi,hf,hr,hx=>by
  simp only[Fr.regs,Bool.and_eq_true,regOk,decide_eq_true_eq,Bool.or_eq_true] at hg
  obtain⟨⟨d1,d2⟩,⟨e1,e2⟩,a1,b1,c1,f1,hg⟩:=hg
  have d3:o.d < 64:=by rcases d2 with d2 | d2 <;> omega
  have e3:o.e < 64:=by rcases e2 with e2 | e2 <;> omega
  simp only[Fr.flat,List.cons_append] at ho
  simp only[Fr.ends,List.cons_append] at he
  obtain⟨ho1,ho2⟩:=dropZ_at ho
  obtain⟨he1,he2⟩:=dropZ_at he
  unfold exZ at hx
  split at hx
  ·cases hx
  rename_i t1 h1
  obtain⟨s1,q1,q2,q3,q4,q5⟩:=doR_ok hr d3 e3 a1 b1 c1 f1 h1
  obtain⟨n,s',p1,p2,p3,p4,p5,p6⟩:=run_tree r (i+1) ls rest rs s1 t1 t' hw.2 hg ho2 he2 (by rw[q2,hi]) (by rw[q3,hf]) q4 hx
  have hk:=hw.1
  have hst:stepZ os es s=some s1:=by
   unfold stepZ
   rw[hi,ho1]
   dsimp only
   unfold kdL at hk
   rw[if_neg (fun q=>by simp[q] at hk),if_neg (fun q=>by simp[q] at hk)]
   exact q1
  refine⟨n+1,s',?_,by rw[p2]; simp[Fr.size]; omega,p3,p4,by simp[Fr.costZ]; omega,by simp[Fr.costZ]; omega⟩
  show (match stepZ os es s with | none=>none | some s'=>runZ os es n s')=_
  rw[hst]; exact p1
 | .loop o b e r,i,ls,rest,rs,s,t,t',hw,hg,ho,he,hi,hf,hr,hx=>by
  simp only[Fr.regs,Bool.and_eq_true,regOk,decide_eq_true_eq,Bool.or_eq_true] at hg
  obtain⟨⟨d1,d2⟩,d0,m1,hg1,hg2⟩:=hg
  have d3:o.d < 64:=by rcases d2 with d2 | d2 <;> omega
  obtain⟨w1,w2,w3,w4⟩:=hw
  have k16:o.kind=16:=by unfold kdL at w1; split at w1 <;> first | assumption | (split at w1 <;> omega)
  have k17:e.kind=17:=by
   unfold kdL at w2
   split at w2
   ·omega
   ·split at w2
    ·assumption
    ·omega
  simp only[Fr.flat,List.cons_append,List.append_assoc] at ho
  simp only[Fr.ends,List.cons_append,List.append_assoc] at he
  obtain⟨ho1,ho2⟩:=dropZ_at ho
  obtain⟨he1,he2⟩:=dropZ_at he
  have ho3:=drop_app' ho2
  have he3:=drop_app' he2
  rw[Fr.flat_len] at ho3
  rw[Fr.ends_len] at he3
  obtain⟨ho4,ho5⟩:=dropZ_at ho3
  obtain⟨he4,he5⟩:=dropZ_at he3
  have hendi:(es.getD (i+1+b.size) 0).toNat=i:=by rw[List.getD_eq_getElem?_getD,he4]; simp
  unfold exZ at hx
  split at hx
  ·cases hx
  rename_i t1 h1
  have hnw:=regs_noW b (o.d.toNat::ls) (List.mem_cons_self ..) hg1
  have him:=o.imm.toNat_lt
  have round:∀ (n j:Nat) (s:Ms) (t:Fs),1≤n→j+n=o.imm.toNat→s.i=i+1→s.first=true→Rep nb sz s (t.put o.d.toNat (UInt64.ofNat j))→itZ (exZ sz b) o.d.toNat n j t=some t1 →
    ∃ k s',runZ os es k s=some s'∧s'.i=i+b.size+2∧s'.first=true∧Rep nb sz s' t1∧k≤n * (b.costZ+2) - 1∧s'.l.length≤s.l.length+(n * (b.costZ+2) - 1):=by
   intro n
   induction n with
   | zero=>intro j s t h; omega
   | succ n ih =>
    intro j s t _ hj hsi hsf hrep hit
    unfold itZ at hit
    split at hit
    ·cases hit
    rename_i t2 h2
    obtain⟨k,s2,p1,p2,p3,p4,p5,p6⟩:=run_tree b (i+1) (o.d.toNat::ls) _ _ s _ t2 w3 hg1 ho2 he2 hsi hsf hrep h2
    have hrd:t2.r o.d.toNat=UInt64.ofNat j:=by
     rw[exZ_r b _ _ hnw h2]
     show (if o.d.toNat=o.d.toNat then _ else _)=_
     rw[if_pos rfl]
    have hat:atR s2.r o.d=UInt64.ofNat j:=by
     rw[p4.at d3]; unfold atZ; rw[if_neg (by omega),hrd]
    have hst:stepZ os es s2=if UInt64.ofNat j+1 < o.imm then some ⟨i,false,putR s2.r o.d (UInt64.ofNat j+1),s2.bufs,s2.l⟩ else some ⟨s2.i+1,s2.first,s2.r,s2.bufs,s2.l⟩:=by
     unfold stepZ
     rw[p2,ho4]
     dsimp only
     rw[if_neg (by omega),if_pos k17,hendi,ho1]
     dsimp only
     rw[hat]
    cases n with
    | zero =>
     have hnl:¬ (UInt64.ofNat j+1 < o.imm):=by
      rw[UInt64.lt_iff_toNat_lt]
      have:(UInt64.ofNat j+1:UInt64).toNat=(j+1) % 18446744073709551616:=by simp
      rw[this]
      by_cases q:j+1 < 18446744073709551616
      ·rw[Nat.mod_eq_of_lt q]; omega
      ·omega
     rw[if_neg hnl] at hst
     cases hit
     refine⟨k+1,⟨s2.i+1,s2.first,s2.r,s2.bufs,s2.l⟩,?_,?_,p3,p4.ctl,by omega,by show s2.l.length≤_; omega⟩
     ·rw[runZ_add k 1 s s2 p1]
      show (match stepZ os es s2 with | none=>none | some s'=>runZ os es 0 s')=_
      rw[hst]; rfl
     ·show s2.i+1=_; rw[p2]; omega
    | succ n =>
     have hlt:UInt64.ofNat j+1 < o.imm:=by
      rw[UInt64.lt_iff_toNat_lt]
      have:(UInt64.ofNat j+1:UInt64).toNat=(j+1) % 18446744073709551616:=by simp
      rw[this,Nat.mod_eq_of_lt (by omega)]; omega
     rw[if_pos hlt] at hst
     have hj1:(UInt64.ofNat j+1:UInt64)=UInt64.ofNat (j+1):=ofNat_lt
     have hrep2:Rep nb sz ⟨i+1,true,putR s2.r o.d (UInt64.ofNat j+1),s2.bufs,s2.l++[((i:Int),-1)]⟩ (t2.put o.d.toNat (UInt64.ofNat (j+1))):=by
      have h:=p4.put (x:=o.d) (v:=UInt64.ofNat j+1) (i:=i+1) (f:=true) (l:=s2.l++[((i:Int),-1)]) d3
      rw[hj1] at h ⊢
      unfold putZ at h
      rw[if_pos d0] at h
      exact h
     obtain⟨k2,s3,u1,u2,u3,u4,u5,u6⟩:=ih (j+1) _ t2 (by omega) (by omega) rfl rfl hrep2 hit
     have hm:(n+1+1) * (b.costZ+2)=(n+1) * (b.costZ+2)+(b.costZ+2):=Nat.succ_mul _ _
     have hm2:b.costZ+2≤(n+1) * (b.costZ+2):=Nat.le_mul_of_pos_left _ (by omega)
     refine⟨k+(k2+2),s3,?_,u2,u3,u4,by omega,?_⟩
     ·rw[runZ_add k _ s s2 p1]
      show (match stepZ os es s2 with | none=>none | some s'=>runZ os es (k2+1) s')=_
      rw[hst]
      show (match stepZ os es (⟨i,false,putR s2.r o.d (UInt64.ofNat j+1),s2.bufs,s2.l⟩:Ms) with | none=>none | some s'=>runZ os es k2 s')=_
      have:stepZ os es (⟨i,false,putR s2.r o.d (UInt64.ofNat j+1),s2.bufs,s2.l⟩:Ms)=some ⟨i+1,true,putR s2.r o.d (UInt64.ofNat j+1),s2.bufs,s2.l++[((i:Int),-1)]⟩:=by
       unfold stepZ
       dsimp only
       rw[ho1]
       dsimp only
       rw[if_pos k16]; rfl
      rw[this]; exact u1
     ·simp only[List.length_append,List.length_cons,List.length_nil] at u6; omega
  have hrep0:Rep nb sz ⟨i+1,true,putR s.r o.d 0,s.bufs,s.l++[((i:Int),-1)]⟩ (t.put o.d.toNat (UInt64.ofNat 0)):=by
   have h:=hr.put (x:=o.d) (v:=0) (i:=i+1) (f:=true) (l:=s.l++[((i:Int),-1)]) d3
   unfold putZ at h
   rw[if_pos d0] at h
   exact h
  obtain⟨k,s1,p1,p2,p3,p4,p5,p6⟩:=round o.imm.toNat 0 _ t m1 (by omega) rfl rfl hrep0 h1
  have hpos:b.costZ+2≤o.imm.toNat * (b.costZ+2):=Nat.le_mul_of_pos_left _ (by omega)
  obtain⟨k2,s2,u1,u2,u3,u4,u5,u6⟩:=run_tree r (i+b.size+2) ls rest rs s1 t1 t' w4 hg2 (by rw[show i+b.size+2=i+1+b.size+1 by omega]; exact ho5) (by rw[show i+b.size+2=i+1+b.size+1 by omega] at he5 ⊢; exact he5) p2 p3 p4 hx
  refine⟨(k+k2)+1,s2,?_,by rw[u2]; simp[Fr.size]; omega,u3,u4,by simp only[Fr.costZ]; omega,?_⟩
  ·show (match stepZ os es s with | none=>none | some s'=>runZ os es (k+k2) s')=_
   have:stepZ os es s=some ⟨i+1,true,putR s.r o.d 0,s.bufs,s.l++[((i:Int),-1)]⟩:=by
    unfold stepZ
    rw[hi,ho1]
    dsimp only
    rw[if_pos k16,hf]; rfl
   rw[this]
   show runZ os es (k+k2) _=_
   rw[runZ_add k k2 _ s1 p1]; exact u1
  ·simp only[List.length_append,List.length_cons,List.length_nil] at p6
   simp only[Fr.costZ]; omega
end Go.Sv
namespace Go.Sv
def endsR:Nat→List Nat→List Int→List Lo→List Int
 | _,_,out,[]=>out
 | i,st,out,o::l=>if o.kind=16 then endsR (i+1) (i::st) (out.set i (-1)) l
  else if o.kind=17 then (match st with
   | []=>endsR (i+1) [] (out.set i (-1)) l
   | a::st'=>endsR (i+1) st' (((out.set i (-1)).set i a).set a i) l)
  else endsR (i+1) st (out.set i (-1)) l
theorem endsR_tree:∀ (f:Fr Lo) (i:Nat) (st:List Nat) (out out':List Int) (rest:List Lo),f.wf kdL→out.length=i →
  endsR i st (out++List.replicate f.size 0++out') (f.flat++rest)=endsR (i+f.size) st (out++f.ends i++out') rest
 | .nil,i,st,out,out',rest,_,_=>by simp[Fr.flat,Fr.size,Fr.ends]
 | .op o r,i,st,out,out',rest,w,hl=>by
  have h:=endsR_tree r (i+1) st (out++[-1]) out' rest w.2 (by simp[hl])
  have hk:=w.1
  have k1:¬ o.kind=16:=fun q=>by simp[kdL,q] at hk
  have k2:¬ o.kind=17:=fun q=>by simp[kdL,q] at hk
  simp only[Fr.flat,Fr.size,Fr.ends,List.cons_append,endsR,k1,k2,if_false,List.replicate_succ]
  simp only[List.append_assoc,List.cons_append,List.nil_append] at h ⊢
  rw[List.set_append_right _ _ (by omega),show i - out.length=0 by omega,List.set_cons_zero,h]
  congr 1; omega
 | .loop o b e r,i,st,out,out',rest,w,hl=>by
  obtain⟨w1,w2,w3,w4⟩:=w
  have k16:o.kind=16:=by unfold kdL at w1; split at w1 <;> first | assumption | (split at w1 <;> omega)
  have k17:e.kind=17:=by
   unfold kdL at w2
   split at w2
   ·omega
   ·split at w2
    ·assumption
    ·omega
  have hb:=endsR_tree b (i+1) (i::st) (out++[-1]) ([0]++List.replicate r.size 0++out') (e::(r.flat++rest)) w3 (by simp[hl])
  have hr:=endsR_tree r (i+b.size+2) st (out++[((i+b.size+1:Nat):Int)]++b.ends (i+1)++[(i:Int)]) out' rest w4 (by simp[hl,Fr.ends_len]; omega)
  have e1:List.replicate (b.size+r.size+2) (0:Int)=[0]++List.replicate b.size 0++([0]++List.replicate r.size 0):=by
   rw[show b.size+r.size+2=1+b.size+(1+r.size) by omega,←List.replicate_append_replicate,←List.replicate_append_replicate,←List.replicate_append_replicate]; rfl
  simp only[Fr.flat,Fr.size,List.cons_append,endsR,k16,if_true]
  rw[e1]
  simp only[List.append_assoc,List.cons_append,List.nil_append] at hb hr ⊢
  rw[List.set_append_right _ _ (by omega),show i - out.length=0 by omega,List.set_cons_zero,hb]
  simp only[endsR,k17]
  have hset:(((out++(-1:Int)::(b.ends (i+1)++(0:Int)::(List.replicate r.size 0++out'))).set (i+1+b.size) (-1)).set (i+1+b.size) (i:Int)).set i ((i+1+b.size:Nat):Int)
    = out++((i+b.size+1:Nat):Int)::(b.ends (i+1)++(i:Int)::(List.replicate r.size 0++out')):=by
   rw[List.set_set,List.set_append_right _ _ (by omega),List.set_append_right _ _ (by omega),show i+1+b.size - out.length=b.size+1 by omega,show i - out.length=0 by omega,List.set_cons_succ,List.set_cons_zero,
    List.set_append_right _ _ (by rw[Fr.ends_len]; exact Nat.le_refl _),Fr.ends_len,Nat.sub_self,List.set_cons_zero,show i+1+b.size=i+b.size+1 by omega]
  rw[hset,show i+1+b.size+1=i+b.size+2 by omega,hr]
  simp only[Fr.ends,List.cons_append,List.append_assoc]
  rw[show i+(b.size+r.size+2)=i+b.size+2+r.size by omega]
  simp[Nat.add_comm]
theorem endsR_flat {f:Fr Lo} (w:f.wf kdL):endsR 0 [] (List.replicate f.size 0) f.flat=f.ends 0:=by
 have h:=endsR_tree f 0 [] [] [] [] w rfl
 simp only[List.append_nil,List.nil_append,endsR] at h
 exact h
theorem flat_bal {f:Fr Lo}:∀ {d:Nat} {rest:List Lo},f.wf kdL→bal kdL d rest→bal kdL d (f.flat++rest):=by
 induction f with
 | nil=>intro d rest _ h; exact h
 | op o r ih =>
  intro d rest w h
  simp only[Fr.flat,List.cons_append]
  unfold bal
  rw[w.1,if_neg (by decide),if_neg (by decide)]
  exact⟨rfl,ih w.2 h⟩
 | loop o b e r ih1 ih2 =>
  intro d rest w h
  obtain⟨w1,w2,w3,w4⟩:=w
  simp only[Fr.flat,List.cons_append,List.append_assoc]
  unfold bal
  rw[w1,if_pos rfl]
  refine ih1 w3 ?_
  unfold bal
  rw[w2,if_neg (by decide),if_pos rfl]
  exact⟨by omega,ih2 w4 h⟩
theorem endsR_len:∀ (l:List Lo) (i:Nat) (st:List Nat) (out:List Int),(endsR i st out l).length=out.length
 | [],_,_,_=>rfl
 | o::l,i,st,out=>by
  unfold endsR
  split
  ·rw[endsR_len]; simp
  ·split
   ·split <;> rw[endsR_len] <;> simp
   ·rw[endsR_len]; simp
def stR:List (Int×Int)→Int→List Lo→Int
 | _,s,[]=>s
 | st,s,o::l=>if o.kind=16 then stR ((s,(o.imm.toNat:Int))::st) 1 l
  else if o.kind=17 then (match st with
   | []=>stR [] s l
   | (s0,t)::st'=>stR st' (min 1125899906842624 ((if 1125899906842624 / t < s then 1125899906842624 else s * t)+s0)) l)
  else stR st (min 1125899906842624 (s+1)) l
def Fr.stp:Fr Lo→Nat
 | .nil=>0
 | .op _ r=>1+r.stp
 | .loop o b _ r=>o.imm.toNat * (1+b.stp)+r.stp
theorem le_mul_self {a b:Nat} (h:1≤a):b≤a * b:=Nat.le_mul_of_pos_left _ h
theorem stR_tree {nb:Nat}:∀ (f:Fr Lo) (ls:List Nat) (st:List (Int×Int)) (s:Nat) (rest:List Lo),f.wf kdL→f.regs nb ls=true→s+f.stp≤1125899906842624→stR st s (f.flat++rest)=stR st ((s+f.stp:Nat):Int) rest
 | .nil,_,st,s,rest,_,_,_=>by simp[Fr.flat,Fr.stp]
 | .op o r,ls,st,s,rest,w,hg,hs=>by
  have hk:=w.1
  have k1:¬ o.kind=16:=fun q=>by simp[kdL,q] at hk
  have k2:¬ o.kind=17:=fun q=>by simp[kdL,q] at hk
  simp only[Fr.regs,Bool.and_eq_true] at hg
  simp only[Fr.stp] at hs ⊢
  simp only[Fr.flat,List.cons_append,stR,k1,k2,if_false]
  rw[show min (1125899906842624:Int) ((s:Int)+1)=((s+1:Nat):Int) by omega,stR_tree r ls st (s+1) rest w.2 hg.2.2.2.2.2.2 (by omega)]
  congr 1; omega
 | .loop o b e r,ls,st,s,rest,w,hg,hs=>by
  obtain⟨w1,w2,w3,w4⟩:=w
  have k16:o.kind=16:=by unfold kdL at w1; split at w1 <;> first | assumption | (split at w1 <;> omega)
  have k17:e.kind=17:=by
   unfold kdL at w2
   split at w2
   ·omega
   ·split at w2
    ·assumption
    ·omega
  simp only[Fr.regs,Bool.and_eq_true,decide_eq_true_eq] at hg
  obtain⟨_,_,m1,hg1,hg2⟩:=hg
  simp only[Fr.stp] at hs ⊢
  have hle:=le_mul_self (b:=1+b.stp) m1
  simp only[Fr.flat,List.cons_append,List.append_assoc,stR,k16,if_true]
  rw[show (1:Int)=((1:Nat):Int) from rfl,stR_tree b _ _ 1 _ w3 hg1 (by omega)]
  simp only[stR,k17]
  rw[if_neg (show ¬ (17:Int)=16 by decide),if_pos trivial]
  have hq:¬ (1125899906842624 / ((o.imm.toNat:Nat):Int) < ((1+b.stp:Nat):Int)):=by
   have h1:(1+b.stp) * o.imm.toNat≤1125899906842624:=by rw[Nat.mul_comm]; omega
   have h2:1+b.stp≤1125899906842624 / o.imm.toNat:=(Nat.le_div_iff_mul_le m1).2 h1
   have h3:((1125899906842624 / o.imm.toNat:Nat):Int)=1125899906842624 / ((o.imm.toNat:Nat):Int):=by simp
   omega
  rw[if_neg hq]
  have hm:(((1+b.stp:Nat):Int) * ((o.imm.toNat:Nat):Int))=((o.imm.toNat * (1+b.stp):Nat):Int):=by rw[Nat.mul_comm]; simp
  rw[hm,show min (1125899906842624:Int) (((o.imm.toNat * (1+b.stp):Nat):Int)+(s:Int))=((s+o.imm.toNat * (1+b.stp):Nat):Int) by omega,stR_tree r ls st _ rest w4 hg2 (by omega)]
  congr 1; omega
theorem stR_flat {nb:Nat} {ls:List Nat} {f:Fr Lo} (w:f.wf kdL) (hg:f.regs nb ls=true) (hs:f.stp≤1125899906842624):stR [] 0 f.flat=f.stp:=by
 have h:=stR_tree f ls [] 0 [] w hg (by omega)
 simp only[List.append_nil,stR,Nat.zero_add] at h
 exact h
end Go.Sv
namespace Go.Sv
def rowS (b:Bf) (x:List UInt64):List UInt64:=x++List.replicate (b.size.toNat - x.length) 0
def bufS (bs:List Bf) (X:List (List UInt64)) (n:Nat):List (List UInt64):=(List.range n).map fun i=>rowS (gbf bs i) (X.getD i [])
def startZ (regs:Int) (bs:List Bf) (X:List (List UInt64)):Ms:=⟨0,true,List.replicate regs.toNat 0,bufS bs X bs.length,[]⟩
theorem bufS_len (bs:List Bf) (X:List (List UInt64)) (n:Nat):(bufS bs X n).length=n:=by simp[bufS]
theorem putR_len (r:List UInt64) (x:Int) (v:UInt64):(putR r x v).length=r.length:=by unfold putR; split <;> simp
structure SameLen (s s':Ms):Prop where
 r:s'.r.length=s.r.length
 b:s'.bufs.map List.length=s.bufs.map List.length
 i:s'.i=s.i+1
 l:s'.l.length=s.l.length+1
 f:s'.first=s.first
theorem doR_len {o:Lo} {s s':Ms} (h:doR o s=some s'):SameLen s s':=by
 unfold doR at h
 split at h
 ·split at h
  ·cases h; exact⟨by simp[putR_len],rfl,rfl,by simp,rfl⟩
  ·cases h
 ·split at h
  ·split at h
   ·rename_i hlt
    cases h
    refine⟨by simp[putR_len],?_,rfl,by simp,rfl⟩
    show (s.bufs.set _ _).map List.length=_
    rw[List.map_set,List.length_set]
    refine List.ext_getElem? fun j=>?_
    by_cases q:o.buf.toNat=j
    ·subst q
     by_cases hl:o.buf.toNat < s.bufs.length
     ·rw[List.getElem?_set_self (by simpa using hl)]; simp[rowR,List.getD_eq_getElem?_getD,hl]
     ·rw[List.getElem?_eq_none (by simpa using hl),List.getElem?_eq_none (by simpa using hl)]
    ·rw[List.getElem?_set_ne q]
   ·cases h
  ·cases h; exact⟨by simp[putR_len],rfl,rfl,by simp,rfl⟩
theorem runZ_end {os:List Lo} {es:List Int} {s:Ms} (h:os[s.i]?=none):∀ n,runZ os es n s=some s
 | 0=>rfl
 | n+1=>by
  show (match stepZ os es s with | none=>none | some s'=>runZ os es n s')=_
  have:stepZ os es s=some s:=by unfold stepZ; rw[h]
  rw[this]; exact runZ_end h n
theorem ends_at:∀ (f:Fr Lo) (i j:Nat) (o:Lo),f.wf kdL→f.flat[j]?=some o→o.kind=17→∃ k p,(f.ends i)[j]?=some ((i+k:Nat):Int)∧f.flat[k]?=some p∧p.kind=16
 | .nil,_,_,_,_,h,_=>by simp[Fr.flat] at h
 | .op a r,i,j,o,w,h,hk=>by
  have hka:=w.1
  have k2:¬ a.kind=17:=fun q=>by simp[kdL,q] at hka
  cases j with
  | zero=>simp[Fr.flat] at h; subst h; exact absurd hk k2
  | succ j =>
   simp only[Fr.flat,List.getElem?_cons_succ] at h
   obtain⟨k,p,h1,h2,h3⟩:=ends_at r (i+1) j o w.2 h hk
   exact⟨k+1,p,by simp only[Fr.ends,List.getElem?_cons_succ]; rw[h1]; congr 2; omega,by simpa only[Fr.flat,List.getElem?_cons_succ] using h2,h3⟩
 | .loop a b e r,i,j,o,w,h,hk=>by
  obtain⟨w1,w2,w3,w4⟩:=w
  have k16:a.kind=16:=by unfold kdL at w1; split at w1 <;> first | assumption | (split at w1 <;> omega)
  cases j with
  | zero=>simp[Fr.flat] at h; subst h; omega
  | succ j =>
   simp only[Fr.flat,List.getElem?_cons_succ] at h
   simp only[Fr.ends,List.getElem?_cons_succ]
   by_cases q1:j < b.size
   ·rw[List.getElem?_append_left (by rw[Fr.flat_len]; exact q1)] at h
    obtain⟨k,p,h1,h2,h3⟩:=ends_at b (i+1) j o w3 h hk
    have hk2:k < b.size:=by rw[←Fr.flat_len]; exact (List.getElem?_eq_some_iff.1 h2).1
    refine⟨k+1,p,?_,?_,h3⟩
    ·rw[List.getElem?_append_left (by rw[Fr.ends_len]; exact q1),h1]; congr 2; omega
    ·simp only[Fr.flat,List.getElem?_cons_succ]
     rw[List.getElem?_append_left (by rw[Fr.flat_len]; exact hk2)]; exact h2
   ·rw[List.getElem?_append_right (by rw[Fr.flat_len]; omega),Fr.flat_len] at h
    rw[List.getElem?_append_right (by rw[Fr.ends_len]; omega),Fr.ends_len]
    cases hj:j - b.size with
    | zero =>
     refine⟨0,a,by simp,by simp[Fr.flat],k16⟩
    | succ m =>
     rw[hj] at h
     simp only[List.getElem?_cons_succ] at h ⊢
     obtain⟨k,p,h1,h2,h3⟩:=ends_at r (i+b.size+2) m o w4 h hk
     refine⟨k+b.size+2,p,by rw[h1]; congr 2; omega,?_,h3⟩
     simp only[Fr.flat,List.getElem?_cons_succ]
     rw[List.getElem?_append_right (by rw[Fr.flat_len]; omega),Fr.flat_len,show k+b.size+1 - b.size=k+1 by omega,List.getElem?_cons_succ]
     exact h2
end Go.Sv
namespace Go.Sv
structure Pc where
 buf:Int
 at_:Int
 size:Int
def Pc.f (p:Pc):List LV:=[.i p.buf,.i p.at_,.i p.size]
def cK (d:Int) (n:UInt64):Lo:=⟨1,d,-1,-1,-1,-1,0,n⟩
def cTwo (k d a b:Int):Lo:=⟨k,d,-1,a,b,-1,0,0⟩
def cMul (h l a b:Int):Lo:=⟨10,h,l,a,b,-1,0,0⟩
def cCar (k d out a b c:Int):Lo:=⟨k,d,out,a,b,c,0,0⟩
def cSel (d c a b:Int):Lo:=⟨13,d,-1,a,b,c,0,0⟩
noncomputable def cLd (d:Int) (p:Pc) (i off:Int):Lo:=⟨14,d,-1,i,-1,-1,p.buf,iU (p.at_+off)⟩
noncomputable def cSt (p:Pc) (i off b:Int):Lo:=⟨15,-1,-1,i,b,-1,p.buf,iU (p.at_+off)⟩
noncomputable def cLp (d times:Int):Lo:=⟨16,d,-1,-1,-1,-1,0,iU times⟩
def cEn:Lo:=⟨17,-1,-1,-1,-1,-1,0,0⟩
def Kp (e:Nat) (G G':LHeap):Prop:=G.length≤G'.length∧∀ (q:Nat) (ob:LObj),q≠e→(∀ R m k st,ob≠LObj.dyn R m 8 k st)→G[q]?=some ob→G'[q]?=some ob
theorem Kp.refl (e:Nat) (G:LHeap):Kp e G G:=⟨Nat.le_refl _,fun _ _ _ _ h=>h⟩
theorem Kp.trans {e:Nat} {a b c:LHeap} (h:Kp e a b) (k:Kp e b c):Kp e a c:=⟨Nat.le_trans h.1 k.1,fun q ob h1 h2 h3=>k.2 q ob h1 h2 (h.2 q ob h1 h2 h3)⟩
theorem Kp.cells {e:Nat} {a b:LHeap} (h:Kp e a b) {q st:Nat} {l:List LV} (hq:q≠e) (hc:a[q]?=some (.cells l st)):b[q]?=some (.cells l st):=h.2 q _ hq (fun _ _ _ _ e=>by cases e) hc
theorem Kp.app {e:Nat} {a b:LHeap} (h:Kp e a b) (x:List LObj):Kp e a (b++x):=⟨by have:=h.1; simp; omega,fun q ob h1 h2 h3=>by have h4:=h.2 q ob h1 h2 h3; rw[oldP (List.getElem?_eq_some_iff.1 h4).1]; exact h4⟩
theorem Kp.app' (e:Nat) (a:LHeap) (x:List LObj):Kp e a (a++x):=(Kp.refl e a).app x
def EmH (G:LHeap) (e:Nat) (ops:List Lo) (deep:Int):Prop:=∃ (st:Nat) (v:LV),G[e]?=some (.cells [v,.i deep] st)∧StD 0 G v 8 ops.length (loC ops)
theorem EmH.app {G:LHeap} {e:Nat} {ops:List Lo} {deep:Int} (h:EmH G e ops deep) (x:List LObj):EmH (G++x) e ops deep:=by
 obtain⟨st,v,h1,h2⟩:=h
 exact⟨st,v,by rw[oldP (List.getElem?_eq_some_iff.1 h1).1]; exact h1,h2.push_end⟩
end Go.Sv
namespace Go.Sv
def frZ:List Lo→Fr Lo
 | []=>.nil
 | o::l=>.op o (frZ l)
def Fr.cat {α:Type}:Fr α→Fr α→Fr α
 | .nil,g=>g
 | .op o r,g=>.op o (r.cat g)
 | .loop o b e r,g=>.loop o b e (r.cat g)
theorem flat_frL:∀ l:List Lo,(frZ l).flat=l
 | []=>rfl
 | o::l=>by rw[frZ,Fr.flat,flat_frL l]
theorem flat_cat {α:Type}:∀ f g:Fr α,(f.cat g).flat=f.flat++g.flat
 | .nil,g=>rfl
 | .op o r,g=>by rw[Fr.cat,Fr.flat,Fr.flat,flat_cat r g]; rfl
 | .loop o b e r,g=>by rw[Fr.cat,Fr.flat,Fr.flat,flat_cat r g]; simp
theorem frL_app:∀ a b:List Lo,frZ (a++b)=(frZ a).cat (frZ b)
 | [],_=>rfl
 | o::a,b=>by rw[List.cons_append,frZ,frZ,Fr.cat,frL_app a b]
theorem stp_cat:∀ f g:Fr Lo,(f.cat g).stp=f.stp+g.stp
 | .nil,g=>by simp[Fr.cat,Fr.stp]
 | .op o r,g=>by rw[Fr.cat,Fr.stp,Fr.stp,stp_cat r g]; omega
 | .loop o b e r,g=>by rw[Fr.cat,Fr.stp,Fr.stp,stp_cat r g]; omega
theorem stp_frL (l:List Lo):(frZ l).stp=l.length:=by
 induction l with
 | nil=>rfl
 | cons o l ih=>rw[frZ,Fr.stp,ih,List.length_cons]; omega
section ex
variable {sz : Nat → Nat} {s : Fs}
theorem exZ_cat:∀ (f g:Fr Lo) (s:Fs),exZ sz (f.cat g) s=(exZ sz f s).bind (exZ sz g)
 | .nil,g,s=>rfl
 | .op o r,g,s=>by
  rw[Fr.cat,exZ,exZ]
  cases opZ sz o s with
  | none=>rfl
  | some s'=>exact exZ_cat r g s'
 | .loop o b e r,g,s=>by
  rw[Fr.cat,exZ,exZ]
  cases itZ (exZ sz b) o.d.toNat o.imm.toNat 0 s with
  | none=>rfl
  | some s'=>exact exZ_cat r g s'
def Tx (sz:Nat→Nat) (f:Fr Lo) (s:Fs) (Q:Fs→Prop):Prop:=∃ s',exZ sz f s=some s'∧Q s'
theorem Tx.nil {Q:Fs→Prop} (h:Q s):Tx sz .nil s Q:=⟨s,rfl,h⟩
theorem Tx.op {o:Lo} {r:Fr Lo} {s1:Fs} {Q:Fs→Prop} (h:opZ sz o s=some s1) (k:Tx sz r s1 Q):Tx sz (.op o r) s Q:=by
 obtain⟨s',h1,h2⟩:=k
 exact⟨s',by rw[exZ,h]; exact h1,h2⟩
theorem Tx.cat {f g:Fr Lo} {Q R:Fs→Prop} (h:Tx sz f s R) (k:∀ s',R s'→Tx sz g s' Q):Tx sz (f.cat g) s Q:=by
 obtain⟨s1,h1,h2⟩:=h
 obtain⟨s2,h3,h4⟩:=k s1 h2
 exact⟨s2,by rw[exZ_cat,h1]; exact h3,h4⟩
theorem Tx.mono {f:Fr Lo} {Q R:Fs→Prop} (h:Tx sz f s R) (k:∀ s',R s'→Q s'):Tx sz f s Q:=by
 obtain⟨s1,h1,h2⟩:=h; exact⟨s1,h1,k s1 h2⟩
theorem it_ex {f:Fs→Option Fs} {d:Nat} {I:Nat→Fs→Prop}:∀ (n j:Nat) (s:Fs),I j s→(∀ i s,i < j+n→I i s→∃ s',f (s.put d (UInt64.ofNat i))=some s'∧I (i+1) s')→∃ s',itZ f d n j s=some s'∧I (j+n) s'
 | 0,j,s,h,_=>⟨s,rfl,h⟩
 | n+1,j,s,h,k=>by
  obtain⟨s1,h1,h2⟩:=k j s (by omega) h
  obtain⟨s2,h3,h4⟩:=it_ex n (j+1) s1 h2 fun i s hi hI=>k i s (by omega) hI
  refine⟨s2,?_,by rw[show j+(n+1)=j+1+n by omega]; exact h4⟩
  show (match f (s.put d (UInt64.ofNat j)) with | none=>none | some s'=>itZ f d n (j+1) s')=_
  rw[h1]; exact h3
theorem Tx.loop {o e:Lo} {b r:Fr Lo} {Q:Fs→Prop} (I:Nat→Fs→Prop) (h0:I 0 s) (h1:∀ i s,i < o.imm.toNat→I i s→Tx sz b (s.put o.d.toNat (UInt64.ofNat i)) (I (i+1))) (h2:∀ s',I o.imm.toNat s'→Tx sz r s' Q):Tx sz (.loop o b e r) s Q:=by
 obtain⟨s1,h3,h4⟩:=it_ex o.imm.toNat 0 s h0 fun i s hi hI=>h1 i s (by omega) hI
 rw[Nat.zero_add] at h4
 obtain⟨s2,h5,h6⟩:=h2 s1 h4
 exact⟨s2,by rw[exZ,h3]; exact h5,h6⟩
theorem putZ_n (s:Fs) (d:Nat) (v:UInt64):putZ s (d:Int) v=s.put d v:=by unfold putZ; rw[if_pos (by omega)]; rfl
theorem putZ_m1 (s:Fs) (v:UInt64):putZ s (-1) v=s:=by unfold putZ; rw[if_neg (by omega)]
theorem atZ_n (s:Fs) (d:Nat):atZ s (d:Int)=s.r d:=by unfold atZ; rw[if_neg (by omega)]; rfl
theorem atZ_m1 (s:Fs):atZ s (-1)=0:=by unfold atZ; rw[if_pos (by omega)]
theorem opZ_K {d:Nat} {v:UInt64}:opZ sz (cK d v) s=some (s.put d v):=by simp[opZ,cK,valR,putZ_n,putZ_m1]
theorem opZ_add {d a b:Nat}:opZ sz (cTwo 3 d a b) s=some (s.put d (s.r a+s.r b)):=by simp[opZ,cTwo,valR,putZ_n,putZ_m1,atZ_n]
theorem opZ_sub {d a b:Nat}:opZ sz (cTwo 4 d a b) s=some (s.put d (s.r a - s.r b)):=by simp[opZ,cTwo,valR,putZ_n,putZ_m1,atZ_n]
theorem opZ_xor {d a b:Nat}:opZ sz (cTwo 7 d a b) s=some (s.put d (s.r a ^^^ s.r b)):=by simp[opZ,cTwo,valR,putZ_n,putZ_m1,atZ_n]
theorem opZ_mul {h l a b:Nat}:opZ sz (cMul h l a b) s=some ((s.put h (mulHi (s.r a) (s.r b))).put l (s.r a * s.r b)):=by simp[opZ,cMul,valR,putZ_n,atZ_n]
theorem opZ_adc {d e a b c:Nat}:opZ sz (cCar 11 d e a b c) s=some ((s.put d (addC (s.r a) (s.r b) (decide (s.r c % 2=1))).1).put e (bitR (addC (s.r a) (s.r b) (decide (s.r c % 2=1))).2)):=by simp[opZ,cCar,valR,putZ_n,atZ_n]
theorem opZ_sbb {d e a b c:Nat}:opZ sz (cCar 12 d e a b c) s=some ((s.put d (subC (s.r a) (s.r b) (decide (s.r c % 2=1))).1).put e (bitR (subC (s.r a) (s.r b) (decide (s.r c % 2=1))).2)):=by simp[opZ,cCar,valR,putZ_n,atZ_n]
theorem opZ_sel {d c a b:Nat}:opZ sz (cSel d c a b) s=some (s.put d (if s.r c % 2=1 then s.r a else s.r b)):=by
 simp[opZ,cSel,valR,putZ_n,putZ_m1,atZ_n]
theorem opZ_ld {d i:Nat} {p:Pc} {off:Int} {b n:Nat} (hb:p.buf=(b:Int)) (hn:(iU (p.at_+off)+s.r i).toNat=n) (hlt:n < sz b):opZ sz (cLd d p i off) s=some (s.put d (s.m b n)):=by
 simp[opZ,cLd,putZ_n,putZ_m1,atZ_n,hb,hn,hlt]
theorem opZ_ld0 {d:Nat} {p:Pc} {off:Int} {b n:Nat} (hb:p.buf=(b:Int)) (hn:(iU (p.at_+off)).toNat=n) (hlt:n < sz b):opZ sz (cLd d p (-1) off) s=some (s.put d (s.m b n)):=by
 simp[opZ,cLd,putZ_n,putZ_m1,atZ_m1,hb,hn,hlt]
theorem opZ_st {v i:Nat} {p:Pc} {off:Int} {b n:Nat} (hb:p.buf=(b:Int)) (hn:(iU (p.at_+off)+s.r i).toNat=n) (hlt:n < sz b):opZ sz (cSt p i off v) s=some (s.sto b n (s.r v)):=by
 simp[opZ,cSt,putZ_m1,atZ_n,hb,hn,hlt]
theorem opZ_st0 {v:Nat} {p:Pc} {off:Int} {b n:Nat} (hb:p.buf=(b:Int)) (hn:(iU (p.at_+off)).toNat=n) (hlt:n < sz b):opZ sz (cSt p (-1) off v) s=some (s.sto b n (s.r v)):=by
 simp[opZ,cSt,putZ_m1,atZ_m1,atZ_n,hb,hn,hlt]
end ex
theorem put_r (s:Fs) (d x:Nat) (v:UInt64):(s.put d v).r x=if x=d then v else s.r x:=rfl
theorem put_m (s:Fs) (d:Nat) (v:UInt64):(s.put d v).m=s.m:=rfl
theorem sto_r (s:Fs) (b n:Nat) (v:UInt64):(s.sto b n v).r=s.r:=rfl
theorem sto_m (s:Fs) (b n x y:Nat) (v:UInt64):(s.sto b n v).m x y=if x=b∧y=n then v else s.m x y:=rfl
def absZ (s:Ms):Fs:=⟨fun x=>s.r.getD x 0,fun b n=>(s.bufs.getD b []).getD n 0⟩
def szZ (s:Ms):Nat→Nat:=fun b=>(s.bufs.getD b []).length
theorem Rep.abs (s:Ms) (h:s.r.length=64):Rep s.bufs.length (szZ s) s (absZ s):=⟨h,fun _ _=>rfl,rfl,fun _ _=>rfl,fun _ _ _ _=>rfl⟩
end Go.Sv
namespace Go.Sv
theorem fields_K {regs:Int} {bs:List Bf} {d:Int} {v:UInt64} (h:0≤d∧d < regs):fieldsR regs bs (cK d v)=true:=by
 simp[fieldsR,cK,fieldR,hasD,hasE,hasA,hasB',hasC',memK,h]
theorem fields_Two {regs:Int} {bs:List Bf} {k d a b:Int} (hk:3≤k∧k≤7) (h:0≤d∧d < regs) (ha:0≤a∧a < regs) (hb:0≤b∧b < regs):fieldsR regs bs (cTwo k d a b)=true:=by
 have hc:k=3∨k=4∨k=5∨k=6∨k=7:=by omega
 rcases hc with rfl | rfl | rfl | rfl | rfl <;> simp[fieldsR,cTwo,fieldR,hasD,hasE,hasA,hasB',hasC',memK,h,ha,hb]
theorem fields_Mul {regs:Int} {bs:List Bf} {d e a b:Int} (h:0≤d∧d < regs) (he:0≤e∧e < regs) (ha:0≤a∧a < regs) (hb:0≤b∧b < regs) (hn:d≠e):fieldsR regs bs (cMul d e a b)=true:=by
 simp[fieldsR,cMul,fieldR,hasD,hasE,hasA,hasB',hasC',memK,h,ha,hb,he,hn]
theorem fields_Car {regs:Int} {bs:List Bf} {k d e a b c:Int} (hk:k=11∨k=12) (h:0≤d∧d < regs) (he:0≤e∧e < regs) (ha:0≤a∧a < regs) (hb:0≤b∧b < regs) (hc:0≤c∧c < regs) (hn:d≠e):fieldsR regs bs (cCar k d e a b c)=true:=by
 rcases hk with rfl | rfl <;> simp[fieldsR,cCar,fieldR,hasD,hasE,hasA,hasB',hasC',memK,h,ha,hb,hc,he,hn]
theorem fields_Sel {regs:Int} {bs:List Bf} {d c a b:Int} (h:0≤d∧d < regs) (hc:0≤c∧c < regs) (ha:0≤a∧a < regs) (hb:0≤b∧b < regs):fieldsR regs bs (cSel d c a b)=true:=by
 simp[fieldsR,cSel,fieldR,hasD,hasE,hasA,hasB',hasC',memK,h,ha,hb,hc]
theorem fields_Ld {regs:Int} {bs:List Bf} {d i off:Int} {p:Pc} (h:0≤d∧d < regs) (hi:i=-1∨0≤i∧i < regs) (hb:0≤p.buf∧p.buf < bs.length) (hm:i=-1→iU (p.at_+off) < iU (gbf bs p.buf.toNat).size):fieldsR regs bs (cLd d p i off)=true:=by
 rcases hi with rfl | hi
 ·simp[fieldsR,cLd,fieldR,hasD,hasE,hasA,hasB',hasC',memK,h,hb,hm rfl]
 ·have:i≠-1:=by omega
  simp[fieldsR,cLd,fieldR,hasD,hasE,hasA,hasB',hasC',memK,h,hb,hi,this]
theorem fields_St {regs:Int} {bs:List Bf} {v i off:Int} {p:Pc} (h:0≤v∧v < regs) (hi:i=-1∨0≤i∧i < regs) (hb:0≤p.buf∧p.buf < bs.length) (hk:(gbf bs p.buf.toNat).kind≠1) (hm:i=-1→iU (p.at_+off) < iU (gbf bs p.buf.toNat).size):fieldsR regs bs (cSt p i off v)=true:=by
 rcases hi with rfl | hi
 ·simp[fieldsR,cSt,fieldR,hasD,hasE,hasA,hasB',hasC',memK,h,hb,hm rfl,hk]
 ·have:i≠-1:=by omega
  simp[fieldsR,cSt,fieldR,hasD,hasE,hasA,hasB',hasC',memK,h,hb,hi,this,hk]
def okL (regs:Int) (bs:List Bf):List Int→List Lo→Prop
 | _,[]=>True
 | S,o::l=>fieldsR regs bs o=true∧(o.kind≠16∧o.kind≠17)∧(∀ x∈takesR o,x∈S)∧okL regs bs (makesR o++S) l
theorem okL_mono {regs:Int} {bs:List Bf}:∀ {l:List Lo} {S S':List Int},(∀ x∈S,x∈S')→okL regs bs S l→okL regs bs S' l
 | [],_,_,_,_=>trivial
 | o::l,S,S',h,k=>⟨k.1,k.2.1,fun x hx=>h x (k.2.2.1 x hx),okL_mono (fun x hx=>by
   rcases List.mem_append.1 hx with hx | hx
   ·exact List.mem_append_left _ hx
   ·exact List.mem_append_right _ (h x hx)) k.2.2.2⟩
theorem okL_app {regs:Int} {bs:List Bf}:∀ {a b:List Lo} {S:List Int},okL regs bs S a→okL regs bs ((a.flatMap makesR)++S) b→okL regs bs S (a++b)
 | [],b,S,_,k=>by simpa using k
 | o::a,b,S,h,k=>⟨h.1,h.2.1,h.2.2.1,okL_app h.2.2.2 (okL_mono (fun x hx=>by
   simp only[List.flatMap_cons,List.mem_append] at hx ⊢
   rcases hx with (hx | hx) | hx
   ·exact .inr (.inl hx)
   ·exact .inl hx
   ·exact .inr (.inr hx)) k)⟩
theorem okL_app' {regs:Int} {bs:List Bf} {a b:List Lo} {S:List Int} (h:okL regs bs S a) (k:okL regs bs S b):okL regs bs S (a++b) :=
 okL_app h (okL_mono (fun _ hx=>List.mem_append_right _ hx) k)
def MadeS (regs:Int) (m:List Bool) (S:List Int):Prop:=(m.length:Int)=regs∧∀ x∈S,0≤x∧x < regs∧madeR m x=true
theorem madeR_set {m:List Bool} {a x:Int} (ha:0≤a∧a < m.length) (hx:0≤x):madeR (m.set a.toNat true) x=true↔x=a∨madeR m x=true:=by
 unfold madeR
 rw[getD_setZ _ _ _ _ _ (by omega)]
 by_cases e:x.toNat=a.toNat
 ·rw[if_pos e]; simp; left; omega
 ·rw[if_neg e]
  constructor
  ·exact .inr
  ·rintro (rfl | h)
   ·exact absurd rfl e
   ·exact h
theorem MadeS.fold {regs:Int}:∀ (mk:List Int) (m:List Bool) (S:List Int),MadeS regs m S→(∀ x∈mk,0≤x∧x < regs)→MadeS regs (mk.foldl (fun m r=>m.set r.toNat true) m) (mk++S)
 | [],_,_,h,_=>h
 | a::mk,m,S,h,hr=>by
  have ha:=hr a (List.mem_cons_self ..)
  have h1:MadeS regs (m.set a.toNat true) (a::S):=by
   refine⟨by simpa using h.1,fun x hx=>?_⟩
   rcases List.mem_cons.1 hx with rfl | hx
   ·exact⟨ha.1,ha.2,(madeR_set ⟨ha.1,by rw[h.1]; exact ha.2⟩ ha.1).2 (.inl rfl)⟩
   ·obtain⟨h1,h2,h3⟩:=h.2 x hx
    exact⟨h1,h2,(madeR_set ⟨ha.1,by rw[h.1]; exact ha.2⟩ h1).2 (.inr h3)⟩
  have h2:=MadeS.fold mk _ _ h1 fun x hx=>hr x (List.mem_cons_of_mem _ hx)
  refine⟨h2.1,fun x hx=>h2.2 x ?_⟩
  simp only[List.mem_append,List.mem_cons] at hx ⊢
  rcases hx with (hx | hx) | hx
  ·exact .inr (.inl hx)
  ·exact .inl hx
  ·exact .inr (.inr hx)
theorem stepR_op {regs:Int} {bs:List Bf} {m:List Bool} {ls:List Int} {o:Lo} (hf:fieldsR regs bs o=true) (h16:o.kind≠16) (h17:o.kind≠17) (hm:∀ x∈makesR o,¬ x∈ls) (ht:∀ x∈takesR o,madeR m x=true) :
  stepR regs bs m ls o=(0,(makesR o).foldl (fun m r=>m.set r.toNat true) m,ls):=by
 unfold stepR
 rw[if_neg (by rw[hf]; decide),if_neg h17,if_neg,if_neg (fun q=>h16 q.1),if_neg (fun q=>h16 q.1),if_neg,if_neg h16]
 ·rw[List.any_eq_true]; rintro⟨x,hx,h⟩; rw[ht x hx] at h; cases h
 ·rw[List.any_eq_true]; rintro⟨x,hx,h⟩; exact hm x hx (by simpa using h)
theorem makes_in {regs:Int} {bs:List Bf} {o:Lo} (h:fieldsR regs bs o=true):∀ x∈makesR o,0≤x∧x < regs:=by
 unfold fieldsR at h
 simp only[Bool.and_eq_true,decide_eq_true_eq] at h
 obtain⟨⟨k1,k2⟩,d,e,_⟩:=h
 have f1:∀ {x:Int},fieldR regs x true=true→0≤x∧x < regs:=fun h=>by unfold fieldR at h; simpa using h
 intro x hx
 unfold makesR at hx
 split at hx
 ·rename_i hk
  have hd:hasD o.kind=true:=by rcases hk with h | h | h <;> rw[h] <;> rfl
  have he:hasE o.kind=true:=by rcases hk with h | h | h <;> rw[h] <;> rfl
  rw[hd] at d; rw[he] at e
  simp at hx
  rcases hx with rfl | rfl
  ·exact f1 d
  ·exact f1 e
 ·split at hx
  ·cases hx
  ·rename_i hk
   have hd:hasD o.kind=true:=by simp[hasD]; omega
   rw[hd] at d
   simp at hx
   subst hx
   exact f1 d
end Go.Sv
namespace Go.Sv
def reckA (n r:Int):List Lo:=[cK (r+3) 3,cMul (r+1) r n (r+3),cK (r+3) 2,cTwo 7 r r (r+3)]
def reckR (n r:Int):List Lo:=[cMul (r+1) (r+2) n r,cTwo 4 (r+2) (r+3) (r+2),cMul (r+1) r r (r+2)]
def reckB (n r:Int) (i:Nat):List Lo:=(List.range i).flatMap fun _=>reckR n r
theorem reckB_succ (n r:Int) (i:Nat):reckB n r (i+1)=reckB n r i++reckR n r:=by simp[reckB,List.range_succ]
theorem reckB_len (n r:Int) (i:Nat):(reckB n r i).length=3 * i:=by
 induction i with
 | zero=>rfl
 | succ i ih=>rw[reckB_succ,List.length_append,ih]; simp[reckR]; omega
def reckL (n r:Int):List Lo:=reckA n r++(reckB n r 5++[cK (r+3) 0,cTwo 4 r (r+3) r])
theorem xor2 (x:Nat):x ^^^ 2=if x % 4 < 2 then x+2 else x - 2:=by
 have h1:(x ^^^ 2) / 4=x / 4:=by
  have:=Nat.xor_div_two_pow (a:=x) (b:=2) (n:=2)
  simpa using this
 have h2:(x ^^^ 2) % 4=(x % 4) ^^^ 2:=by
  have:=Nat.xor_mod_two_pow (a:=x) (b:=2) (n:=2)
  simpa using this
 have h3:x % 4 < 4:=Nat.mod_lt _ (by decide)
 have h4:(x % 4) ^^^ 2=if x % 4 < 2 then x % 4+2 else x % 4 - 2:=by
  generalize x % 4=c at h3 ⊢
  match c,h3 with
  | 0,_=>rfl
  | 1,_=>rfl
  | 2,_=>rfl
  | 3,_=>rfl
 rw[h4] at h2
 split at h2 <;> rename_i hc
 ·rw[if_pos hc]; omega
 ·rw[if_neg hc]; omega
theorem even_k (k c:Nat) (hc:c % 2=1):∃ t,k * (3 * k+c)=2 * t:=by
 have h:k * (3 * k+c) % 2=0:=by
  have h2:k % 2=0∨k % 2=1:=by omega
  rw[Nat.mul_mod,Nat.add_mod,Nat.mul_mod 3 k]
  rcases h2 with h2 | h2 <;> simp[h2,hc]
 exact⟨k * (3 * k+c) / 2,by omega⟩
theorem reck0 (a:UInt64) (h:a % 2=1):∃ t:UInt64,a * ((a * 3) ^^^ 2)=1+32 * t:=by
 have hn:a.toNat % 2=1:=by
  have:=congrArg UInt64.toNat h
  simpa using this
 have hx:((a * 3) ^^^ 2:UInt64).toNat=(a.toNat * 3 % 18446744073709551616) ^^^ 2:=by simp
 rw[xor2] at hx
 have hlt:a.toNat * 3 % 18446744073709551616 < 18446744073709551616:=Nat.mod_lt _ (by decide)
 obtain⟨k,hk⟩:∃ k,a.toNat=4 * k+a.toNat % 4:=⟨a.toNat / 4,by omega⟩
 have hm4:a.toNat * 3 % 18446744073709551616 % 4=a.toNat * 3 % 4:=Nat.mod_mod_of_dvd _ (by decide)
 have ha:a=UInt64.ofNat a.toNat:=by simp
 have hc:a.toNat % 4=1∨a.toNat % 4=3:=by omega
 rcases hc with hc | hc
 ·rw[if_neg (by omega)] at hx
  have hx0:(a * 3) ^^^ 2=a * 3 - 2:=by
   apply UInt64.toNat.inj
   rw[hx,UInt64.toNat_sub]
   simp
   omega
  obtain⟨t,ht⟩:=even_k k 1 rfl
  have hb:a=4 * UInt64.ofNat k+1:=by rw[ha,hk,hc]; simp
  have ht2:UInt64.ofNat k * (3 * UInt64.ofNat k+1)=2 * UInt64.ofNat t:=by
   have:=congrArg UInt64.ofNat ht
   simpa using this
  refine⟨UInt64.ofNat t,?_⟩
  rw[hx0]
  generalize UInt64.ofNat k=b at *
  generalize UInt64.ofNat t=u at *
  clear hx ha
  grind
 ·rw[if_pos (by omega)] at hx
  have hx0:(a * 3) ^^^ 2=a * 3+2:=by
   apply UInt64.toNat.inj
   rw[hx,UInt64.toNat_add]
   simp
   omega
  obtain⟨t,ht⟩:=even_k k 5 rfl
  have hb:a=4 * UInt64.ofNat k+3:=by rw[ha,hk,hc]; simp
  have ht2:UInt64.ofNat k * (3 * UInt64.ofNat k+5)=2 * UInt64.ofNat t:=by
   have:=congrArg UInt64.ofNat ht
   simpa using this
  refine⟨UInt64.ofNat t+1,?_⟩
  rw[hx0]
  generalize UInt64.ofNat k=b at *
  generalize UInt64.ofNat t=u at *
  clear hx ha
  grind
def nwt (a x:UInt64):UInt64:=x * (2 - a * x)
theorem nwt_sq (a x:UInt64):1 - a * nwt a x=(1 - a * x) * (1 - a * x):=by unfold nwt; grind
def reckN (a:UInt64):UInt64:=nwt a (nwt a (nwt a (nwt a (nwt a ((a * 3) ^^^ 2)))))
theorem sq32 (t:UInt64):((32 * t) * (32 * t)) * ((32 * t) * (32 * t))=1048576 * (t * t * (t * t)):=by grind
theorem reckN_one (a:UInt64) (h:a % 2=1):a * reckN a=1:=by
 obtain⟨t,ht⟩:=reck0 a h
 have e0:1 - a * ((a * 3) ^^^ 2)=32 * (0 - t):=by rw[ht]; grind
 generalize 0 - t=u at e0
 have h5:1 - a * reckN a=0:=by
  unfold reckN
  rw[nwt_sq,nwt_sq,nwt_sq,nwt_sq,nwt_sq,e0]
  have h4:(32 * u) * (32 * u) * ((32 * u) * (32 * u))=1048576 * (u * u * (u * u)):=sq32 u
  rw[h4]
  generalize u * u * (u * u)=w
  have h8:(1048576 * w) * (1048576 * w) * ((1048576 * w) * (1048576 * w))=0:=by
   have:(1048576 * w) * (1048576 * w) * ((1048576 * w) * (1048576 * w))=(1048576 * 1048576 * (1048576 * 1048576)) * (w * w * (w * w)):=by grind
   rw[this,show (1048576 * 1048576 * (1048576 * 1048576):UInt64)=0 by decide]
   simp
  rw[h8]; simp
 have:a * reckN a=1 - (1 - a * reckN a):=by grind
 rw[this,h5]; rfl
end Go.Sv
namespace Go.Sv
def nwtI (a x:UInt64):Nat→UInt64
 | 0=>x
 | i+1=>nwt a (nwtI a x i)
theorem reck_ex {sz:Nat→Nat} {s:Fs} {n r:Nat} (h:¬ (r≤n∧n≤r+3)):Tx sz (frZ (reckL n r)) s fun s'=>s'.r r=0 - reckN (s.r n)∧s'.m=s.m∧∀ x,¬ (r≤x∧x≤r+3)→s'.r x=s.r x:=by
 have e1:reckL (n:Int) (r:Int)=[cK ((r+3:Nat):Int) 3,cMul ((r+1:Nat):Int) (r:Nat) (n:Nat) ((r+3:Nat):Int),cK ((r+3:Nat):Int) 2,cTwo 7 (r:Nat) (r:Nat) ((r+3:Nat):Int)]++(reckB n r 5++[cK ((r+3:Nat):Int) 0,cTwo 4 (r:Nat) ((r+3:Nat):Int) (r:Nat)]):=rfl
 have round:∀ (i:Nat) (s:Fs),s.r (r+3)=2→Tx sz (frZ (reckB n r i)) s fun s'=>s'.r (r+3)=2∧s'.r r=nwtI (s.r n) (s.r r) i∧s'.m=s.m∧∀ x,¬ (r≤x∧x≤r+3)→s'.r x=s.r x:=by
  intro i
  induction i with
  | zero=>intro s h2; exact .nil ⟨h2,rfl,rfl,fun _ _=>rfl⟩
  | succ i ih =>
   intro s h2
   rw[reckB_succ,frL_app]
   refine (ih s h2).cat fun s1 ⟨a1,a2,a3,a4⟩=>?_
   have e2:reckR (n:Int) (r:Int)=[cMul ((r+1:Nat):Int) ((r+2:Nat):Int) (n:Nat) (r:Nat),cTwo 4 ((r+2:Nat):Int) ((r+3:Nat):Int) ((r+2:Nat):Int),cMul ((r+1:Nat):Int) (r:Nat) (r:Nat) ((r+2:Nat):Int)]:=rfl
   rw[e2]
   refine .op opZ_mul (.op opZ_sub (.op opZ_mul (.nil ⟨?_,?_,?_,fun x hx=>?_⟩)))
   ·simp[put_r,a1]
   ·have hn:=a4 n h
    have hn0:¬ n=r:=by omega
    simp[put_r,a1,a2,hn,nwt,nwtI]
   ·simp[put_m,a3]
   ·have x0:¬ x=r:=by omega
    have x1:¬ x=r+1:=by omega
    have x2:¬ x=r+2:=by omega
    simp[put_r,x0,x1,x2,a4 x hx]
 rw[e1,frL_app]
 refine Tx.cat (R:=fun s'=>s'.r (r+3)=2∧s'.r r=(s.r n * 3) ^^^ 2∧s'.m=s.m∧∀ x,¬ (r≤x∧x≤r+3)→s'.r x=s.r x) (.op opZ_K (.op opZ_mul (.op opZ_K (.op opZ_xor (.nil ⟨?_,?_,?_,fun x hx=>?_⟩))))) fun s1 ⟨a1,a2,a3,a4⟩=>?_
 ·simp[put_r]
 ·have n3:¬ n=r+3:=by omega
  simp[put_r,n3]
 ·simp[put_m]
 ·have x0:¬ x=r:=by omega
  have x1:¬ x=r+1:=by omega
  have x3:¬ x=r+3:=by omega
  simp[put_r,x0,x1,x3]
 rw[frL_app]
 refine (round 5 s1 a1).cat fun s2 ⟨b1,b2,b3,b4⟩=>?_
 refine .op opZ_K (.op opZ_sub (.nil ⟨?_,?_,fun x hx=>?_⟩))
 ·simp[put_r,b2,a2,a4 n h,reckN,nwtI]
 ·simp[put_m,b3,a3]
 ·have x0:¬ x=r:=by omega
  have x3:¬ x=r+3:=by omega
  simp[put_r,x0,x3,b4 x hx,a4 x hx]
end Go.Sv
namespace Go.Sv
theorem okL_reckR {bs:List Bf} {n r:Int} {S:List Int} (hn:0≤n∧n < 64) (hr:0≤r∧r+4 < 64) (h1:n∈S) (h2:r∈S) (h3:r+3∈S):okL 64 bs S (reckR n r):=by
 refine⟨fields_Mul (by omega) (by omega) hn (by omega) (by omega),by simp[cMul],?_,fields_Two (by omega) (by omega) (by omega) (by omega),by simp[cTwo],?_,fields_Mul (by omega) (by omega) (by omega) (by omega) (by omega),by simp[cMul],?_,trivial⟩
 ·simp[takesR,cMul,h1,h2]
 ·simp[takesR,cTwo,makesR,cMul,h3]
 ·simp[takesR,makesR,cMul,cTwo,h2]
theorem okL_reckB {bs:List Bf} {n r:Int} {S:List Int} (hn:0≤n∧n < 64) (hr:0≤r∧r+4 < 64) (h1:n∈S) (h2:r∈S) (h3:r+3∈S):∀ i,okL 64 bs S (reckB n r i)
 | 0=>trivial
 | i+1=>by rw[reckB_succ]; exact okL_app' (okL_reckB hn hr h1 h2 h3 i) (okL_reckR hn hr h1 h2 h3)
theorem okL_reck {bs:List Bf} {n r:Int} {S:List Int} (hn:0≤n∧n < 64) (hr:0≤r∧r+4 < 64) (h1:n∈S):okL 64 bs S (reckL n r):=by
 refine okL_app (a:=reckA n r) ?_ ?_
 ·refine⟨fields_K (by omega),by simp[cK],by simp[takesR,cK],fields_Mul (by omega) (by omega) hn (by omega) (by omega),by simp[cMul],?_,fields_K (by omega),by simp[cK],by simp[takesR,cK],fields_Two (by omega) (by omega) (by omega) (by omega),by simp[cTwo],?_,trivial⟩
  ·simp[takesR,makesR,cMul,cK,h1]
  ·simp[takesR,makesR,cMul,cK,cTwo]
 ·refine okL_app' (okL_reckB hn hr (List.mem_append_right _ h1) ?_ ?_ 5) ?_
  ·simp[reckA,makesR,cK,cMul,cTwo]
  ·simp[reckA,makesR,cK,cMul,cTwo]
  ·refine⟨fields_K (by omega),by simp[cK],by simp[takesR,cK],fields_Two (by omega) (by omega) (by omega) (by omega),by simp[cTwo],?_,trivial⟩
   simp[takesR,makesR,cK,cTwo,reckA,cMul]
theorem reckL_len (n r:Int):(reckL n r).length=21:=by
 unfold reckL
 rw[List.length_append,List.length_append,reckB_len]; rfl
theorem iU1:iU 1=1:=by rw[iU_eq]; rfl
end Go.Sv
namespace Go.Sv
def prS (e:Nat) (d a b n t:Pc) (R:Int):List LV :=
 [.ptr e 0,.i d.buf,.i d.at_,.i d.size,.i a.buf,.i a.at_,.i a.size,.i b.buf,.i b.at_,.i b.size,.i n.buf,.i n.at_,.i n.size,.i t.buf,.i t.at_,.i t.size,
  .i R,.i (R+1),.i (R+2),.i (R+3),.i (R+4),.i (R+5),.i (R+6),.i (R+7),.i (R+8),.i (R+9),.i (R+10)]
def sumL (R a b:Int):List Lo:=[cMul (R+5) (R+6) a b,cCar 11 (R+6) (R+8) (R+6) (R+7) R,cCar 11 (R+6) (R+9) (R+6) (R+3) R,cTwo 3 (R+5) (R+5) (R+8),cTwo 3 (R+3) (R+5) (R+9)]
noncomputable def topL (t:Pc) (k R:Int):List Lo:=[cLd (R+7) t (-1) k,cCar 11 (R+7) (R+8) (R+7) (R+3) R]
noncomputable def lpT (d times:Int) (b:Fr Lo):Fr Lo:=if times < 1 then .nil else .loop (cLp d times) b cEn .nil
theorem flat_lpT (d times:Int) (b:Fr Lo):(lpT d times b).flat=if times < 1 then [] else cLp d times::(b.flat++[cEn]):=by
 unfold lpT; split <;> rfl
noncomputable def timesB (a t:Pc) (R j:Int):List Lo:=[cLd (R+4) a j 0,cLd (R+7) t j 0]++(sumL R (R+4) (R+2)++[cSt t j 0 (R+6)])
noncomputable def timesT (a b t:Pc) (k R D i:Int):Fr Lo:=(frZ [cLd (R+2) b i 0,cK (R+3) 0]).cat ((lpT D k (frZ (timesB a t R D))).cat (frZ (topL t k R++[cSt t (-1) k (R+7),cSt t (-1) (k+1) (R+8)])))
noncomputable def downB (n t:Pc) (R j:Int):List Lo:=[cLd (R+4) n j 1,cLd (R+7) t j 1]++(sumL R (R+10) (R+4)++[cSt t j 0 (R+6)])
noncomputable def downT (n t:Pc) (k R D:Int):Fr Lo:=(frZ ([cLd (R+7) t (-1) 0,cMul (R+5) (R+10) (R+7) (R+1),cLd (R+4) n (-1) 0,cK (R+3) 0]++sumL R (R+10) (R+4))).cat
 ((lpT D (k - 1) (frZ (downB n t R D))).cat (frZ (topL t k R++[cSt t (-1) (k - 1) (R+7),cLd (R+7) t (-1) (k+1),cTwo 3 (R+7) (R+7) (R+8),cSt t (-1) k (R+7)])))
noncomputable def lessB (n t:Pc) (R j:Int):List Lo:=[cLd (R+7) t j 0,cLd (R+4) n j 0,cCar 12 (R+6) (R+8) (R+7) (R+4) (R+8)]
noncomputable def lessT (n t:Pc) (k R D:Int) (x:List Lo):Fr Lo:=(frZ [cK (R+8) 0]).cat (lpT D k (frZ (lessB n t R D++x)))
noncomputable def lastT (d n t:Pc) (k R D:Int):Fr Lo:=(lessT n t k R D []).cat ((frZ [cLd (R+7) t (-1) k,cCar 12 (R+6) (R+10) (R+7) R (R+8)]).cat (lessT n t k R D [cSel (R+6) (R+10) (R+7) (R+6),cSt d D 0 (R+6)]))
noncomputable def fillT (p:Pc) (a D:Int):Fr Lo:=lpT D p.size (frZ [cSt p D 0 a])
noncomputable def intoT (d a b n t:Pc) (k R D:Int):Fr Lo:=(frZ ([cK R 0,cLd (R+10) n (-1) 0]++reckL (R+10) (R+1))).cat ((fillT t R D).cat ((lpT D k ((timesT a b t k R (D+1) D).cat (downT n t k R (D+1)))).cat (lastT d n t k R D)))
end Go.Sv
namespace Go.Sv
def vl (f:Nat→UInt64):Nat→Nat
 | 0=>0
 | n+1=>vl f n+(f n).toNat * 18446744073709551616 ^ n
theorem vl_lt (f:Nat→UInt64):∀ n,vl f n < 18446744073709551616 ^ n
 | 0=>by simp[vl]
 | n+1=>by
  have h:=vl_lt f n
  have h2:(f n).toNat+1≤18446744073709551616:=(f n).toNat_lt
  have h3:=Nat.mul_le_mul_right (18446744073709551616 ^ n) h2
  rw[Nat.add_mul,Nat.one_mul] at h3
  rw[vl,Nat.pow_succ,Nat.mul_comm (18446744073709551616 ^ n)]
  omega
theorem vl_congr {f g:Nat→UInt64}:∀ {n:Nat},(∀ i,i < n→f i=g i)→vl f n=vl g n
 | 0,_=>rfl
 | n+1,h=>by rw[vl,vl,vl_congr fun i hi=>h i (by omega),h n (by omega)]
theorem vl_low (f:Nat→UInt64):∀ n,vl f (n+1)=(f 0).toNat+18446744073709551616 * vl (fun i=>f (i+1)) n
 | 0=>by simp[vl]
 | n+1=>by
  rw[vl,vl_low f n,vl,Nat.pow_succ]
  grind
structure Pn where
 b:Nat
 a:Nat
 k:Nat
def Pn.p (p:Pn):Pc:=⟨p.b,p.a,p.k⟩
def pl (m:Nat→Nat→UInt64) (p:Pn) (i:Nat):UInt64:=m p.b (p.a+i)
def Dj (p q:Pn):Prop:=p.b≠q.b∨p.a+p.k≤q.a∨q.a+q.k≤p.a
def Only (p:Pn) (m m':Nat→Nat→UInt64):Prop:=∀ x y,¬ (x=p.b∧p.a≤y∧y < p.a+p.k)→m' x y=m x y
theorem Only.trans {p:Pn} {m m' m'':Nat→Nat→UInt64} (h:Only p m m') (k:Only p m' m''):Only p m m'':=fun x y hn=>(k x y hn).trans (h x y hn)
theorem Only.pl {p q:Pn} {m m':Nat→Nat→UInt64} (h:Only p m m') (d:Dj p q) {i:Nat} (hi:i < q.k):pl m' q i=pl m q i :=
 h _ _ fun ⟨h1,h2,h3⟩=>by
  rcases d with d | d | d
  ·exact d h1.symm
  ·omega
  ·omega
theorem Only.vl {p q:Pn} {m m':Nat→Nat→UInt64} (h:Only p m m') (d:Dj p q) {n:Nat} (hn:n≤q.k):vl (Go.Sv.pl m' q) n=vl (Go.Sv.pl m q) n:=vl_congr fun _ hi=>h.pl d (by omega)
theorem only_sto {p:Pn} {s:Fs} {i:Nat} {v:UInt64} (h:i < p.k):Only p s.m (s.sto p.b (p.a+i) v).m:=fun x y hn=>by
 rw[sto_m,if_neg]
 rintro⟨rfl,rfl⟩
 exact hn ⟨rfl,by omega,by omega⟩
theorem pl_sto (p:Pn) (s:Fs) (i j:Nat) (v:UInt64):pl (s.sto p.b (p.a+i) v).m p j=if j=i then v else pl s.m p j:=by
 unfold pl
 rw[sto_m]
 by_cases h:j=i
 ·subst h; simp
 ·rw[if_neg (by omega),if_neg h]
theorem ix_reg {p:Pn} {off:Nat} {x:UInt64} (h:p.a+off+x.toNat < 18446744073709551616):(iU (p.p.at_+(off:Int))+x).toNat=p.a+off+x.toNat:=by
 have:p.p.at_+(off:Int)=((p.a+off:Nat):Int):=by simp[Pn.p]
 rw[this,UInt64.toNat_add,iU_nat (by omega),Nat.mod_eq_of_lt (by simpa using h)]
theorem ix_no {p:Pn} {off:Nat} (h:p.a+off < 18446744073709551616):(iU (p.p.at_+(off:Int))).toNat=p.a+off:=by
 have:p.p.at_+(off:Int)=((p.a+off:Nat):Int):=by simp[Pn.p]
 rw[this,iU_nat h]
section ls
variable {sz : Nat → Nat} {s : Fs} {p : Pn}
theorem ld_reg {d i off:Nat} (h:p.a+off+(s.r i).toNat < sz p.b) (hs:sz p.b≤65536):opZ sz (cLd d p.p i off) s=some (s.put d (pl s.m p (off+(s.r i).toNat))):=by
 rw[opZ_ld (b:=p.b) (n:=p.a+off+(s.r i).toNat) rfl (ix_reg (by omega)) h]; unfold pl; rw[Nat.add_assoc]
theorem ld_no {d off:Nat} (h:p.a+off < sz p.b) (hs:sz p.b≤65536):opZ sz (cLd d p.p (-1) off) s=some (s.put d (pl s.m p off)):=by
 rw[opZ_ld0 (b:=p.b) (n:=p.a+off) rfl (ix_no (by omega)) h]; rfl
theorem st_reg {v i off:Nat} (h:p.a+off+(s.r i).toNat < sz p.b) (hs:sz p.b≤65536):opZ sz (cSt p.p i off v) s=some (s.sto p.b (p.a+(off+(s.r i).toNat)) (s.r v)):=by
 rw[opZ_st (b:=p.b) (n:=p.a+off+(s.r i).toNat) rfl (ix_reg (by omega)) h,Nat.add_assoc]
theorem st_no {v off:Nat} (h:p.a+off < sz p.b) (hs:sz p.b≤65536):opZ sz (cSt p.p (-1) off v) s=some (s.sto p.b (p.a+off) (s.r v)):=by
 rw[opZ_st0 (b:=p.b) (n:=p.a+off) rfl (ix_no (by omega)) h]
end ls
end Go.Sv
namespace Go.Sv
theorem bitR_nat (b:Bool):(bitR b).toNat=b.toNat:=by cases b <;> rfl
theorem bitR_odd (b:Bool):decide (bitR b % 2=1)=b:=by cases b <;> decide
theorem sum_val {x y w m:UInt64} {hi lo p q h1 h2:UInt64} {c1 c2:Bool} (e1:hi=mulHi x y) (e2:lo=x * y) (e3:addC lo w false=(p,c1)) (e4:addC p m false=(q,c2)) (e5:h1=hi+bitR c1) (e6:h2=h1+bitR c2) :
  q.toNat+18446744073709551616 * h2.toNat=x.toNat * y.toNat+w.toNat+m.toNat:=by
 have a1:=mulHi_val x y
 have a2:=addC_val lo w false
 have a3:=addC_val p m false
 rw[e3] at a2
 rw[e4] at a3
 subst e1 e2 e5 e6
 simp only[Bool.toNat_false,Nat.add_zero] at a2 a3
 have b1:x.toNat * y.toNat≤18446744073709551615 * 18446744073709551615:=Nat.mul_le_mul (by have:=x.toNat_lt; omega) (by have:=y.toNat_lt; omega)
 have b2:=w.toNat_lt
 have b3:=m.toNat_lt
 have b4:=q.toNat_lt
 have d1:c1.toNat≤1:=by cases c1 <;> decide
 have d2:c2.toNat≤1:=by cases c2 <;> decide
 have f1:((mulHi x y)+bitR c1).toNat=(mulHi x y).toNat+c1.toNat:=by
  rw[UInt64.toNat_add,bitR_nat,Nat.mod_eq_of_lt]
  omega
 have f2:((mulHi x y)+bitR c1+bitR c2).toNat=(mulHi x y).toNat+c1.toNat+c2.toNat:=by
  rw[UInt64.toNat_add,f1,bitR_nat,Nat.mod_eq_of_lt]
  omega
 rw[f2]
 omega
section mu
variable {sz : Nat → Nat}
def inS (R z:Nat):Prop:=R+3≤z∧z≤R+9
theorem sum_ex {s:Fs} {R a b:Nat} (h0:s.r R=0):Tx sz (frZ (sumL R a b)) s fun s'=>s'.m=s.m∧(s'.r (R+6)).toNat+18446744073709551616 * (s'.r (R+3)).toNat=(s.r a).toNat * (s.r b).toNat+(s.r (R+7)).toNat+(s.r (R+3)).toNat∧∀ z,(¬ inS R z∨z=R+4∨z=R+7)→s'.r z=s.r z:=by
 have e:sumL (R:Int) a b=[cMul ((R+5:Nat):Int) ((R+6:Nat):Int) (a:Nat) (b:Nat),cCar 11 ((R+6:Nat):Int) ((R+8:Nat):Int) ((R+6:Nat):Int) ((R+7:Nat):Int) (R:Nat),cCar 11 ((R+6:Nat):Int) ((R+9:Nat):Int) ((R+6:Nat):Int) ((R+3:Nat):Int) (R:Nat),cTwo 3 ((R+5:Nat):Int) ((R+5:Nat):Int) ((R+8:Nat):Int),cTwo 3 ((R+3:Nat):Int) ((R+5:Nat):Int) ((R+9:Nat):Int)]:=rfl
 rw[e]
 unfold inS at *
 refine .op opZ_mul (.op opZ_adc (.op opZ_adc (.op opZ_add (.op opZ_add (.nil ⟨rfl,?_,fun z hz=>?_⟩)))))
 ·simp[put_r,h0,-UInt64.toNat_add]
  exact sum_val (x:=s.r a) (y:=s.r b) (w:=s.r (R+7)) (m:=s.r (R+3)) rfl rfl rfl rfl rfl rfl
 ·have z5:¬ z=R+5:=by omega
  have z6:¬ z=R+6:=by omega
  have z8:¬ z=R+8:=by omega
  have z9:¬ z=R+9:=by omega
  have z3:¬ z=R+3:=by omega
  simp[put_r,z3,z5,z6,z8,z9]
theorem vl_succ (f:Nat→UInt64) (n:Nat):vl f (n+1)=vl f n+(f n).toNat * 18446744073709551616 ^ n:=rfl
theorem Tx.lp {s:Fs} {d n:Nat} {b:Fr Lo} {Q:Fs→Prop} (I:Nat→Fs→Prop) (h0:I 0 s) (hn:n < 18446744073709551616) (h1:∀ i s,i < n→I i s→Tx sz b (s.put d (UInt64.ofNat i)) (I (i+1))) (h2:∀ s',I n s'→Q s'):Tx sz (lpT (d:Nat) (n:Nat) b) s Q:=by
 unfold lpT
 have e:(cLp (d:Nat) (n:Nat)).imm.toNat=n:=iU_nat hn
 split
 ·have:n=0:=by omega
  subst this
  exact .nil (h2 _ h0)
 ·refine .loop I h0 (fun i s hi hI=>?_) fun s' hI=>.nil (h2 _ ?_)
  ·rw[e] at hi
   exact h1 i s hi hI
  ·rw[e] at hI; exact hI
def RgS (R D:Nat) (s s':Fs):Prop:=∀ z,¬ inS R z→z≠D→s'.r z=s.r z
def RgA (R D:Nat) (s s':Fs):Prop:=∀ z,¬ (R+2≤z∧z≤R+10)→z≠D→s'.r z=s.r z
def Pn.in_ (sz:Nat→Nat) (p:Pn):Prop:=p.a+p.k≤sz p.b∧sz p.b≤65536
theorem times_round {s:Fs} {R D j:Nat} {a t:Pn} (hR:s.r R=0) (hD:D < R) (hj:(s.r D).toNat=j) (ha:a.in_ sz) (ht:t.in_ sz) (ja:j < a.k) (jt:j < t.k) :
  Tx sz (frZ (timesB a.p t.p R D)) s fun s'=>∃ q:UInt64,(∀ i,pl s'.m t i=if i=j then q else pl s.m t i)∧Only t s.m s'.m∧RgS R D s s' ∧
   q.toNat+18446744073709551616 * (s'.r (R+3)).toNat=(pl s.m a j).toNat * (s.r (R+2)).toNat+(pl s.m t j).toNat+(s.r (R+3)).toNat:=by
 obtain⟨ha1,ha2⟩:=ha
 obtain⟨ht1,ht2⟩:=ht
 have e:timesB a.p t.p R D=[cLd ((R+4:Nat):Int) a.p (D:Nat) ((0:Nat):Int),cLd ((R+7:Nat):Int) t.p (D:Nat) ((0:Nat):Int)]++(sumL R ((R+4:Nat):Int) ((R+2:Nat):Int)++[cSt t.p (D:Nat) ((0:Nat):Int) ((R+6:Nat):Int)]):=rfl
 rw[e,frL_app,frL_app]
 have dn:∀ n,n < 11→¬ D=R+n:=fun n h=>by omega
 refine .op (ld_reg (by omega) ha2) (.op (ld_reg (by simp only[put_r,if_neg (dn 4 (by omega))]; omega) ht2) ((sum_ex (by simp[put_r,hR])).cat fun s1 ⟨m1,v1,r1⟩=>?_))
 have hD1:s1.r D=s.r D:=by rw[r1 _ (.inl (by unfold inS; omega))]; simp[put_r,dn]
 refine .op (st_reg (by rw[hD1]; omega) ht2) (.nil ⟨s1.r (R+6),fun i=>?_,?_,fun z hz hz2=>?_,?_⟩)
 ·rw[pl_sto,hD1,hj,m1]; simp[put_m]
 ·have:=only_sto (p:=t) (s:=s1) (i:=0+(s1.r D).toNat) (v:=s1.r (R+6)) (by rw[hD1]; omega)
  intro x y hn
  rw[this x y hn,m1]; rfl
 ·rw[sto_r,r1 z (.inl hz)]
  unfold inS at hz
  have z4:¬ z=R+4:=by omega
  have z7:¬ z=R+7:=by omega
  simp[put_r,z4,z7]
 ·rw[sto_r]
  simpa [put_r,put_m,dn,hj] using v1
theorem step_law {W P v r T A y q r' x t:Nat} (h:v+P * r=T+A * y) (k:q+W * r'=x * y+t+r):v+q * P+P * W * r'=T+t * P+(A+x * P) * y:=by
 have h2:P * (q+W * r')=P * (x * y+t+r):=by rw[k]
 grind
theorem top_law {W P v r T A y p c t:Nat} (h:v+P * r=T+A * y) (k:p+W * c=t+r):v+p * P+c * (P * W)=T+t * P+A * y:=by
 have h2:P * (p+W * c)=P * (t+r):=by rw[k]
 grind
theorem top_ex {s:Fs} {R k:Nat} {t:Pn} (hR:s.r R=0) (ht:t.in_ sz) (hk:k+2≤t.k) (r:Fr Lo) (Q:Fs→Prop)
  (h:∀ (s1:Fs) (c:Bool),s1.m=s.m→s1.r (R+8)=bitR c→(s1.r (R+7)).toNat+18446744073709551616 * c.toNat=(pl s.m t k).toNat+(s.r (R+3)).toNat→(∀ z,z≠R+7→z≠R+8→s1.r z=s.r z)→Tx sz r s1 Q) :
  Tx sz ((frZ (topL t.p k R)).cat r) s Q:=by
 obtain⟨ht1,ht2⟩:=ht
 have e:topL t.p k R=[cLd ((R+7:Nat):Int) t.p (-1) (k:Nat),cCar 11 ((R+7:Nat):Int) ((R+8:Nat):Int) ((R+7:Nat):Int) ((R+3:Nat):Int) (R:Nat)]:=rfl
 rw[e]
 refine .op (ld_no (by omega) ht2) (.op opZ_adc ?_)
 refine h _ (addC (pl s.m t k) (s.r (R+3)) false).2 rfl ?_ ?_ fun z h7 h8=>?_
 ·simp[put_r,hR]
 ·have:=addC_val (pl s.m t k) (s.r (R+3)) false
  simpa [put_r,hR] using this
 ·simp[put_r,h7,h8]
theorem times_ex {s:Fs} {R D i k:Nat} {a b t:Pn} (hR:s.r R=0) (hD:D < R) (hi:(s.r i).toNat < b.k) (hb:b.in_ sz) (ha:a.in_ sz) (ht:t.in_ sz) (hk:k≤a.k) (hk2:k+2≤t.k) (dj:Dj t a) (hW:sz t.b≤65536) :
  Tx sz (timesT a.p b.p t.p k R D i) s fun s'=>RgA R D s s'∧Only t s.m s'.m∧vl (pl s'.m t) (k+2)=vl (pl s.m t) (k+1)+vl (pl s.m a) k * (pl s.m b (s.r i).toNat).toNat∧(pl s'.m t (k+1)).toNat≤1:=by
 have e:timesT a.p b.p t.p k R D i=(frZ [cLd ((R+2:Nat):Int) b.p (i:Nat) ((0:Nat):Int),cK ((R+3:Nat):Int) 0]).cat ((lpT (D:Nat) (k:Nat) (frZ (timesB a.p t.p R D))).cat ((frZ (topL t.p k R)).cat (frZ [cSt t.p (-1) (k:Nat) ((R+7:Nat):Int),cSt t.p (-1) ((k+1:Nat):Int) ((R+8:Nat):Int)]))):=by
  rw[←frL_app]; rfl
 rw[e]
 obtain⟨hb1,hb2⟩:=hb
 have ht0:=ht
 obtain⟨ht1,ht2⟩:=ht
 have dn:∀ n,n < 11→¬ D=R+n:=fun n h=>by omega
 refine .op (ld_reg (by omega) hb2) (.op opZ_K ?_)
 rw[show ∀ g:Fr Lo,Fr.cat (frZ []) g=g from fun _=>rfl]
 generalize hs0:(Fs.put (s.put (R+2) (pl s.m b (0+(s.r i).toNat))) (R+3) 0)=s0
 have m0:s0.m=s.m:=by rw[←hs0]; rfl
 have y0:s0.r (R+2)=pl s.m b (s.r i).toNat:=by rw[←hs0]; simp[put_r]
 have c0:s0.r (R+3)=0:=by rw[←hs0]; simp[put_r]
 have r0:∀ z,z≠R+2→z≠R+3→s0.r z=s.r z:=fun z h2 h3=>by rw[←hs0]; simp[put_r,h2,h3]
 have R0:s0.r R=0:=by rw[r0 R (by omega) (by omega),hR]
 refine .cat (R:=fun s1=>RgS R D s0 s1∧Only t s.m s1.m∧(∀ i,k≤i→pl s1.m t i=pl s.m t i)∧vl (pl s1.m t) k+18446744073709551616 ^ k * (s1.r (R+3)).toNat=vl (pl s.m t) k+vl (pl s.m a) k * (s0.r (R+2)).toNat) ?_ fun s1 ⟨g1,o1,u1,v1⟩=>?_
 ·refine .lp (fun j s1=>RgS R D s0 s1∧Only t s.m s1.m∧(∀ i,j≤i→pl s1.m t i=pl s.m t i)∧vl (pl s1.m t) j+18446744073709551616 ^ j * (s1.r (R+3)).toNat=vl (pl s.m t) j+vl (pl s.m a) j * (s0.r (R+2)).toNat) ⟨fun _ _ _=>rfl,fun _ _ _=>by rw[m0],fun _ _=>by rw[m0],by simp[vl,c0]⟩ (by omega) (fun j s1 hj ⟨g1,o1,u1,v1⟩=>?_) fun _ h=>h
  have hn2:∀ z,¬ inS R z→z≠D→(s1.put D (UInt64.ofNat j)).r z=s0.r z:=fun z a b=>by rw[put_r,if_neg b,g1 z a b]
  have j3:(s1.put D (UInt64.ofNat j)).r (R+3)=s1.r (R+3):=by rw[put_r,if_neg (by omega)]
  refine (times_round (j:=j) (by rw[hn2 _ (by unfold inS; omega) (by omega),R0]) hD (by simp[put_r]; omega) ha ht0 (by omega) (by omega)).mono fun s2 ⟨q,e1,e2,e3,e4⟩=>⟨fun z a b=>(e3 z a b).trans (hn2 z a b),o1.trans e2,fun i hi=>?_,?_⟩
  ·rw[e1,if_neg (by omega)]; exact u1 i (by omega)
  ·rw[hn2 _ (by unfold inS; omega) (by omega),put_m,o1.pl dj (by omega),u1 j (by omega),j3] at e4
   rw[vl_succ,vl_succ,vl_succ,e1,if_pos rfl,Nat.pow_succ,vl_congr (g:=pl s1.m t) fun i hi=>by rw[e1,if_neg (by omega)]; rfl]
   exact step_law v1 e4
 ·refine top_ex (by rw[g1 _ (by unfold inS; omega) (by omega),R0]) ht0 hk2 _ _ fun s2 c m2 c2 v2 r2=>?_
  refine .op (st_no (by omega) ht2) (.op (st_no (by omega) ht2) (.nil ⟨fun z hz hz2=>?_,?_,?_,?_⟩))
  ·rw[sto_r,sto_r,r2 z (by omega) (by omega),g1 z (by unfold inS; omega) hz2,r0 z (by omega) (by omega)]
  ·exact o1.trans (m2 ▸ (only_sto (by omega)).trans (only_sto (by omega)))
  ·rw[vl_succ,vl_succ,vl_succ,pl_sto,pl_sto,pl_sto,if_pos rfl,if_neg (by omega),if_pos rfl,sto_r,c2,bitR_nat,vl_congr (g:=pl s1.m t) fun i hi=>by rw[pl_sto,if_neg (by omega),pl_sto,if_neg (by omega),m2],Nat.pow_succ,←y0]
   rw[u1 k (by omega)] at v2
   exact top_law v1 v2
  ·rw[pl_sto,if_pos rfl,sto_r,c2,bitR_nat]; cases c <;> decide
theorem down_round {s:Fs} {R D j:Nat} {n t:Pn} (hR:s.r R=0) (hD:D < R) (hj:(s.r D).toNat=j) (hn:n.in_ sz) (ht:t.in_ sz) (jn:j+1 < n.k) (jt:j+1 < t.k) :
  Tx sz (frZ (downB n.p t.p R D)) s fun s'=>∃ q:UInt64,(∀ i,pl s'.m t i=if i=j then q else pl s.m t i)∧Only t s.m s'.m∧RgS R D s s' ∧
   q.toNat+18446744073709551616 * (s'.r (R+3)).toNat=(s.r (R+10)).toNat * (pl s.m n (j+1)).toNat+(pl s.m t (j+1)).toNat+(s.r (R+3)).toNat:=by
 obtain⟨hn1,hn2⟩:=hn
 obtain⟨ht1,ht2⟩:=ht
 have e:downB n.p t.p R D=[cLd ((R+4:Nat):Int) n.p (D:Nat) ((1:Nat):Int),cLd ((R+7:Nat):Int) t.p (D:Nat) ((1:Nat):Int)]++(sumL R ((R+10:Nat):Int) ((R+4:Nat):Int)++[cSt t.p (D:Nat) ((0:Nat):Int) ((R+6:Nat):Int)]):=rfl
 rw[e,frL_app,frL_app]
 have dn:∀ n,n < 11→¬ D=R+n:=fun n h=>by omega
 refine .op (ld_reg (by omega) hn2) (.op (ld_reg (by simp only[put_r,if_neg (dn 4 (by omega))]; omega) ht2) ((sum_ex (by simp[put_r,hR])).cat fun s1 ⟨m1,v1,r1⟩=>?_))
 have hD1:s1.r D=s.r D:=by rw[r1 _ (.inl (by unfold inS; omega))]; simp[put_r,dn]
 refine .op (st_reg (by rw[hD1]; omega) ht2) (.nil ⟨s1.r (R+6),fun i=>?_,?_,fun z hz hz2=>?_,?_⟩)
 ·rw[pl_sto,hD1,hj,m1]; simp[put_m]
 ·have:=only_sto (p:=t) (s:=s1) (i:=0+(s1.r D).toNat) (v:=s1.r (R+6)) (by rw[hD1]; omega)
  intro x y hn
  rw[this x y hn,m1]; rfl
 ·rw[sto_r,r1 z (.inl hz)]
  unfold inS at hz
  have z4:¬ z=R+4:=by omega
  have z7:¬ z=R+7:=by omega
  simp[put_r,z4,z7]
 ·rw[sto_r]
  simpa [put_r,put_m,dn,hj,Nat.add_comm 1] using v1
theorem dstep_law {W P v r T N m q r' x t:Nat} (h:W * v+P * W * r=T+m * N) (k:q+W * r'=m * x+t+r):W * (v+q * P)+P * W * W * r'=T+t * (P * W)+m * (N+x * (P * W)):=by
 have h2:P * W * (q+W * r')=P * W * (m * x+t+r):=by rw[k]
 grind
theorem dtop_law {W P v r T N m p c t u:Nat} (h:W * v+P * W * r=T+m * N) (k:p+W * c=t+r):W * (v+p * P+(u+c) * (P * W))=T+t * (P * W)+u * (P * W * W)+m * N:=by
 have h2:P * W * (p+W * c)=P * W * (t+r):=by rw[k]
 grind
theorem low_law {t i n q h:UInt64} (hi:i * n+1=0) (e:q.toNat+18446744073709551616 * h.toNat=(t * i).toNat * n.toNat+t.toNat):q.toNat=0:=by
 have h1:(t * i * n+t).toNat=0:=by
  rw[show t * i * n+t=t * (i * n+1) by grind,hi]; simp
 rw[UInt64.toNat_add,UInt64.toNat_mul] at h1
 have:=q.toNat_lt
 omega
theorem down_ex {s:Fs} {R D k:Nat} {n t:Pn} (hR:s.r R=0) (hD:D < R) (hinv:s.r (R+1) * pl s.m n 0+1=0) (hn:n.in_ sz) (ht:t.in_ sz) (hk:k+1≤n.k) (hk2:k+3≤t.k) (dj:Dj t n) (hc:(pl s.m t (k+2)).toNat≤1) :
  Tx sz (downT n.p t.p (k+1:Nat) R D) s fun s'=>RgA R D s s'∧Only t s.m s'.m∧pl s'.m t (k+2)=pl s.m t (k+2)∧∃ m:UInt64,18446744073709551616 * vl (pl s'.m t) (k+2)=vl (pl s.m t) (k+3)+m.toNat * vl (pl s.m n) (k+1):=by
 have hk1:((k+1:Nat):Int) - 1=(k:Nat):=by omega
 have e:downT n.p t.p (k+1:Nat) R D=(frZ ([cLd ((R+7:Nat):Int) t.p (-1) ((0:Nat):Int),cMul ((R+5:Nat):Int) ((R+10:Nat):Int) ((R+7:Nat):Int) ((R+1:Nat):Int),cLd ((R+4:Nat):Int) n.p (-1) ((0:Nat):Int),cK ((R+3:Nat):Int) 0]++sumL R ((R+10:Nat):Int) ((R+4:Nat):Int))).cat
   ((lpT (D:Nat) (k:Nat) (frZ (downB n.p t.p R D))).cat ((frZ (topL t.p (k+1:Nat) R)).cat (frZ [cSt t.p (-1) (k:Nat) ((R+7:Nat):Int),cLd ((R+7:Nat):Int) t.p (-1) ((k+2:Nat):Int),cTwo 3 ((R+7:Nat):Int) ((R+7:Nat):Int) ((R+8:Nat):Int),cSt t.p (-1) ((k+1:Nat):Int) ((R+7:Nat):Int)]))):=by
  rw[←frL_app,←hk1]; rfl
 rw[e]
 have hn0:=hn
 have ht0:=ht
 obtain⟨hn1,hn2⟩:=hn
 obtain⟨ht1,ht2⟩:=ht
 have dn:∀ n,n < 11→¬ D=R+n:=fun n h=>by omega
 rw[frL_app]
 refine Tx.cat (R:=fun s1=>(∀ z,¬ inS R z→z≠R+10→s1.r z=s.r z)∧s1.m=s.m∧18446744073709551616 * (s1.r (R+3)).toNat=(s1.r (R+10)).toNat * (pl s.m n 0).toNat+(pl s.m t 0).toNat) ?_ fun s1 ⟨g1,m1,v1⟩=>?_
 ·refine .op (ld_no (by omega) ht2) (.op opZ_mul (.op (ld_no (by omega) hn2) (.op opZ_K ((sum_ex (by simp[put_r,hR])).mono fun s1 ⟨m1,v1,r1⟩=>⟨fun z hz hz2=>?_,?_,?_⟩))))
  ·rw[r1 z (.inl hz)]
   unfold inS at hz
   have z3:¬ z=R+3:=by omega
   have z4:¬ z=R+4:=by omega
   have z5:¬ z=R+5:=by omega
   have z7:¬ z=R+7:=by omega
   simp[put_r,z3,z4,z5,z7,hz2]
  ·rw[m1]; rfl
  ·have r10:=r1 (R+10) (.inl (by unfold inS; omega))
   simp[put_r,put_m] at v1 r10
   rw[r10]
   have:=low_law (t:=pl s.m t 0) hinv (by simpa using v1)
   rw[UInt64.toNat_mul,show (2:Nat) ^ 64=18446744073709551616 from rfl]
   rw[this,Nat.zero_add] at v1
   exact v1
 have R1:s1.r R=0:=by rw[g1 R (by unfold inS; omega) (by omega),hR]
 refine .cat (R:=fun s2=>RgS R D s1 s2∧Only t s.m s2.m∧(∀ i,k≤i→pl s2.m t i=pl s.m t i)∧18446744073709551616 * vl (pl s2.m t) k+18446744073709551616 ^ k * 18446744073709551616 * (s2.r (R+3)).toNat=vl (pl s.m t) (k+1)+(s1.r (R+10)).toNat * vl (pl s.m n) (k+1)) ?_ fun s2 ⟨g2,o2,u2,v2⟩=>?_
 ·refine .lp (fun j s2=>RgS R D s1 s2∧Only t s.m s2.m∧(∀ i,j≤i→pl s2.m t i=pl s.m t i)∧18446744073709551616 * vl (pl s2.m t) j+18446744073709551616 ^ j * 18446744073709551616 * (s2.r (R+3)).toNat=vl (pl s.m t) (j+1)+(s1.r (R+10)).toNat * vl (pl s.m n) (j+1)) ⟨fun _ _ _=>rfl,fun _ _ _=>by rw[m1],fun _ _=>by rw[m1],by simp[vl]; omega⟩ (by omega) (fun j s2 hj ⟨g2,o2,u2,v2⟩=>?_) fun _ h=>h
  have hn2:∀ z,¬ inS R z→z≠D→(s2.put D (UInt64.ofNat j)).r z=s1.r z:=fun z a b=>by rw[put_r,if_neg b,g2 z a b]
  have j3:(s2.put D (UInt64.ofNat j)).r (R+3)=s2.r (R+3):=by rw[put_r,if_neg (by omega)]
  refine (down_round (j:=j) (by rw[hn2 _ (by unfold inS; omega) (by omega),R1]) hD (by simp[put_r]; omega) hn0 ht0 (by omega) (by omega)).mono fun s3 ⟨q,e1,e2,e3,e4⟩=>⟨fun z a b=>(e3 z a b).trans (hn2 z a b),o2.trans e2,fun i hi=>?_,?_⟩
  ·rw[e1,if_neg (by omega)]; exact u2 i (by omega)
  ·rw[hn2 _ (by unfold inS; omega) (by omega),put_m,o2.pl dj (by omega),u2 (j+1) (by omega),j3] at e4
   rw[vl_succ,vl_succ _ (j+1),vl_succ _ (j+1),e1,if_pos rfl,Nat.pow_succ,vl_congr (g:=pl s2.m t) fun i hi=>by rw[e1,if_neg (by omega)]; rfl]
   exact dstep_law v2 e4
 ·refine top_ex (by rw[g2 _ (by unfold inS; omega) (by omega),R1]) ht0 (by omega) _ _ fun s3 c m3 c3 v3 r3=>?_
  refine .op (st_no (by omega) ht2) (.op (ld_no (by omega) ht2) (.op opZ_add (.op (st_no (by omega) ht2) (.nil ⟨fun z hz hz2=>?_,?_,?_,s1.r (R+10),?_⟩))))
  ·have z7:¬ z=R+7:=by omega
   simp only[sto_r,put_r,if_neg z7]
   rw[r3 z (by omega) (by omega),g2 z (by unfold inS; omega) hz2,g1 z (by unfold inS; omega) (by omega)]
  ·exact o2.trans (m3 ▸ (only_sto (by omega)).trans (only_sto (p:=t) (by omega)))
  ·rw[pl_sto,if_neg (by omega),put_m,put_m,pl_sto,if_neg (by omega),m3,u2 (k+2) (by omega)]
  ·rw[u2 (k+1) (by omega)] at v3
   have hcc:((pl s.m t (k+2))+bitR c).toNat=(pl s.m t (k+2)).toNat+c.toNat:=by
    rw[UInt64.toNat_add,bitR_nat,Nat.mod_eq_of_lt]
    have:c.toNat≤1:=by cases c <;> decide
    omega
   rw[vl_succ _ (k+2),vl_succ _ (k+1),vl_succ _ (k+1),vl_succ _ k,vl_congr (g:=pl s2.m t) (n:=k) fun i hi=>by rw[pl_sto,if_neg (by omega),put_m,put_m,pl_sto,if_neg (by omega),m3]]
   have hu:=u2 (k+2) (by omega)
   simp[put_r,put_m,sto_r,pl_sto,c3,-UInt64.toNat_add,m3]
   rw[hu,hcc,Nat.pow_succ,Nat.pow_succ]
   exact dtop_law v2 v3
theorem less_law {W P v n t c q x y b:Nat} (h:v+n=t+P * c) (k:q+x+c=y+W * b):v+q * P+(n+x * P)=t+y * P+P * W * b:=by
 have h2:P * (q+x+c)=P * (y+W * b):=by rw[k]
 grind
theorem less_step {s:Fs} {R D j:Nat} {n t:Pn} {c:Bool} (hD:D < R) (hj:(s.r D).toNat=j) (hc:s.r (R+8)=bitR c) (hn:n.in_ sz) (ht:t.in_ sz) (jn:j < n.k) (jt:j < t.k) (x:List Lo) (Q:Fs→Prop)
  (h:∀ (s1:Fs) (b:Bool),s1.m=s.m→s1.r (R+8)=bitR b→s1.r (R+7)=pl s.m t j→(s1.r (R+6)).toNat+(pl s.m n j).toNat+c.toNat=(pl s.m t j).toNat+18446744073709551616 * b.toNat→(∀ z,¬ inS R z→s1.r z=s.r z)→Tx sz (frZ x) s1 Q) :
  Tx sz (frZ (lessB n.p t.p R D++x)) s Q:=by
 obtain⟨hn1,hn2⟩:=hn
 obtain⟨ht1,ht2⟩:=ht
 have e:lessB n.p t.p R D++x=cLd ((R+7:Nat):Int) t.p (D:Nat) ((0:Nat):Int)::cLd ((R+4:Nat):Int) n.p (D:Nat) ((0:Nat):Int)::cCar 12 ((R+6:Nat):Int) ((R+8:Nat):Int) ((R+7:Nat):Int) ((R+4:Nat):Int) ((R+8:Nat):Int)::x:=rfl
 rw[e]
 have dn:∀ n,n < 11→¬ D=R+n:=fun n h=>by omega
 refine .op (ld_reg (by omega) ht2) (.op (ld_reg (by simp only[put_r,if_neg (dn 7 (by omega))]; omega) hn2) (.op opZ_sbb ?_))
 have hv:=subC_val (pl s.m t j) (pl s.m n j) c
 refine h _ (subC (pl s.m t j) (pl s.m n j) c).2 rfl ?_ ?_ ?_ fun z hz=>?_
 ·simp[put_r,put_m,dn,hj,hc,bitR_odd]
 ·simp[put_r,put_m,dn,hj]
 ·simpa [put_r,put_m,dn,hj,hc,bitR_odd] using hv
 ·unfold inS at hz
  have z4:¬ z=R+4:=by omega
  have z6:¬ z=R+6:=by omega
  have z7:¬ z=R+7:=by omega
  have z8:¬ z=R+8:=by omega
  simp[put_r,z4,z6,z7,z8]
theorem less_ex {s:Fs} {R D k:Nat} {n t:Pn} (hD:D < R) (hn:n.in_ sz) (ht:t.in_ sz) (hk:k≤n.k) (hk2:k≤t.k) :
  Tx sz (lessT n.p t.p k R D []) s fun s'=>RgS R D s s'∧s'.m=s.m∧∃ (c:Bool) (v:Nat),s'.r (R+8)=bitR c∧v < 18446744073709551616 ^ k∧v+vl (pl s.m n) k=vl (pl s.m t) k+18446744073709551616 ^ k * c.toNat:=by
 have hW:k < 18446744073709551616:=by have:=hn.1; have:=hn.2; omega
 have e:lessT n.p t.p k R D []=(frZ [cK ((R+8:Nat):Int) 0]).cat (lpT (D:Nat) (k:Nat) (frZ (lessB n.p t.p R D++[]))):=rfl
 rw[e]
 refine .op opZ_K ?_
 refine .lp (fun j s1=>RgS R D s s1∧s1.m=s.m∧∃ (c:Bool) (v:Nat),s1.r (R+8)=bitR c∧v < 18446744073709551616 ^ j∧v+vl (pl s.m n) j=vl (pl s.m t) j+18446744073709551616 ^ j * c.toNat) ⟨fun z hz _=>?_,rfl,false,0,by simp[put_r,bitR],by simp,by simp[vl]⟩ hW (fun j s1 hj ⟨g1,m1,c,v,c1,l1,v1⟩=>?_) fun _ h=>h
 ·unfold inS at hz; rw[put_r,if_neg (by omega)]
 ·refine less_step (j:=j) (c:=c) hD (by simp[put_r]; omega) (by rw[put_r,if_neg (by omega),c1]) hn ht (by omega) (by omega) _ _ fun s2 b m2 b2 t2 v2 r2=>.nil ⟨fun z hz hz2=>?_,by rw[m2,put_m,m1],b,v+(s2.r (R+6)).toNat * 18446744073709551616 ^ j,b2,?_,?_⟩
  ·rw[r2 z hz,put_r,if_neg hz2,g1 z hz hz2]
  ·have:=(s2.r (R+6)).toNat_lt
   have h3:=Nat.mul_le_mul_right (18446744073709551616 ^ j) (show (s2.r (R+6)).toNat+1≤18446744073709551616 by omega)
   rw[Nat.add_mul,Nat.one_mul] at h3
   rw[Nat.pow_succ,Nat.mul_comm (18446744073709551616 ^ j)]
   omega
  ·rw[put_m,m1] at v2
   rw[vl_succ,vl_succ,Nat.pow_succ]
   exact less_law v1 v2
theorem pick_ex {s:Fs} {R D k:Nat} {d n t:Pn} {p:Bool} (hD:D < R) (hp:s.r (R+10)=bitR p) (hn:n.in_ sz) (ht:t.in_ sz) (hd:d.in_ sz) (hk:k≤n.k) (hk2:k≤t.k) (hk3:k≤d.k) (dn:Dj d n) (dt:Dj d t) :
  Tx sz (lessT n.p t.p k R D [cSel (R+6) (R+10) (R+7) (R+6),cSt d.p D 0 (R+6)]) s fun s'=>RgS R D s s'∧Only d s.m s'.m∧∃ (c:Bool) (v:Nat),v < 18446744073709551616 ^ k∧v+vl (pl s.m n) k=vl (pl s.m t) k+18446744073709551616 ^ k * c.toNat∧vl (pl s'.m d) k=if p=true then vl (pl s.m t) k else v:=by
 have hW:k < 18446744073709551616:=by have:=hn.1; have:=hn.2; omega
 have e:lessT n.p t.p k R D [cSel (R+6) (R+10) (R+7) (R+6),cSt d.p D 0 (R+6)]=(frZ [cK ((R+8:Nat):Int) 0]).cat (lpT (D:Nat) (k:Nat) (frZ (lessB n.p t.p R D++[cSel ((R+6:Nat):Int) ((R+10:Nat):Int) ((R+7:Nat):Int) ((R+6:Nat):Int),cSt d.p (D:Nat) ((0:Nat):Int) ((R+6:Nat):Int)]))):=rfl
 rw[e]
 refine .op opZ_K ?_
 refine .lp (fun j s1=>RgS R D s s1∧Only d s.m s1.m∧∃ (c:Bool) (v:Nat),s1.r (R+8)=bitR c∧v < 18446744073709551616 ^ j∧v+vl (pl s.m n) j=vl (pl s.m t) j+18446744073709551616 ^ j * c.toNat∧vl (pl s1.m d) j=if p=true then vl (pl s.m t) j else v) ⟨fun z hz _=>?_,fun _ _ _=>rfl,false,0,by simp[put_r,bitR],by simp,by simp[vl],by simp[vl]⟩ hW (fun j s1 hj ⟨g1,o1,c,v,c1,l1,v1,d1⟩=>?_) fun _ ⟨h1,h2,c,v,_,h3,h4,h5⟩=>⟨h1,h2,c,v,h3,h4,h5⟩
 ·unfold inS at hz; rw[put_r,if_neg (by omega)]
 ·refine less_step (j:=j) (c:=c) hD (by simp[put_r]; omega) (by rw[put_r,if_neg (by omega),c1]) hn ht (by omega) (by omega) _ _ fun s2 b m2 b2 t2 v2 r2=>?_
  have hD2:(s2.r D).toNat=j:=by rw[r2 D (by unfold inS; omega)]; simp[put_r]; omega
  rw[put_m] at t2 v2 m2
  rw[o1.pl dn (by omega),o1.pl dt (by omega)] at v2
  rw[o1.pl dt (by omega)] at t2
  have hp2:s2.r (R+10)=bitR p:=by rw[r2 _ (by unfold inS; omega),put_r,if_neg (by omega),g1 _ (by unfold inS; omega) (by omega),hp]
  refine .op opZ_sel (.op (st_reg (by simp only[put_r]; rw[if_neg (by omega)]; have:=hd.1; omega) hd.2) (.nil ⟨fun z hz hz2=>?_,?_,b,v+(s2.r (R+6)).toNat * 18446744073709551616 ^ j,?_,?_,?_,?_⟩))
  ·rw[sto_r,put_r,if_neg (by unfold inS at hz; omega),r2 z hz,put_r,if_neg hz2,g1 z hz hz2]
  ·refine o1.trans (m2 ▸ ?_)
   exact only_sto (p:=d) (s:=s2.put _ _) (by rw[put_r,if_neg (by omega)]; omega)
  ·rw[sto_r,put_r,if_neg (by omega),b2]
  ·have:=(s2.r (R+6)).toNat_lt
   have h3:=Nat.mul_le_mul_right (18446744073709551616 ^ j) (show (s2.r (R+6)).toNat+1≤18446744073709551616 by omega)
   rw[Nat.add_mul,Nat.one_mul] at h3
   rw[Nat.pow_succ,Nat.mul_comm (18446744073709551616 ^ j)]
   omega
  ·rw[vl_succ,vl_succ,Nat.pow_succ]
   exact less_law v1 v2
  ·have hj2:0+((s2.put (R+6) (if s2.r (R+10) % 2=1 then s2.r (R+7) else s2.r (R+6))).r D).toNat=j:=by rw[put_r,if_neg (by omega)]; omega
   rw[vl_succ,hj2,pl_sto,if_pos rfl,vl_congr (g:=pl s1.m d) (n:=j) fun i hi=>by rw[pl_sto,if_neg (by omega),put_m,m2],d1,put_r,if_pos rfl,hp2,t2]
   have hb:=bitR_odd p
   cases p
   ·simp at hb; simp[hb]
   ·simp at hb; simp[hb,vl_succ]
theorem last_law {P V N t c b v e:Nat} {W q:Nat} (hN:N < P) (h2:V+t * P < 2 * N) (hv:v < P) (hc:c≤1) (hb:b≤1) (h:v+N=V+P * c) (k:q+c=t+W * b) (hq:q < W) (g:e+N=V+P * c):(V+t * P < N↔b=1)∧(b=1→t=0)∧(b=0→e=V+t * P - N):=by
 have ht:t≤1:=by
  rcases Nat.lt_or_ge t 2 with h | h
  ·omega
  ·have:=Nat.mul_le_mul_right P h
   omega
 have ht:t=0∨t=1:=by omega
 have hc:c=0∨c=1:=by omega
 have hb:b=0∨b=1:=by omega
 rcases ht with rfl | rfl <;> rcases hc with rfl | rfl <;> rcases hb with rfl | rfl <;> simp at * <;> omega
theorem last_ex {s:Fs} {R D k:Nat} {d n t:Pn} (hR:s.r R=0) (hD:D < R) (hn:n.in_ sz) (ht:t.in_ sz) (hd:d.in_ sz) (hk:k≤n.k) (hk2:k+1≤t.k) (hk3:k≤d.k) (dn:Dj d n) (dt:Dj d t) (h2:vl (pl s.m t) (k+1) < 2 * vl (pl s.m n) k) :
  Tx sz (lastT d.p n.p t.p k R D) s fun s'=>RgA R D s s'∧Only d s.m s'.m∧vl (pl s'.m d) k=if vl (pl s.m t) (k+1) < vl (pl s.m n) k then vl (pl s.m t) (k+1) else vl (pl s.m t) (k+1) - vl (pl s.m n) k:=by
 have e:lastT d.p n.p t.p k R D=(lessT n.p t.p k R D []).cat ((frZ [cLd ((R+7:Nat):Int) t.p (-1) (k:Nat),cCar 12 ((R+6:Nat):Int) ((R+10:Nat):Int) ((R+7:Nat):Int) (R:Nat) ((R+8:Nat):Int)]).cat (lessT n.p t.p k R D [cSel (R+6) (R+10) (R+7) (R+6),cSt d.p D 0 (R+6)])):=rfl
 rw[e]
 refine (less_ex hD hn ht hk (by omega)).cat fun s1 ⟨g1,m1,c,v,c1,l1,v1⟩=>?_
 have hT:=subC_val (pl s.m t k) 0 c
 refine .op (ld_no (by have:=ht.1; omega) ht.2) (.op opZ_sbb ?_)
 have R1:s1.r R=0:=by rw[g1 R (by unfold inS; omega) (by omega),hR]
 refine (pick_ex (p:=(subC (pl s.m t k) 0 c).2) hD ?_ hn ht hd hk (by omega) hk3 dn dt).mono fun s3 ⟨g3,o3,c',v',l3,v3,d3⟩=>⟨fun z hz hz2=>?_,?_,?_⟩
 ·simp[put_r,R1,c1,bitR_odd,m1]
 ·rw[g3 z (by unfold inS; omega) hz2]
  simp only[put_r]
  rw[if_neg (by omega),if_neg (by omega),if_neg (by omega),g1 z (by unfold inS; omega) hz2]
 ·rw[←m1]; exact o3
 ·simp only[put_m,m1] at v3 d3
  rw[vl_succ] at h2 ⊢
  have hN:=vl_lt (pl s.m n) k
  have hq:=(subC (pl s.m t k) 0 c).1.toNat_lt
  have hcc:c.toNat≤1:=by cases c <;> decide
  have hc':c'.toNat=c.toNat:=by
   rcases c with _ | _ <;> rcases c' with _ | _ <;> simp at * <;> omega
  rw[hc'] at v3
  generalize (subC (pl s.m t k) 0 c).2=b at *
  have hb:b.toNat≤1:=by cases b <;> decide
  obtain⟨q1,q2,q3⟩:=last_law hN h2 l1 hcc hb v1 (by simpa using hT) hq v3
  rw[d3]
  cases b
  ·rw[if_neg (by simp),if_neg (by rw[q1]; simp),q3 rfl]
  ·rw[if_pos rfl,if_pos (by rw[q1]; rfl),q2 rfl]; simp
theorem fill_ex {s:Fs} {D a:Nat} {p:Pn} (hp:p.in_ sz) (ha:a≠D):Tx sz (fillT p.p a D) s fun s'=>(∀ z,z≠D→s'.r z=s.r z)∧Only p s.m s'.m∧∀ i,i < p.k→pl s'.m p i=s.r a:=by
 have e:fillT p.p a D=lpT (D:Nat) (p.k:Nat) (frZ [cSt p.p (D:Nat) ((0:Nat):Int) (a:Nat)]):=rfl
 rw[e]
 obtain⟨h1,h2⟩:=hp
 refine .lp (fun j s1=>(∀ z,z≠D→s1.r z=s.r z)∧Only p s.m s1.m∧∀ i,i < j→pl s1.m p i=s.r a) ⟨fun _ _=>rfl,fun _ _ _=>rfl,fun _ h=>absurd h (by omega)⟩ (by omega) (fun j s1 hj ⟨g1,o1,v1⟩=>?_) fun _ h=>h
 have hj2:((s1.put D (UInt64.ofNat j)).r D).toNat=j:=by simp[put_r]; omega
 refine .op (st_reg (by rw[hj2]; omega) h2) (.nil ⟨fun z hz=>?_,?_,fun i hi=>?_⟩)
 ·rw[sto_r,put_r,if_neg hz,g1 z hz]
 ·exact o1.trans (only_sto (p:=p) (s:=s1.put _ _) (by rw[hj2]; omega))
 ·rw[pl_sto,hj2]
  split
  ·rw[put_r,if_neg ha,g1 a ha]
  ·rw[put_m]; exact v1 i (by omega)
theorem vl_zero {f:Nat→UInt64}:∀ {n:Nat},(∀ i,i < n→f i=0)→vl f n=0
 | 0,_=>rfl
 | n+1,h=>by rw[vl,vl_zero fun i hi=>h i (by omega),h n (by omega)]; simp
theorem round_law {W P A B Q N V V' X b m:Nat} (h:P * V=A * B+Q * N) (h1:X=V+A * b) (h2:W * V'=X+m * N):P * W * V'=A * (B+b * P)+(Q+m * P) * N:=by
 have:P * (W * V')=P * (V+A * b+m * N):=by rw[h2,h1]
 grind
theorem round_lt {W A N V V' X b m:Nat} (h0:V < 2 * N) (hA:A < N) (hb:b < W) (hm:m < W) (h1:X=V+A * b) (h2:W * V'=X+m * N):V' < 2 * N:=by
 have g1:A * b≤N * (W - 1):=Nat.mul_le_mul (by omega) (by omega)
 have g2:m * N≤(W - 1) * N:=Nat.mul_le_mul_right _ (by omega)
 have g3:(W - 1) * N+N=W * N:=by
  rw[←Nat.succ_mul]; congr 1; omega
 rw[Nat.mul_comm N] at g1
 have g4:W * V' < W * (2 * N):=by
  rw[h2,h1,Nat.mul_left_comm]; omega
 exact Nat.lt_of_mul_lt_mul_left g4
theorem into_ex {s:Fs} {R D k:Nat} {d a b n t:Pn} (hD:D+1 < R) (hd:d.in_ sz) (ha:a.in_ sz) (hb:b.in_ sz) (hn:n.in_ sz) (ht:t.in_ sz) (kd:k+1≤d.k) (ka:k+1≤a.k) (kb:k+1≤b.k) (kn:k+1≤n.k) (kt:k+3≤t.k)
  (dn:Dj d n) (dt:Dj d t) (ta:Dj t a) (tb:Dj t b) (tn:Dj t n) (odd:pl s.m n 0 % 2=1) (hA:vl (pl s.m a) (k+1) < vl (pl s.m n) (k+1)) :
  Tx sz (intoT d.p a.p b.p n.p t.p (k+1:Nat) R D) s fun s'=>(∀ z,¬ (R≤z∧z≤R+10)→z≠D→z≠D+1→s'.r z=s.r z)∧(∀ x y,¬ (x=d.b∧d.a≤y∧y < d.a+d.k)→¬ (x=t.b∧t.a≤y∧y < t.a+t.k)→s'.m x y=s.m x y) ∧
   vl (pl s'.m d) (k+1) < vl (pl s.m n) (k+1)∧∃ Q Q':Nat,18446744073709551616 ^ (k+1) * vl (pl s'.m d) (k+1)+Q' * vl (pl s.m n) (k+1)=vl (pl s.m a) (k+1) * vl (pl s.m b) (k+1)+Q * vl (pl s.m n) (k+1):=by
 have e:intoT d.p a.p b.p n.p t.p (k+1:Nat) R D=(frZ ([cK (R:Nat) 0,cLd ((R+10:Nat):Int) n.p (-1) ((0:Nat):Int)]++reckL ((R+10:Nat):Int) ((R+1:Nat):Int))).cat ((fillT t.p (R:Nat) (D:Nat)).cat ((lpT (D:Nat) (k+1:Nat) ((timesT a.p b.p t.p (k+1:Nat) R ((D+1:Nat):Int) D).cat (downT n.p t.p (k+1:Nat) R ((D+1:Nat):Int)))).cat (lastT d.p n.p t.p (k+1:Nat) R D))):=rfl
 rw[e,frL_app]
 have hks:k+1 < 18446744073709551616:=by have:=hn.1; have:=hn.2; omega
 refine Tx.cat (R:=fun s1=>s1.r R=0∧s1.r (R+1) * pl s.m n 0+1=0∧s1.m=s.m∧∀ z,¬ (R≤z∧z≤R+10)→s1.r z=s.r z) ?_ fun s1 ⟨R1,I1,m1,g1⟩=>?_
 ·refine .op opZ_K (.op (ld_no (by have:=hn.1; omega) hn.2) ((reck_ex (by omega)).mono fun s1 ⟨e1,e2,e3⟩=>⟨?_,?_,?_,fun z hz=>?_⟩))
  ·rw[e3 R (by omega)]; simp[put_r]
  ·rw[e1]
   simp only[put_r,if_true,put_m]
   have:=reckN_one _ odd
   grind
  ·rw[e2]; rfl
  ·rw[e3 z (by omega),put_r,if_neg (by omega),put_r,if_neg (by omega)]
 refine (fill_ex ht (by omega)).cat fun s2 ⟨g2,o2,z2⟩=>?_
 have R2:s2.r R=0:=by rw[g2 R (by omega),R1]
 have I2:s2.r (R+1) * pl s.m n 0+1=0:=by rw[g2 (R+1) (by omega),I1]
 rw[m1] at o2
 rw[R1] at z2
 refine .cat (R:=fun s3=>(∀ z,¬ (R+2≤z∧z≤R+10)→z≠D→z≠D+1→s3.r z=s2.r z)∧Only t s.m s3.m∧(pl s3.m t (k+2)).toNat≤1∧vl (pl s3.m t) (k+2) < 2 * vl (pl s.m n) (k+1)∧∃ Q,18446744073709551616 ^ (k+1) * vl (pl s3.m t) (k+2)=vl (pl s.m a) (k+1) * vl (pl s.m b) (k+1)+Q * vl (pl s.m n) (k+1)) ?_ fun s3 ⟨g3,o3,_,l3,Q,v3⟩=>?_
 ·refine .lp (fun i s3=>(∀ z,¬ (R+2≤z∧z≤R+10)→z≠D→z≠D+1→s3.r z=s2.r z)∧Only t s.m s3.m∧(pl s3.m t (k+2)).toNat≤1∧vl (pl s3.m t) (k+2) < 2 * vl (pl s.m n) (k+1)∧∃ Q,18446744073709551616 ^ i * vl (pl s3.m t) (k+2)=vl (pl s.m a) (k+1) * vl (pl s.m b) i+Q * vl (pl s.m n) (k+1)) ⟨fun _ _ _ _=>rfl,o2,by rw[z2 _ (by omega)]; decide,?_,0,?_⟩ hks (fun i s3 hi ⟨g3,o3,c3,l3,Q,v3⟩=>?_) fun _ h=>h
  ·rw[vl_zero fun i hi=>z2 i (by omega)]; omega
  ·rw[vl_zero fun i hi=>z2 i (by omega)]; simp[vl]
  ·have hDi:((s3.put D (UInt64.ofNat i)).r D).toNat=i:=by simp[put_r]; omega
   have g3':∀ z,¬ (R+2≤z∧z≤R+10)→z≠D→z≠D+1→(s3.put D (UInt64.ofNat i)).r z=s2.r z:=fun z h1 h2 h3=>by rw[put_r,if_neg h2,g3 z h1 h2 h3]
   refine (times_ex (k:=k+1) (b:=b) (i:=D) (by rw[g3' R (by omega) (by omega) (by omega),R2]) (by omega) (by rw[hDi]; omega) hb ha ht ka kt ta ht.2).cat fun s4 ⟨g4,o4,v4,c4⟩=>?_
   rw[put_m] at o4 v4
   rw[hDi,o3.pl tb (by omega),o3.vl ta ka] at v4
   have o4':=o3.trans o4
   refine (down_ex (k:=k) (by rw[g4 R (by omega) (by omega),g3' R (by omega) (by omega) (by omega),R2]) (by omega) (by rw[g4 (R+1) (by omega) (by omega),g3' _ (by omega) (by omega) (by omega),o4'.pl tn (by omega),I2]) hn ht kn kt tn c4).mono fun s5 ⟨g5,o5,c5,m,v5⟩=>⟨fun z h1 h2 h3=>?_,o4'.trans o5,?_,?_,Q+m.toNat * 18446744073709551616 ^ i,?_⟩
   ·rw[g5 z h1 h3,g4 z h1 h3,g3' z h1 h2 h3]
   ·rw[c5]; exact c4
   ·rw[o4'.vl tn kn] at v5
    exact round_lt l3 hA (pl s.m b i).toNat_lt m.toNat_lt v4 v5
   ·rw[o4'.vl tn kn] at v5
    rw[Nat.pow_succ,vl_succ]
    exact round_law v3 v4 v5
 ·refine (last_ex (k:=k+1) (by rw[g3 R (by omega) (by omega) (by omega),R2]) (by omega) hn ht hd kn (by omega) kd dn dt (by rw[o3.vl tn kn]; exact l3)).mono fun s4 ⟨g4,o4,v4⟩=>⟨fun z h1 h2 h3=>?_,fun x y h1 h2=>?_,?_,?_⟩
  ·rw[g4 z (by omega) h2,g3 z (by omega) h2 h3,g2 z h2,g1 z h1]
  ·rw[o4 x y h1,o3 x y h2]
  ·have l3:vl (pl s3.m t) (k+1+1) < 2 * vl (pl s.m n) (k+1):=l3
   rw[o3.vl tn kn] at v4
   rw[v4]; split <;> omega
  ·have v3:18446744073709551616 ^ (k+1) * vl (pl s3.m t) (k+1+1)=vl (pl s.m a) (k+1) * vl (pl s.m b) (k+1)+Q * vl (pl s.m n) (k+1):=v3
   rw[o3.vl tn kn] at v4
   rw[v4]
   split
   ·exact⟨Q,0,by rw[v3]; omega⟩
   ·refine⟨Q,18446744073709551616 ^ (k+1),?_⟩
    rw[←v3,←Nat.mul_add,Nat.sub_add_cancel (by omega)]
end mu
end Go.Sv
