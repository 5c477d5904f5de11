/- Texts of the evaluator, of the logic over it, of plain arithmetic. -/
import Derived.Test.YtodjkjimaheggaaGreatSvG2
import Derived.Test.YtodjkjimaheggaaGreatSvG1
import Derived.OpenShut
import Derived.Carry
import Derived.WalkKit
import Derived.ProofKit
import Derived.WideKeyArgs
import Derived.ChangeCalls
namespace Go.Sv
open Go.RowKit (Below)
mutual
inductive Sh where
 | bool
 | u
 | b
 | i
 | k (k:IntKind)
 | str
 | sl (s:Sh)
 | st (l:ShL)
inductive ShL where
 | nil
 | cons (s:Sh) (l:ShL)
end
mutual
def Sh.n:Sh→Nat
 | .st l=>l.n
 | _=>1
def ShL.n:ShL→Nat
 | .nil=>0
 | .cons s l=>s.n+l.n
end
mutual
def Sh.T:Sh→Type
 | .bool=>Bool
 | .u=>UInt64
 | .b=>UInt8
 | .i=>{ n:Int // inI n }
 | .k _=>Int
 | .str=>{ l:List UInt8 // l.length≤maxLen }
 | .sl s=>{ l:List s.T // l.length≤maxLen }
 | .st l=>l.T
def ShL.T:ShL→Type
 | .nil=>Unit
 | .cons s l=>s.T×l.T
end
mutual
def Sh.enc:(s:Sh)→s.T→List LV
 | .bool,x=>[.bool x]
 | .u,x=>[.u x]
 | .b,x=>[.b x]
 | .i,x=>[.i x.1]
 | .k k,x=>[.int k x]
 | .str,x=>[.str x.1]
 | .sl s,x=>[.lst (x.1.flatMap s.enc) x.1.length s.n]
 | .st l,x=>l.enc x
def ShL.enc:(l:ShL)→l.T→List LV
 | .nil,_=>[]
 | .cons s l,x=>s.enc x.1++l.enc x.2
end
mutual
theorem Sh.enc_length:∀ (s:Sh) (x:s.T),(s.enc x).length=s.n
 | .bool,_=>rfl
 | .u,_=>rfl
 | .b,_=>rfl
 | .i,_=>rfl
 | .k _,_=>rfl
 | .str,_=>rfl
 | .sl _,_=>rfl
 | .st l,x=>by simp only[Sh.enc,Sh.n]; exact ShL.enc_length l x
theorem ShL.enc_length:∀ (l:ShL) (x:l.T),(l.enc x).length=l.n
 | .nil,_=>rfl
 | .cons s l,x=>by simp only[ShL.enc,ShL.n,List.length_append,Sh.enc_length s x.1,ShL.enc_length l x.2]
end
noncomputable def shFs (P:Program) (f:TypeId→Option Sh) (tot:Nat):List Field→Nat→Option ShL
 | [],off=>if off=tot then some .nil else none
 | fd::l,off=>match f fd.type with
  | none=>none
  | some s=>if fd.offset=off∧P.cellsOf fd.type=s.n then match shFs P f tot l (off+s.n) with
   | none=>none
   | some r=>some (.cons s r)
   else none
def zw0:Nat→Sh→ShL
 | 0,_=>.nil
 | n+1,s=>.cons s (zw0 n s)
noncomputable def shOf (P:Program):Nat→TypeId→Option Sh
 | 0,_=>none
 | d+1,t=>match P.underlying t with
  | some .bool=>some .bool
  | some (.int k)=>match k with
   | .u64=>some .u
   | .u8=>some .b
   | .i64=>some .i
   | k=>some (.k k)
  | some .string=>some .str
  | some (.slice e)=>match shOf P d e with
   | none=>none
   | some s=>if P.cellsOf e=s.n∧0 < s.n then some (.sl s) else none
  | some (.struct fs)=>match shFs P (shOf P d) (P.cellsOf t) fs.toList 0 with
   | none=>none
   | some l=>some (.st l)
  | some (.array n e)=>match shOf P d e with
   | none=>none
   | some s=>if P.cellsOf e=s.n∧P.cellsOf t=n * s.n then some (.st (zw0 n s)) else none
  | _=>none
noncomputable def zuk (P:Program) (d:Nat):List TypeId→Option ShL
 | []=>some .nil
 | t::l=>match shOf P d t with
  | none=>none
  | some s=>if P.cellsOf t=s.n then match zuk P d l with
   | none=>none
   | some r=>some (.cons s r)
   else none
theorem Rel.ro {W:World} {C:CM} {H:Heap} (h:Rel W C H W) {L:Loc} (hL:L.b < W.heap.size) {l:List AV} (hob:C.le (C.ext H.next 0 L)→ObjR W.heap.size (C.ext H.next 0 L) W H.next (.cells (z0g l 0 .e) l.length 0 true)) :
  Rel W (C.ext H.next 0 L) (H.push (.cells (z0g l 0 .e) l.length 0 true)) W∧C.le (C.ext H.next 0 L):=by
 have hle:C.le (C.ext H.next 0 L):=CM.le_ext _ (h.next_none 0) (.inr (Nat.le_of_eq h.nx))
 refine⟨⟨by show max C.nx (H.next+1)=H.next+1; rw[h.nx]; exact Nat.max_eq_right (Nat.le_succ _),h.low,?_,?_,?_,?_,?_⟩,hle⟩
 ·intro o v L' hL'
  show o < H.next+1
  by_cases e:o=H.next∧v=0
  ·omega
  ·rw[CM.ext_ne _ _ e] at hL'; have:=h.fresh _ _ _ hL'; omega
 ·intro o v L' hL'
  by_cases e:o=H.next∧v=0
  ·obtain⟨rfl,rfl⟩:=e; rw[CM.ext_same] at hL'; cases hL'; exact hL
  ·rw[CM.ext_ne _ _ e] at hL'; exact h.lt _ _ _ hL'
 ·intro o v L1 o' v' L2 h1 h2 hb hB
  by_cases e:o=H.next∧v=0
  ·obtain⟨rfl,rfl⟩:=e; rw[CM.ext_same] at h1; cases h1; omega
  ·by_cases e':o'=H.next∧v'=0
   ·obtain⟨rfl,rfl⟩:=e'; rw[CM.ext_same] at h2; cases h2; omega
   ·rw[CM.ext_ne _ _ e] at h1; rw[CM.ext_ne _ _ e'] at h2; exact h.excl _ _ _ _ _ _ h1 h2 hb hB
 ·intro o ob ho hg
  by_cases e:o=H.next
  ·subst e; rw[Heap.get_push_same] at hg; cases hg; exact hob hle
  ·have ho':o < H.next:=by have:o < H.next+1:=ho; omega
   rw[Heap.get_push_ne _ _ ho'] at hg
   refine (h.obj _ _ ho' hg).frame hle (fun v L' hL'=>?_) (fun _ _ _=>rfl)
   rwa [CM.ext_ne _ _ (by omega)] at hL'
 ·intro o c len ver ro ho hg v L' hL'
  by_cases e:o=H.next
  ·subst e
   by_cases ev:v=0
   ·omega
   ·rw[CM.ext_ne _ _ (by omega)] at hL'; have:=h.fresh _ _ _ hL'; omega
  ·have ho':o < H.next:=by have:o < H.next+1:=ho; omega
   rw[Heap.get_push_ne _ _ ho'] at hg
   rw[CM.ext_ne _ _ (by omega)] at hL'
   exact h.top _ _ _ _ _ ho' hg _ _ hL'
def outC (H:Heap):Cx:=⟨[],fun o=>o < H.next,H⟩
def Grow (H H':Heap):Prop:=H.next≤H'.next∧∀ o,o < H.next→H'.get o=H.get o
theorem Grow.refl (H:Heap):Grow H H:=⟨Nat.le_refl _,fun _ _=>rfl⟩
theorem Grow.trans {A B C:Heap} (h:Grow A B) (k:Grow B C):Grow A C:=⟨Nat.le_trans h.1 k.1,fun o ho=>by rw[k.2 o (Nat.lt_of_lt_of_le ho h.1),h.2 o ho]⟩
theorem Grow.le {H H':Heap} (h:Grow H H'):CxLe (outC H) (outC H') :=
 ⟨fun p k x e=>by simp[outC] at e,fun o ho=>⟨Nat.lt_of_lt_of_le ho h.1,h.2 o ho⟩⟩
section imp
variable {HH : Type} {enc : TypeId × Value → HH} {P : Program} {W : World}
def Got (W:World) (C:CM) (H:Heap) (cs:List Value) (s:Nat) (T:Type) (e:T→List LV):Prop :=
 ∃ C' H' as,∃ y:T,C.le C'∧Rel W C' H' W∧Grow H H'∧VRs C' as cs∧(∀ a∈as,a.one=true)∧ARs (outC H') (e y) as∧as.length=s
theorem zam {C:CM} {H:Heap} (hR:Rel W C H W) {v:Value} {T:Type} {e:T→List LV} (y:T) (a:AV) (l:LV) (he:e y=[l]) (hv:VR C a v) (h1:a.one=true) (hl:AR (outC H) l a):Got W C H [v] 1 T e :=
 ⟨C,H,[a],y,CM.le_refl C,hR,.refl H,.cons hv .nil,by simpa using h1,by rw[he]; exact .cons hl .nil,rfl⟩
theorem zhu {ps:List MemPlace} (hz:W.noneFrozen ps) {b off n:Nat} (h:∀ x∈MemPlace.row ⟨b,off,none⟩ n,x∈ps) {i:Nat} (hi:i < n):W.frozen? ⟨b,off+i,none⟩=false :=
 hz b (off+i) (h _ (List.mem_map.2 ⟨i,List.mem_range.2 hi,rfl⟩))
theorem got_cells:∀ (fuel:Nat) (d:Nat) (t:TypeId) (s:Sh) (cs:List Value) (x:DataW HH×List MemPlace) (C:CM) (H:Heap),shOf P d t=some s→DataW.trod enc P W 0 (fun _=>true) true fuel t cs=some x→W.noneFrozen x.2→Rel W C H W →
  Got W C H cs s.n s.T s.enc:=by
 intro fuel
 induction fuel with
 | zero=>intro d t s cs x C H _ h; simp[DataW.trod] at h
 | succ fuel ih =>
  intro d t s cs x C H hs h hz hR
  cases d with
  | zero=>cases hs
  | succ d =>
   simp only[shOf] at hs
   split at hs
   ·rename_i hu
    cases hs
    obtain⟨b,rfl,_⟩:=DataW.trod_bool hu h
    exact zam hR (T:=Bool) b (.bool b) (.bool b) rfl (.bool b) rfl (.bool b)
   ·rename_i k hu
    obtain⟨n,rfl,_,hw⟩:=DataW.trod_int hu h
    split at hs
    ·cases hs
     have hb:=bounds_u64 hw
     refine zam hR (T:=UInt64) (UInt64.ofNat n.toNat) (.int .u64 n) (.u (UInt64.ofNat n.toNat)) rfl (.int _ _) rfl (.u' ?_)
     rw[UInt64.toNat_ofNat']
     simp only[Int.ofNat_eq_natCast]
     omega
    ·cases hs
     have hb:=bounds_u8 hw
     refine zam hR (T:=UInt8) (UInt8.ofNat n.toNat) (.int .u8 n) (.b (UInt8.ofNat n.toNat)) rfl (.int _ _) rfl (.b' ?_)
     rw[UInt8.toNat_ofNat']
     simp only[Int.ofNat_eq_natCast]
     omega
    ·cases hs
     have hb:=bounds_i64 hw
     exact zam hR (T:={ n:Int // inI n }) ⟨n,by unfold inI; omega⟩ (.int .i64 n) (.i n) rfl (.int _ _) rfl (.i n)
    ·cases hs
     exact zam hR (T:=Int) n (.int k n) (.int k n) rfl (.int _ _) rfl (.int k n)
   ·rename_i hu
    cases hs
    obtain⟨b,rfl,_,hm⟩:=DataW.trod_string hu h
    exact zam hR (T:={ l:List UInt8 // l.length≤maxLen }) ⟨b.data.toList,by simpa using hm⟩ (.str b.data.toList.length (z1g b.data.toList)) (.str b.data.toList) rfl (.str rfl rfl) rfl (.str _)
   ·rename_i e hu
    split at hs
    ·cases hs
    ·rename_i se hse
     by_cases hc:P.cellsOf e=se.n∧0 < se.n
     ·rw[if_pos hc] at hs
      cases hs
      obtain⟨hce,hpos⟩:=hc
      rcases DataW.trod_slice hu h with ⟨rfl,_⟩ | ⟨a,len,cap,elems,rest,n,hn,rfl,hx,_,hle,hmax,hlen,hel,hsp,_⟩
      ·exact zam hR (T:={ l:List se.T // l.length≤maxLen }) ⟨[],by simp⟩ .nilSl (.lst [] 0 se.n) rfl .nilSl rfl .lstNil
      ·cases hn
       by_cases h0:len=0
       ·subst h0
        exact zam hR (T:={ l:List se.T // l.length≤maxLen }) ⟨[],by simp⟩ .emp (.lst [] 0 se.n) rfl .emp rfl .lstEmp
       ·-- the elements,one behind the other
        obtain⟨b,off,spot⟩:=a
        have hsome:∀ i,i < cap→∃ ecs,W.cells? 0 ((⟨b,off,spot⟩:Addr).add (i * P.cellsOf e)) (P.cellsOf e)=some ecs:=by
         intro i hi
         by_cases hil:i < len
         ·have:=hel i hil
          rw[List.getElem?_eq_getElem (by omega)] at this
          cases hq:W.cells? 0 ((⟨b,off,spot⟩:Addr).add (i * P.cellsOf e)) (P.cellsOf e) with
          | none=>rw[hq] at this; cases this
          | some ecs=>exact⟨ecs,rfl⟩
         ·obtain⟨hr1,hr2⟩:=hsp rfl
          have:=hr2 (i - len) (by omega)
          rw[show len+(i - len)=i from by omega,List.getElem?_eq_getElem (by omega)] at this
          cases hq:W.cells? 0 ((⟨b,off,spot⟩:Addr).add (i * P.cellsOf e)) (P.cellsOf e) with
          | none=>rw[hq] at this; cases this
          | some ecs=>exact⟨ecs,rfl⟩
        have hspot:spot=none:=by
         obtain⟨ecs,he⟩:=hsome 0 (by omega)
         obtain⟨_,hl,hcell⟩:=World.cells?_some he
         have:=hcell 0 (by omega)
         rw[List.getElem?_eq_getElem (by omega)] at this
         simpa [Addr.add] using World.cell?_spot this
        subst hspot
        have hcells:∀ i j,i < cap→j < se.n→∃ v,W.cell? ⟨b,off+(i * se.n+j),none⟩=some v:=by
         intro i j hi hj
         obtain⟨ecs,he⟩:=hsome i hi
         obtain⟨_,hl,hcell⟩:=World.cells?_some he
         have:=hcell j (by omega)
         rw[List.getElem?_eq_getElem (by omega)] at this
         rw[hce] at this
         rw[WideShapes.add_plain,WideShapes.add_plain] at this
         rw[←Nat.add_assoc]
         exact⟨_,this⟩
        obtain⟨v0,hv0⟩:=hcells 0 0 (by omega) hpos
        obtain⟨vs,ty,lo,hi,hblk⟩:∃ vs ty lo hi,W.heap[b]?=some (.cells vs ty (lo,hi)):=by
         unfold World.cell? at hv0
         dsimp only at hv0
         split at hv0
         ·rename_i vs ty fz hblk; exact⟨vs,ty,fz.1,fz.2,hblk⟩
         ·cases hv0
        have hcv:∀ q,q < cap * se.n→∃ v,vs[off+q]?=some v:=by
         intro q hq
         obtain⟨v,hv⟩:=hcells (q / se.n) (q % se.n) (by rw[Nat.div_lt_iff_lt_mul hpos]; exact hq) (Nat.mod_lt _ hpos)
         have:q / se.n * se.n+q % se.n=q:=by rw[Nat.mul_comm]; exact Nat.div_add_mod q se.n
         rw[this,zfu hblk] at hv
         exact⟨v,hv⟩
        have hvsz:off+cap * se.n≤vs.size:=by
         have hcpos:0 < cap * se.n:=Nat.mul_pos (by omega) hpos
         obtain⟨v,hv⟩:=hcv (cap * se.n - 1) (by omega)
         have:=(Array.getElem?_eq_some_iff.1 hv).1
         omega
        have hrow:∀ x',x'∈MemPlace.row ⟨b,off,none⟩ (cap * se.n)→x'∈x.2:=by
         intro x' hx'
         rw[hx]
         have:(elems.length+rest.length) * P.cellsOf e=cap * se.n:=by rw[hlen,(hsp rfl).1,hce]; congr 1; omega
         rw[this]
         exact List.mem_append_left _ hx'
        have loop:∀ m,m≤len→∃ C' H' as,∃ ys:List se.T,C.le C'∧Rel W C' H' W∧Grow H H'∧(∀ a∈as,a.one=true)∧ARs (outC H') (ys.flatMap se.enc) as∧ys.length=m∧as.length=m * se.n∧∀ q,q < m * se.n→∃ a v,as[q]?=some a∧vs[off+q]?=some v∧VR C' a v:=by
         intro m
         induction m with
         | zero=>intro _; exact⟨C,H,[],[],CM.le_refl C,hR,.refl H,by simp,.nil,rfl,by simp,fun q hq=>by omega⟩
         | succ m ihm =>
          intro hm
          obtain⟨C1,H1,as1,ys1,a1,a2,a3,a4,a5,a6,a7,a8⟩:=ihm (by omega)
          obtain⟨ecs,he⟩:=hsome m (by omega)
          have hem:=hel m (by omega)
          rw[he,List.getElem?_eq_getElem (by omega)] at hem
          obtain⟨_,hl,hcell⟩:=World.cells?_some he
          have hz' : W.noneFrozen (elems[m]'(by omega)).2 := fun b' off' hb' => hz b' off' (by
           rw[hx]
           exact List.mem_append_right _ (List.mem_flatMap.2 ⟨elems[m]'(by omega), by simp, hb'⟩))
          obtain⟨C2,H2,as2,y,b1,b2,b3,b4,b5,b6,b7⟩:=ih d e se ecs _ C1 H1 hse hem hz' a2
          refine⟨C2,H2,as1++as2,ys1++[y],CM.le_trans a1 b1,b2,a3.trans b3,?_,?_,by simp[a6],?_,?_⟩
          ·intro z hz
           rcases List.mem_append.1 hz with h | h
           ·exact a4 z h
           ·exact b5 z h
          ·rw[List.flatMap_append]
           refine (a5.mono b3.le).append ?_
           simpa using b6
          ·rw[List.length_append,a7,b7,Nat.add_mul,Nat.one_mul]
          ·intro q hq
           by_cases hqm:q < m * se.n
           ·obtain⟨a,v,c1,c2,c3⟩:=a8 q hqm
            exact⟨a,v,by rw[List.getElem?_append_left (by omega)]; exact c1,c2,c3.mono b1⟩
           ·have hq2:q - m * se.n < se.n:=by rw[Nat.add_mul,Nat.one_mul] at hq; omega
            obtain⟨a,v,c1,c2,c3⟩:=b4.get' (i:=q - m * se.n) (by omega)
            refine⟨a,v,by rw[List.getElem?_append_right (by omega),a7]; exact c1,?_,c3⟩
            have:=hcell (q - m * se.n) (by omega)
            rw[hce,WideShapes.add_plain,WideShapes.add_plain,zfu hblk,c2] at this
            rw[←this]
            congr 1
            omega
        obtain⟨C1,H1,as,ys,a1,a2,a3,a4,a5,a6,a7,a8⟩:=loop len (Nat.le_refl _)
        have hbl:b < W.heap.size:=by
         have:=(Array.getElem?_eq_some_iff.1 hblk).1
         exact this
        have hmle:len * se.n≤cap * se.n:=Nat.mul_le_mul_right _ hle
        have hnf:∀ q,off≤q→q < off+cap * se.n→¬ (lo≤q∧q < hi):=by
         intro q h1 h2
         have:=zhu hz (fun x' hx'=>hrow x' hx') (i:=q - off) (n:=cap * se.n) (by omega)
         rw[show off+(q - off)=q from by omega] at this
         unfold World.frozen? at this
         dsimp only at this
         rw[hblk] at this
         simp at this
         omega
        obtain⟨c1,c2⟩:=a2.ro (L:=⟨b,off,len * se.n,off+cap * se.n⟩) hbl (l:=as) (fun hle' L hL=>by
         rw[CM.ext_same] at hL
         cases hL
         refine⟨by rw[a7],fun e=>(by cases e),by show off+as.length≤off+cap * se.n; omega,vs,ty,lo,hi,hblk,hvsz,hnf,?_⟩
         intro q hq
         rw[get_ofList,if_pos (by omega)]
         obtain⟨a,v,d1,d2,d3⟩:=a8 q (by omega)
         exact⟨a,by simpa using d1,a4 a (List.mem_of_getElem? d1),v,d2,d3.mono hle'⟩)
        have hg:Grow H1 (H1.push (.cells (z0g as 0 .e) as.length 0 true)):=⟨Nat.le_succ _,fun o ho=>Heap.get_push_ne _ _ ho⟩
        refine⟨_,_,[.sl H1.next 0 0 len se.n none],(⟨ys,by omega⟩:{ l:List se.T // l.length≤maxLen }),CM.le_trans a1 c2,c1,a3.trans hg,.cons ?_ .nil,by simp[AV.one],?_,rfl⟩
        ·exact VR.sl (L:=⟨b,off,len * se.n,off+cap * se.n⟩) (i:=0) (CM.ext_same _ _ _ _) (by dsimp only; omega) (by dsimp only; omega) hle (fun r e=>by cases e) (fun _=>rfl)
        ·show ARs _ [LV.lst (ys.flatMap se.enc) ys.length se.n] _
         rw[a6]
         refine .cons (.lst (Nat.lt_succ_self H1.next) (fun r e=>by cases e) ?_ ?_ (a5.mono hg.le)) .nil
         ·have:=a5.length
          omega
         ·have hr:=z1m (H:=H1.push (.cells (z0g as 0 .e) as.length 0 true)) (i:=0) (n:=len * se.n) (Heap.get_push_same _ _) (z62 as) (Nat.le_refl _) (by omega)
          rw[List.drop_zero,List.take_of_length_le (by omega)] at hr
          exact hr
     ·rw[if_neg hc] at hs; cases hs
   ·rename_i fs hu
    split at hs
    ·cases hs
    ·rename_i l hl
     cases hs
     obtain⟨xs,n,hn,hx,hcl,hxl,hfs⟩:=DataW.trod_struct hu h
     cases hn
     have key:∀ (fl:List Field) (j off:Nat) (l:ShL) (C:CM) (H:Heap),fs.toList.drop j=fl→shFs P (shOf P d) (P.cellsOf t) fl off=some l→Rel W C H W→Got W C H (cs.drop off) l.n l.T l.enc:=by
      intro fl
      induction fl with
      | nil =>
       intro j off l C H hj hl hR
       simp only[shFs] at hl
       split at hl
       ·rename_i he
        cases hl
        refine⟨C,H,[],(():Unit),CM.le_refl C,hR,.refl H,?_,by simp,.nil,rfl⟩
        rw[he,←hcl,List.drop_length]
        exact .nil
       ·cases hl
      | cons fd fl ihf =>
       intro j off l C H hj hl hR
       simp only[shFs] at hl
       split at hl
       ·cases hl
       ·rename_i s hs
        by_cases hc:fd.offset=off∧P.cellsOf fd.type=s.n
        ·rw[if_pos hc] at hl
         split at hl
         ·cases hl
         ·rename_i r hr
          cases hl
          have hjl:j < fs.toList.length:=by
           rcases Nat.lt_or_ge j fs.toList.length with h | h
           ·exact h
           ·rw[List.drop_eq_nil_of_le h] at hj; cases hj
          have hfd:fs[j]?=some fd:=by
           rw[List.drop_eq_getElem_cons hjl] at hj
           injection hj with h1 h2
           rw[←h1]
           simp
          have hfj:=hfs j fd hfd
          rw[hc.1,hc.2] at hfj
          have hxj:j < xs.length:=by rw[hxl]; simpa using hjl
          rw[List.getElem?_eq_getElem hxj] at hfj
          obtain⟨C1,H1,as1,y,a1,a2,a3,a4,a5,a6,a7⟩:=ih d fd.type s _ _ C H hs hfj (fun b' off' hb'=>hz b' off' (by rw[hx]; exact List.mem_flatMap.2 ⟨_,by simp,hb'⟩)) hR
          obtain⟨C2,H2,as2,ys,b1,b2,b3,b4,b5,b6,b7⟩:=ihf (j+1) (off+s.n) r C1 H1 (by rw[List.drop_eq_getElem_cons hjl] at hj; injection hj) hr a2
          refine⟨C2,H2,as1++as2,(y,ys),CM.le_trans a1 b1,b2,a3.trans b3,?_,?_,(a6.mono b3.le).append b6,by rw[List.length_append,a7,b7]; rfl⟩
          ·have:=(a4.mono b1).append b4
           rwa [←List.drop_drop,List.take_append_drop] at this
          ·intro z hz
           rcases List.mem_append.1 hz with h | h
           ·exact a5 z h
           ·exact b5 z h
        ·rw[if_neg hc] at hl; cases hl
     have:=key fs.toList 0 0 l C H (by simp) hl hR
     rw[List.drop_zero] at this
     exact this
   ·rename_i n e hu
    split at hs
    ·cases hs
    ·rename_i se hse
     by_cases hc:P.cellsOf e=se.n∧P.cellsOf t=n * se.n
     case neg=>rw[if_neg hc] at hs; cases hs
     rw[if_pos hc] at hs
     cases hs
     obtain⟨xs,m,hm,hx,hcl,hxl,hel⟩:=DataW.trod_array hu h
     cases hm
     have key:∀ (k j:Nat) (C:CM) (H:Heap),j+k=n→Rel W C H W→Got W C H (cs.drop (j * se.n)) (zw0 k se).n (zw0 k se).T (zw0 k se).enc:=by
      intro k
      induction k with
      | zero =>
       intro j C H hj hR
       refine⟨C,H,[],(():Unit),CM.le_refl C,hR,.refl H,?_,by simp,.nil,rfl⟩
       rw[show j=n by omega,←hc.2,←hcl,List.drop_length]
       exact .nil
      | succ k ihk =>
       intro j C H hj hR
       have hfj:=hel j (by omega)
       rw[hc.1] at hfj
       have hxj:j < xs.length:=by omega
       rw[List.getElem?_eq_getElem hxj] at hfj
       obtain⟨C1,H1,as1,y,a1,a2,a3,a4,a5,a6,a7⟩:=ih d e se _ _ C H hse hfj (fun b' off' hb'=>hz b' off' (by rw[hx]; exact List.mem_flatMap.2 ⟨_,by simp,hb'⟩)) hR
       obtain⟨C2,H2,as2,ys,b1,b2,b3,b4,b5,b6,b7⟩:=ihk (j+1) C1 H1 (by omega) a2
       refine⟨C2,H2,as1++as2,(y,ys),CM.le_trans a1 b1,b2,a3.trans b3,?_,?_,(a6.mono b3.le).append b6,by rw[List.length_append,a7,b7]; rfl⟩
       ·have:=(a4.mono b1).append b4
        rwa [Nat.succ_mul,←List.drop_drop,List.take_append_drop] at this
       ·intro z hz
        rcases List.mem_append.1 hz with h | h
        ·exact a5 z h
        ·exact b5 z h
     have:=key n 0 C H (by omega) hR
     rw[Nat.zero_mul,List.drop_zero] at this
     exact this
   ·cases hs
end imp
end Go.Sv
namespace Go.Sv
open Go.RowKit Go.ChangeShapes Go.WideShapes Go.ChangeAt
def Sh.arg:(s:Sh)→s.T→LV
 | .st l,x=>.agg (l.enc x)
 | .bool,x=>.bool x
 | .u,x=>.u x
 | .b,x=>.b x
 | .i,x=>.i x.1
 | .k kk,x=>.int kk x
 | .str,x=>.str x.1
 | .sl s,x=>.lst (x.1.flatMap s.enc) x.1.length s.n
def ShL.args:(l:ShL)→l.T→List LV
 | .nil,_=>[]
 | .cons s l,x=>s.arg x.1::l.args x.2
section law
variable {H : Type} {enc : TypeId × Value → H} {P : Program}
theorem zpl {W:World} {d base:Nat}:∀ {ts:List TypeId} {l:ShL} {args:List Value} {ds:List (DataW H)} {ps:List MemPlace} {C:CM} {Hp:Heap},zuk P d ts=some l→DataW.TrodAll enc P W 0 (fun _=>true) true ts args ds ps→W.noneFrozen ps →
  (∀ (j:Nat) (t:TypeId) (v:Value),ts[j]?=some t→args[j]?=some v→Value.okWide P W .any base t v)→Rel W C Hp W→∃ C' H' as,∃ y:l.T,C.le C'∧Rel W C' H' W∧Grow Hp H'∧VRs C' as args∧ARs (outC H') (l.args y) as
 | [],l,args,ds,ps,C,Hp,hs,hA,_,_,hR=>by
  cases hs
  obtain⟨rfl,_,_⟩:=trodAll_nil hA
  exact⟨C,Hp,[],(():Unit),CM.le_refl C,hR,.refl Hp,.nil,.nil⟩
 | t::ts,l,args,ds,ps,C,Hp,hs,hA,hz,hv,hR=>by
  simp only[zuk] at hs
  split at hs
  ·cases hs
  ·rename_i s hst
   by_cases hc:P.cellsOf t=s.n
   ·rw[if_pos hc] at hs
    split at hs
    ·cases hs
    ·rename_i r hr
     cases hs
     obtain⟨v,vs,dd,ds',p,q,rfl,rfl,rfl,⟨fuel,hd⟩,hrest⟩:=trodAll_cons hA
     obtain⟨C1,H1,as1,y,a1,a2,a3,a4,a5,a6,a7⟩:=got_cells fuel d t s _ _ C Hp hst hd (fun b o hb=>hz b o (List.mem_append_left _ hb)) hR
     obtain⟨C2,H2,as2,ys,b1,b2,b3,b4,b5⟩:=zpl (C:=C1) (Hp:=H1) hr hrest (fun b o hb=>hz b o (List.mem_append_right _ hb)) (fun j t' v' h1 h2=>hv (j+1) t' v' (by simpa using h1) (by simpa using h2)) a2
     have hok:=hv 0 t v rfl rfl
     have one:∃ a,VR C1 a v∧AR (outC H1) (s.arg y) a:=by
      cases d with
      | zero=>cases hst
      | succ d =>
       have single:∀ {L:LV},s.enc y=[L]→s.arg y=L→v.cells.toList=[v]→∃ a,VR C1 a v∧AR (outC H1) (s.arg y) a:=by
        intro L e1 e2 e3
        rw[e3] at a4
        rw[e1] at a6
        cases a4 with
        | cons h1 h2 =>
         cases a6 with
         | cons h3 h4=>exact⟨_,h1,by rw[e2]; exact h3⟩
       simp only[shOf] at hst
       split at hst
       ·rename_i hu
        cases hst
        obtain⟨b,rfl⟩:=okWide_bool hu hok
        exact single rfl rfl rfl
       ·rename_i k hu
        obtain⟨n,rfl⟩:=okWide_int hu hok
        split at hst <;> cases hst <;> exact single rfl rfl rfl
       ·rename_i hu
        cases hst
        obtain⟨b,rfl⟩:=okWide_string hu hok
        exact single rfl rfl rfl
       ·rename_i e hu
        obtain⟨a,len,cap,rfl⟩:=okWide_slice hu hok
        split at hst
        ·cases hst
        ·rename_i se hse
         by_cases hce:P.cellsOf e=se.n∧0 < se.n
         ·rw[if_pos hce] at hst; cases hst
          exact single rfl rfl rfl
         ·rw[if_neg hce] at hst; cases hst
       ·rename_i fs hu
        obtain⟨cs,rfl,_⟩:=okWide_struct hu hok
        split at hst
        ·cases hst
        ·rename_i l hl
         cases hst
         exact⟨.agg as1,.agg a4 a5,.agg a6⟩
       ·rename_i n e hu
        obtain⟨cs,rfl⟩:∃ cs,v=.agg cs:=by
         simp only[Value.okWide,hu] at hok
         obtain⟨cs,h1,_⟩:=hok
         exact⟨cs,h1⟩
        split at hst
        ·cases hst
        ·rename_i se hse
         by_cases hce:P.cellsOf e=se.n∧P.cellsOf t=n * se.n
         ·rw[if_pos hce] at hst; cases hst
          exact⟨.agg as1,.agg a4 a5,.agg a6⟩
         ·rw[if_neg hce] at hst; cases hst
       ·cases hst
     obtain⟨a,o1,o2⟩:=one
     exact⟨C2,H2,a::as2,(y,ys),CM.le_trans a1 b1,b2,a3.trans b3,.cons (o1.mono b1) b4,.cons (o2.mono b3.le) b5⟩
   ·rw[if_neg hc] at hs; cases hs
theorem walk_of {f d base:Nat} {ts:List TypeId} {l:ShL} (hm:P.follows .mixedOrders=true) (hsh:zuk P d ts=some l) (h:∀ y:l.T,z0k P (.fn f) (l.args y) [] fun v _=>v=.bool true) {W:World} {args:Array Value} {ds:List (DataW H)} {ps:List MemPlace}
  (hA:DataW.TrodAll enc P W 0 (fun _=>true) true ts args.toList ds ps) (hz:W.noneFrozen ps) (hv:∀ (j:Nat) (t:TypeId) (v:Value),ts[j]?=some t→args.toList[j]?=some v→Value.okWide P W .any base t v) :
  Calls P f args W fun e w'=>e=.returned (.bool true)∧Below W.heap.size W w':=by
 obtain⟨C,Hp,as,y,_,hR,_,hV,hAs⟩:=zpl hsh hA hz hv (Rel.start W)
 obtain⟨m,v1,H',q1,c',v,G',q2,q3,q4,q5,q6⟩:=(h y).2 (outC Hp) (.fn f) as (HSim.empty (fun o ho=>ho)) rfl hAs
 subst q6
 cases q5
 intro cs
 obtain⟨C',w',v',fr,h1,h2,h3,h4,h5,h6⟩:=zby hm (OL_sound P) m W _ _ W (.fn f) as _ _ _ hR hV q1 cs
 cases h3
 exact⟨.returned (.bool true),w',fr,⟨rfl,h2.low⟩,h4,h5,h6⟩
theorem zma (hl:laidOutB P=true) {W W':World} (hb:Below W.heap.size W W') {sp:Nat→Bool}:∀ {ts:List TypeId} {vs:List Value} {ds:List (DataW H)} {ps:List MemPlace},(∀ t∈ts,P.readableRec t=true∧t < P.types.size)→DataW.TrodAll enc P W 0 (fun _=>true) true ts vs ds ps →
  (∀ x∈ps,x.block < W.heap.size)→(∀ x∈ps,sp x.block=true)→DataW.TrodAll enc P W' 0 sp true ts vs ds ps
 | [],[],[],_,_,h,_,_=>h
 | t::ts,v::vs,d::ds,_,hr,⟨p,q,h1,h2,e⟩,hlt,hsp=>by
  subst e
  exact⟨p,q,WideElems.Trod_stays hl (hr t (by simp)).1 (hr t (by simp)).2 h1 (fun x hx=>hb.same (hlt x (List.mem_append_left _ hx))) (fun x hx=>hsp x (List.mem_append_left _ hx)),
   zma hl hb (fun t' ht=>hr t' (by simp[ht])) h2 (fun x hx=>hlt x (List.mem_append_right _ hx)) (fun x hx=>hsp x (List.mem_append_right _ hx)),rfl⟩
 | [],[],_::_,_,_,h,_,_=>h.elim
 | [],_::_,_,_,_,h,_,_=>h.elim
 | _::_,[],_,_,_,h,_,_=>h.elim
 | _::_,_::_,[],_,_,h,_,_=>h.elim
theorem law_post {f:Func} {s:ChangeSpec} {apart fresh handsOn again:Bool} {W W':World} {args:Array Value} {ds gs:List (DataW H)} {before:List MemPlace} {tb:TypeId} (hW:DataW.Whole enc P f.params.toList s.vars apart W args.toList ds gs before) (hvars:s.vars=[])
  (hspec:∀ ds':List (DataW H),ds'.length=f.params.toList.length→s.fn H ds'={ results:=[.lit (.bool true)],args:=ds' }) (hb:Below W.heap.size W W') (hl:laidOutB P=true) (hr:∀ t∈f.params.toList,P.readableRec t=true∧t < P.types.size)
  (hres:f.resultTypes=#[tb]) (hbool:P.underlying tb=some .bool):s.post enc P f apart fresh handsOn again W args (.bool true) W':=by
 have hW':=hW
 obtain⟨p,q,hA,hV,rfl,hfz,hnd⟩:=hW
 rw[hvars] at hV
 obtain⟨rfl,rfl⟩:=trodVars_none hV
 have hlen:ds.length=f.params.toList.length:=(trodAll_length hA).2
 have hs:=hspec ds hlen
 have hs':s.fn H (ds++[])={ results:=[.lit (.bool true)],args:=ds }:=by rw[List.append_nil]; exact hs
 have hlt:=hW'.lt
 refine zrg (pa:=p) (pv:=[]) hW' (fun b sp hd=>?_) (fun sp hsp=>?_) (fun sp _=>?_) rfl hb ?_
 ·rw[hs',hres]
  exact trodAll_cons_mk (shut_bool hbool _) trodAll_mk0
 ·rw[hs']
  exact zma hl hb hr hA (fun x hx=>hlt x (by simp[hx])) (fun x hx=>hsp x (by simp[hx]))
 ·rw[hs',hvars]; rfl
 ·exact ok_one hres rfl (okWide_bool_mk hbool _)
end law
end Go.Sv
namespace Go.Sv
def borR (G:z03) (v d:LV):Prop:=match v with
 | .tup l=>∃ r,d=.tup r∧bors G l r
 | v=>bor G v d
def FnV (P:Program) (f:Nat) (args:List LV) (v0:LV):Prop :=
 tgtOk P (.fn f)∧v0.dat=true∧∀ (Fz:Nat→Prop) (H:Heap) (args1:List AV),(∀ o,Fz o→o < H.next)→ARs ⟨[],Fz,H⟩ args args1 →
  ∃ (m:Nat) (v1:AV) (Fz':Nat→Prop) (H':Heap),z4z P (OL P) m (.fn f) args1 H=.ok v1 H'∧H.next≤H'.next∧(∀ o,Fz o→Fz' o)∧(∀ o,Fz' o→o < H'.next∧(Fz o∨H.next≤o))∧(∀ o,o < H.next→H'.get o=H.get o)∧AR ⟨[],Fz',H'⟩ v0 v1
section calls
variable {P : Program}
theorem borR_ok {c:Cx} {G:z03} (hs:HSim c G) (v d:LV) (a:AV) (hb:borR G v d) (h:AR c v a):AR ⟨[],fun o=>c.Fz o∨Own c G o,c.H⟩ d a:=by
 unfold borR at hb
 split at hb
 ·obtain⟨r,rfl,hb⟩:=hb
  cases h with
  | tup h=>exact .tup (bors_ok hs _ _ _ hb h)
 ·exact bor_ok hs _ _ _ hb h
theorem FnV.mk {f:Nat} {args:List LV} {v0:LV} (hd:v0.dat=true) (h:z0k P (.fn f) args [] fun v G=>borR G v v0):FnV P f args v0:=by
 refine⟨h.1,hd,fun Fz H args1 hfz ha=>?_⟩
 obtain⟨m,v1,H',q1,c1,v,G,rfl,q3,q4,q5,q6⟩:=h.2 ⟨[],Fz,H⟩ (.fn f) args1 (.empty hfz) rfl ha
 have hno:∀ o,¬ Own ⟨[],Fz,H⟩ [] o:=fun o ⟨p,_,_,_,e,_⟩=>by simp at e
 refine⟨m,v1,_,c1.H,q1,q4.nx,fun o ho=>.inl (q4.le.fz o ho).1,fun o ho=>⟨ho.elim (q3.fz o) (q3.lt o),?_⟩,fun o ho=>q4.frame o ho (hno o),borR_ok q3 v v0 v1 q6 q5⟩
 rcases ho with ho | ho
 ·rcases q4.fznew o ho with h | h | h
  ·exact .inl h
  ·exact absurd h (hno o)
  ·exact .inr h
 ·rcases q4.new o ho with h | h
  ·exact absurd h (hno o)
  ·exact .inr h
theorem zx6 {c:Cx} {G:z03} (hs:HSim c G) {Fz':Nat→Prop} {H':Heap} (q2:c.H.next≤H'.next) (q3:∀ o,c.Fz o→Fz' o) (q4:∀ o,Fz' o→o < H'.next∧(c.Fz o∨c.H.next≤o)) (q5:∀ o,o < c.H.next→H'.get o=c.H.get o) :
  HSim ⟨c.hd,Fz',H'⟩ G∧Step c G ⟨c.hd,Fz',H'⟩ G:=by
 have hle:CxLe c ⟨c.hd,Fz',H'⟩:=⟨fun p k h e=>⟨k,h,e,Nat.le_refl _,fun _=>rfl,fun _=>rfl⟩,fun o ho=>⟨q3 o ho,q5 o (hs.fz o ho)⟩⟩
 have hown:∀ o,Own ⟨c.hd,Fz',H'⟩ G o→Own c G o:=fun o ⟨p,ob,k,h,e1,e2,e3,e4⟩=>⟨p,ob,k,h,e1,e2,e3,e4⟩
 refine⟨⟨hs.len,fun o ho=>(q4 o ho).1,fun o ho=>Nat.lt_of_lt_of_le (hs.lt o (hown o ho)) q2,fun o ho hf=>?_,fun p ob k h e1 e2=>?_,fun p q ob ob' k h k' h' o e1 e2 e3 e4 e5 e6 e7 e8=>hs.excl p q ob ob' k h k' h' o e1 e2 e3 e4 e5 e6 e7 e8⟩,?_⟩
 ·rcases (q4 o hf).2 with h | h
  ·exact hs.sep o (hown o ho) h
  ·have:=hs.lt o (hown o ho); omega
 ·by_cases hl:ob.live=true
  ·exact (hs.obj p ob k h e1 e2).mono hle (fun o ho=>q5 o (hs.lt o ⟨p,ob,k,h,e1,hl,e2,ho⟩))
  ·cases ob <;> first | exact absurd rfl hl | trivial
 ·refine⟨hle,q2,fun o ho _=>q5 o ho,fun o ho=>.inl (hown o ho),fun o ho=>(q4 o ho).2.elim .inl (fun h=>.inr (.inr h)),fun p ob ob' e1 e2=>?_,fun p ob ob' k h o e1 e2 e3 e4 e5 e6=>?_⟩
  ·rw[e1] at e2; cases e2; exact Nat.le_refl _
  ·rw[e1] at e2; cases e2
   have hl:ob.live=true:=by cases ob <;> first | rfl | cases e5
   exact⟨rfl,q5 o (hs.lt o ⟨p,ob,k,h,e1,hl,e3,e4⟩),rfl⟩
theorem z1p {f:Nat} {args:List LV} {v0:LV} {G:z03} {K:LV→z03→Prop} (hc:FnV P f args v0) (hb:dats args=true) (k:K v0 G):z0k P (.fn f) args G K:=by
 obtain⟨ht,hd,hrun⟩:=hc
 refine⟨ht,fun c t1 args1 hs htr ha=>?_⟩
 cases t1 with
 | yield o=>exact htr.elim
 | fn g =>
  obtain rfl:f=g:=htr
  obtain⟨m,v1,Fz',H',q1,q2,q3,q4,q5,q6⟩:=hrun c.Fz c.H args1 hs.fz (ARs.dat (c:=c) (c':=⟨[],c.Fz,c.H⟩) (fun o ho=>⟨ho,rfl⟩) args args1 hb ha)
  obtain⟨r1,r2⟩:=zx6 hs q2 q3 q4 q5
  exact⟨m,v1,H',q1,⟨c.hd,Fz',H'⟩,v0,G,rfl,r1,r2,AR.dat (c:=⟨[],Fz',H'⟩) (c':=⟨c.hd,Fz',H'⟩) (fun o ho=>⟨ho,rfl⟩) v0 v1 hd q6,k⟩
mutual
def LV.flat:LV→Bool
 | .bool _ | .u _ | .b _ | .i _ | .int _ _ | .str _ | .nilPtr | .nilSl | .nilMap | .nilFn | .nilIf=>true
 | .agg l=>flats l
 | .tup l=>flats l
 | _=>false
def flats:List LV→Bool
 | []=>true
 | v::l=>v.flat && flats l
end
mutual
theorem AR.flat {c c':Cx} (v:LV) (a:AV) (hd:v.flat=true) (h:AR c v a):AR c' v a:=by
 cases v with
 | agg l =>
  simp only[LV.flat] at hd
  cases h with
  | agg h=>exact .agg (ARs.flat l _ hd h)
 | tup l =>
  simp only[LV.flat] at hd
  cases h with
  | tup h=>exact .tup (ARs.flat l _ hd h)
 | _=>first | (simp only[LV.flat] at hd; cases hd; done) | (cases h; constructor)
termination_by SizeOf.sizeOf v
theorem ARs.flat {c c':Cx} (l:List LV) (r:List AV) (hd:flats l=true) (h:ARs c l r):ARs c' l r:=by
 cases l with
 | nil=>cases h; exact .nil
 | cons v l =>
  simp only[flats,Bool.and_eq_true] at hd
  cases h with
  | cons e es=>exact .cons (AR.flat v _ hd.1 e) (ARs.flat l _ hd.2 es)
termination_by SizeOf.sizeOf l
end
end calls
theorem FnS.lives {P:Program} {f:Nat} (ht:z6g P f=true∧zdv P f=false) (hl:zl9 P f=true) (hr:zav P f):FnS P f [] (.bool true) []:=by
 refine⟨ht,rfl,fun j ob e=>by simp at e,fun Fz H args1 hfz ha=>?_⟩
 cases ha
 refine⟨1,.bool true,[],H,?_,.empty hfz,.bool true,Nat.le_refl _,fun _ _=>rfl,fun o ⟨p,_,_,_,e,_⟩=>by simp at e⟩
 unfold z4z
 dsimp only
 rw[OL_yes hl hr]
section cuts
variable {P : Program} {f n : Nat} {ro : Option Nat} {ρ : LEnv} {D : List Nat} {G : z03} {Q : Post}
theorem zsj {b c:LC}:seqQ P f n ro (.seq b c) Q=seqQ P f n ro b (seqQ P f n ro c Q):=by
 funext x ρ D G
 cases x <;> rfl
theorem zcv {a b c:LC}:wp P f n ro (.seq a (.seq b c)) ρ D G Q=wp P f n ro (.seq (.seq a b) c) ρ D G Q:=by
 rw[wp_seq,wp_seq,wp_seq,zsj]
theorem zwo {a b:LC} (Φ:LEnv→List Nat→z03→Prop) (h1:∀ Nx:LEnv→List Nat→z03→Prop,(∀ (ρ':LEnv) (D':List Nat) (G':z03),Φ ρ' D' G'→Nx ρ' D' G')→wp P f n ro a ρ D G (nxQ Nx Q))
  (h2:∀ (ρ':LEnv) (D':List Nat) (G':z03),Φ ρ' D' G'→wp P f n ro b ρ' D' G' Q):wp P f n ro (.seq a b) ρ D G Q:=by
 rw[wp_seq]
 exact h1 (fun ρ' D' G'=>wp P f n ro b ρ' D' G' Q) h2
end cuts
attribute [simp] borR LV.flat flats
end Go.Sv
namespace Go.Sv
end Go.Sv
namespace Go.Sv
def Stk (b:Nat) (G:z03) (v:LV) (esz n:Nat) (l:List LV):Prop :=
 (v=.nilSl∧n=0∧l=[])∨∃ (p k:Nat) (R:List LV) (m st:Nat),b≤p∧G[p]?=some (.dyn R m esz k st)∧R.length=m * esz∧n≤m∧l=R.take (n * esz)∧((v=.dy p k∧n=m)∨v=.vw p k 0 n)
section stk
variable {b : Nat} {G G' : z03} {v : LV} {esz n : Nat} {l x : List LV}
theorem Stk.length (h:Stk b G v esz n l):l.length=n * esz:=by
 rcases h with ⟨_,rfl,rfl⟩ | ⟨p,k,R,m,st,_,_,h2,h3,rfl,_⟩
 ·simp
 ·have:=Nat.mul_le_mul_right esz h3
  rw[List.length_take]; omega
theorem Stk.lenL (h:Stk b G v esz n l) {K:Nat→Prop} (k:K n):lenL G v K:=by
 rcases h with ⟨rfl,rfl,_⟩ | ⟨p,ver,R,m,st,_,h1,_,_,_,⟨rfl,rfl⟩ | rfl⟩
 ·exact k
 ·rw[lenL_dy,h1]; exact⟨rfl,k⟩
 ·rw[lenL_vw,h1]; exact⟨rfl,k⟩
theorem Stk.ix (h:Stk b G v esz n l) {i:Int} (h0:0≤i) (hi:i < n) {K:LV→Prop}
  (k:∀ (p ver:Nat) (R:List LV) (m st:Nat),b≤p→G[p]?=some (.dyn R m esz ver st)→(∀ j,j < n * esz→R[j]?=l[j]?)→n * esz≤R.length→K (.dptr p ver (i.toNat * esz))):ixV G esz v i K:=by
 rcases h with ⟨rfl,rfl,rfl⟩ | ⟨p,ver,R,m',st,h1,h2,h3,h4,rfl,⟨rfl,rfl⟩ | rfl⟩
 ·omega
 ·rw[zvs,h2]
  exact⟨rfl,rfl,h0,hi,k _ _ _ _ _ h1 h2 (fun j hj=>by rw[List.getElem?_take_of_lt hj]) (by omega)⟩
 ·rw[zuf,h2]
  have:=Nat.mul_le_mul_right esz h4
  refine⟨rfl,rfl,h0,hi,?_⟩
  rw[Nat.zero_add]
  exact k _ _ _ _ _ h1 h2 (fun j hj=>by rw[List.getElem?_take_of_lt hj]) (by omega)
def Rw (b:Nat) (G:z03) (v:LV) (esz n:Nat) (l:List LV):Prop :=
 (v=.nilSl∧n=0∧l=[])∨∃ (p k st:Nat),b≤p∧v=.dy p k∧G[p]?=some (.dyn l n esz k st)∧l.length=n * esz
theorem Rw.nil:Rw b G .nilSl esz 0 []:=.inl ⟨rfl,rfl,rfl⟩
theorem Rw.frame (h:Rw b G v esz n l) (hf:∀ q,b≤q→G'[q]?=G[q]?):Rw b G' v esz n l:=by
 rcases h with h | ⟨p,k,st,h1,h2,h3,h4⟩
 ·exact .inl h
 ·exact .inr ⟨p,k,st,h1,h2,by rw[hf p h1]; exact h3,h4⟩
theorem Rw.set_lt (h:Rw b G v esz n l) {q:Nat} {ob:LObj} (hq:q < b):Rw b (G.set q ob) v esz n l :=
 h.frame fun r hr=>List.getElem?_set_ne (by omega)
theorem Rw.push_end (h:Rw b G v esz n l) {ob:List LObj}:Rw b (G++ob) v esz n l:=by
 rcases h with h | ⟨p,k,st,h1,h2,h3,h4⟩
 ·exact .inl h
 ·exact .inr ⟨p,k,st,h1,h2,by rw[List.getElem?_append_left (List.getElem?_eq_some_iff.1 h3).1]; exact h3,h4⟩
theorem Rw.push (h:Rw b G v esz n l) (hz:0 < esz) (hb:b≤G.length) (hn:n≤1000000000) {m:Nat} (hx:x.length=m * esz) {K:LV→z03→Prop}
  (k:∀ v' G',Rw b G' v' esz (n+m) (l++x)→(∀ q,q < b→G'[q]?=G[q]?)→b≤G'.length→K v' G'):appL G esz v m x K:=by
 rcases h with ⟨rfl,rfl,rfl⟩ | ⟨p,ver,st,h1,rfl,h2,h3⟩
 ·rw[appL_nil]
  refine k _ _ (.inr ⟨_,0,0,hb,rfl,?_,by simpa using hx⟩) (fun q hq=>List.getElem?_append_left (by omega)) (by simp; omega)
  rw[Nat.zero_add]; exact List.getElem?_concat_length
 ·have hp:p < G.length:=(List.getElem?_eq_some_iff.1 h2).1
  rw[appL_dy,h2]
  exact⟨rfl,⟨rfl,hz⟩,hn,k _ _ (.inr ⟨p,ver+1,st+1,h1,rfl,List.getElem?_set_self hp,by rw[List.length_append,h3,hx,Nat.add_mul]⟩) (fun q hq=>List.getElem?_set_ne (by omega)) (by rw[List.length_set]; exact hb)⟩
theorem Rw.cells (h:Rw b G v esz n l):v.cells=some [v]:=by
 rcases h with ⟨rfl,_⟩ | ⟨_,_,_,_,rfl,_⟩ <;> rfl
theorem Rw.bor (h:Rw b G v esz n l) (hd:dats l=true):Go.Sv.bor G v (.lst l n esz):=by
 rcases h with ⟨rfl,rfl,rfl⟩ | ⟨p,k,st,_,rfl,h2,_⟩
 ·exact .inr ⟨_,rfl⟩
 ·exact⟨_,_,_,_,rfl,h2,hd⟩
theorem Stk.cells (h:Stk b G v esz n l):v.cells=some [v]:=by
 rcases h with ⟨rfl,_⟩ | ⟨_,_,_,_,_,_,_,_,_,_,⟨rfl,_⟩ | rfl⟩ <;> rfl
end stk
end Go.Sv
namespace Go.Sv
theorem HSim.freeze' {c:Cx} {G:z03} (hs:HSim c G) {p k st:Nat} {x:AV} {ob:LObj} (hG:G[p]?=some ob) (hl:ob.live=true) (hst:ob.st < st) (hp:c.hd[p]?=some (k,x)) :
  HSim ⟨c.hd,fun q=>c.Fz q∨idOf x=some q,c.H⟩ (G.set p (.dead st))∧Step c G ⟨c.hd,fun q=>c.Fz q∨idOf x=some q,c.H⟩ (G.set p (.dead st)):=by
 have hpg:p < G.length:=(List.getElem?_eq_some_iff.1 hG).1
 have hle:CxLe c ⟨c.hd,fun q=>c.Fz q∨idOf x=some q,c.H⟩:=⟨fun p k h e=>⟨k,h,e,Nat.le_refl _,fun _=>rfl,fun _=>rfl⟩,fun q hq=>⟨.inl hq,rfl⟩⟩
 have hino:∀ q,idOf x=some q→Own c G q:=fun q hq=>⟨p,ob,k,x,hG,hl,hp,hq⟩
 have hinv:∀ {q:Nat} {ob1:LObj},(G.set p (.dead st))[q]?=some ob1→(q=p∧ob1=.dead st)∨(q≠p∧G[q]?=some ob1):=by
  intro q ob1 e
  by_cases hq:q=p
  ·subst hq
   rw[List.getElem?_set_self hpg] at e
   cases e; exact .inl ⟨rfl,rfl⟩
  ·rw[List.getElem?_set_ne (Ne.symm hq)] at e
   exact .inr ⟨hq,e⟩
 have hown:∀ q,Own ⟨c.hd,fun q=>c.Fz q∨idOf x=some q,c.H⟩ (G.set p (.dead st)) q→Own c G q∧idOf x≠some q:=by
  rintro q ⟨p1,ob1,k1,h1,e1,e2,e3,e4⟩
  rcases hinv e1 with ⟨_,rfl⟩ | ⟨hne,e1⟩
  ·cases e2
  ·exact⟨⟨p1,ob1,k1,h1,e1,e2,e3,e4⟩,fun hq=>hne (hs.excl p1 p ob1 ob k1 h1 k x q e1 hG e2 hl e3 hp e4 hq)⟩
 refine⟨⟨by simp[hs.len],fun q hq=>hq.elim (hs.fz q) (fun e=>hs.lt q (hino q e)),fun q hq=>hs.lt q (hown q hq).1,fun q hq hf=>hf.elim (hs.sep q (hown q hq).1) (hown q hq).2,fun q ob1 k1 h1 e1 e2=>?_,?_⟩,⟨hle,Nat.le_refl _,fun _ _ _=>rfl,fun q hq=>.inl (hown q hq).1,fun q hq=>hq.elim .inl (fun e=>.inr (.inl (hino q e))),fun q ob1 ob2 e1 e2=>?_,fun q ob1 ob2 k1 h1 o1 e1 e2 e3 e4 e5 e6=>?_⟩⟩
 ·rcases hinv e1 with ⟨_,rfl⟩ | ⟨_,e1⟩
  ·trivial
  ·by_cases hl1:ob1.live=true
   ·exact (hs.obj q ob1 k1 h1 e1 e2).mono hle (fun _ _=>rfl)
   ·cases ob1 <;> first | exact absurd rfl hl1 | trivial
 ·intro q r ob1 ob2 k1 h1 k2 h2 o1 e1 e2 e3 e4 e5 e6 e7 e8
  rcases hinv e1 with ⟨_,rfl⟩ | ⟨_,e1⟩
  ·cases e3
  ·rcases hinv e2 with ⟨_,rfl⟩ | ⟨_,e2⟩
   ·cases e4
   ·exact hs.excl q r ob1 ob2 k1 h1 k2 h2 o1 e1 e2 e3 e4 e5 e6 e7 e8
 ·rcases hinv e2 with ⟨rfl,rfl⟩ | ⟨_,e2⟩
  ·rw[hG] at e1; cases e1
   exact Nat.le_of_lt hst
  ·rw[e1] at e2; cases e2
   exact Nat.le_refl _
 ·rcases hinv e2 with ⟨rfl,rfl⟩ | ⟨_,e2⟩
  ·rw[hG] at e1; cases e1
   have:ob.st=st:=e6
   omega
  ·rw[e1] at e2; cases e2
   exact⟨rfl,rfl,rfl⟩
theorem ARs.parts {c:Cx}:∀ {a b:List LV} {v:LV} {r:List AV},ARs c (a++v::b) r→∃ ra x rb,r=ra++x::rb∧ARs c a ra∧AR c v x∧ARs c b rb
 | [],b,v,r,h=>by
  cases h with
  | cons e es=>exact⟨[],_,_,rfl,.nil,e,es⟩
 | w::a,b,v,r,h=>by
  cases h with
  | cons e es =>
   obtain⟨ra,x,rb,rfl,h1,h2,h3⟩:=ARs.parts (a:=a) es
   exact⟨_::ra,x,rb,rfl,.cons e h1,h2,h3⟩
theorem ARs.join {c:Cx}:∀ {a b:List LV} {v:LV} {ra rb:List AV} {x:AV},ARs c a ra→AR c v x→ARs c b rb→ARs c (a++v::b) (ra++x::rb)
 | [],_,_,_,_,_,h1,h2,h3=>by cases h1; exact .cons h2 h3
 | _::a,_,_,_,_,_,h1,h2,h3=>by
  cases h1 with
  | cons e es=>exact .cons e (ARs.join es h2 h3)
theorem zjl {P:Program} {t:LTgt} {a b:List LV} {p k len esz st:Nat} {l:List LV} {G:z03} {K:LV→z03→Prop} (hg:G[p]?=some (.dyn l len esz k st)) (h:z0k P t (a++.lst l len esz::b) (G.set p (.dead (st+1))) K) :
  z0k P t (a++.dy p k::b) G K:=by
 refine⟨h.1,fun c t1 args1 hs htr ha=>?_⟩
 obtain⟨ra,x,rb,rfl,h1,h2,h3⟩:=ha.parts
 cases h2 with
 | @dy _ _ k' hh _ e hk haa hsl =>
  obtain⟨r0,r1,r2⟩:=hs.obj p _ _ _ hg e
  have hha:=haa (by omega)
  obtain⟨u1,u2⟩:=hs.freeze' (st:=st+1) hg rfl (Nat.lt_succ_self _) e
  have hx:AR ⟨c.hd,fun q=>c.Fz q∨idOf hh=some q,c.H⟩ (.lst l len esz) x:=by
   rw[hha]
   rcases r2 with ⟨r2,r3⟩ | ⟨o,v,room,t,clen,l',r2,r3,r4,r5,r6,r7,r8⟩
   ·subst r3
    have hl:l=[]:=List.eq_nil_of_length_eq_zero (by simpa using r1)
    subst hl
    rw[r2]; exact .lstNil
   ·have hl':l'.length=len * esz:=by rw[←r6.length]; exact r1
    have hr:=z1m (i:=0) (n:=len * esz) r3 r5 r4 (by omega)
    rw[List.drop_zero,List.take_of_length_le (by omega)] at hr
    rw[r2]
    exact .lst (.inr rfl) (fun r e=>(r7 r e).2) r1 hr (r6.mono (r2 ▸ u2.le))
  have htr':TgtR ⟨c.hd,fun q=>c.Fz q∨idOf hh=some q,c.H⟩ t t1:=by
   cases t <;> cases t1 <;> exact htr
  obtain⟨m,v1,H',q1,c1,v,G1,q2,q3,q4,q5,q6⟩:=h.2 _ t1 _ u1 htr' (.join (h1.mono u2.le) hx (h3.mono u2.le))
  exact⟨m,v1,H',q1,c1,v,G1,q2,q3,u2.trans hs u1 q4,q5,q6⟩
end Go.Sv
namespace Go.Sv
section sub
variable {P : Program} {G : z03} {p len esz ver st : Nat} {l l' : List LV}
theorem zs0 {t:LTgt} {args args':List LV} {K:LV→z03→Prop} (h:∀ c r,ARs c args r→ARs c args' r) (k:z0k P t args' G K):z0k P t args G K :=
 ⟨k.1,fun c t1 args1 hs ht ha=>k.2 c t1 args1 hs ht (h c _ ha)⟩
end sub
end Go.Sv
namespace Go.Sv
end Go.Sv
namespace Go.Sv
theorem HSim.froze {c:Cx} {G:z03} (hs:HSim c G) {p k len esz st:Nat} {l:List LV} (hg:G[p]?=some (.dyn l len esz k st)) :
  ∃ c',HSim c' (G.set p (.dead (st+1)))∧Step c G c' (G.set p (.dead (st+1)))∧CxLe c c'∧c'.hd=c.hd∧c'.H=c.H∧(∀ x,AR c (.dy p k) x→AR c' (.lst l len esz) x)∧∀ x,AR c' (.dy p k) x→AR c' (.lst l len esz) x:=by
 have hp:p < c.hd.length:=by rw[hs.len]; exact (List.getElem?_eq_some_iff.1 hg).1
 obtain⟨⟨k1,hh⟩,e⟩:∃ y,c.hd[p]?=some y:=⟨_,List.getElem?_eq_getElem hp⟩
 obtain⟨r0,r1,r2⟩:=hs.obj p _ _ _ hg e
 obtain⟨u1,u2⟩:=hs.freeze' (st:=st+1) hg rfl (Nat.lt_succ_self _) e
 have key:AR ⟨c.hd,fun q=>c.Fz q∨idOf hh=some q,c.H⟩ (.lst l len esz) hh:=by
  rcases r2 with ⟨r2,r3⟩ | ⟨o,v,room,t,clen,l',r2,r3,r4,r5,r6,r7,r8⟩
  ·subst r3
   have hl:l=[]:=List.eq_nil_of_length_eq_zero (by simpa using r1)
   subst hl
   rw[r2]; exact .lstNil
  ·have hl':l'.length=len * esz:=by rw[←r6.length]; exact r1
   have hr:=z1m (i:=0) (n:=len * esz) r3 r5 r4 (by omega)
   rw[List.drop_zero,List.take_of_length_le (by omega)] at hr
   rw[r2]
   exact .lst (.inr rfl) (fun r e=>(r7 r e).2) r1 hr (r6.mono (r2 ▸ u2.le))
 refine⟨_,u1,u2,u2.le,rfl,rfl,fun x hx=>?_,fun x hx=>?_⟩
 ·cases hx with
  | @dy _ _ k' h2 _ e2 hk haa hsl =>
   rw[e] at e2
   cases e2
   rw[haa r0.symm]; exact key
 ·cases hx with
  | @dy _ _ k' h2 _ e2 hk haa hsl =>
   have e2:c.hd[p]?=some (k',h2):=e2
   rw[e] at e2
   cases e2
   rw[haa r0.symm]; exact key
end Go.Sv
namespace Go.Sv
theorem znv {l:List LV} (h:∀ v∈l,v.dat=true):dats l=true:=by
 induction l with
 | nil=>rfl
 | cons v l ih=>rw[dats,h v (List.mem_cons_self ..),ih fun w hw=>h w (List.mem_cons_of_mem _ hw)]; rfl
theorem zew {l:List LV} (h:dats l=true):∀ v∈l,v.dat=true:=by
 induction l with
 | nil=>intro v hv; cases hv
 | cons w l ih =>
  rw[dats,Bool.and_eq_true] at h
  intro v hv
  rcases List.mem_cons.1 hv with rfl | hv
  ·exact h.1
  ·exact ih h.2 v hv
theorem zdi {l:List LV} (n:Nat) (h:dats l=true):dats (l.take n)=true:=znv fun v hv=>zew h v (List.mem_of_mem_take hv)
theorem zs1 {l:List LV} (n:Nat) (h:dats l=true):dats (l.drop n)=true:=znv fun v hv=>zew h v (List.mem_of_mem_drop hv)
theorem z42 {a b:List LV} (h:dats a=true) (k:dats b=true):dats (a++b)=true:=znv fun v hv=>(List.mem_append.1 hv).elim (zew h v) (zew k v)
theorem zqv {l r:List LV} {i:Nat} (h:dats l=true) (k:dats r=true):dats (z0w l i r)=true:=by
 unfold z0w; exact z42 (z42 (zdi _ h) k) (zs1 _ h)
theorem oldP {G x:z03} {i:Nat} (h:i < G.length):(G++x)[i]?=G[i]?:=List.getElem?_append_left h
def StD (b:Nat) (G:z03) (v:LV) (esz n:Nat) (l:List LV):Prop :=
 (v=.nilSl∧n=0∧l=[])∨∃ (p k:Nat) (R:List LV) (m st:Nat),b≤p∧G[p]?=some (.dyn R m esz k st)∧R.length=m * esz∧n≤m∧l=R.take (n * esz)∧dats R=true∧((v=.dy p k∧n=m)∨v=.vw p k 0 n)
section std
variable {b : Nat} {G G' : z03} {v : LV} {esz n : Nat} {l x : List LV}
theorem StD.nil:StD b G .nilSl esz 0 []:=.inl ⟨rfl,rfl,rfl⟩
theorem StD.stk (h:StD b G v esz n l):Stk b G v esz n l:=by
 rcases h with h | ⟨p,k,R,m,st,h1,h2,h3,h4,h5,_,h6⟩
 ·exact .inl h
 ·exact .inr ⟨p,k,R,m,st,h1,h2,h3,h4,h5,h6⟩
theorem StD.dy {p k st:Nat} (hb:b≤p) (hp:G[p]?=some (.dyn l n esz k st)) (hl:l.length=n * esz) (hd:dats l=true):StD b G (.dy p k) esz n l :=
 .inr ⟨p,k,l,n,st,hb,hp,hl,Nat.le_refl _,by rw[List.take_of_length_le (by omega)],hd,.inl ⟨rfl,rfl⟩⟩
theorem StD.frame (h:StD b G v esz n l) (hf:∀ q,b≤q→q < G.length→G'[q]?=G[q]?):StD b G' v esz n l:=by
 rcases h with h | ⟨p,k,R,m,st,h1,h2,h3⟩
 ·exact .inl h
 ·exact .inr ⟨p,k,R,m,st,h1,by rw[hf p h1 (List.getElem?_eq_some_iff.1 h2).1]; exact h2,h3⟩
theorem StD.set_lt (h:StD b G v esz n l) {q:Nat} {ob:LObj} (hq:q < b):StD b (G.set q ob) v esz n l :=
 h.frame fun r hr _=>List.getElem?_set_ne (by omega)
theorem StD.push_end (h:StD b G v esz n l) {ob:List LObj}:StD b (G++ob) v esz n l :=
 h.frame fun _ _ hr=>List.getElem?_append_left hr
theorem StD.set_cells (h:StD b G v esz n l) {q st:Nat} {c:List LV} {ob:LObj} (hq:G[q]?=some (.cells c st)):StD b (G.set q ob) v esz n l:=by
 rcases h with h | ⟨p,k,R,m,s,h1,h2,h3⟩
 ·exact .inl h
 ·exact .inr ⟨p,k,R,m,s,h1,by rw[List.getElem?_set_ne (fun e=>by rw[e,h2] at hq; cases hq)]; exact h2,h3⟩
theorem StD.push (h:StD b G v esz n l) (hz:0 < esz) (hb:b≤G.length) (hn:n≤1000000000) (hx:x.length=esz) (hxd:dats x=true) {K:LV→z03→Prop}
  (k:∀ (v':LV) (G':z03),StD b G' v' esz (n+1) (l++x)→(∀ q,q < b→G'[q]?=G[q]?)→G.length≤G'.length→(∀ (q:Nat) (ob:LObj),(∀ R m k st,ob≠LObj.dyn R m esz k st)→G[q]?=some ob→G'[q]?=some ob)→K v' G'):appL G esz v 1 x K:=by
 have hll:=h.stk.length
 have fresh:∀ l',l'=l++x→dats l'=true→K (.dy G.length 0) (G++[.dyn l' (n+1) esz 0 0]):=by
  rintro l' rfl hd
  refine k _ _ (.dy hb (st:=0) List.getElem?_concat_length (by rw[List.length_append,hll,hx,Nat.add_mul]; omega) hd) (fun q hq=>List.getElem?_append_left (by omega)) (by simp) (fun q ob _ e=>by rw[List.getElem?_append_left (List.getElem?_eq_some_iff.1 e).1]; exact e)
 rcases h with ⟨rfl,rfl,rfl⟩ | ⟨p,ver,R,m,st,h0,h1,h2,h3,rfl,hd,⟨rfl,rfl⟩ | rfl⟩
 ·rw[appL_nil]
  exact fresh _ rfl hxd
 ·have hp:p < G.length:=(List.getElem?_eq_some_iff.1 h1).1
  rw[List.take_of_length_le (by omega)] at k
  rw[appL_dy,h1]
  refine⟨rfl,⟨rfl,hz⟩,hn,k _ _ (.dy h0 (List.getElem?_set_self hp) (by rw[List.length_append,h2,hx,Nat.add_mul]; omega) (z42 hd hxd)) (fun q hq=>List.getElem?_set_ne (by omega)) (by simp) (fun q ob ho e=>?_)⟩
  rw[List.getElem?_set_ne (fun q'=>by rw[←q',h1] at e; exact ho _ _ _ _ (Option.some.inj e).symm)]; exact e
 ·have hp:p < G.length:=(List.getElem?_eq_some_iff.1 h1).1
  have hm:=Nat.mul_le_mul_right esz h3
  have ha:(n+1) * esz=n * esz+esz:=by rw[Nat.add_mul]; omega
  rw[appL_vw,h1]
  refine⟨rfl,⟨rfl,rfl,by omega⟩,hn,?_⟩
  by_cases hf:(n+1) * esz≤R.length
  ·rw[if_pos hf]
   have hnm:n+1≤m:=by
    rw[h2] at hf
    exact Nat.le_of_mul_le_mul_right hf hz
   refine⟨k _ _ (.inr ⟨p,ver,_,m,_,h0,List.getElem?_set_self hp,?_,hnm,?_,zqv hd hxd,.inr rfl⟩) (fun q hq=>List.getElem?_set_ne (by omega)) (by simp) (fun q ob ho e=>?_),fresh _ rfl (z42 (zdi _ hd) hxd)⟩
   ·unfold z0w; simp; omega
   ·unfold z0w
    have e1:(R.take (n * esz)++x).length=(n+1) * esz:=by rw[List.length_append,hll,hx,ha]
    rw[List.take_left' e1]
   ·rw[List.getElem?_set_ne (fun q'=>by rw[←q',h1] at e; exact ho _ _ _ _ (Option.some.inj e).symm)]; exact e
  ·rw[if_neg hf]
   have hnm:n=m:=by
    rw[h2] at hf
    have:¬ n+1≤m:=fun q=>hf (Nat.mul_le_mul_right _ q)
    omega
   subst hnm
   have ht:R.take (n * esz)=R:=List.take_of_length_le (by omega)
   rw[ht] at k fresh
   refine⟨rfl,hz,k _ _ (.dy h0 (List.getElem?_set_self hp) (by rw[List.length_append,h2,hx,Nat.add_mul]; omega) (z42 hd hxd)) (fun q hq=>List.getElem?_set_ne (by omega)) (by simp) (fun q ob ho e=>?_),fresh _ rfl (z42 hd hxd)⟩
   rw[List.getElem?_set_ne (fun q'=>by rw[←q',h1] at e; exact ho _ _ _ _ (Option.some.inj e).symm)]; exact e
theorem StD.cut (h:StD b G v esz n l) {m:Nat} (hm:m≤n) {lo:(Nat→Prop)→Prop} {hi:Nat→(Nat→Prop)→Prop} (hlo:∀ K':Nat→Prop,K' 0→lo K') (hhi:∀ (d:Nat) (K':Nat→Prop),K' m→hi d K') {K:LV→Prop}
  (k:∀ v',StD b G v' esz m (l.take (m * esz))→K v'):slL G esz v lo hi K:=by
 rcases h with ⟨rfl,rfl,rfl⟩ | ⟨p,ver,R,m',st,h0,h1,h2,h3,rfl,hd,⟨rfl,rfl⟩ | rfl⟩
 ·have:m=0:=by omega
  subst this
  rw[slL_nil]
  exact hlo _ (hhi _ _ ⟨rfl,rfl,k _ (.inl ⟨rfl,rfl,by simp⟩)⟩)
 ·rw[slL_dy,h1]
  refine⟨rfl,rfl,hlo _ (hhi _ _ ⟨by omega,hm,k _ (.inr ⟨p,ver,R,n,st,h0,h1,h2,hm,?_,hd,.inr rfl⟩)⟩)⟩
  rw[List.take_take,Nat.min_eq_left (Nat.mul_le_mul_right _ hm)]
 ·rw[slL_vw,h1]
  refine⟨rfl,rfl,hlo _ (hhi _ _ ⟨by omega,hm,k _ (.inr ⟨p,ver,R,m',st,h0,h1,h2,by omega,?_,hd,.inr rfl⟩)⟩)⟩
  rw[List.take_take,Nat.min_eq_left (Nat.mul_le_mul_right _ hm)]
theorem StD.bor (h:StD b G v esz n l):Go.Sv.bor G v (.lst l n esz):=by
 rcases h with ⟨rfl,rfl,rfl⟩ | ⟨p,k,R,m,st,h1,h2,h3,h4,rfl,hd,⟨rfl,rfl⟩ | rfl⟩
 ·exact .inr ⟨_,rfl⟩
 ·exact⟨R,_,_,_,by rw[List.take_of_length_le (by omega)],h2,hd⟩
 ·have:=Nat.mul_le_mul_right esz h4
  exact⟨R,_,_,_,by rw[Nat.zero_mul,List.drop_zero],h2,by omega,hd⟩
theorem StD.lenL (h:StD b G v esz n l) {K:Nat→Prop} (k:K n):Go.Sv.lenL G v K:=h.stk.lenL k
theorem StD.cells (h:StD b G v esz n l):v.cells=some [v]:=h.stk.cells
theorem StD.at1 (h:StD b G v 1 n l) {i:Int} (h0:0≤i) (hi:i < n) {K:LV→Prop} (k:∀ a,(∀ K':LV→Prop,nthL l i.toNat K'→zco G a K')→K a):ixV G 1 v i K:=by
 refine h.stk.ix h0 hi fun p ver R m st h1 h2 h3 h4=>k _ fun K' hk=>?_
 rw[read1_dptr,h2]
 obtain⟨w,hw,hk⟩:=hk
 refine⟨rfl,w,?_,hk⟩
 rw[Nat.mul_one] at h3 ⊢
 rw[h3 _ (by omega)]; exact hw
def zdj:LV→Option Nat
 | .dy p _=>some p
 | .vw p _ _ _=>some p
 | _=>none
theorem StD.frame2 (h:StD b G v esz n l) (hf:∀ q,zdj v=some q→G'[q]?=G[q]?):StD b G' v esz n l:=by
 rcases h with h | ⟨p,k,R,m,st,h1,h2,h3,h4,h5,h6,h7⟩
 ·exact .inl h
 ·refine .inr ⟨p,k,R,m,st,h1,?_,h3,h4,h5,h6,h7⟩
  rw[hf p (by rcases h7 with ⟨rfl,_⟩ | rfl <;> rfl)]; exact h2
theorem StD.row (h:StD b G v esz n l) {q:Nat} (hq:zdj v=some q):b≤q∧q < G.length∧∃ R m k st,G[q]?=some (.dyn R m esz k st):=by
 rcases h with ⟨rfl,_⟩ | ⟨p,k,R,m,st,h1,h2,h3,h4,h5,h6,⟨rfl,_⟩ | rfl⟩
 ·cases hq
 ·cases hq; exact⟨h1,(List.getElem?_eq_some_iff.1 h2).1,_,_,_,_,h2⟩
 ·cases hq; exact⟨h1,(List.getElem?_eq_some_iff.1 h2).1,_,_,_,_,h2⟩
theorem StD.cut2 (h:StD b G v esz n l) {m:Nat} (hm:m≤n) {lo:(Nat→Prop)→Prop} {hi:Nat→(Nat→Prop)→Prop} (hlo:∀ K':Nat→Prop,K' 0→lo K') (hhi:∀ (d:Nat) (K':Nat→Prop),K' m→hi d K') {K:LV→Prop}
  (k:∀ v',StD b G v' esz m (l.take (m * esz))→zdj v'=zdj v→K v'):slL G esz v lo hi K:=by
 rcases h with ⟨rfl,rfl,rfl⟩ | ⟨p,ver,R,m',st,h0,h1,h2,h3,rfl,hd,⟨rfl,rfl⟩ | rfl⟩
 ·have:m=0:=by omega
  subst this
  rw[slL_nil]
  exact hlo _ (hhi _ _ ⟨rfl,rfl,k _ (.inl ⟨rfl,rfl,by simp⟩) rfl⟩)
 ·rw[slL_dy,h1]
  refine⟨rfl,rfl,hlo _ (hhi _ _ ⟨by omega,hm,k _ (.inr ⟨p,ver,R,n,st,h0,h1,h2,hm,?_,hd,.inr rfl⟩) rfl⟩)⟩
  rw[List.take_take,Nat.min_eq_left (Nat.mul_le_mul_right _ hm)]
 ·rw[slL_vw,h1]
  refine⟨rfl,rfl,hlo _ (hhi _ _ ⟨by omega,hm,k _ (.inr ⟨p,ver,R,m',st,h0,h1,h2,by omega,?_,hd,.inr rfl⟩) rfl⟩)⟩
  rw[List.take_take,Nat.min_eq_left (Nat.mul_le_mul_right _ hm)]
theorem StD.push2 (h:StD b G v esz n l) (hz:0 < esz) (hb:b≤G.length) (hn:n≤1000000000) (hx:x.length=esz) (hxd:dats x=true) {K:LV→z03→Prop}
  (k:∀ (v':LV) (G':z03),StD b G' v' esz (n+1) (l++x)→(∀ q,q < G.length→zdj v≠some q→G'[q]?=G[q]?)→G.length≤G'.length→(zdj v'=zdj v∨zdj v'=some G.length)→K v' G'):appL G esz v 1 x K:=by
 have hll:=h.stk.length
 have fresh:∀ l',l'=l++x→dats l'=true→K (.dy G.length 0) (G++[.dyn l' (n+1) esz 0 0]):=by
  rintro l' rfl hd
  refine k _ _ (.dy hb (st:=0) List.getElem?_concat_length (by rw[List.length_append,hll,hx,Nat.add_mul]; omega) hd) (fun q hq _=>List.getElem?_append_left hq) (by simp) (.inr rfl)
 rcases h with ⟨rfl,rfl,rfl⟩ | ⟨p,ver,R,m,st,h0,h1,h2,h3,rfl,hd,⟨rfl,rfl⟩ | rfl⟩
 ·rw[appL_nil]
  exact fresh _ rfl hxd
 ·have hp:p < G.length:=(List.getElem?_eq_some_iff.1 h1).1
  rw[List.take_of_length_le (by omega)] at k
  rw[appL_dy,h1]
  refine⟨rfl,⟨rfl,hz⟩,hn,k _ _ (.dy h0 (List.getElem?_set_self hp) (by rw[List.length_append,h2,hx,Nat.add_mul]; omega) (z42 hd hxd)) (fun q _ hq=>List.getElem?_set_ne (fun e=>hq (by rw[←e]; rfl))) (by simp) (.inl rfl)⟩
 ·have hp:p < G.length:=(List.getElem?_eq_some_iff.1 h1).1
  have hm:=Nat.mul_le_mul_right esz h3
  have ha:(n+1) * esz=n * esz+esz:=by rw[Nat.add_mul]; omega
  rw[appL_vw,h1]
  refine⟨rfl,⟨rfl,rfl,by omega⟩,hn,?_⟩
  by_cases hf:(n+1) * esz≤R.length
  ·rw[if_pos hf]
   have hnm:n+1≤m:=by
    rw[h2] at hf
    exact Nat.le_of_mul_le_mul_right hf hz
   refine⟨k _ _ (.inr ⟨p,ver,_,m,_,h0,List.getElem?_set_self hp,?_,hnm,?_,zqv hd hxd,.inr rfl⟩) (fun q _ hq=>List.getElem?_set_ne (fun e=>hq (by rw[←e]; rfl))) (by simp) (.inl rfl),fresh _ rfl (z42 (zdi _ hd) hxd)⟩
   ·unfold z0w; simp; omega
   ·unfold z0w
    have e1:(R.take (n * esz)++x).length=(n+1) * esz:=by rw[List.length_append,hll,hx,ha]
    rw[List.take_left' e1]
  ·rw[if_neg hf]
   have hnm:n=m:=by
    rw[h2] at hf
    have:¬ n+1≤m:=fun q=>hf (Nat.mul_le_mul_right _ q)
    omega
   subst hnm
   have ht:R.take (n * esz)=R:=List.take_of_length_le (by omega)
   rw[ht] at k fresh
   refine⟨rfl,hz,k _ _ (.dy h0 (List.getElem?_set_self hp) (by rw[List.length_append,h2,hx,Nat.add_mul]; omega) (z42 hd hxd)) (fun q _ hq=>List.getElem?_set_ne (fun e=>hq (by rw[←e]; rfl))) (by simp) (.inl rfl),fresh _ rfl (z42 hd hxd)⟩
end std
end Go.Sv
namespace Go.Sv
section deep
variable {P : Program}
theorem FnV.mkS {f:Nat} {args:List LV} {v0:LV} (hd:v0.dat=true) (h:z0k P (.fn f) args [] fun v G=>∀ (c:Cx) (a:AV),HSim c G→AR c v a→AR ⟨[],fun o=>c.Fz o∨Own c G o,c.H⟩ v0 a):FnV P f args v0:=by
 refine⟨h.1,hd,fun Fz H args1 hfz ha=>?_⟩
 obtain⟨m,v1,H',q1,c1,v,G,rfl,q3,q4,q5,q6⟩:=h.2 ⟨[],Fz,H⟩ (.fn f) args1 (.empty hfz) rfl ha
 have hno:∀ o,¬ Own ⟨[],Fz,H⟩ [] o:=fun o ⟨p,_,_,_,e,_⟩=>by simp at e
 refine⟨m,v1,_,c1.H,q1,q4.nx,fun o ho=>.inl (q4.le.fz o ho).1,fun o ho=>⟨ho.elim (q3.fz o) (q3.lt o),?_⟩,fun o ho=>q4.frame o ho (hno o),q6 c1 v1 q3 q5⟩
 rcases ho with ho | ho
 ·rcases q4.fznew o ho with h | h | h
  ·exact .inl h
  ·exact absurd h (hno o)
  ·exact .inr h
 ·rcases q4.new o ho with h | h
  ·exact absurd h (hno o)
  ·exact .inr h
theorem row_ok {c:Cx} {G:z03} (hs:HSim c G) {p k len esz st:Nat} {l r:List LV} {a:AV} (hg:G[p]?=some (.dyn l len esz k st)) (hb:bors G l r) (h:AR c (.dy p k) a):AR ⟨[],fun o=>c.Fz o∨Own c G o,c.H⟩ (.lst r len esz) a:=by
 cases h with
 | @dy _ _ k' hh _ e hk ha _ =>
  obtain⟨r0,r1,r2⟩:=hs.obj p _ _ _ hg e
  have hha:=ha (by omega)
  rcases r2 with ⟨r2,r3⟩ | ⟨o,v,room,t,clen,l',r2,r3,r4,r5,r6,r7,r8⟩
  ·subst r3
   have hl:l=[]:=List.eq_nil_of_length_eq_zero (by simpa using r1)
   subst hl
   simp only[bors] at hb
   subst hb
   rw[hha,r2]; exact .lstNil
  ·have hl':l'.length=len * esz:=by rw[←r6.length]; exact r1
   have hr:=z1m (i:=0) (n:=len * esz) r3 r5 r4 (by omega)
   rw[List.drop_zero,List.take_of_length_le (by omega)] at hr
   rw[hha,r2]
   have hars:=bors_ok hs l r l' hb r6
   refine .lst (.inr ⟨p,_,_,_,hg,rfl,e,by rw[r2]; rfl⟩) (fun r e=>(r7 r e).2) (by rw[hars.length,hl']) hr hars
theorem tup3_ok {c:Cx} {G:z03} (hs:HSim c G) {p k len esz st:Nat} {l r:List LV} {v d:LV} {x:LV} {a:AV} (hg:G[p]?=some (.dyn l len esz k st)) (hb:bors G l r) (hv:bor G v d) (hx:bor G x x) (h:AR c (.tup [.dy p k,v,x]) a):AR ⟨[],fun o=>c.Fz o∨Own c G o,c.H⟩ (.tup [.lst r len esz,d,x]) a:=by
 cases h with
 | tup h=>cases h with
  | cons e es=>cases es with
   | cons e2 es=>cases es with
    | cons e3 es =>
     cases es
     exact .tup (.cons (row_ok hs hg hb e) (.cons (bor_ok hs v d _ hv e2) (.cons (bor_ok hs x x _ hx e3) .nil)))
end deep
end Go.Sv
namespace Go.Sv
def DyS (b:Nat) (G:z03) (v:LV) (esz n:Nat) (l:List LV):Prop :=
 dats l=true∧l.length=n * esz∧((v=.nilSl∧n=0∧l=[])∨∃ (p k st:Nat),b≤p∧v=.dy p k∧G[p]?=some (.dyn l n esz k st))
section dys
variable {b : Nat} {G G' : z03} {v : LV} {esz n : Nat} {l x : List LV}
theorem DyS.nil:DyS b G .nilSl esz 0 []:=⟨rfl,by simp,.inl ⟨rfl,rfl,rfl⟩⟩
theorem DyS.frame (h:DyS b G v esz n l) (hf:∀ q,b≤q→q < G.length→G'[q]?=G[q]?):DyS b G' v esz n l:=by
 obtain⟨h1,h2,h | ⟨p,k,st,a,e,c⟩⟩:=h
 ·exact⟨h1,h2,.inl h⟩
 ·exact⟨h1,h2,.inr ⟨p,k,st,a,e,by rw[hf p a (List.getElem?_eq_some_iff.1 c).1]; exact c⟩⟩
theorem DyS.set_lt (h:DyS b G v esz n l) {q:Nat} {ob:LObj} (hq:q < b):DyS b (G.set q ob) v esz n l :=
 h.frame fun r hr _=>List.getElem?_set_ne (by omega)
theorem DyS.push_end (h:DyS b G v esz n l) {ob:List LObj}:DyS b (G++ob) v esz n l :=
 h.frame fun _ _ hr=>List.getElem?_append_left hr
theorem DyS.cells (h:DyS b G v esz n l):v.cells=some [v]:=by
 obtain⟨_,_,⟨rfl,_⟩ | ⟨p,k,st,_,rfl,_⟩⟩:=h <;> rfl
theorem DyS.push {c:Nat} (h:DyS b G v esz n l) (hz:0 < esz) (hb:b≤G.length) (hn:n≤1000000000) (hx:x.length=c * esz) (hxd:dats x=true) {K:LV→z03→Prop}
  (k:∀ (v':LV) (G':z03),DyS b G' v' esz (n+c) (l++x)→(∀ q,q < b→G'[q]?=G[q]?)→G.length≤G'.length→K v' G'):appL G esz v c x K:=by
 obtain⟨h1,h2,h⟩:=h
 have hl:(l++x).length=(n+c) * esz:=by rw[List.length_append,h2,hx,Nat.add_mul]
 rcases h with ⟨rfl,rfl,rfl⟩ | ⟨p,ver,st,a,rfl,e⟩
 ·rw[appL_nil]
  refine k _ _ ⟨by simpa using hxd,hl,.inr ⟨G.length,0,0,hb,rfl,?_⟩⟩ (fun q hq=>List.getElem?_append_left (by omega)) (by simp)
  rw[List.getElem?_concat_length]; simp
 ·have hp:=(List.getElem?_eq_some_iff.1 e).1
  rw[appL_dy,e]
  exact⟨rfl,⟨rfl,hz⟩,hn,k _ _ ⟨dats_app h1 hxd,hl,.inr ⟨p,ver+1,st+1,a,rfl,List.getElem?_set_self hp⟩⟩ (fun q hq=>List.getElem?_set_ne (by omega)) (by simp)⟩
theorem DyS.bor (h:DyS b G v esz n l):Go.Sv.bor G v (.lst l n esz):=by
 obtain⟨h1,h2,⟨rfl,rfl,rfl⟩ | ⟨p,k,st,a,rfl,e⟩⟩:=h
 ·exact .inr ⟨_,rfl⟩
 ·exact⟨l,n,esz,st,rfl,e,h1⟩
end dys
end Go.Sv
namespace Go.Sv
section dys
variable {b : Nat} {G G' : z03} {v : LV} {esz n : Nat} {l x : List LV}
theorem DyS.push2 {c:Nat} (h:DyS b G v esz n l) (hz:0 < esz) (hb:b≤G.length) (hn:n≤1000000000) (hx:x.length=c * esz) (hxd:dats x=true) {K:LV→z03→Prop}
  (k:∀ (v':LV) (G':z03),DyS b G' v' esz (n+c) (l++x)→(∀ q,q < G.length→(∀ j,v≠.dy q j)→G'[q]?=G[q]?)→G.length≤G'.length→(∀ q j,v'=.dy q j→q=G.length∨∃ j',v=.dy q j')→(∀ q j,v'=.dy q j→q < G'.length)→K v' G'):appL G esz v c x K:=by
 obtain⟨h1,h2,h⟩:=h
 have hl:(l++x).length=(n+c) * esz:=by rw[List.length_append,h2,hx,Nat.add_mul]
 rcases h with ⟨rfl,rfl,rfl⟩ | ⟨p,ver,st,a,rfl,e⟩
 ·rw[appL_nil]
  refine k _ _ ⟨by simpa using hxd,hl,.inr ⟨G.length,0,0,hb,rfl,?_⟩⟩ (fun q hq _=>List.getElem?_append_left (by omega)) (by simp) (fun q j e=>by cases e; exact .inl rfl) (fun q j e=>by cases e; simp)
  rw[List.getElem?_concat_length]; simp
 ·have hp:=(List.getElem?_eq_some_iff.1 e).1
  rw[appL_dy,e]
  exact⟨rfl,⟨rfl,hz⟩,hn,k _ _ ⟨dats_app h1 hxd,hl,.inr ⟨p,ver+1,st+1,a,rfl,List.getElem?_set_self hp⟩⟩ (fun q hq hv=>List.getElem?_set_ne (fun q'=>hv ver (by rw[q']))) (by simp) (fun q j e=>by cases e; exact .inr ⟨_,rfl⟩) (fun q j e=>by cases e; simpa using hp)⟩
theorem DyS.keep (h:DyS b G v esz n l) (hf:∀ q j,v=.dy q j→G'[q]?=G[q]?):DyS b G' v esz n l:=by
 obtain⟨h1,h2,h | ⟨p,k,st,a,e,c⟩⟩:=h
 ·exact⟨h1,h2,.inl h⟩
 ·exact⟨h1,h2,.inr ⟨p,k,st,a,e,by rw[hf p k e]; exact c⟩⟩
theorem DyS.lt (h:DyS b G v esz n l) {q j:Nat} (e:v=.dy q j):b≤q∧q < G.length:=by
 obtain⟨_,_,⟨h,_⟩ | ⟨p,k,st,a,e2,c⟩⟩:=h
 ·rw[h] at e; cases e
 ·rw[e2] at e; cases e; exact⟨a,(List.getElem?_eq_some_iff.1 c).1⟩
end dys
end Go.Sv
namespace Go.Sv
def spl:Nat→LC→LC×LC
 | 0,.seq a b=>(a,b)
 | n+1,.seq a b=>(.seq a (spl n b).1,(spl n b).2)
 | _,s=>(s,.skip)
def okS:Nat→LC→Bool
 | 0,.seq _ _=>true
 | n+1,.seq _ b=>okS n b
 | _,_=>false
section spl
variable {P : Program} {f n : Nat} {ro : Option Nat}
theorem W_spl {Q:Post} {Φ:LEnv→List Nat→z03→Prop}:∀ (k:Nat) (s:LC) {ρ:LEnv} {D:List Nat} {G:z03},okS k s=true →
  (h1:∀ Nx:LEnv→List Nat→z03→Prop,(∀ (ρ':LEnv) (D':List Nat) (G':z03),Φ ρ' D' G'→Nx ρ' D' G')→wp P f n ro (spl k s).1 ρ D G (nxQ Nx Q)) →
  (h2:∀ (ρ':LEnv) (D':List Nat) (G':z03),Φ ρ' D' G'→W P f n (spl k s).2 ro ρ' D' G' Q)→W P f n s ro ρ D G Q:=by
 suffices H:∀ (k:Nat) (s:LC) {ρ:LEnv} {D:List Nat} {G:z03},okS k s=true→wp P f n ro (spl k s).1 ρ D G (nxQ (fun ρ' D' G'=>W P f n (spl k s).2 ro ρ' D' G' Q) Q)→W P f n s ro ρ D G Q from
  fun k s ρ D G hk h1 h2=>H k s hk (h1 _ h2)
 intro k
 induction k with
 | zero =>
  intro s ρ D G hk h
  cases s with
  | seq a b =>
   refine W_seq ((wp_W a h).post fun x ρ' D' G' q=>?_)
   cases x <;> exact q
  | _=>simp[okS] at hk
 | succ k ih =>
  intro s ρ D G hk h
  cases s with
  | seq a b =>
   simp only[spl] at h
   rw[wp_seq] at h
   refine W_seq ((wp_W a h).post fun x ρ' D' G' q=>?_)
   cases x with
   | normal=>exact ih b hk q
   | _=>exact q
  | _=>simp[okS] at hk
theorem W_fz {s:LC} {ρ:LEnv} {D:List Nat} {G:z03} {Q:Post} {t p k len esz st:Nat} {l:List LV} (hg:G[p]?=some (.dyn l len esz k st)) (ht:lk ρ t=.dy p k) (h:W P f n s ro ((t,.lst l len esz)::ρ) D (G.set p (.dead (st+1))) Q):W P f n s ro ρ D G Q:=by
 intro code c E D1 ro1 h1 h2 h3 h4 h5 h6
 obtain⟨c1,u1,u2,u3,u4,u7,u5,u6⟩:=h3.froze hg
 have e4:EnvL c1 ((t,.lst l len esz)::ρ) E:=fun x=>by
  by_cases e:x=t
  ·subst e
   have:=h4 x
   rw[ht] at this
   simpa using u5 _ this
  ·have:=(h4 x).mono u3
   simpa [e] using this
 obtain⟨m,x,E',D1',c',ρ',D',G',q1,q2,q3,q4,q5,q6⟩:=h code c1 E D1 ro1 h1 h2 u1 e4 (h5.mono u3) (h6.mono u3)
 exact⟨m,x,E',D1',c',ρ',D',G',u7 ▸ q1,q2,u2.trans h3 u1 q3,q4,q5,q6⟩
theorem call_spl {s:LC} {rs:List RRes} {args:List LV} {G:z03} {K:LV→z03→Prop} (hf:z0f P f=some ⟨n,s.r,rs⟩) (hok:s.ok=true) (hn:args.length≤n) (h:W P f n s none (zgb args 0) [] G (endQ rs K)):z0k P (.fn f) args G K :=
 zig hf hok hn (h.post fun x ρ D G' k=>by
  cases x with
  | normal=>exact⟨trivial,k⟩
  | exit i=>exact k.elim
  | ret=>exact⟨trivial,k⟩)
end spl
end Go.Sv
namespace Go.Sv
theorem zba {n:Nat} (h:n < 18446744073709551616):(iU (n:Int)).toNat=n:=by
 rw[iU_eq,UInt64.ofInt,UInt64.toNat_ofNat']
 omega
def val:List UInt64→Nat
 | []=>0
 | x::l=>x.toNat+18446744073709551616 * val l
theorem z84 (n:Nat):2 ^ (64 * (n+1))=18446744073709551616 * 2 ^ (64 * n):=by
 rw[Nat.mul_add,Nat.pow_add,Nat.mul_comm]
theorem val_append:∀ a b:List UInt64,val (a++b)=val a+2 ^ (64 * a.length) * val b
 | [],b=>by simp[val]
 | x::a,b=>by
  rw[List.cons_append,val,val,val_append a b,List.length_cons,z84,Nat.mul_add,Nat.mul_assoc]; omega
theorem val_lt:∀ a:List UInt64,val a < 2 ^ (64 * a.length)
 | []=>by simp[val]
 | x::a=>by
  have h1:=x.toNat_lt
  have h2:=val_lt a
  rw[val,List.length_cons,z84]
  omega
theorem ziy (x:UInt64):val [x]=x.toNat:=by simp[val]
theorem zqy (a:List UInt64) (x:UInt64):val (a++[x])=val a+2 ^ (64 * a.length) * x.toNat:=by
 rw[val_append,ziy]
theorem val_rep0:∀ n,val (List.replicate n 0)=0
 | 0=>rfl
 | n+1=>by rw[List.replicate_succ,val,val_rep0 n]; rfl
theorem zbg {a:List UInt64} {n:Nat} (h:n < a.length):a.take (n+1)=a.take n++[a.getD n 0]:=by
 rw[List.take_succ_eq_append_getElem h]; simp[h]
theorem z97 {a:List UInt64} {n:Nat} (h:n < a.length):val (a.take (n+1))=val (a.take n)+2 ^ (64 * n) * (a.getD n 0).toNat:=by
 rw[zbg h,zqy,List.length_take,Nat.min_eq_left (by omega)]
def toLf:Nat→Nat→List UInt64
 | 0,_=>[]
 | f+1,n=>if n=0 then [] else UInt64.ofNat n::toLf f (n / 18446744073709551616)
def toL (n:Nat):List UInt64:=toLf n n
theorem toLf_more:∀ (f g n:Nat),n≤f→n≤g→toLf f n=toLf g n
 | 0,0,_,_,_=>rfl
 | 0,g+1,n,h,_=>by
  have:n=0:=by omega
  subst this; simp[toLf]
 | f+1,0,n,_,h=>by
  have:n=0:=by omega
  subst this; simp[toLf]
 | f+1,g+1,n,h1,h2=>by
  simp only[toLf]
  by_cases h0:n=0
  ·simp[h0]
  ·rw[if_neg h0,if_neg h0,toLf_more f g (n / 18446744073709551616) (by omega) (by omega)]
theorem toL_zero:toL 0=[]:=rfl
theorem zfw {n:Nat} (h:n≠0):toL n=UInt64.ofNat n::toL (n / 18446744073709551616):=by
 unfold toL
 cases n with
 | zero=>exact absurd rfl h
 | succ n =>
  rw[toLf,if_neg h,toLf_more n ((n+1) / 18446744073709551616) _ (by omega) (Nat.le_refl _)]
theorem z3g (n:Nat):val (toL n)=n:=by
 induction n using Nat.strongRecOn with
 | _ n ih =>
  by_cases h:n=0
  ·subst h; rfl
  ·rw[zfw h,val,ih _ (by omega),UInt64.toNat_ofNat']
   omega
def Trm (l:List UInt64):Prop:=l=[]∨l.getLast?.getD 0≠0
theorem zpq {x:UInt64} {l:List UInt64} (h:Trm (x::l)):Trm l:=by
 cases l with
 | nil=>exact .inl rfl
 | cons y l =>
  rcases h with h | h
  ·cases h
  ·exact .inr (by simpa [List.getLast?_cons_cons] using h)
theorem val_pos_of_Trm:∀ {l:List UInt64},l≠[]→Trm l→val l≠0
 | [],h,_=>absurd rfl h
 | [x],_,h=>by
  rcases h with h | h
  ·cases h
  ·simp at h
   rw[ziy]
   intro e
   exact h (UInt64.toNat_inj.1 e)
 | x::y::l,_,h=>by
  have:=val_pos_of_Trm (l:=y::l) (by simp) (zpq h)
  rw[val]; omega
theorem toL_val:∀ {l:List UInt64},Trm l→toL (val l)=l
 | [],_=>rfl
 | x::l,h=>by
  have hp:=val_pos_of_Trm (by simp) h
  rw[zfw hp]
  have hx:=x.toNat_lt
  have e1:UInt64.ofNat (val (x::l))=x:=by
   apply UInt64.toNat_inj.1
   rw[UInt64.toNat_ofNat',val]
   omega
  have e2:val (x::l) / 18446744073709551616=val l:=by rw[val]; omega
  rw[e1,e2,toL_val (zpq h)]
theorem Trm_snoc {l:List UInt64} {x:UInt64} (h:x≠0):Trm (l++[x]):=.inr (by simpa using h)
theorem Trm_toL (n:Nat):Trm (toL n):=by
 induction n using Nat.strongRecOn with
 | _ n ih =>
  by_cases h:n=0
  ·subst h; exact .inl rfl
  ·rw[zfw h]
   have:=ih (n / 18446744073709551616) (by omega)
   by_cases h2:n / 18446744073709551616=0
   ·rw[h2,toL_zero]
    refine .inr ?_
    simp
    intro e
    have:=congrArg UInt64.toNat e
    rw[UInt64.toNat_ofNat'] at this
    simp at this
    omega
   ·rw[zfw h2] at this ⊢
    rcases this with e | e
    ·cases e
    ·exact .inr (by simpa [List.getLast?_cons_cons] using e)
theorem z1t {n k:Nat} (h:n < 2 ^ (64 * k)):(toL n).length≤k:=by
 induction k generalizing n with
 | zero => have : n = 0 := by simpa using h
           subst this; simp[toL_zero]
 | succ k ih =>
  by_cases h0:n=0
  ·subst h0; simp[toL_zero]
  ·rw[zfw h0,List.length_cons]
   have:=ih (n:=n / 18446744073709551616) (by rw[z84] at h; exact Nat.div_lt_of_lt_mul h)
   omega
theorem zb9 (a:List UInt64):(toL (val a)).length≤a.length:=z1t (val_lt a)
theorem zr3 {n:Nat}:toL n=[]↔n=0:=⟨fun h=>by rw[←z3g n,h]; rfl,fun h=>by rw[h]; rfl⟩
theorem val_inj_length:∀ {a b:List UInt64},a.length=b.length→val a=val b→a=b
 | [],[],_,_=>rfl
 | [],_::_,h,_=>by simp at h
 | _::_,[],h,_=>by simp at h
 | x::a,y::b,h,e=>by
  have h1:=x.toNat_lt
  have h2:=y.toNat_lt
  rw[val,val] at e
  have e1:x.toNat=y.toNat:=by omega
  have e2:val a=val b:=by omega
  rw[UInt64.toNat_inj.1 e1,val_inj_length (by simpa using h) e2]
def RU (l:List UInt64):LObj:=.dyn (l.map .u) l.length 1 0 0
def z49 (G:z03) (v:LV) (l:List UInt64):Prop:=(v=.nilSl∧l=[])∨∃ p k st,v=.dy p k∧G[p]?=some (.dyn (l.map .u) l.length 1 k st)
theorem z49.sel {G:z03} {v:LV} {l:List UInt64} (h:z49 G v l):SelR G [v] [RU l]:=by
 rcases h with ⟨rfl,rfl⟩ | ⟨p,k,st,rfl,hg⟩
 ·simp[RU]
 ·simp[RU,hg]
theorem RU_ok {l:List UInt64}:∀ (j:Nat) (ob:LObj),[RU l][j]?=some ob→∃ c len esz,ob=.dyn c len esz 0 0∧c.all LV.scal=true:=by
 intro j ob e
 cases j with
 | zero=>simp at e; subst e; exact⟨_,_,_,rfl,by simp⟩
 | succ j=>simp at e
theorem RU_ok2 {l r:List UInt64}:∀ (j:Nat) (ob:LObj),[RU l,RU r][j]?=some ob→∃ c len esz,ob=.dyn c len esz 0 0∧c.all LV.scal=true:=by
 intro j ob e
 match j with
 | 0=>simp at e; subst e; exact⟨_,_,_,rfl,by simp⟩
 | 1=>simp at e; subst e; exact⟨_,_,_,rfl,by simp⟩
 | j+2=>simp at e
theorem FnS.row {P:Program} {f:Nat} {args:List LV} {l:List UInt64} (h:z0k P (.fn f) args [] fun v G=>z49 G v l):FnS P f args (.dy 0 0) [RU l] :=
 FnS.mk rfl (h.mono fun v G e=>⟨[v],by simp,rfl,e.sel⟩) RU_ok
theorem FnS.rowE {P:Program} {f:Nat} {args:List LV} {l:List UInt64} {e:Int} (h:z0k P (.fn f) args [] fun v G=>∃ w,v=.tup [w,.i e]∧z49 G w l):FnS P f args (.tup [.dy 0 0,.i e]) [RU l] :=
 FnS.mk rfl (h.mono fun v G ⟨w,e1,e2⟩=>⟨[w],by simp[e1],rfl,e2.sel⟩) RU_ok
theorem FnS.row2E {P:Program} {f:Nat} {args:List LV} {l r:List UInt64} {e:Int} (h:z0k P (.fn f) args [] fun v G=>∃ w w',v=.tup [w,w',.i e]∧z49 G w l∧z49 G w' r∧∀ p k,w=.dy p k→notP p w'):FnS P f args (.tup [.dy 0 0,.dy 1 0,.i e]) [RU l,RU r] :=
 FnS.mk rfl (h.mono fun v G ⟨w,w',e1,e2,e3,e4⟩=>⟨[w,w'],by simp[e1],rfl,by
  have h3:=e3.sel
  rcases e2 with ⟨rfl,rfl⟩ | ⟨p,k,st,rfl,hg⟩
  ·simp only[SelR,RU] at h3 ⊢; exact⟨by simp,by simp,by simp,by simp,h3⟩
  ·have h4:=e4 p k rfl
   simp only[SelR,RU,List.mem_singleton,forall_eq] at h3 ⊢; exact⟨by simp,by simp,⟨st,hg⟩,by simp,h4,h3⟩⟩) RU_ok2
def addC (a b:UInt64):Bool→UInt64×Bool
 | false=>(a+b,decide (a+b < a))
 | true=>(a+b+1,decide (a+b < a) || decide (a+b+1=0))
def subC (a b:UInt64):Bool→UInt64×Bool
 | false=>(a - b,decide (a < b))
 | true=>(a - b - 1,decide (a < b) || decide (a - b=0))
theorem z6m (x:UInt64):x=0↔x.toNat=0:=⟨fun h=>by rw[h]; rfl,fun h=>UInt64.toNat_inj.1 (by rw[h]; rfl)⟩
theorem znl (b:Bool):b.toNat=if b=true then 1 else 0:=by cases b <;> rfl
theorem zf3 (a b:UInt64) (c:Bool):(addC a b c).1.toNat+18446744073709551616 * (addC a b c).2.toNat=a.toNat+b.toNat+c.toNat:=by
 have h1:=a.toNat_lt
 have h2:=b.toNat_lt
 cases c with
 | false =>
  simp only[addC,znl,decide_eq_true_eq,UInt64.lt_iff_toNat_lt,UInt64.toNat_add]
  split <;> simp <;> omega
 | true =>
  simp only[addC,znl,Bool.or_eq_true,decide_eq_true_eq,UInt64.lt_iff_toNat_lt,z6m,UInt64.toNat_add,UInt64.toNat_one]
  split <;> simp <;> omega
theorem zji (a b:UInt64) (c:Bool):(subC a b c).1.toNat+b.toNat+c.toNat=a.toNat+18446744073709551616 * (subC a b c).2.toNat:=by
 have h1:=a.toNat_lt
 have h2:=b.toNat_lt
 cases c with
 | false =>
  have e:(subC a b false).2=decide (a.toNat < b.toNat):=by simp[subC,UInt64.lt_iff_toNat_lt]
  rw[e]
  simp only[subC,UInt64.toNat_sub]
  by_cases h:a.toNat < b.toNat <;> simp[h] <;> omega
 | true =>
  have e:(subC a b true).2=decide (a.toNat≤b.toNat):=by
   simp only[subC,UInt64.lt_iff_toNat_lt,z6m,UInt64.toNat_sub]
   by_cases h:a.toNat≤b.toNat
   ·by_cases h':a.toNat < b.toNat
    ·simp[h,h']
    ·have:a.toNat=b.toNat:=by omega
     simp[this]; omega
   ·simp[h]; omega
  rw[e]
  simp only[subC,UInt64.toNat_sub,UInt64.toNat_one]
  by_cases h:a.toNat≤b.toNat <;> simp[h] <;> omega
theorem gapp {G:z03} {p:Nat} {ob:LObj} (h:G[p]?=some ob) (x:z03):(G++x)[p]?=some ob:=by
 rw[List.getElem?_append_left (List.getElem?_eq_some_iff.1 h).1]; exact h
theorem gset {G:z03} {p:Nat} {ob:LObj} (h:G[p]?=some ob) (ob':LObj):(G.set p ob')[p]?=some ob':=List.getElem?_set_self (List.getElem?_eq_some_iff.1 h).1
theorem gset_ne {G:z03} {p q:Nat} (h:q≠p) (ob':LObj):(G.set p ob')[q]?=G[q]?:=List.getElem?_set_ne (Ne.symm h)
theorem z49.app {G:z03} {v:LV} {l:List UInt64} (h:z49 G v l) (x:z03):z49 (G++x) v l:=by
 rcases h with h | ⟨p,k,st,h1,h2⟩
 ·exact .inl h
 ·exact .inr ⟨p,k,st,h1,gapp h2 x⟩
@[simp] theorem dats_rep (n:Nat) (x:UInt64):dats (List.replicate n (LV.u x))=true:=by
 rw[show List.replicate n (LV.u x)=(List.replicate n x).map LV.u by simp]; exact z8b _
theorem zwl (l:List UInt64):l.flatMap (fun x=>[LV.u x])=l.map .u:=by
 induction l with
 | nil=>rfl
 | cons x l ih=>simp[ih]
theorem zqq {G:z03} {v:LV} {l xs:List UInt64} {n:Nat} {new:List LV} {K:LV→z03→Prop} (h:z49 G v l) (hn:n=xs.length) (hnew:new=xs.map .u) (hl:l.length≤1000000000)
  (k:∀ v' G',z49 G' v' (l++xs)→(∀ (q:Nat) (ob:LObj),G[q]?=some ob→(∀ k,v≠.dy q k)→G'[q]?=some ob∧∀ k,v'≠.dy q k)→K v' G'):appL G 1 v n new K:=by
 subst hn hnew
 rcases h with ⟨rfl,rfl⟩ | ⟨p,ver,st,rfl,hg⟩
 ·refine k _ _ (.inr ⟨G.length,0,0,rfl,by simp⟩) (fun q ob hq _=>⟨gapp hq _,fun k e=>?_⟩)
  cases e
  have:=(List.getElem?_eq_some_iff.1 hq).1
  omega
 ·simp only[appL,hg]
  refine⟨by simp,⟨by simp,by simp⟩,by simpa using hl,k _ _ (.inr ⟨p,ver+1,st+1,rfl,by rw[gset hg]; simp⟩) (fun q ob hq hne=>?_)⟩
  have hqp:q≠p:=fun e=>hne ver (by rw[e])
  exact⟨by rw[gset_ne hqp]; exact hq,fun k e=>by cases e; exact hqp rfl⟩
theorem z49.bor {G:z03} {v:LV} {l:List UInt64} (h:z49 G v l):bor G v (LU l):=by
 rcases h with ⟨rfl,rfl⟩ | ⟨p,k,st,rfl,hg⟩
 ·exact .inr ⟨1,by simp⟩
 ·exact⟨_,_,_,st,rfl,hg,by simp⟩
theorem zv6 {G:z03} {v d:LV} (h:Go.Sv.bor G v d):bors G [v] [d]:=⟨d,[],rfl,h,rfl⟩
theorem zlp {G:z03} {v d v' d':LV} (h:Go.Sv.bor G v d) (h':Go.Sv.bor G v' d'):bors G [v,v'] [d,d']:=⟨d,_,rfl,h,zv6 h'⟩
theorem z49.new {G:z03} {l:List UInt64}:z49 (G++[RU l]) (.dy G.length 0) l:=.inr ⟨G.length,0,0,rfl,by simp[RU]⟩
theorem zag {P:Program} {f:Nat} {args dargs:List LV} {l:List UInt64} {G:z03} {K:LV→z03→Prop} (hc:FnS P f dargs (.dy 0 0) [RU l]) (hb:bors G args dargs) (k:K (.dy G.length 0) (G++[RU l])):z0k P (.fn f) args G K :=
 zbp hc hb (by simpa using k)
theorem z2x {a:List UInt64} {n:Nat} (h:a.length≤n):val (a.take n)=val a:=by rw[List.take_of_length_le h]
theorem z3l {a:List UInt64} {n:Nat} (h:a.length≤n):val a < 2 ^ (64 * n):=Nat.lt_of_lt_of_le (val_lt a) (Nat.pow_le_pow_right (by omega) (by omega))
theorem pow64 (m:Nat):2 ^ (64 * (m+1))=2 ^ (64 * m) * 18446744073709551616:=by
 rw[Nat.pow_mul,Nat.pow_mul,Nat.pow_succ]
theorem z2b (a:List UInt64) (n:Nat):val (a.take (n+1))=val (a.take n)+2 ^ (64 * n) * (a.getD n 0).toNat:=by
 by_cases h:n < a.length
 ·exact z97 h
 ·rw[List.take_of_length_le (by omega),List.take_of_length_le (by omega)]
  have:a.getD n 0=0:=by simp; rw[List.getElem?_eq_none (by omega)]; rfl
  rw[this]; simp
theorem zoh (x:UInt64):val [x]=x.toNat:=by simp[val]
theorem val_getD:∀ {a b:List UInt64},val a=val b→∀ i,a.getD i 0=b.getD i 0
 | [],[],_,_=>rfl
 | [],y::b,h,i=>by
  simp only[val] at h
  have hy:y=0:=(z6m y).2 (by omega)
  have hb:val []=val b:=by simp only[val]; omega
  have ih:=val_getD hb
  cases i with
  | zero=>simp[hy]
  | succ i=>simpa using ih i
 | x::a,[],h,i=>by
  simp only[val] at h
  have hx:x=0:=(z6m x).2 (by omega)
  have ha:val a=val []:=by simp only[val]; omega
  have ih:=val_getD ha
  cases i with
  | zero=>simp[hx]
  | succ i=>simpa using ih i
 | x::a,y::b,h,i=>by
  simp only[val] at h
  have h1:=x.toNat_lt
  have h2:=y.toNat_lt
  have e:x.toNat=y.toNat:=by omega
  have ih:=val_getD (a:=a) (b:=b) (by omega)
  cases i with
  | zero=>simpa using UInt64.toNat_inj.1 e
  | succ i=>simpa using ih i
theorem no_carry {x y z Q B:Nat} {c:Bool} (hB:2≤B) (hv:x+Q * B * c.toNat=y+z) (hy:y < Q) (hz:z < Q):x=y+z:=by
 cases c
 ·simpa using hv
 ·have:Q * 2≤Q * B:=Nat.mul_le_mul_left _ hB
  simp at hv; omega
theorem add_end {a b out:List UInt64} {c:Bool} {n m:Nat} (h:n=m+1) (ha:a.length≤m) (hb:b.length≤m) (hv:val out+2 ^ (64 * n) * c.toNat=val a+val b):val out=val a+val b:=by
 subst h
 rw[pow64] at hv
 exact no_carry (by decide) hv (z3l ha) (z3l hb)
theorem addn {o A A' Q B s x y c c':Nat} (hv:o+Q * c=A+A') (h:s+B * c'=x+y+c):o+Q * s+Q * B * c'=A+Q * x+(A'+Q * y):=by
 have:Q * (s+B * c')=Q * (x+y+c):=by rw[h]
 simp only[Nat.mul_add,←Nat.mul_assoc] at this
 omega
theorem add_step {a b out:List UInt64} {c:Bool} {i:Nat} (hl:out.length=i) (hv:val out+2 ^ (64 * i) * c.toNat=val (a.take i)+val (b.take i)) :
  val (out++[(addC (a.getD i 0) (b.getD i 0) c).1])+2 ^ (64 * (i+1)) * (addC (a.getD i 0) (b.getD i 0) c).2.toNat=val (a.take (i+1))+val (b.take (i+1)):=by
 rw[z2b,z2b,pow64,val_append,hl,zoh]
 exact addn hv (zf3 _ _ _)
theorem opened:(∀ a b,addU a b=a+b)∧(∀ a b,subU a b=a - b)∧(∀ a b,mulU a b=a * b):=⟨z2h,z4n,zfh⟩
end Go.Sv
namespace Go.Sv
def fitE (a:List UInt64) (n:Int):Int:=if n < 0∨512 < n then 2 else if n < (toL (val a)).length then 3 else 0
def fitR (a:List UInt64) (n:Int):List UInt64:=if fitE a n=0 then toL (val a)++List.replicate (n.toNat - (toL (val a)).length) 0 else []
theorem zon {a:List UInt64} {n:Int} (h:fitE a n=0):((fitR a n).length:Int)=n∧0≤n∧n≤512:=by
 unfold fitR; rw[if_pos h]
 unfold fitE at h
 by_cases h1:n < 0∨512 < n
 ·rw[if_pos h1] at h; simp at h
 ·rw[if_neg h1] at h
  by_cases h2:n < (toL (val a)).length
  ·rw[if_pos h2] at h; simp at h
  ·simp; omega
theorem repU (n:Nat):repL [LV.u 0] n=(List.replicate n (0:UInt64)).map .u:=by
 induction n with
 | zero=>rfl
 | succ n ih=>simp[repL,ih,List.replicate_succ]
def LN (l:List (List UInt64)):LV:=.lst (l.map LU) l.length 1
attribute [simp] LN
theorem zvj (l:List (List UInt64)) (i:Nat) (K:LV→Prop):nthL (l.map LU) i K=(i < l.length∧K (LU (l.getD i []))):=zqo _ _ _ _ _
theorem zwc (l:List (List UInt64)):dats (l.map LU)=true:=zb1 (fun x=>by simp) l
attribute [simp] zvj zwc
attribute [simp ↓] zvj
end Go.Sv
namespace Go.Sv
def zdp (a b:UInt64):UInt64:=UInt64.ofNat (a.toNat * b.toNat / 18446744073709551616)
theorem zud (a b:UInt64):(zdp a b).toNat * 18446744073709551616+(a * b).toNat=a.toNat * b.toNat:=by
 have h1:=a.toNat_lt
 have h2:=b.toNat_lt
 have h3:a.toNat * b.toNat≤18446744073709551615 * 18446744073709551615:=Nat.mul_le_mul (by omega) (by omega)
 rw[zdp,UInt64.toNat_ofNat',UInt64.toNat_mul]
 omega
theorem and_low (x:UInt64):(x &&& 4294967295).toNat=x.toNat % 4294967296:=by
 rw[UInt64.toNat_and]
 exact Nat.and_two_pow_sub_one_eq_mod x.toNat 32
theorem mul_hi (a b:UInt64) :
  addU (addU (mulU (shrU a 32) (shrU b 32)) (shrU (addU (mulU (shrU a 32) (andU b 4294967295)) (shrU (mulU (andU a 4294967295) (andU b 4294967295)) 32)) 32)) (shrU (addU (mulU (andU a 4294967295) (shrU b 32)) (andU (addU (mulU (shrU a 32) (andU b 4294967295)) (shrU (mulU (andU a 4294967295) (andU b 4294967295)) 32)) 4294967295)) 32)=zdp a b:=by
 simp only[z2h,zfh,z6a,z65]
 apply UInt64.toNat_inj.1
 have h1:=a.toNat_lt
 have h2:=b.toNat_lt
 simp only[zdp,UInt64.toNat_add,UInt64.toNat_mul,UInt64.toNat_ofNat',and_low,Nat.reducePow]
 generalize a.toNat=x at *
 generalize b.toNat=y at *
 have e1:x=x / 4294967296 * 4294967296+x % 4294967296:=by omega
 have e2:y=y / 4294967296 * 4294967296+y % 4294967296:=by omega
 have b1:x / 4294967296 < 4294967296:=by omega
 have b2:x % 4294967296 < 4294967296:=by omega
 have b3:y / 4294967296 < 4294967296:=by omega
 have b4:y % 4294967296 < 4294967296:=by omega
 have m1:x / 4294967296 % 18446744073709551616=x / 4294967296:=by omega
 have m2:y / 4294967296 % 18446744073709551616=y / 4294967296:=by omega
 rw[m1,m2]
 have e3:x * y=(x / 4294967296 * (y / 4294967296)) * 18446744073709551616+(x / 4294967296 * (y % 4294967296)) * 4294967296+(x % 4294967296 * (y / 4294967296)) * 4294967296+x % 4294967296 * (y % 4294967296):=by
  generalize x / 4294967296=p at *
  generalize x % 4294967296=q at *
  generalize y / 4294967296=r at *
  generalize y % 4294967296=s at *
  subst e1 e2
  grind
 rw[e3]
 generalize x / 4294967296=p at *
 generalize x % 4294967296=q at *
 generalize y / 4294967296=r at *
 generalize y % 4294967296=s at *
 have c1:p * r≤4294967295 * 4294967295:=Nat.mul_le_mul (by omega) (by omega)
 have c2:p * s≤4294967295 * 4294967295:=Nat.mul_le_mul (by omega) (by omega)
 have c3:q * r≤4294967295 * 4294967295:=Nat.mul_le_mul (by omega) (by omega)
 have c4:q * s≤4294967295 * 4294967295:=Nat.mul_le_mul (by omega) (by omega)
 generalize p * r=k1 at *
 generalize p * s=k2 at *
 generalize q * r=k3 at *
 generalize q * s=k4 at *
 clear e1 e2 m1 m2 b1 b2 b3 b4 h1 h2 e3
 omega
def blen (n:Nat):Nat:=if n=0 then 0 else n.log2+1
theorem blen_zero:blen 0=0:=rfl
theorem zm1 {n:Nat} (h:n≠0):blen n=blen (n / 2)+1:=by
 unfold blen
 rw[if_neg h]
 by_cases h2:n / 2=0
 ·have:n=1:=by omega
  subst this; decide
 ·rw[if_neg h2,Nat.log2_def n,if_pos (by omega)]
theorem blen_lt (n:Nat):n < 2 ^ blen n:=by
 unfold blen
 by_cases h:n=0
 ·subst h; decide
 ·rw[if_neg h]; exact (Nat.log2_lt h).1 (Nat.lt_succ_self _)
theorem zot {n k:Nat} (h:n < 2 ^ k):blen n≤k:=by
 unfold blen
 by_cases h0:n=0
 ·subst h0; simp
 ·rw[if_neg h0]; exact (Nat.log2_lt h0).2 h
theorem zij {n:Nat}:∀ s:Nat,n / 2 ^ s≠0→blen n=s+blen (n / 2 ^ s)
 | 0,_=>by simp
 | s+1,h=>by
  have h1:n / 2 ^ s / 2≠0:=by rw[Nat.div_div_eq_div_mul,←Nat.pow_succ]; exact h
  have h2:n / 2 ^ s≠0:=fun e=>h1 (by rw[e])
  rw[zij s h2,zm1 h2,Nat.div_div_eq_div_mul,show 2 ^ s * 2=2 ^ (s+1) from rfl]
  omega
theorem zu7 (v:UInt64) (s:Nat):(shrU v s).toNat=v.toNat / 2 ^ s:=by
 have h:=v.toNat_lt
 have:v.toNat / 2 ^ s≤v.toNat:=Nat.div_le_self _ _
 rw[z6a,UInt64.toNat_ofNat',Nat.mod_eq_of_lt (by omega)]
theorem and_one (v:UInt64):(andU v 1).toNat=v.toNat % 2:=by
 rw[z65,UInt64.toNat_and]
 exact Nat.and_two_pow_sub_one_eq_mod v.toNat 1
theorem bit_u' (v:UInt64) (s:Nat):andU (shrU v s) 1=if v.toNat.testBit s=true then 1 else 0:=by
 apply UInt64.toNat_inj.1
 rw[and_one,zu7,Nat.testBit_eq_decide_div_mod_eq]
 by_cases h:v.toNat / 2 ^ s % 2=1
 ·simp[h]
 ·have:v.toNat / 2 ^ s % 2=0:=by omega
  simp[this]
theorem one_shl {i:Nat} (h:i < 64):(shlU 1 i).toNat=2 ^ i:=by
 rw[z75,UInt64.toNat_ofNat']
 have:2 ^ i < 2 ^ 64:=Nat.pow_lt_pow_right (by omega) h
 simp
 omega
end Go.Sv
namespace Go.Sv
theorem limb_at:∀ (a:List UInt64) (i:Nat),(a.getD i 0).toNat=val a / 2 ^ (64 * i) % 18446744073709551616
 | [],i=>by simp[val]
 | x::a,0=>by
  have:=x.toNat_lt
  simp[val]
 | x::a,i+1=>by
  have h:=x.toNat_lt
  have ih:=limb_at a i
  rw[z84,←Nat.div_div_eq_div_mul,val,show (x.toNat+18446744073709551616 * val a) / 18446744073709551616=val a by omega,←ih]
  simp
theorem bit_at (a:List UInt64) (i:Nat):(a.getD (i / 64) 0).toNat.testBit (i % 64)=(val a).testBit i:=by
 rw[limb_at,show (18446744073709551616:Nat)=2 ^ 64 from rfl,Nat.testBit_mod_two_pow,Nat.testBit_div_two_pow]
 have:i % 64+64 * (i / 64)=i:=by omega
 simp[this]
 intro; omega
theorem val_set:∀ (a:List UInt64) (i:Nat) (x:UInt64),i < a.length→val (a.set i x)+2 ^ (64 * i) * (a.getD i 0).toNat=val a+2 ^ (64 * i) * x.toNat
 | [],i,x,h=>by simp at h
 | y::a,0,x,_=>by simp[val]; omega
 | y::a,i+1,x,h=>by
  have ih:=val_set a i x (by simpa using h)
  rw[z84]
  simp only[List.set_cons_succ,val,List.getD_cons_succ,Nat.mul_assoc]
  omega
theorem layU (a:List UInt64) (i:Nat) (x:UInt64) (h:i < a.length):z0w (a.map .u) i [.u x]=(a.set i x).map .u:=by
 unfold z0w
 rw[List.set_eq_take_append_cons_drop,if_pos h]
 simp
theorem blen_val {l:List UInt64} {n:Nat} (h:Trm l) (hl:l.length=n+1):blen (val l)=64 * n+blen (l.getD n 0).toNat:=by
 have h1:val l=val (l.take n)+2 ^ (64 * n) * (l.getD n 0).toNat:=by rw[←z97 (by omega),List.take_of_length_le (by omega)]
 have h2:=z3l (a:=l.take n) (n:=n) (by simp; omega)
 have h3:val l / 2 ^ (64 * n)=(l.getD n 0).toNat:=by
  rw[h1,Nat.add_mul_div_left _ _ (Nat.two_pow_pos _),Nat.div_eq_of_lt h2,Nat.zero_add]
 have h4:(l.getD n 0).toNat≠0:=by
  rcases h with h | h
  ·rw[h] at hl; simp at hl
  ·intro e
   refine h ?_
   have:l.getLast?.getD 0=l.getD n 0:=by
    rw[List.getLast?_eq_getElem?,hl]; simp
   rw[this]
   exact (z6m _).2 e
 rw[zij (64 * n) (by rw[h3]; exact h4),h3]
def cmpN (a b:Nat):Int:=if a < b then -1 else if b < a then 1 else 0
theorem zw2 {v w k x y:Nat} (hv:v < k) (hw:w < k):cmpN (v+k * x) (w+k * y)=if x < y then -1 else if y < x then 1 else cmpN v w:=by
 have e:∀ z,k * (z+1)=k * z+k:=fun z=>by rw[Nat.mul_add,Nat.mul_one]
 by_cases h1:x < y
 ·have:=Nat.mul_le_mul_left k (show x+1≤y from h1)
  rw[e] at this
  rw[if_pos h1,cmpN,if_pos (by omega)]
 ·rw[if_neg h1]
  by_cases h2:y < x
  ·have:=Nat.mul_le_mul_left k (show y+1≤x from h2)
   rw[e] at this
   rw[if_pos h2,cmpN,if_neg (by omega),if_pos (by omega)]
  ·rw[if_neg h2]
   have:x=y:=by omega
   subst this
   unfold cmpN
   by_cases h3:v < w
   ·rw[if_pos h3,if_pos (by omega)]
   ·rw[if_neg h3,if_neg (by omega)]
    by_cases h4:w < v
    ·rw[if_pos h4,if_pos (by omega)]
    ·rw[if_neg h4,if_neg (by omega)]
theorem zge (a:List UInt64) (i:Nat):val (a.take i) < 2 ^ (64 * i):=z3l (by simp; omega)
theorem cmp_next (a b:List UInt64) (i:Nat):cmpN (val (a.take (i+1))) (val (b.take (i+1)))=if a.getD i 0 < b.getD i 0 then -1 else if b.getD i 0 < a.getD i 0 then 1 else cmpN (val (a.take i)) (val (b.take i)):=by
 rw[z2b,z2b,zw2 (zge a i) (zge b i)]
 simp only[UInt64.lt_iff_toNat_lt]
theorem zog {a b:Nat}:cmpN a b < 0↔a < b:=by
 unfold cmpN
 split
 ·simp; assumption
 ·split <;> simp <;> omega
theorem zv8 {a b:Nat}:cmpN a b=0↔a=b:=by
 unfold cmpN
 split
 ·simp; omega
 ·split <;> simp <;> omega
theorem zgw {a b:Nat}:0≤cmpN a b↔b≤a:=by
 have:=@zog a b
 omega
theorem sub_step {a b:List UInt64} {i:Nat} {c:Bool} {out:List UInt64} (hl:out.length=i) (hv:val out+val (b.take i)=val (a.take i)+2 ^ (64 * i) * c.toNat) :
  val (out++[(subC (a.getD i 0) (b.getD i 0) c).1])+val (b.take (i+1))=val (a.take (i+1))+2 ^ (64 * (i+1)) * (subC (a.getD i 0) (b.getD i 0) c).2.toNat:=by
 have hs:=zji (a.getD i 0) (b.getD i 0) c
 rw[zqy,hl,z2b,z2b,pow64]
 generalize (subC (a.getD i 0) (b.getD i 0) c).1.toNat=s at *
 generalize (subC (a.getD i 0) (b.getD i 0) c).2.toNat=d at *
 generalize (a.getD i 0).toNat=x at *
 generalize (b.getD i 0).toNat=y at *
 generalize 2 ^ (64 * i)=k at *
 have e:k * (s+y+c.toNat)=k * (x+18446744073709551616 * d):=by rw[hs]
 simp only[Nat.mul_add] at e
 have e2:k * (18446744073709551616 * d)=k * 18446744073709551616 * d:=by rw[Nat.mul_assoc]
 omega
theorem sub_end {a b out:List UInt64} {m:Nat} {c:Bool} (ha:a.length≤m) (hb:b.length≤m) (hl:out.length=m) (hv:val out+val (b.take m)=val (a.take m)+2 ^ (64 * m) * c.toNat) :
  (c=true↔val a < val b)∧(c=false→val out=val a - val b):=by
 rw[z2x ha,z2x hb] at hv
 have h1:=z3l (a:=out) (n:=m) (by omega)
 have h2:=z3l hb
 cases c with
 | true=>simp at hv ⊢; omega
 | false=>simp at hv ⊢; omega
def ze2 (A B N:Nat) (q:List UInt64) (r:Nat):Prop:=r=A / 2 ^ N % B∧val q=A / 2 ^ N / B * 2 ^ N
theorem zmr {A B N r:Nat} (hB:0 < B) (hr:r=A / 2 ^ (N+1) % B):(2 * r+(A.testBit N).toNat < B→A / 2 ^ N % B=2 * r+(A.testBit N).toNat∧A / 2 ^ N / B=2 * (A / 2 ^ (N+1) / B)) ∧
  (B≤2 * r+(A.testBit N).toNat→A / 2 ^ N % B=2 * r+(A.testBit N).toNat - B∧A / 2 ^ N / B=2 * (A / 2 ^ (N+1) / B)+1):=by
 have h1:A / 2 ^ (N+1)=A / 2 ^ N / 2:=by rw[Nat.div_div_eq_div_mul]; rfl
 have h2:(A.testBit N).toNat=A / 2 ^ N % 2:=by
  rw[Nat.testBit_eq_decide_div_mod_eq]
  by_cases h:A / 2 ^ N % 2=1
  ·simp[h]
  ·have:A / 2 ^ N % 2=0:=by omega
   simp[this]
 rw[h1] at hr ⊢
 rw[h2]
 generalize A / 2 ^ N=x at *
 have e1:=Nat.div_add_mod (x / 2) B
 have e2:r < B:=by rw[hr]; exact Nat.mod_lt _ hB
 rw[←hr] at e1
 have e3:x=2 * (x / 2)+x % 2:=by omega
 have e4:x % 2 < 2:=by omega
 generalize x / 2 / B=c at *
 generalize x / 2=y at *
 generalize x % 2=d at *
 subst e1
 have key:∀ z w,w < B→x=B * z+w→x % B=w∧x / B=z:=fun z w hw e=>by
  subst e
  exact⟨by rw[Nat.mul_add_mod,Nat.mod_eq_of_lt hw],by rw[Nat.mul_add_div hB,Nat.div_eq_of_lt hw,Nat.add_zero]⟩
 refine⟨fun h=>key _ _ h ?_,fun h=>key _ _ (by omega) ?_⟩
 ·rw[e3,Nat.mul_left_comm]; grind
 ·have:B * (2 * c+1)=2 * (B * c)+B:=by grind
  omega
theorem setbit {q:List UInt64} {N:Nat} (hN:N / 64 < q.length) (h:2 ^ (N+1) ∣ val q):val (q.set (N / 64) (orU (q.getD (N / 64) 0) (shlU 1 (N % 64))))=val q+2 ^ N:=by
 have hs:=val_set q (N / 64) (orU (q.getD (N / 64) 0) (shlU 1 (N % 64))) hN
 have hl:=limb_at q (N / 64)
 have hlt:N % 64 < 64:=by omega
 have e1:2 ^ (N % 64+1) ∣ (q.getD (N / 64) 0).toNat:=by
  obtain⟨c,hc⟩:=h
  rw[hl,hc,show (2:Nat) ^ (N+1)=2 ^ (64 * (N / 64)) * 2 ^ (N % 64+1) by rw[←Nat.pow_add]; congr 1; omega,Nat.mul_assoc,Nat.mul_div_cancel_left _ (Nat.two_pow_pos _)]
  refine (Nat.dvd_mod_iff ?_).2 (Nat.dvd_mul_right _ _)
  rw[show (18446744073709551616:Nat)=2 ^ 64 from rfl]
  exact Nat.pow_dvd_pow 2 (by omega)
 obtain⟨c,hc⟩:=e1
 have e2:(orU (q.getD (N / 64) 0) (shlU 1 (N % 64))).toNat=(q.getD (N / 64) 0).toNat+2 ^ (N % 64):=by
  rw[z9d,UInt64.toNat_or,one_shl hlt]
  have:=Nat.two_pow_add_eq_or_of_lt (i:=N % 64+1) (b:=2 ^ (N % 64)) (Nat.pow_lt_pow_right (by omega) (by omega)) c
  rw[←hc] at this
  exact this.symm
 rw[e2,Nat.mul_add,←Nat.pow_add,show 64 * (N / 64)+N % 64=N by omega] at hs
 omega
theorem zr0 {A B N:Nat} {q:List UInt64} {r:Nat} (hB:0 < B) (h:ze2 A B (N+1) q r) (hlt:2 * r+(A.testBit N).toNat < B):ze2 A B N q (2 * r+(A.testBit N).toNat):=by
 obtain⟨h1,h2⟩:=h
 obtain⟨e1,e2⟩:=(zmr hB h1).1 hlt
 refine⟨e1.symm,?_⟩
 rw[e2,h2,Nat.pow_succ]
 grind
theorem zpk {A B N:Nat} {q:List UInt64} {r:Nat} (hB:0 < B) (hN:N / 64 < q.length) (h:ze2 A B (N+1) q r) (hge:B≤2 * r+(A.testBit N).toNat):ze2 A B N (q.set (N / 64) (orU (q.getD (N / 64) 0) (shlU 1 (N % 64)))) (2 * r+(A.testBit N).toNat - B):=by
 obtain⟨h1,h2⟩:=h
 obtain⟨e1,e2⟩:=(zmr hB h1).2 hge
 refine⟨e1.symm,?_⟩
 rw[setbit hN (by rw[h2]; exact Nat.dvd_mul_left _ _),e2,h2,Nat.pow_succ]
 grind
theorem ztu {A B:Nat} {n:Nat}:ze2 A B (blen A) (List.replicate n 0) 0:=by
 have h:A / 2 ^ blen A=0:=Nat.div_eq_of_lt (blen_lt A)
 refine⟨by rw[h]; simp,by rw[h,val_rep0]; simp⟩
theorem div_end {A B:Nat} {q:List UInt64} {r:Nat} (h:ze2 A B 0 q r):val q=A / B∧r=A % B:=by
 obtain⟨h1,h2⟩:=h
 simp at h1 h2
 exact⟨h2,h1⟩
end Go.Sv
namespace Go.Sv
def mE (n:Nat):Int:=if n=0 then 2 else 0
def mR (n r:Nat):List UInt64:=if n=0 then [] else toL r
def subM (a b n:Nat):Nat:=(a % n+n - b % n) % n
theorem modc (a n:Nat):∃ k:Int,((a % n:Nat):Int)=a+n * k:=⟨-(a / n:Nat),by
 have:=Nat.div_add_mod a n
 have h:(a:Int)=n * (a / n:Nat)+(a % n:Nat):=by exact_mod_cast this.symm
 rw[h]
 generalize ((a % n:Nat):Int)=x
 generalize ((a / n:Nat):Int)=y
 grind⟩
theorem zug {a b n:Nat} (hn:n≠0):∃ k:Int,((subM a b n:Nat):Int)=a - b+n * k:=by
 obtain⟨k1,h1⟩:=modc (a % n+n - b % n) n
 obtain⟨k2,h2⟩:=modc a n
 obtain⟨k3,h3⟩:=modc b n
 have hb:b % n < n:=Nat.mod_lt _ (by omega)
 have h4:((a % n+n - b % n:Nat):Int)=(a % n:Nat)+n - (b % n:Nat):=by omega
 refine⟨k1+k2 - k3+1,?_⟩
 unfold subM
 rw[h1,h4,h2,h3]
 grind
theorem zdk {a b n:Nat} (ha:a < n) (hb:b < n) {k:Int} (h:(a:Int)=b+n * k):a=b:=by
 have hk:k=0:=by
  rcases Int.lt_trichotomy k 0 with h1 | h1 | h1
  ·have:(n:Int) * k≤n * (-1):=Int.mul_le_mul_of_nonneg_left (by omega) (by omega)
   omega
  ·exact h1
  ·have:(n:Int) * 1≤n * k:=Int.mul_le_mul_of_nonneg_left (by omega) (by omega)
   omega
 subst hk
 omega
noncomputable def invN (a n:Nat):Nat:=by
 classical exact if h:∃ x,x < n∧a * x % n=1 % n then h.choose else 0
theorem zx0 {a n x:Nat} (h1:x < n) (h2:a * x % n=1 % n):invN a n=x:=by
 unfold invN
 have hx:∃ x,x < n∧a * x % n=1 % n:=⟨x,h1,h2⟩
 rw[dif_pos hx]
 obtain⟨y1,y2⟩:=hx.choose_spec
 generalize hx.choose=y at *
 have e1:y * (a * x) % n=y % n:=by rw[Nat.mul_mod,h2,←Nat.mul_mod,Nat.mul_one]
 have e2:x * (a * y) % n=x % n:=by rw[Nat.mul_mod,y2,←Nat.mul_mod,Nat.mul_one]
 have e3:y * (a * x)=x * (a * y):=by grind
 rw[e3,e2,Nat.mod_eq_of_lt h1,Nat.mod_eq_of_lt y1] at e1
 exact e1.symm
def EU (n x u v s t:Nat):Prop:=(∃ c:Int,(s:Int) * x - u=n * c)∧(∃ c:Int,(t:Int) * x - v=n * c)∧Nat.gcd u v=Nat.gcd x n
theorem EU_start (n x:Nat):EU n x n x 0 1:=⟨⟨-1,by grind⟩,⟨0,by grind⟩,Nat.gcd_comm _ _⟩
theorem EU_step {n x u v s t:Nat} (hn:n≠0) (h:EU n x u v s t):EU n x v (u % v) t (subM s (u / v * t % n) n):=by
 obtain⟨⟨c1,h1⟩,h2,h3⟩:=h
 refine⟨h2,?_,?_⟩
 ·obtain⟨c2,h2⟩:=h2
  obtain⟨k,hk⟩:=zug (a:=s) (b:=u / v * t % n) hn
  obtain⟨k2,hk2⟩:=modc (u / v * t) n
  have hu:(u:Int)=v * (u / v:Nat)+(u % v:Nat):=by exact_mod_cast (Nat.div_add_mod u v).symm
  have hm:((u / v * t:Nat):Int)=(u / v:Nat) * (t:Int):=Int.natCast_mul _ _
  rw[hm] at hk2
  refine⟨c1 - (u / v:Nat) * c2+k * x - k2 * x,?_⟩
  rw[hk,hk2]
  generalize ((u / v:Nat):Int)=q at *
  generalize ((u % v:Nat):Int)=r at *
  grind
 ·rw[←h3,Nat.gcd_comm u v,Nat.gcd_rec v u,Nat.gcd_comm]
theorem EU_end {n x u s t:Nat} (h:EU n x u 0 s t):u=Nat.gcd x n:=by
 have:=h.2.2
 simpa using this
theorem EU_inv {n x s t:Nat} (hn:n≠0) (h:EU n x 1 0 s t):invN x n=s % n:=by
 obtain⟨⟨c,hc⟩,_,_⟩:=h
 refine zx0 (Nat.mod_lt _ (by omega)) ?_
 obtain⟨k1,h1⟩:=modc (x * (s % n)) n
 obtain⟨k2,h2⟩:=modc s n
 obtain⟨k3,h3⟩:=modc 1 n
 rw[Int.natCast_mul,h2] at h1
 refine zdk (Nat.mod_lt _ (by omega)) (Nat.mod_lt _ (by omega)) (k:=c+x * k2+k1 - k3) ?_
 rw[h1,h3]
 push_cast
 grind
theorem zn3 {a n:Nat} (hn:n≠0) (hg:Nat.gcd a n=1):invN a n < n∧a * invN a n % n=1 % n:=by
 have key:∀ v u s t,EU n (a % n) u v s t→∃ s' t',EU n (a % n) (Nat.gcd (a % n) n) 0 s' t':=by
  intro v
  induction v using Nat.strongRecOn with
  | _ v ih =>
   intro u s t h
   by_cases hv:v=0
   ·subst hv; rw[←EU_end h]; exact⟨s,t,h⟩
   ·exact ih (u % v) (Nat.mod_lt _ (by omega)) v t _ (EU_step hn h)
 obtain⟨s,t,h⟩:=key _ _ _ _ (EU_start n (a % n))
 rw[←Nat.gcd_rec,Nat.gcd_comm,hg] at h
 have e:=EU_inv hn h
 have e2:invN a n=s % n:=by
  refine zx0 (Nat.mod_lt _ (by omega)) ?_
  obtain⟨⟨c,hc⟩,_,_⟩:=h
  obtain⟨k0,h0⟩:=modc a n
  obtain⟨k1,h1⟩:=modc (a * (s % n)) n
  obtain⟨k2,h2⟩:=modc s n
  obtain⟨k3,h3⟩:=modc 1 n
  rw[Int.natCast_mul,h2] at h1
  rw[h0] at hc
  refine zdk (Nat.mod_lt _ (by omega)) (Nat.mod_lt _ (by omega)) (k:=c - s * k0+a * k2+k1 - k3) ?_
  rw[h1,h3]
  push_cast at hc ⊢
  grind
 refine⟨by rw[e2]; exact Nat.mod_lt _ (by omega),?_⟩
 rw[e2]
 obtain⟨⟨c,hc⟩,_,_⟩:=h
 obtain⟨k0,h0⟩:=modc a n
 obtain⟨k1,h1⟩:=modc (a * (s % n)) n
 obtain⟨k2,h2⟩:=modc s n
 obtain⟨k3,h3⟩:=modc 1 n
 rw[Int.natCast_mul,h2] at h1
 rw[h0] at hc
 refine zdk (Nat.mod_lt _ (by omega)) (Nat.mod_lt _ (by omega)) (k:=c - s * k0+a * k2+k1 - k3) ?_
 rw[h1,h3]
 push_cast at hc ⊢
 grind
theorem zaz {n:Nat} {b:List UInt64} (h:n < val b):(toL n).length≤b.length:=z1t (Nat.lt_trans h (val_lt b))
def oddL (n:List UInt64):Bool:=decide (n.getD 0 0 % 2=1)
theorem zjx (n:List UInt64):oddL n=(val n).testBit 0:=by
 have h:=limb_at n 0
 have e:(n.getD 0 0 % 2=1)↔(n.getD 0 0).toNat % 2=1:=by
  constructor
  ·intro h; simpa using congrArg UInt64.toNat h
  ·intro h; apply UInt64.toNat_inj.1; simpa using h
 unfold oddL
 rw[Nat.testBit_zero]
 simp only[e,h]
 simp
theorem zjh {n:List UInt64} (h:oddL n=true):val n % 2=1:=by
 rw[zjx,Nat.testBit_zero] at h
 simpa using h
theorem zp3 {n:List UInt64} (h:oddL n=true):val n≠0:=by
 have:=zjh h
 omega
def rdE (l:Int) (n:Nat):Int:=if l < 0∨512 < l then 2 else mE n
def rdR (l:Int) (n:Nat):List UInt64:=if l < 0∨512 < l then [] else mR n (2 ^ (64 * l.toNat) % n)
noncomputable def reR (t n:List UInt64) (l:Int):List UInt64:=if oddL n=true∧0≤l∧l≤512 then toL (val t * invN (2 ^ (64 * l.toNat) % val n) (val n) % val n) else []
theorem zk7 {n:Nat} (h:n % 2=1) (k:Nat):Nat.gcd (2 ^ k) n=1:=by
 have h2:Nat.Coprime 2 n:=by
  unfold Nat.Coprime
  rw[Nat.gcd_rec,h]
  decide
 exact h2.pow_left k
theorem zbb {n:Nat} (h:n % 2=1) (k:Nat):Nat.gcd (2 ^ k % n) n=1:=by
 rw[←Nat.gcd_rec,Nat.gcd_comm]; exact zk7 h k
theorem zsv (l:Nat):val (List.replicate l 0++[1])=2 ^ (64 * l):=by
 rw[val_append,val_rep0,zoh]; simp
end Go.Sv
namespace Go.Sv
theorem z05 {l:List LV} {i:Nat} {v:LV} {K:LV→Prop} (h:l[i]?=some v):nthL l i K=K v:=by simp[nthL,h]
theorem za4 {α:Type} {f:α→LV} {l:List α} {i:Nat} {a:α} (h:l[i]?=some a):(l.map f)[i]?=some (f a):=by simp[h]
mutual
theorem bor_self {G:z03} (v:LV) (h:v.dat=true):bor G v v:=by
 cases v with
 | agg l=>simp only[LV.dat] at h; exact⟨l,rfl,bors_self l h⟩
 | nilSl=>exact .inl rfl
 | dy p k=>simp[LV.dat] at h
 | vw p k lo len=>simp[LV.dat] at h
 | _=>exact⟨rfl,h⟩
termination_by SizeOf.sizeOf v
theorem bors_self {G:z03} (l:List LV) (h:dats l=true):bors G l l:=by
 cases l with
 | nil=>rfl
 | cons v l =>
  simp only[dats,Bool.and_eq_true] at h
  exact⟨v,l,rfl,bor_self v h.1,bors_self l h.2⟩
termination_by SizeOf.sizeOf l
end
def ixZ {α:Type} (p:α→Bool) (l:List α):Int:=if l.findIdx p < l.length then (l.findIdx p:Int) else -1
theorem ixZ_at {α:Type} {p:α→Bool} {l:List α} {i:Nat} {a:α} (h:l[i]?=some a) (hp:p a=true) (hn:∀ j b,j < i→l[j]?=some b→p b=false):ixZ p l=i:=by
 obtain⟨hi,rfl⟩:=List.getElem?_eq_some_iff.1 h
 have:l.findIdx p=i:=(List.findIdx_eq hi).2 ⟨hp,fun j hj=>hn j _ hj (List.getElem?_eq_getElem _)⟩
 rw[ixZ,this,if_pos hi]
theorem zql {α:Type} {p:α→Bool} {l:List α} {i:Nat} (hi:l.length≤i) (hn:∀ j b,j < i→l[j]?=some b→p b=false):ixZ p l=-1:=by
 have:l.findIdx p=l.length:=List.findIdx_eq_length.2 fun a ha=>by
  obtain⟨j,hj,rfl⟩:=List.mem_iff_getElem.1 ha
  exact hn j _ (by omega) (List.getElem?_eq_getElem _)
 rw[ixZ,this,if_neg (by omega)]
theorem zv7 {α:Type} (p:α→Bool) (l:List α):decide (0≤ixZ p l)=l.any p:=by
 unfold ixZ
 by_cases h:l.findIdx p < l.length
 ·rw[if_pos h,decide_eq_true (by omega)]
  exact (List.any_eq_true.2 ⟨_,List.getElem_mem h,List.findIdx_getElem⟩).symm
 ·rw[if_neg h,decide_eq_false (by omega)]
  have h2:=List.findIdx_eq_length.1 (show l.findIdx p=l.length by have:=List.findIdx_le_length (p:=p) (xs:=l); omega)
  exact (List.any_eq_false.2 fun x hx=>by simp[h2 x hx]).symm
end Go.Sv
namespace Go.Sv
theorem lay_set (l:List Int) (j:Nat) (x:Int) (h:j < l.length):z0w (l.map .i) j [.i x]=(l.set j x).map .i:=by
 unfold z0w
 rw[List.set_eq_take_append_cons_drop,if_pos h]
 simp[List.map_take,List.map_drop]
def gd (l:List Int) (u:Nat):Int:=l.getD u 0
theorem gd_set (l:List Int) (j u:Nat) (x:Int) (h:j < l.length):gd (l.set j x) u=if u=j then x else gd l u:=by
 simp only[gd,List.getD_eq_getElem?_getD,List.getElem?_set]
 by_cases e:j=u
 ·subst e; simp[h]
 ·simp[e,Ne.symm e]
theorem zal {l:List Int} {u:Nat} (h:u < l.length):l[u]?=some (gd l u):=by simp[gd,List.getD_eq_getElem?_getD,h]
def strict (l:List Int) (m:Nat):Prop:=∀ u v,u < v→v < m→gd l u < gd l v
structure Cmp (l0 l:List Int) (m d:Nat):Prop where
 len:l.length=l0.length
 m1:1≤m
 md:m≤d
 st:strict l m
 mem:∀ x,(∃ u,u < m∧gd l u=x)↔∃ u,u < d∧gd l0 u=x
 last:gd l (m - 1)=gd l0 (d - 1)
 rest:∀ u,d - 1≤u→gd l u=gd l0 u∨u < m
theorem lay_take {a r:List LV} {m:Nat} (h:m≤a.length):(z0w a m r).take m=a.take m:=by
 unfold z0w
 rw[List.append_assoc,List.take_append_of_le_length (by rw[List.length_take]; omega),List.take_take,Nat.min_self]
theorem zsg {a r:List LV} {m:Nat} (h:m+r.length=a.length):(z0w a m r).length=a.length:=by
 unfold z0w; simp; omega
theorem zqa {v:LV} (h:v.dat=true):∀ n,dats (repL [v] n)=true
 | 0=>rfl
 | n+1=>by simp[repL,dats,h,zqa h n]
end Go.Sv
namespace Go.Sv
theorem zpp {α:Type} {f:α→List LV} {k:Nat} (hf:∀ a,(f a).length=k):∀ l:List α,(l.flatMap f).length=l.length * k
 | []=>by simp
 | a::l=>by rw[List.flatMap_cons,List.length_append,zpp hf l,hf,List.length_cons,Nat.add_mul]; omega
theorem zux {α:Type} {f:α→List LV} {k:Nat} (hf:∀ a,(f a).length=k):∀ (l:List α) (i:Nat),(l.flatMap f).drop (i * k)=(l.drop i).flatMap f
 | _,0=>by simp
 | [],i+1=>by simp
 | a::l,i+1=>by
  rw[List.flatMap_cons,List.drop_append,hf,show (i+1) * k - k=i * k by rw[Nat.add_mul]; omega,zux hf l i]
  rw[List.drop_of_length_le (by rw[hf,Nat.add_mul]; omega)]; rfl
theorem zdu {α:Type} {f:α→List LV} {k:Nat} (hf:∀ a,(f a).length=k) {l:List α} {i:Nat} {a:α} (h:l[i]?=some a):((l.flatMap f).drop (i * k)).take k=f a:=by
 rw[zux hf]
 obtain⟨hi,rfl⟩:=List.getElem?_eq_some_iff.1 h
 rw[List.drop_eq_getElem_cons hi,List.flatMap_cons,List.take_append_of_le_length (by rw[hf]; exact Nat.le_refl _),List.take_of_length_le (by rw[hf]; exact Nat.le_refl _)]
theorem zou {α:Type} {f:α→List LV} {k:Nat} (hf:∀ a,(f a).length=k) {l:List α} {i:Nat} {a:α} (h:l[i]?=some a) {j:Nat} (hj:j < k):(l.flatMap f)[i * k+j]?=(f a)[j]?:=by
 rw[←List.getElem?_drop,←zdu hf h,List.getElem?_take_of_lt hj]
theorem zc0 {α:Type} {f:α→List LV} (hf:∀ a,dats (f a)=true):∀ l:List α,dats (l.flatMap f)=true
 | []=>rfl
 | a::l=>by rw[List.flatMap_cons]; exact dats_app (hf a) (zc0 hf l)
theorem zty {α:Type} {f:α→List LV} {k:Nat} (hf:∀ a,(f a).length=k) {l:List α} {i:Nat} (h:i < l.length):i * k+k≤(l.flatMap f).length:=by
 rw[zpp hf,←Nat.succ_mul]; exact Nat.mul_le_mul_right _ h
structure Vr where
 limbs:Int
 sec:Bool
 mode:Int
structure Ko where
 kind:Int
 d:Int
 e:Int
 a:Int
 b:Int
 c:Int
 imm:UInt64
def Vr.f (v:Vr):List LV:=[.i v.limbs,.bool v.sec,.i v.mode]
def Ko.f (o:Ko):List LV:=[.i o.kind,.i o.d,.i o.e,.i o.a,.i o.b,.i o.c,.u o.imm]
def vsC (l:List Vr):List LV:=l.flatMap Vr.f
def osC (l:List Ko):List LV:=l.flatMap Ko.f
theorem Vr.f_len (v:Vr):v.f.length=3:=rfl
theorem Ko.f_len (o:Ko):o.f.length=7:=rfl
theorem osC_len (l:List Ko):(osC l).length=l.length * 7:=zpp Ko.f_len l
theorem z1f (l:List Vr):dats (vsC l)=true:=zc0 (fun _=>rfl) l
theorem zb2 (l:List Ko):dats (osC l)=true:=zc0 (fun _=>rfl) l
theorem zcm {l:List Vr} {i:Nat} {v:Vr} (h:l[i]?=some v):((vsC l).drop (i * 3)).take 3=v.f:=zdu Vr.f_len h
theorem zqx {l:List Ko} {i:Nat} {v:Ko} (h:l[i]?=some v):((osC l).drop (i * 7)).take 7=v.f:=zdu Ko.f_len h
theorem zqf {l:List Vr} {i:Nat} {v:Vr} (h:l[i]?=some v):(vsC l)[i * 3]?=some (.i v.limbs):=by have:=zou Vr.f_len h (j:=0) (by omega); simpa [vsC,Vr.f] using this
theorem zw1 {l:List Vr} {i:Nat} {v:Vr} (h:l[i]?=some v):(vsC l)[i * 3+1]?=some (.bool v.sec):=by have:=zou Vr.f_len h (j:=1) (by omega); simpa [vsC,Vr.f] using this
theorem vs_at2 {l:List Vr} {i:Nat} {v:Vr} (h:l[i]?=some v):(vsC l)[i * 3+2]?=some (.i v.mode):=by have:=zou Vr.f_len h (j:=2) (by omega); simpa [vsC,Vr.f] using this
theorem zsl {l:List Vr} {i:Nat} (h:i < l.length):i * 3+3≤(vsC l).length:=zty Vr.f_len h
theorem os_lt {l:List Ko} {i:Nat} (h:i < l.length):i * 7+7≤(osC l).length:=zty Ko.f_len h
def gv (l:List Vr) (n:Nat):Vr:=l.getD n ⟨0,false,0⟩
def go (l:List Ko) (n:Nat):Ko:=l.getD n ⟨0,0,0,0,0,0,0⟩
def gb (l:List Bool) (n:Nat):Bool:=l.getD n false
theorem zbw {l:List Vr} {n:Nat} (h:n < l.length):l[n]?=some (gv l n):=by simp[gv,List.getD_eq_getElem?_getD,h]
theorem zu6 {l:List Ko} {n:Nat} (h:n < l.length):l[n]?=some (go l n):=by simp[go,List.getD_eq_getElem?_getD,h]
theorem at_gb {l:List Bool} {n:Nat} (h:n < l.length):l[n]?=some (gb l n):=by simp[gb,List.getD_eq_getElem?_getD,h]
theorem zo8 {l:List Vr} {n:Nat} (h:n < l.length):l.drop n=gv l n::l.drop (n+1):=by
 rw[List.drop_eq_getElem_cons h]; congr 1
 have:=zbw h; rw[List.getElem?_eq_getElem h] at this; exact Option.some.inj this
theorem drop_go {l:List Ko} {n:Nat} (h:n < l.length):l.drop n=go l n::l.drop (n+1):=by
 rw[List.drop_eq_getElem_cons h]; congr 1
 have:=zu6 h; rw[List.getElem?_eq_getElem h] at this; exact Option.some.inj this
def z2v (v:Vr):Bool:=decide (v.mode=1) || decide (v.mode=2)
def zhv (v:Vr):Bool:=decide (v.limbs < 1) || (decide (512 < v.limbs) || (decide (v.mode < 0) || decide (3 < v.mode)))
def vgo:Nat→Nat→List Vr→Option Nat
 | _,p,[]=>some p
 | i,p,v::l=>if zhv v=true then none else if v.mode=0 then vgo (i+1) p l else if p < i∨v.sec=decide (v.mode=1) then none else vgo (i+1) (p+1) l
def z81 (l:List Vr):Bool:=match vgo 0 0 l with
 | none=>false
 | some p=>decide (1≤l.length) && (decide (l.length≤256) && decide (p≤12))
def z6q (n:Nat) (v:Int):Bool:=decide (0≤v) && decide (v < n)
def zb7 (n:Nat) (o:Ko):Bool :=
 decide (o.d=-1) && (decide (o.e=-1) && (decide (o.c=-1) && (z6q n o.a && (if o.imm=2 then z6q n o.b else (decide (o.imm=1) || decide (o.imm=3)) && decide (o.b=-1)))))
def z1v (k:Int):Option Nat :=
 if k=1 then some 1 else if k=2 then some 5 else if k=3∨k=4∨k=5∨k=6∨k=7 then some 13 else if k=8∨k=10∨k=11∨k=12∨k=13 then some 29 else if k=9 then some 21 else if k=14 then some 19 else if k=15∨k=16 then some 0 else none
def numB (o:Ko):Bool:=if o.kind=1 then true else if o.kind=13 then decide (1≤o.imm) && decide (o.imm≤6) else if o.kind=15 then decide (1≤o.imm) && decide (o.imm≤4096) else decide (o.imm=0)
def z3f (n s i:Nat) (v:Int):Bool:=if s.testBit i=true then z6q n v else decide (v=-1)
def z76 (n s:Nat) (o:Ko):Bool:=z3f n s 0 o.d && (z3f n s 1 o.e && (z3f n s 2 o.a && (z3f n s 3 o.b && z3f n s 4 o.c)))
def z34 (o:Ko):List Int:=[o.a,o.b,o.c].filter (fun v=>!decide (v < 0))++if o.kind=14 then [o.d,o.e] else []
def secB (vs:List Vr) (o:Ko):Bool:=(z34 o).any fun v=>(gv vs v.toNat).sec
def zb5 (vs:List Vr) (sec:Bool) (v:Int):Bool:=decide (v < 0) || !(z2v (gv vs v.toNat) || (sec && !(gv vs v.toNat).sec))
def z2m (o:Ko):List Int :=
 if o.kind=6 then [o.a,o.b] else if o.kind=14 then [o.d,o.e] else if o.kind=8 then [o.d,o.a,o.b] else if o.kind=9 then [o.d,o.c] else if o.kind=10∨o.kind=11∨o.kind=12 then [o.d,o.a,o.b,o.c] else if o.kind=13 then [o.d,o.a,o.c] else []
def z32 (vs:List Vr) (v:Int):Int:=(gv vs v.toNat).limbs
def zd4 (vs:List Vr) (o:Ko):Bool:=(z2m o).all fun v=>decide (z32 vs v=z32 vs ((z2m o).headD 0))
def oneB (vs:List Vr) (o:Ko):Bool :=
 if o.kind=17 then zb7 vs.length o else match z1v o.kind with
 | none=>false
 | some s=>numB o && (z76 vs.length s o && (zb5 vs (secB vs o) o.d && (zb5 vs (secB vs o) o.e && ((decide (o.e < 0) || !decide (o.d=o.e)) && zd4 vs o))))
def dl (k:Int):Int:=if k=15 then 1 else if k=16 then -1 else 0
def z8t (m:List Bool) (o:Ko):List Bool:=if 0≤o.d then m.set o.d.toNat true else m
def z9g (m:List Bool) (o:Ko):Bool:=(z34 o).all fun v=>gb m v.toNat
def ogo (vs:List Vr):List Bool→Int→List Ko→Option (List Bool×Int)
 | m,dp,[]=>some (m,dp)
 | m,dp,o::l=>if (oneB vs o && (z9g m o && (decide (0≤dp+dl o.kind) && decide (dp+dl o.kind≤4))))=true then ogo vs (z8t m o) (dp+dl o.kind) l else none
def outB (vs:List Vr) (v:Int):Bool:=decide (0≤v) && decide ((gv vs v.toNat).mode=3)
def reqB (vs:List Vr) (o:Ko):Bool:=decide (o.kind=17) && (zb7 vs.length o && (!outB vs o.a && !outB vs o.b))
def z7b (vs:List Vr) (m:List Bool):Bool:=(List.range vs.length).all fun i=>!decide ((gv vs i).mode=3) || gb m i
def z7a (vs:List Vr):List Bool:=vs.map z2v
def chkB (vs:List Vr) (os rs:List Ko):Bool :=
 z81 vs && (decide (os.length≤4096) && (decide (rs.length≤4096) && (rs.all (reqB vs) && (match ogo vs (z7a vs) 0 os with
  | none=>false
  | some (m,dp)=>z7b vs m && decide (dp=0)))))
def chkE (vs:List Vr) (os rs:List Ko):Int:=if chkB vs os rs=true then 0 else 2
theorem zmx {p:Int→Bool} {l:List Int} {j:Nat} (h:j < l.length):(l.take (j+1)).filter (fun v=>!p v)=(l.take j).filter (fun v=>!p v)++if p (gd l j)=true then [] else [gd l j]:=by
 have e:l[j]=gd l j:=by simp[gd,List.getD_eq_getElem?_getD,h]
 rw[List.take_succ_eq_append_getElem h,List.filter_append,e]
 congr 1
 cases hp:p (gd l j) <;> simp[hp]
theorem zw3 (p:Int→Bool) (l:List Int):(ixZ p l=-1∧l.filter (fun v=>!p v)=l)∨∃ i:Nat,ixZ p l=i∧i < l.length∧(l.take (i+1)).filter (fun v=>!p v)=l.take i:=by
 unfold ixZ
 by_cases h:l.findIdx p < l.length
 ·rw[if_pos h]
  refine .inr ⟨_,rfl,h,?_⟩
  have hp:p l[l.findIdx p]=true:=List.findIdx_getElem
  have e:l[l.findIdx p]=gd l (l.findIdx p):=by simp[gd,List.getD_eq_getElem?_getD,h]
  rw[zmx h,←e,if_pos hp,List.append_nil,List.filter_eq_self]
  intro a ha
  obtain⟨j,hj,rfl⟩:=List.mem_iff_getElem.1 ha
  rw[List.getElem_take]
  rw[List.length_take] at hj
  have:=List.not_of_lt_findIdx (p:=p) (xs:=l) (i:=j) (by omega)
  simpa using this
 ·rw[if_neg h]
  refine .inl ⟨rfl,?_⟩
  rw[List.filter_eq_self]
  intro a ha
  have h2:=List.findIdx_eq_length.1 (show l.findIdx p=l.length by have:=List.findIdx_le_length (p:=p) (xs:=l); omega)
  simp[h2 a ha]
theorem zok {c:List Int} {i j:Nat} {x:Int} (h:i < c.length) (hj:i < j) (u:Nat) (hu:j≤u):gd (c.set i x) u=gd c u:=by
 rw[gd_set _ _ _ _ h,if_neg (by omega)]
theorem zka {c:List Int} {i:Nat} {x:Int} (h:i < c.length):(c.set i x).take (i+1)=c.take i++[x]:=by
 rw[List.take_succ_eq_append_getElem (by simpa using h),List.getElem_set_self,List.take_set_of_le (Nat.le_refl _)]
theorem z5i {n:Nat} {v:Int}:z6q n v=true↔0≤v∧v < n:=by simp[z6q]
theorem z9t {n s i:Nat} {v:Int} (h:z3f n s i v=true):v=-1∨(0≤v∧v < n):=by
 unfold z3f at h
 split at h
 ·exact .inr (z5i.1 h)
 ·exact .inl (of_decide_eq_true h)
theorem z12 {n s i:Nat} {v:Int} (h:z3f n s i v=true) (hb:s.testBit i=true):0≤v∧v < n:=by
 rw[z3f,if_pos hb] at h; exact z5i.1 h
theorem zlg {n s i:Nat} {v:Int} (h:z3f n s i v=true) (hb:s.testBit i=false):v=-1:=by
 rw[z3f,if_neg (by simp[hb])] at h; exact of_decide_eq_true h
theorem zg3 {k:Int} {s:Nat} (h:z1v k=some s):(k=1∧s=1)∨(k=2∧s=5)∨((k=3∨k=4∨k=5∨k=6∨k=7)∧s=13)∨((k=8∨k=10∨k=11∨k=12∨k=13)∧s=29)∨(k=9∧s=21)∨(k=14∧s=19)∨((k=15∨k=16)∧s=0):=by
 unfold z1v at h
 repeat' split at h
 all_goals first | (cases h; done) | (cases h; simp_all)
structure PartsIn (n:Nat) (o:Ko):Prop where
 d:o.d=-1∨(0≤o.d∧o.d < n)
 e:o.e=-1∨(0≤o.e∧o.e < n)
 takes:∀ v∈z34 o,0≤v∧v < n
 alike:∀ v∈z2m o,0≤v∧v < n
 swap:o.kind=14→o.a=-1∧o.b=-1
theorem zpj {n s:Nat} {o:Ko} (hs:z1v o.kind=some s) (h:z76 n s o=true):PartsIn n o:=by
 simp only[z76,Bool.and_eq_true] at h
 obtain⟨hd,he,ha,hb,hc⟩:=h
 have three:∀ v∈[o.a,o.b,o.c].filter (fun v=>!decide (v < 0)),0≤v∧v < n:=by
  intro v hv
  obtain⟨h1,h2⟩:=List.mem_filter.1 hv
  simp at h2
  simp only[List.mem_cons,List.not_mem_nil,or_false] at h1
  rcases h1 with rfl | rfl | rfl
  ·rcases z9t ha with e | e <;> omega
  ·rcases z9t hb with e | e <;> omega
  ·rcases z9t hc with e | e <;> omega
 have hk:=zg3 hs
 refine⟨z9t hd,z9t he,fun v hv=>?_,fun v hv=>?_,fun h14=>?_⟩
 ·rcases List.mem_append.1 hv with h1 | h1
  ·exact three v h1
  ·split at h1
   ·rename_i h14
    have es:s=19:=by omega
    subst es
    simp only[List.mem_cons,List.not_mem_nil,or_false] at h1
    rcases h1 with rfl | rfl
    ·exact z12 hd (by decide)
    ·exact z12 he (by decide)
   ·cases h1
 ·unfold z2m at hv
  split at hv
  ·have es:s=13:=by omega
   subst es
   simp only[List.mem_cons,List.not_mem_nil,or_false] at hv
   rcases hv with rfl | rfl
   ·exact z12 ha (by decide)
   ·exact z12 hb (by decide)
  split at hv
  ·have es:s=19:=by omega
   subst es
   simp only[List.mem_cons,List.not_mem_nil,or_false] at hv
   rcases hv with rfl | rfl
   ·exact z12 hd (by decide)
   ·exact z12 he (by decide)
  split at hv
  ·have es:s=29:=by omega
   subst es
   simp only[List.mem_cons,List.not_mem_nil,or_false] at hv
   rcases hv with rfl | rfl | rfl
   ·exact z12 hd (by decide)
   ·exact z12 ha (by decide)
   ·exact z12 hb (by decide)
  split at hv
  ·have es:s=21:=by omega
   subst es
   simp only[List.mem_cons,List.not_mem_nil,or_false] at hv
   rcases hv with rfl | rfl
   ·exact z12 hd (by decide)
   ·exact z12 hc (by decide)
  split at hv
  ·have es:s=29:=by omega
   subst es
   simp only[List.mem_cons,List.not_mem_nil,or_false] at hv
   rcases hv with rfl | rfl | rfl | rfl
   ·exact z12 hd (by decide)
   ·exact z12 ha (by decide)
   ·exact z12 hb (by decide)
   ·exact z12 hc (by decide)
  split at hv
  ·have es:s=29:=by omega
   subst es
   simp only[List.mem_cons,List.not_mem_nil,or_false] at hv
   rcases hv with rfl | rfl | rfl
   ·exact z12 hd (by decide)
   ·exact z12 ha (by decide)
   ·exact z12 hc (by decide)
  ·cases hv
 ·have es:s=19:=by omega
  subst es
  exact⟨zlg ha (by decide),zlg hb (by decide)⟩
theorem zsm {n:Nat} {o:Ko} (hk:o.kind=17) (h:zb7 n o=true):PartsIn n o:=by
 simp only[zb7,Bool.and_eq_true,decide_eq_true_eq] at h
 obtain⟨hd,he,hc,ha,hb⟩:=h
 have ha:=z5i.1 ha
 have hb:o.b=-1∨(0≤o.b∧o.b < n):=by
  split at hb
  ·exact .inr (z5i.1 hb)
  ·simp only[Bool.and_eq_true,decide_eq_true_eq] at hb; exact .inl hb.2
 refine⟨.inl hd,.inl he,fun v hv=>?_,fun v hv=>?_,fun h14=>by omega⟩
 ·unfold z34 at hv
  rw[if_neg (by omega),List.append_nil] at hv
  obtain⟨h1,h2⟩:=List.mem_filter.1 hv
  simp at h2
  simp only[List.mem_cons,List.not_mem_nil,or_false] at h1
  rcases h1 with rfl | rfl | rfl
  ·omega
  ·rcases hb with e | e <;> omega
  ·omega
 ·unfold z2m at hv
  rw[if_neg (by omega),if_neg (by omega),if_neg (by omega),if_neg (by omega),if_neg (by omega),if_neg (by omega)] at hv
  cases hv
theorem one_in {vs:List Vr} {o:Ko} (h:oneB vs o=true):PartsIn vs.length o:=by
 unfold oneB at h
 split at h
 ·rename_i hk
  exact zsm hk h
 ·split at h
  ·cases h
  ·rename_i s hs
   simp only[Bool.and_eq_true] at h
   exact zpj hs h.2.1
def ptL (o:Ko):List Int:=[o.d,o.e,o.a,o.b,o.c]
theorem zrq {n s:Nat} {o:Ko} (h:∀ j < 5,z3f n s j (gd (ptL o) j)=true):z76 n s o=true:=by
 simp only[z76,Bool.and_eq_true]
 exact⟨h 0 (by omega),h 1 (by omega),h 2 (by omega),h 3 (by omega),h 4 (by omega)⟩
theorem zti {n s:Nat} {o:Ko} {j:Nat} (hj:j < 5) (h:z3f n s j (gd (ptL o) j)=false):z76 n s o=false:=by
 cases hp:z76 n s o with
 | false=>rfl
 | true =>
  simp only[z76,Bool.and_eq_true] at hp
  have:j=0∨j=1∨j=2∨j=3∨j=4:=by omega
  rcases this with rfl | rfl | rfl | rfl | rfl
  ·exact absurd hp.1 (by rw[show o.d=gd (ptL o) 0 from rfl,h]; simp)
  ·exact absurd hp.2.1 (by rw[show o.e=gd (ptL o) 1 from rfl,h]; simp)
  ·exact absurd hp.2.2.1 (by rw[show o.a=gd (ptL o) 2 from rfl,h]; simp)
  ·exact absurd hp.2.2.2.1 (by rw[show o.b=gd (ptL o) 3 from rfl,h]; simp)
  ·exact absurd hp.2.2.2.2 (by rw[show o.c=gd (ptL o) 4 from rfl,h]; simp)
theorem zve {k:Int} {s:Nat} (h:z1v k=some s):s < 32:=by rcases zg3 h with h | h | h | h | h | h | h <;> omega
theorem bit_test (s i:Nat):((s:Int) / 2 ^ i % 2=1)↔s.testBit i=true:=by
 rw[Nat.testBit_eq_decide_div_mod_eq,decide_eq_true_eq]
 constructor
 ·intro h
  have:((s / 2 ^ i % 2:Nat):Int)=1:=by push_cast; exact h
  omega
 ·intro h
  have:((s / 2 ^ i % 2:Nat):Int)=1:=by omega
  push_cast at this; exact this
end Go.Sv
namespace Go.Sv
inductive Fr (α:Type) where
 | nil
 | op (o:α) (r:Fr α)
 | loop (o:α) (b:Fr α) (e:α) (r:Fr α)
section tree
variable {α : Type}
def Fr.flat:Fr α→List α
 | .nil=>[]
 | .op o r=>o::r.flat
 | .loop o b e r=>o::(b.flat++e::r.flat)
def Fr.size:Fr α→Nat
 | .nil=>0
 | .op _ r=>r.size+1
 | .loop _ b _ r=>b.size+r.size+2
theorem Fr.flat_len:∀ f:Fr α,f.flat.length=f.size
 | .nil=>rfl
 | .op _ r=>by simp[flat,size,flat_len r]
 | .loop _ b _ r=>by simp[flat,size,flat_len b,flat_len r]; omega
def Fr.wf (kd:α→Nat):Fr α→Prop
 | .nil=>True
 | .op o r=>kd o=0∧r.wf kd
 | .loop o b e r=>kd o=1∧kd e=2∧b.wf kd∧r.wf kd
def bal (kd:α→Nat):Nat→List α→Prop
 | d,[]=>d=0
 | d,o::l=>if kd o=1 then bal kd (d+1) l else if kd o=2 then 0 < d∧bal kd (d - 1) l else kd o=0∧bal kd d l
theorem parse {kd:α→Nat}:∀ (n:Nat) (l:List α) (d:Nat),l.length≤n→bal kd d l→∃ (f:Fr α) (rest:List α),f.wf kd∧l=f.flat++rest∧((d=0∧rest=[])∨∃ (e:α) (rest':List α) (d':Nat),d=d'+1∧rest=e::rest'∧kd e=2∧bal kd d' rest')
 | _,[],d,_,h=>⟨.nil,[],trivial,rfl,.inl ⟨h,rfl⟩⟩
 | n+1,o::l,d,hn,h=>by
  have hn':l.length≤n:=by simpa using hn
  unfold bal at h
  by_cases h1:kd o=1
  ·rw[if_pos h1] at h
   obtain⟨f1,r1,w1,e1,q1⟩:=parse n l (d+1) hn' h
   rcases q1 with ⟨q,_⟩ | ⟨e,r2,d',hd,rfl,ke,hb⟩
   ·omega
   obtain rfl:d=d':=by omega
   have hl2:r2.length≤n:=by rw[e1] at hn'; simp at hn'; omega
   obtain⟨f2,r3,w2,e2,q2⟩:=parse n r2 d hl2 hb
   refine⟨.loop o f1 e f2,r3,⟨h1,ke,w1,w2⟩,by rw[e1,e2]; simp[Fr.flat],q2⟩
  ·rw[if_neg h1] at h
   by_cases h2:kd o=2
   ·rw[if_pos h2] at h
    exact⟨.nil,o::l,trivial,rfl,.inr ⟨o,l,d - 1,by omega,rfl,h2,h.2⟩⟩
   ·rw[if_neg h2] at h
    obtain⟨f1,r1,w1,e1,q1⟩:=parse n l d hn' h.2
    exact⟨.op o f1,r1,⟨h.1,w1⟩,by rw[e1]; rfl,q1⟩
theorem tree_of {kd:α→Nat} {l:List α} (h:bal kd 0 l):∃ f:Fr α,f.wf kd∧l=f.flat:=by
 obtain⟨f,r,w,e,q⟩:=parse l.length l 0 (Nat.le_refl _) h
 rcases q with ⟨_,rfl⟩ | ⟨_,_,_,h,_⟩
 ·exact⟨f,w,by simpa using e⟩
 ·omega
def Fr.ends:Nat→Fr α→List Int
 | _,.nil=>[]
 | i,.op _ r=>-1::r.ends (i+1)
 | i,.loop _ b _ r=>((i+b.size+1:Nat):Int)::(b.ends (i+1)++(i:Int)::r.ends (i+b.size+2))
theorem Fr.ends_len:∀ (f:Fr α) (i:Nat),(f.ends i).length=f.size
 | .nil,_=>rfl
 | .op _ r,i=>by simp[ends,size,ends_len r]
 | .loop _ b _ r,i=>by simp[ends,size,ends_len b,ends_len r]; omega
end tree
def kdK (o:Ko):Nat:=if o.kind=15 then 1 else if o.kind=16 then 2 else 0
theorem zke {vs:List Vr}:∀ (l:List Ko) (m m':List Bool) (d:Nat),ogo vs m d l=some (m',0)→bal kdK d l
 | [],m,m',d,h=>by
  unfold ogo at h
  cases h
  unfold bal; rfl
 | o::l,m,m',d,h=>by
  unfold ogo at h
  split at h
  ·rename_i hc
   simp only[Bool.and_eq_true,decide_eq_true_eq] at hc
   obtain⟨_,_,h0,h4⟩:=hc
   unfold bal
   by_cases k1:o.kind=15
   ·rw[if_pos (by simp[kdK,k1])]
    rw[dl,if_pos k1] at h
    exact zke l _ m' (d+1) (by simpa using h)
   ·rw[if_neg (by simp[kdK,k1]; split <;> simp)]
    by_cases k2:o.kind=16
    ·rw[if_pos (by simp[kdK,k2])]
     rw[dl,if_neg k1,if_pos k2] at h h0
     refine⟨by omega,zke (vs:=vs) l (z8t m o) m' (d - 1) ?_⟩
     rw[show ((d - 1:Nat):Int)=(d:Int)+-1 by omega]; exact h
    ·rw[if_neg (by simp[kdK,k1,k2])]
     rw[dl,if_neg k1,if_neg k2] at h
     exact⟨by simp[kdK,k1,k2],zke l _ m' d (by simpa using h)⟩
  ·cases h
end Go.Sv
namespace Go.Sv
abbrev Sp:=Int×Int
def Fr.tops {α:Type}:Nat→Fr α→List Sp
 | _,.nil=>[]
 | i,.op _ r=>r.tops (i+1)
 | i,.loop _ b _ r=>((i:Int),((i+b.size+1:Nat):Int))::r.tops (i+b.size+2)
def gs (l:List Sp) (n:Nat):Sp:=l.getD n (0,0)
structure Left (os:List Ko) (es:List Int) (T0:List Sp) (i:Nat) (r:Fr Ko) (T:List Sp):Prop where
 os:os.drop i=r.flat
 es:es.drop i=r.ends i
 wf:r.wf kdK
 tops:T0=T++r.tops i
end Go.Sv
namespace Go.Sv
def kop (k d:Int):Ko:=⟨k,d,-1,-1,-1,-1,0⟩
def z2s:Nat→List Vr→List Ko
 | _,[]=>[]
 | i,v::l=>if z2v v=true then z2s (i+1) l else kop 1 i::z2s (i+1) l
theorem startOs_len:∀ (l:List Vr) (i:Nat),(z2s i l).length≤l.length
 | [],_=>by simp[z2s]
 | v::l,i=>by
  have:=startOs_len l (i+1)
  unfold z2s
  split <;> simp <;> omega
def zns (k:Int):Bool:=decide (k=15) || decide (k=16)
def mayB (vs:List Vr) (o:Ko):Bool:=!zns o.kind && chkB vs (z2s 0 vs++[o]) []
theorem zw7 (vs:List Vr):∀ (l1 l2:List Ko) (m m':List Bool) (d d':Int),ogo vs m d l1=some (m',d')→ogo vs m d (l1++l2)=ogo vs m' d' l2
 | [],l2,m,m',d,d',h=>by cases h; rfl
 | o::l1,l2,m,m',d,d',h=>by
  unfold ogo at h
  split at h
  ·rename_i hc
   rw[List.cons_append,ogo,if_pos hc]
   exact zw7 vs l1 l2 _ m' _ d' h
  ·cases h
theorem zwj {vs:List Vr} {i:Nat} (h:i < vs.length) (hg:z2v (gv vs i)=false):oneB vs (kop 1 i)=true:=by
 have e:z6q vs.length (i:Int)=true:=z5i.2 ⟨by omega,by omega⟩
 have t1:Nat.testBit 1 1=false:=by decide
 have t2:Nat.testBit 1 2=false:=by decide
 have t3:Nat.testBit 1 3=false:=by decide
 have t4:Nat.testBit 1 4=false:=by decide
 simp[oneB,kop,z1v,numB,z76,z3f,e,zb5,hg,secB,z34,zd4,z2m,t1,t2,t3,t4]
theorem zue (m:List Bool) (i j:Nat) (hi:i < m.length):gb (m.set i true) j=if j=i then true else gb m j:=by
 unfold gb
 rw[List.getD_eq_getElem?_getD,List.getD_eq_getElem?_getD,List.getElem?_set]
 by_cases h:i=j
 ·subst h; simp[hi]
 ·rw[if_neg h,if_neg (fun q=>h q.symm)]
theorem zcf {vs:List Vr}:∀ (l:List Vr) (i:Nat) (m:List Bool),vs.drop i=l→m.length=vs.length→(∀ j,j < i→gb m j=true)→(∀ j,i≤j→j < vs.length→gb m j=z2v (gv vs j)) →
  ∃ m',ogo vs m 0 (z2s i l)=some (m',0)∧m'.length=vs.length∧∀ j,j < vs.length→gb m' j=true
 | [],i,m,hd,hl,h1,h2=>by
  have:vs.length≤i:=by have:=congrArg List.length hd; simp at this; omega
  exact⟨m,rfl,hl,fun j hj=>h1 j (by omega)⟩
 | v::l,i,m,hd,hl,h1,h2=>by
  have hi:i < vs.length:=by have:=congrArg List.length hd; simp at this; omega
  have hc:=zo8 hi
  rw[hd] at hc
  obtain⟨rfl,rfl⟩:=List.cons.inj hc
  unfold z2s
  by_cases hg:z2v (gv vs i)=true
  ·rw[if_pos hg]
   refine zcf _ (i+1) m rfl hl (fun j hj=>?_) (fun j hj hj2=>h2 j (by omega) hj2)
   by_cases e:j=i
   ·subst e; rw[h2 j (Nat.le_refl _) hi,hg]
   ·exact h1 j (by omega)
  ·rw[if_neg hg]
   have hg':z2v (gv vs i)=false:=by simpa using hg
   have hone:=zwj hi hg'
   have ht:z9g m (kop 1 i)=true:=by simp[z9g,z34,kop]
   obtain⟨m',q1,q2⟩:=zcf (vs.drop (i+1)) (i+1) (m.set i true) rfl (by simpa using hl) (fun j hj=>by
    rw[zue _ _ _ (by omega)]
    split
    ·rfl
    ·exact h1 j (by omega)) (fun j hj hj2=>by rw[zue _ _ _ (by omega),if_neg (by omega)]; exact h2 j (by omega) hj2)
   refine⟨m',?_,q2⟩
   rw[ogo,if_pos (by rw[hone,ht]; simp[dl,kop])]
   have e1:z8t m (kop 1 i)=m.set i true:=by simp[z8t,kop]
   rw[e1]
   simpa [dl,kop] using q1
theorem zh1 {vs:List Vr} (h:z81 vs=true):1≤vs.length∧vs.length≤256:=by
 unfold z81 at h
 split at h
 ·cases h
 ·simp only[Bool.and_eq_true,decide_eq_true_eq] at h; omega
theorem vgo_limbs:∀ (l:List Vr) (i p r:Nat),vgo i p l=some r→∀ v∈l,1≤v.limbs∧v.limbs≤512∧0≤v.mode∧v.mode≤3
 | [],_,_,_,_,v,hv=>by cases hv
 | w::l,i,p,r,h,v,hv=>by
  unfold vgo at h
  split at h
  ·cases h
  ·rename_i hb
   have hw:1≤w.limbs∧w.limbs≤512∧0≤w.mode∧w.mode≤3:=by
    simp[zhv] at hb; omega
   have key:∀ r',vgo (i+1) r' l=some r→1≤v.limbs∧v.limbs≤512∧0≤v.mode∧v.mode≤3:=fun r' h'=>by
    rcases List.mem_cons.1 hv with rfl | hv
    ·exact hw
    ·exact vgo_limbs l _ _ r h' v hv
   split at h
   ·exact key _ h
   ·split at h
    ·cases h
    ·exact key _ h
theorem zo7 {vs:List Vr} (h:z81 vs=true):∀ v∈vs,1≤v.limbs∧v.limbs≤512∧0≤v.mode∧v.mode≤3:=by
 unfold z81 at h
 split at h
 ·cases h
 ·rename_i p hp
  exact vgo_limbs vs 0 0 p hp
theorem gv_mem {vs:List Vr} {i:Nat} (h:i < vs.length):gv vs i∈vs:=List.mem_of_getElem? (zbw h)
theorem limbs_at {vs:List Vr} (h:z81 vs=true) {v:Int} (h0:0≤v) (h1:v < vs.length):1≤z32 vs v∧z32 vs v≤512:=by
 have:=zo7 h _ (gv_mem (vs:=vs) (i:=v.toNat) (by omega))
 exact⟨this.1,this.2.1⟩
theorem may_eq (vs:List Vr) (o:Ko):mayB vs o=(!zns o.kind && (z81 vs && oneB vs o)):=by
 unfold mayB
 cases hk:zns o.kind with
 | true=>rfl
 | false =>
  simp only[Bool.not_false,Bool.true_and]
  unfold chkB
  cases hv:z81 vs with
  | false=>rfl
  | true =>
   have hl:=zh1 hv
   have hsl:=startOs_len vs 0
   obtain⟨m,q1,q2,q3⟩:=zcf vs 0 (z7a vs) rfl (by simp[z7a]) (fun j hj=>by omega) (fun j _ hj=>by
    unfold gb z7a
    rw[List.getD_eq_getElem?_getD,List.getElem?_map,zbw hj]; rfl)
   rw[zw7 vs _ _ _ _ _ _ q1]
   have e1:decide ((z2s 0 vs++[o]).length≤4096)=true:=decide_eq_true (by simp; omega)
   rw[e1]
   simp only[Bool.true_and,List.length_nil,List.all_nil,show decide (0≤4096)=true from rfl]
   have hd0:dl o.kind=0:=by simp[zns] at hk; simp[dl,hk.1,hk.2]
   cases ho:oneB vs o with
   | false=>simp[ogo,ho]
   | true =>
    have hin:=one_in ho
    have ht:z9g m o=true:=by
     unfold z9g
     rw[List.all_eq_true]
     intro v hv
     have:=hin.takes v hv
     exact q3 _ (by omega)
    have hm:z7b vs (z8t m o)=true:=by
     unfold z7b
     rw[List.all_eq_true]
     intro i hi
     have hi:=List.mem_range.1 hi
     have:gb (z8t m o) i=true:=by
      unfold z8t
      split
      ·have:=hin.d
       rw[zue _ _ _ (by omega)]
       split
       ·rfl
       ·exact q3 i hi
      ·exact q3 i hi
     simp[this]
    simp[ogo,ho,ht,hd0,hm]
def zro (vs:List Vr) (o:Ko):Int:=if (decide (o.kind=12) && mayB vs o)=true then z32 vs o.c+2 else 0
theorem zlc {vs:List Vr} {o:Ko} {s:Nat} (h:oneB vs o=true) (hs:z1v o.kind=some s):z76 vs.length s o=true∧numB o=true∧zd4 vs o=true:=by
 unfold oneB at h
 split at h
 ·rename_i hk
  rw[hk] at hs; simp[z1v] at hs
 ·rw[hs] at h
  simp only[Bool.and_eq_true] at h
  exact⟨h.2.1,h.1,h.2.2.2.2.2⟩
theorem ztb {vs:List Vr} {o:Ko} {s:Nat} (h:mayB vs o=true) (hs:z1v o.kind=some s):z81 vs=true∧z76 vs.length s o=true∧numB o=true∧zd4 vs o=true:=by
 rw[may_eq] at h
 simp only[Bool.and_eq_true] at h
 exact⟨h.2.1,zlc h.2.2 hs⟩
theorem parts_c {n s:Nat} {o:Ko} (h:z76 n s o=true) (hb:s.testBit 4=true):0≤o.c∧o.c < n:=by
 simp only[z76,Bool.and_eq_true] at h; exact z12 h.2.2.2.2 hb
theorem zvi {vs:List Vr} (hv:z81 vs=true) {v:Int} (h:0≤v∧v < vs.length):∃ k:Nat,v=k∧k < vs.length∧(vsC vs)[k * 3]?=some (.i (z32 vs v))∧1≤z32 vs v∧z32 vs v≤512:=by
 obtain⟨k,rfl⟩:=Int.eq_ofNat_of_zero_le h.1
 have hk:k < vs.length:=by omega
 have:=limbs_at hv h.1 h.2
 exact⟨k,rfl,hk,zqf (zbw hk),this⟩
end Go.Sv
namespace Go.Sv
end Go.Sv
namespace Go.Sv
abbrev Fc:=Int×Int×Int
def needsL (o:Ko):List Fc :=
 if o.kind=9 then [(3,o.c,-1)] else if o.kind=10∨o.kind=11 then [(2,o.a,o.c),(2,o.b,o.c)] else if o.kind=12 then [(1,o.c,-1),(2,o.a,o.c),(2,o.b,o.c)] else if o.kind=13 then [(1,o.c,-1),(2,o.a,o.c)]
 else if o.kind=17 then (if o.imm=2 then [(2,o.a,o.b)] else if o.imm=1 then [(1,o.a,-1)] else if o.imm=3 then [(3,o.a,-1)] else []) else []
def gN (v:List Nat) (i:Int):Nat:=if i < 0 then 0 else v.getD i.toNat 0
def holdsB (f:Fc) (v:List Nat):Bool :=
 z6q v.length f.2.1 && (if f.1=1 then decide (gN v f.2.1 % 2=1) else if f.1=3 then decide (0 < gN v f.2.1) else if f.1=2 then z6q v.length f.2.2 && decide (gN v f.2.1 < gN v f.2.2) else false)
def metB (o:Ko) (v:List Nat):Bool:=(needsL o).all fun f=>holdsB f v
def two64 (n:Int):Nat:=2 ^ (64 * n.toNat)
noncomputable def rawV (vs:List Vr) (o:Ko) (v:List Nat):Nat :=
 let a:=gN v o.a
 let b:=gN v o.b
 let c:=gN v o.c
 let w:=two64 (z32 vs o.d)
 if o.kind=1 then o.imm.toNat else if o.kind=2 then a else if o.kind=3 then a+b else if o.kind=4 then a % w+w - b % w else if o.kind=5∨o.kind=6 then a * b
 else if o.kind=7 then (if a < b then 1 else 0) else if o.kind=8 then (if c % 2=1 then a else b) else if o.kind=9 then a % c else if o.kind=10 then (a+b) % c else if o.kind=11 then subM a b c
 else if o.kind=12 then val (reR (toL (a * b)) (toL c) (z32 vs o.c)) else if o.kind=13 then a ^ b % c else 0
noncomputable def opV (vs:List Vr) (o:Ko) (v:List Nat):Nat:=rawV vs o v % two64 (z32 vs o.d)
noncomputable def stepV (vs:List Vr) (o:Ko) (v:List Nat):List Nat :=
 if o.kind=14 then (if gN v o.c % 2=1 then (v.set o.d.toNat (gN v o.e)).set o.e.toNat (gN v o.d) else v) else if o.kind=17 then v else v.set o.d.toNat (opV vs o v)
def iterO {α:Type} (f:α→Option α):Nat→α→Option α
 | 0,v=>some v
 | n+1,v=>match f v with
  | none=>none
  | some w=>iterO f n w
noncomputable def Fr.exec (vs:List Vr):Fr Ko→List Nat→Option (List Nat)
 | .nil,v=>some v
 | .op o r,v=>if metB o v=true then r.exec vs (stepV vs o v) else none
 | .loop o b _ r,v=>match iterO (fun w=>b.exec vs w) o.imm.toNat v with
  | none=>none
  | some w=>r.exec vs w
def Fr.once:Fr Ko→Prop
 | .nil=>True
 | .op _ r=>r.once
 | .loop o b _ r=>1≤o.imm.toNat∧b.once∧r.once
theorem kd_1 {o:Ko}:kdK o=1↔o.kind=15:=by unfold kdK; split <;> (try split) <;> simp_all
theorem kd_2 {o:Ko}:kdK o=2↔o.kind=16:=by
 unfold kdK
 by_cases h:o.kind=15
 ·simp[h]
 ·by_cases h2:o.kind=16 <;> simp[h,h2]
end Go.Sv
namespace Go.Sv
def cap40:Nat:=1099511627776
def Fr.stepsT:Fr Ko→Nat
 | .nil=>0
 | .op _ r=>r.stepsT+1
 | .loop o b _ r=>o.imm.toNat * (1+b.stepsT)+r.stepsT
theorem ztw {vs:List Vr}:∀ (l:List Ko) (m:List Bool) (d:Int) (r:List Bool×Int),ogo vs m d l=some r→∀ o∈l,oneB vs o=true
 | [],_,_,_,_,o,ho=>by cases ho
 | x::l,m,d,r,h,o,ho=>by
  unfold ogo at h
  split at h
  ·rename_i hc
   simp only[Bool.and_eq_true] at hc
   rcases List.mem_cons.1 ho with rfl | ho
   ·exact hc.1
   ·exact ztw l _ _ r h o ho
  ·cases h
theorem zjj {vs:List Vr}:∀ (f:Fr Ko),f.wf kdK→(∀ o∈f.flat,oneB vs o=true)→f.once
 | .nil,_,_=>trivial
 | .op _ r,w,h=>zjj r w.2 fun o ho=>h o (List.mem_cons_of_mem _ ho)
 | .loop o b e r,w,h=>by
  obtain⟨w1,w2,w3,w4⟩:=w
  refine⟨?_,zjj b w3 fun x hx=>h x (by simp[Fr.flat,hx]),zjj r w4 fun x hx=>h x (by simp[Fr.flat,hx])⟩
  have k15:=kd_1.1 w1
  have h1:=h o (by simp[Fr.flat])
  obtain⟨_,hn,_⟩:=zlc (s:=0) h1 (by simp[z1v,k15])
  simp[numB,k15] at hn
  have:=hn.1
  rw[UInt64.le_iff_toNat_le] at this
  exact this
end Go.Sv
namespace Go.Sv
def Fr.app {α:Type}:Fr α→Fr α→Fr α
 | .nil,g=>g
 | .op o r,g=>.op o (r.app g)
 | .loop o b e r,g=>.loop o b e (r.app g)
end Go.Sv
namespace Go.Sv
end Go.Sv
namespace Go.Sv
def mkO:List Bool→List Ko→Option (List Bool)
 | m,[]=>some m
 | m,o::l=>if z9g m o=true then mkO (z8t m o) l else none
def Fr.deep:Fr Ko→Nat
 | .nil=>0
 | .op _ r=>r.deep
 | .loop _ b _ r=>max (1+b.deep) r.deep
theorem mkO_app:∀ (a b:List Ko) (m:List Bool),mkO m (a++b)=match mkO m a with
  | none=>none
  | some m1=>mkO m1 b
 | [],_,_=>rfl
 | o::a,b,m=>by
  simp only[List.cons_append,mkO]
  split
  ·exact mkO_app a b _
  ·rfl
theorem zfe {vs:List Vr}:∀ (f:Fr Ko) (m:List Bool) (d:Int) (rest:List Ko) (r:List Bool×Int),f.wf kdK→0≤d→d≤4→ogo vs m d (f.flat++rest)=some r→d+f.deep≤4∧∃ m',mkO m f.flat=some m'∧ogo vs m' d rest=some r
 | .nil,m,d,rest,r,_,_,h4,h=>⟨by simp[Fr.deep]; omega,m,rfl,h⟩
 | .op o f,m,d,rest,r,w,h0,h4,h=>by
  have k1:o.kind≠15:=fun h=>by have:=w.1; simp[kdK,h] at this
  have k2:o.kind≠16:=fun h=>by have:=w.1; simp[kdK,h] at this
  simp only[Fr.flat,List.cons_append] at h
  unfold ogo at h
  split at h
  ·rename_i hc
   simp only[Bool.and_eq_true] at hc
   rw[dl,if_neg k1,if_neg k2,Int.add_zero] at h
   obtain⟨q1,m',q2,q3⟩:=zfe f _ d rest r w.2 h0 h4 h
   exact⟨q1,m',by simp only[Fr.flat,mkO,hc.2.1,if_true]; exact q2,q3⟩
  ·cases h
 | .loop o b e f,m,d,rest,r,w,h0,h4,h=>by
  obtain⟨w1,w2,w3,w4⟩:=w
  have k15:=kd_1.1 w1
  have k16:=kd_2.1 w2
  simp only[Fr.flat,List.cons_append,List.append_assoc] at h
  unfold ogo at h
  split at h
  ·rename_i hc
   simp only[Bool.and_eq_true,decide_eq_true_eq] at hc
   rw[dl,if_pos k15] at h
   have hd:=hc.2.2.2
   rw[dl,if_pos k15] at hd
   obtain⟨q1,m1,q2,q3⟩:=zfe b _ (d+1) _ r w3 (by omega) hd h
   unfold ogo at q3
   split at q3
   ·rename_i hc2
    simp only[Bool.and_eq_true,decide_eq_true_eq] at hc2
    rw[dl,if_neg (by omega),if_pos k16,show d+1+-1=d by omega] at q3
    obtain⟨p1,m2,p2,p3⟩:=zfe f _ d rest r w4 h0 h4 q3
    refine⟨by simp only[Fr.deep]; omega,m2,?_,p3⟩
    simp only[Fr.flat,mkO,hc.2.1,if_true]
    rw[mkO_app,q2]
    simp only[mkO,hc2.2.1,if_true]
    exact p2
   ·cases q3
  ·cases h
end Go.Sv
namespace Go.Sv
theorem chk_tree {vs:List Vr} {os rs:List Ko} (h:chkB vs os rs=true):∃ f:Fr Ko,f.wf kdK∧os=f.flat∧f.once∧(∀ o∈f.flat,oneB vs o=true)∧f.deep≤4∧∃ m',mkO (z7a vs) f.flat=some m'∧z7b vs m'=true:=by
 unfold chkB at h
 simp only[Bool.and_eq_true,decide_eq_true_eq] at h
 obtain⟨h1,h2,h3,h4,h5⟩:=h
 split at h5
 ·cases h5
 ·rename_i m dp hg
  simp only[Bool.and_eq_true,decide_eq_true_eq] at h5
  obtain⟨h5,rfl⟩:=h5
  obtain⟨f,w,hf⟩:=tree_of (zke os _ m 0 (by simpa using hg))
  subst hf
  have ha:=ztw _ _ _ _ hg
  obtain⟨q1,m',q2,q3⟩:=zfe f (z7a vs) 0 [] (m,0) w (by omega) (by omega) (by simpa using hg)
  have hm:m'=m:=by
   unfold ogo at q3
   simpa using q3
  subst hm
  exact⟨f,w,rfl,zjj f w ha,ha,by omega,m',q2,h5⟩
end Go.Sv
namespace Go.Sv
def unK (o:Ko):Ko:=if o.kind=6 then { o with kind:=5 } else o
def Fr.map {α:Type} (g:α→α):Fr α→Fr α
 | .nil=>.nil
 | .op o r=>.op (g o) (r.map g)
 | .loop o b e r=>.loop (g o) (b.map g) (g e) (r.map g)
theorem zf0 {α:Type} (g:α→α):∀ f:Fr α,(f.map g).flat=f.flat.map g
 | .nil=>rfl
 | .op _ r=>by simp[Fr.map,Fr.flat,zf0 g r]
 | .loop _ b _ r=>by simp[Fr.map,Fr.flat,zf0 g r,zf0 g b]
theorem zuw (o:Ko):kdK (unK o)=kdK o:=by
 unfold unK
 split
 ·rename_i h; simp[kdK,h]
 ·rfl
theorem wf_map:∀ f:Fr Ko,f.wf kdK→(f.map unK).wf kdK
 | .nil,_=>trivial
 | .op _ r,w=>⟨by rw[zuw]; exact w.1,wf_map r w.2⟩
 | .loop _ b _ r,w=>⟨by rw[zuw]; exact w.1,by rw[zuw]; exact w.2.1,wf_map b w.2.2.1,wf_map r w.2.2.2⟩
theorem zvu (o:Ko):(unK o).imm=o.imm:=by unfold unK; split <;> rfl
theorem unK_step (vs:List Vr) (o:Ko) (v:List Nat):stepV vs (unK o) v=stepV vs o v:=by
 unfold unK
 split
 ·rename_i h; simp[stepV,opV,rawV,h]
 ·rfl
theorem unK_met (o:Ko) (v:List Nat):metB (unK o) v=metB o v:=by
 unfold unK
 split
 ·rename_i h; simp[metB,needsL,h]
 ·rfl
theorem zf1 {vs:List Vr}:∀ (f:Fr Ko) (v:List Nat),(f.map unK).exec vs v=f.exec vs v
 | .nil,_=>rfl
 | .op o r,v=>by
  simp only[Fr.map,Fr.exec,unK_met,unK_step]
  split
  ·exact zf1 r _
  ·rfl
 | .loop o b e r,v=>by
  have hb:(fun w=>(b.map unK).exec vs w)=fun w=>b.exec vs w:=funext fun w=>zf1 b w
  simp only[Fr.map,Fr.exec,zvu,hb]
  cases iterO (fun w=>b.exec vs w) o.imm.toNat v with
  | none=>rfl
  | some w=>exact zf1 r w
theorem stepsT_map:∀ f:Fr Ko,(f.map unK).stepsT=f.stepsT
 | .nil=>rfl
 | .op _ r=>by simp[Fr.map,Fr.stepsT,stepsT_map r]
 | .loop _ b _ r=>by simp[Fr.map,Fr.stepsT,stepsT_map r,stepsT_map b,zvu]
theorem zvk (o:Ko):z34 (unK o)=z34 o:=by
 unfold unK
 split
 ·rename_i h; simp[z34,h]
 ·rfl
theorem unK_one {vs:List Vr} {o:Ko} (h:oneB vs o=true):oneB vs (unK o)=true:=by
 unfold unK
 split
 ·rename_i k
  simp only[oneB,k,z1v,z76,numB,secB,z34,zd4,z2m] at h ⊢
  simp only[show (6:Int)≠17 by decide,show (5:Int)≠17 by decide,if_false] at h ⊢
  simp at h ⊢
  simp_all
 ·exact h
theorem zx5 {vs:List Vr}:∀ (l:List Ko) (m:List Bool) (d:Int) (r:List Bool×Int),ogo vs m d l=some r→ogo vs m d (l.map unK)=some r
 | [],_,_,_,h=>h
 | o::l,m,d,r,h=>by
  simp only[List.map_cons]
  have e1:z9g m (unK o)=z9g m o:=by simp[z9g,zvk]
  have e2:dl (unK o).kind=dl o.kind:=by
   unfold unK
   split
   ·rename_i k; simp[dl,k]
   ·rfl
  have e3:z8t m (unK o)=z8t m o:=by
   unfold unK
   split <;> rfl
  unfold ogo at h ⊢
  split at h
  ·rename_i hc
   simp only[Bool.and_eq_true] at hc
   rw[e1,e2,e3,if_pos (by simp only[Bool.and_eq_true]; exact⟨unK_one hc.1,hc.2⟩)]
   exact zx5 l _ _ r h
  ·cases h
theorem chk_map {vs:List Vr} {os rs:List Ko} (h:chkB vs os rs=true):chkB vs (os.map unK) rs=true:=by
 unfold chkB at h ⊢
 simp only[Bool.and_eq_true,decide_eq_true_eq] at h ⊢
 obtain⟨h1,h2,h3,h4,h5⟩:=h
 refine⟨h1,by simpa using h2,h3,h4,?_⟩
 split at h5
 ·cases h5
 ·rename_i m dp hg
  rw[zx5 _ _ _ _ hg]
  simpa using h5
end Go.Sv
namespace Go.Sv
theorem zf2 {α:Type} {kd:α→Nat}:∀ (f g:Fr α) (r1 r2:List α),f.wf kd→g.wf kd→(∀ x t,r1=x::t→kd x=2)→(∀ x t,r2=x::t→kd x=2)→f.flat++r1=g.flat++r2→f=g∧r1=r2
 | .nil,.nil,r1,r2,_,_,_,_,h=>⟨rfl,h⟩
 | .nil,.op o g,r1,r2,_,w,h1,_,h=>by
  have:=h1 o _ (by simpa [Fr.flat] using h)
  have:=w.1; omega
 | .nil,.loop o b e g,r1,r2,_,w,h1,_,h=>by
  have:=h1 o _ (by simpa [Fr.flat] using h)
  have:=w.1; omega
 | .op o f,.nil,r1,r2,w,_,_,h2,h=>by
  have:=h2 o _ (by simpa [Fr.flat] using h.symm)
  have:=w.1; omega
 | .loop o b e f,.nil,r1,r2,w,_,_,h2,h=>by
  have:=h2 o _ (by simpa [Fr.flat] using h.symm)
  have:=w.1; omega
 | .op o f,.op o' g,r1,r2,w,w',h1,h2,h=>by
  simp only[Fr.flat,List.cons_append,List.cons.injEq] at h
  obtain⟨rfl,h⟩:=h
  obtain⟨rfl,rfl⟩:=zf2 f g r1 r2 w.2 w'.2 h1 h2 h
  exact⟨rfl,rfl⟩
 | .op o f,.loop o' b e g,r1,r2,w,w',_,_,h=>by
  simp only[Fr.flat,List.cons_append,List.cons.injEq] at h
  have a1:=w.1
  have a2:=w'.1
  rw[h.1] at a1; omega
 | .loop o b e f,.op o' g,r1,r2,w,w',_,_,h=>by
  simp only[Fr.flat,List.cons_append,List.cons.injEq] at h
  have a1:=w.1
  have a2:=w'.1
  rw[h.1] at a1; omega
 | .loop o b e f,.loop o' b' e' g,r1,r2,w,w',h1,h2,h=>by
  simp only[Fr.flat,List.cons_append,List.cons.injEq,List.append_assoc] at h
  obtain⟨rfl,h⟩:=h
  obtain⟨rfl,h5⟩:=zf2 b b' _ _ w.2.2.1 w'.2.2.1 (fun x t q=>by injection q with q _; exact q ▸ w.2.1) (fun x t q=>by injection q with q _; exact q ▸ w'.2.1) h
  injection h5 with h3 h4
  subst h3
  obtain⟨rfl,rfl⟩:=zf2 f g r1 r2 w.2.2.2 w'.2.2.2 h1 h2 h4
  exact⟨rfl,rfl⟩
open Classical in
noncomputable def frOf (os:List Ko):Fr Ko:=if h:∃ f:Fr Ko,f.wf kdK∧os=f.flat then h.choose else .nil
theorem zhl {f:Fr Ko} (w:f.wf kdK):frOf f.flat=f:=by
 have h:∃ g:Fr Ko,g.wf kdK∧f.flat=g.flat:=⟨f,w,rfl⟩
 unfold frOf
 rw[dif_pos h]
 have hs:=h.choose_spec
 exact (zf2 _ f [] [] hs.1 w (by simp) (by simp) (by simpa using hs.2.symm)).1
def inV (vs:List Vr):List Nat:=(List.range vs.length).filter fun i=>z2v (gv vs i)
def outV (vs:List Vr):List Nat:=(List.range vs.length).filter fun i=>decide ((gv vs i).mode=3)
def fitsD (vs:List Vr) (ns:List Nat):Bool:=((inV vs).zip ns).all fun p=>decide (p.2 < two64 (gv vs p.1).limbs)
def fitD (vs:List Vr) (os rs:List Ko) (ns:List Nat):Int:=if chkB vs os rs=true then (if (inV vs).length=ns.length then (if fitsD vs ns=true then 0 else 3) else 2) else 2
def startW (vs:List Vr) (ns:List Nat):List Nat:=((inV vs).zip ns).foldl (fun v p=>v.set p.1 p.2) (List.replicate vs.length 0)
def metD (vs:List Vr) (os rs:List Ko) (ns:List Nat):Bool:=decide (fitD vs os rs ns=0) && rs.all fun o=>metB o (startW vs ns)
noncomputable def zfb (vs:List Vr) (os rs:List Ko):Nat:=if chkB vs os rs=true then min cap40 (frOf os).stepsT else 0
noncomputable def runD (vs:List Vr) (os rs:List Ko) (ns:List Nat):List (List UInt64)×Int :=
 if fitD vs os rs ns=0 then (if metD vs os rs ns=true then (if zfb vs os rs≤16384 then (match (frOf os).exec vs (startW vs ns) with
  | none=>([],9)
  | some w=>((outV vs).map fun i=>toL (w.getD i 0),0)) else ([],10)) else ([],9)) else ([],fitD vs os rs ns)
theorem run_map {vs:List Vr} {os rs:List Ko} {ns:List Nat} (hc:chkB vs os rs=true):runD vs (os.map unK) rs ns=runD vs os rs ns:=by
 obtain⟨f,w,rfl,u,ha,hd,m',hm,hma⟩:=chk_tree hc
 have hc2:=chk_map hc
 have e0:frOf (f.flat.map unK)=f.map unK:=by rw[←zf0,zhl (wf_map f w)]
 have e1:fitD vs (f.flat.map unK) rs ns=fitD vs f.flat rs ns:=by simp[fitD,hc,hc2]
 have e2:metD vs (f.flat.map unK) rs ns=metD vs f.flat rs ns:=by simp[metD,e1]
 have e3:zfb vs (f.flat.map unK) rs=zfb vs f.flat rs:=by simp[zfb,hc,hc2,e0,zhl w,stepsT_map]
 unfold runD
 rw[e1,e2,e3,e0,zhl w,zf1]
end Go.Sv
namespace Go.Sv
end Go.Sv
namespace Go.Sv
abbrev Hl:=Int×Int
def zw8 (x y:Hl):Prop:=x.2≤y.1∨y.2≤x.1
def Ap (size:Int) (l:List Hl):Prop:=l.Pairwise zw8∧∀ h∈l,0≤h.1∧h.1 < h.2∧h.2≤size
end Go.Sv
namespace Go.Sv
structure St where
 holes:List Hl
 size:Int
def ivs (iv:Nat→Hl) (sec:Nat→Bool) (s:Bool) (busy:List Nat):List Hl:=(busy.filter fun v=>sec v==s).map iv
def BusyOk (wk:Bool→Int) (iv:Nat→Hl) (sec:Nat→Bool) (busy:List Nat) (ps:Bool→St):Prop :=
 ∀ s,0≤(ps s).size∧Ap (ps s).size ((0,wk s)::(ivs iv sec s busy++(ps s).holes))
structure Plan0 (wk:Bool→Int) (a b lim:Nat→Int) (sec:Nat→Bool) (done busy:List Nat) (iv:Nat→Hl) (ps:Bool→St) (cur:Int):Prop where
 ok:BusyOk wk iv sec busy ps
 wide:∀ v∈done,(iv v).2=(iv v).1+lim v
 nd:busy.Nodup
 sub:∀ v∈busy,v∈done
 over:∀ v∈done,v ∉ busy→b v < cur
 pairs:∀ v∈done,∀ w∈done,v≠w→sec v=sec w→zw8 (iv v) (iv w)∨b v < a w∨b w < a v
 inn:∀ v∈done,0≤(iv v).1∧(iv v).2≤(ps (sec v)).size∧zw8 (0,wk (sec v)) (iv v)
 sz:(ps false).size+(ps true).size≤wk false+wk true+(done.map lim).sum
end Go.Sv
namespace Go.Sv
structure Bf where
 size:Int
 kind:Int
 sec:Bool
structure Lo where
 kind:Int
 d:Int
 e:Int
 a:Int
 b:Int
 c:Int
 buf:Int
 imm:UInt64
 deriving DecidableEq
def Bf.f (v:Bf):List LV:=[.i v.size,.i v.kind,.bool v.sec]
def Lo.f (o:Lo):List LV:=[.i o.kind,.i o.d,.i o.e,.i o.a,.i o.b,.i o.c,.i o.buf,.u o.imm]
def bfC (l:List Bf):List LV:=l.flatMap Bf.f
def loC (l:List Lo):List LV:=l.flatMap Lo.f
theorem Bf.f_len (v:Bf):v.f.length=3:=rfl
theorem Lo.f_len (o:Lo):o.f.length=8:=rfl
theorem loC_len (l:List Lo):(loC l).length=l.length * 8:=zpp Lo.f_len l
theorem z0o (l:List Bf):dats (bfC l)=true:=zc0 (fun _=>rfl) l
theorem z0s (l:List Lo):dats (loC l)=true:=zc0 (fun _=>rfl) l
theorem zq4 {l:List Bf} {i:Nat} {v:Bf} (h:l[i]?=some v):((bfC l).drop (i * 3)).take 3=v.f:=zdu Bf.f_len h
theorem zfc {l:List Lo} {i:Nat} {v:Lo} (h:l[i]?=some v):((loC l).drop (i * 8)).take 8=v.f:=zdu Lo.f_len h
theorem zbi {l:List Bf} {i:Nat} {v:Bf} (h:l[i]?=some v):(bfC l)[i * 3]?=some (.i v.size):=by have:=zou Bf.f_len h (j:=0) (by omega); simpa [bfC,Bf.f] using this
theorem zej {l:List Bf} {i:Nat} {v:Bf} (h:l[i]?=some v):(bfC l)[i * 3+1]?=some (.i v.kind):=by have:=zou Bf.f_len h (j:=1) (by omega); simpa [bfC,Bf.f] using this
theorem bf_at2 {l:List Bf} {i:Nat} {v:Bf} (h:l[i]?=some v):(bfC l)[i * 3+2]?=some (.bool v.sec):=by have:=zou Bf.f_len h (j:=2) (by omega); simpa [bfC,Bf.f] using this
theorem lo_at {l:List Lo} {i:Nat} {v:Lo} (h:l[i]?=some v) {j:Nat} (hj:j < 8):(loC l)[i * 8+j]?=v.f[j]?:=zou Lo.f_len h hj
theorem zho {l:List Bf} {i:Nat} (h:i < l.length):i * 3+3≤(bfC l).length:=zty Bf.f_len h
theorem zs9 {l:List Lo} {i:Nat} (h:i < l.length):i * 8+8≤(loC l).length:=zty Lo.f_len h
theorem zk8 (a b:List Lo):loC (a++b)=loC a++loC b:=by simp[loC]
theorem bfC_app (a b:List Bf):bfC (a++b)=bfC a++bfC b:=by simp[bfC]
def gbf (l:List Bf) (n:Nat):Bf:=l.getD n ⟨0,0,false⟩
def glo (l:List Lo) (n:Nat):Lo:=l.getD n ⟨0,0,0,0,0,0,0,0⟩
theorem z33 {l:List Bf} {n:Nat} (h:n < l.length):l[n]?=some (gbf l n):=by simp[gbf,List.getD_eq_getElem?_getD,h]
theorem zmq {l:List Lo} {n:Nat} (h:n < l.length):l[n]?=some (glo l n):=by simp[glo,List.getD_eq_getElem?_getD,h]
theorem zj6 {l:List Lo} {n:Nat} (h:n < l.length):l.drop n=glo l n::l.drop (n+1):=by
 rw[List.drop_eq_getElem_cons h]; congr 1
 have:=zmq h; rw[List.getElem?_eq_getElem h] at this; exact Option.some.inj this
theorem repBs (n:Nat):repL [.bool false] n=(List.replicate n false).map LV.bool:=by
 induction n with
 | zero=>rfl
 | succ n ih=>rw[repL,ih,List.replicate_succ]; rfl
def z0u (o:Lo):List Int :=
 if o.kind=2∨o.kind=8∨o.kind=9 then [o.a]
 else if (3≤o.kind∧o.kind≤7)∨o.kind=10 then [o.a,o.b]
 else if o.kind=11∨o.kind=12∨o.kind=13 then [o.a,o.b,o.c]
 else if o.kind=14∧¬ o.a=-1 then [o.a]
 else if o.kind=15∧¬ o.a=-1 then [o.a,o.b]
 else if o.kind=15 then [o.b] else []
def z08 (o:Lo):List Int :=
 if o.kind=10∨o.kind=11∨o.kind=12 then [o.d,o.e]
 else if o.kind=15∨o.kind=17 then [] else [o.d]
def z06 (regs r:Int) (has:Bool):Bool:=if has=true then decide (0≤r) && decide (r < regs) else decide (r=-1)
def hasD (k:Int):Bool:=!decide (k=15) && !decide (k=17)
def hasE (k:Int):Bool:=decide (k=10) || (decide (k=11) || decide (k=12))
def hasA (k:Int):Bool:=!decide (k=1) && (!decide (k=16) && !decide (k=17))
def z40 (k:Int):Bool:=(decide (3≤k) && decide (k≤7)) || ((decide (10≤k) && decide (k≤13)) || decide (k=15))
def z3z (k:Int):Bool:=decide (11≤k) && decide (k≤13)
def memK (k:Int):Bool:=decide (k=14) || decide (k=15)
noncomputable def z0p (regs:Int) (bs:List Bf) (o:Lo):Bool :=
 (decide (1≤o.kind) && decide (o.kind≤17)) && (z06 regs o.d (hasD o.kind) && (z06 regs o.e (hasE o.kind) && ((z06 regs o.a (hasA o.kind) || (memK o.kind && decide (o.a=-1))) && (z06 regs o.b (z40 o.kind) && (z06 regs o.c (z3z o.kind) && (!(hasE o.kind && decide (o.d=o.e)) &&
  (if memK o.kind=true then decide (0≤o.buf) && (decide (o.buf < bs.length) && (!(decide (o.kind=15) && decide ((gbf bs o.buf.toNat).kind=1)) && (!decide (o.a=-1) || decide (o.imm < iU (gbf bs o.buf.toNat).size))))
   else decide (o.buf=0) && (if o.kind=1 then true else if o.kind=8∨o.kind=9 then decide (1≤o.imm) && decide (o.imm≤63) else if o.kind=16 then decide (1≤o.imm) && decide (o.imm≤1048576) else decide (o.imm=0)))))))))
def z3d (m:List Bool) (r:Int):Bool:=m.getD r.toNat false
noncomputable def z7r (regs:Int) (bs:List Bf) (m:List Bool) (ls:List Int) (o:Lo):Int×List Bool×List Int :=
 if z0p regs bs o=false then (2,m,ls)
 else if o.kind=17 then (match ls.getLast? with | none=>(9,m,ls) | some d=>(0,m.set d.toNat false,ls.dropLast))
 else if (z08 o).any (fun r=>ls.contains r)=true then (9,m,ls)
 else if o.kind=16∧z3d m o.d=true then (9,m,ls)
 else if o.kind=16∧ls.length=8 then (10,m,ls)
 else if (z0u o).any (fun r=>!z3d m r)=true then (5,m,ls)
 else (0,(z08 o).foldl (fun m r=>m.set r.toNat true) m,if o.kind=16 then ls++[o.d] else ls)
noncomputable def goR (regs:Int) (bs:List Bf):Nat→List Bool→List Int→List Lo→Int×Int
 | i,_,ls,[]=>if ls=[] then (i,0) else (i,9)
 | i,m,ls,o::l=>if (z7r regs bs m ls o).1=0 then goR regs bs (i+1) (z7r regs bs m ls o).2.1 (z7r regs bs m ls o).2.2 l else (i,(z7r regs bs m ls o).1)
noncomputable def chkR (regs:Int) (bs:List Bf) (os:List Lo):Int×Int :=
 if 64 < regs∨32 < bs.length∨65536 < os.length then (0,3)
 else if (bs.any fun b=>decide (65536 < b.size))=true then (0,3)
 else if regs < 0 then (0,2)
 else if (bs.any fun b=>decide (b.size < 1) || (decide (b.kind < 1) || decide (3 < b.kind)))=true then (0,2)
 else goR regs bs 0 (List.replicate regs.toNat false) [] os
structure Ms where
 i:Nat
 first:Bool
 r:List UInt64
 bufs:List (List UInt64)
 l:List (Int×Int)
def atR (r:List UInt64) (x:Int):UInt64:=if x < 0 then 0 else r.getD x.toNat 0
def bitR (b:Bool):UInt64:=if b then 1 else 0
def putR (r:List UInt64) (x:Int) (v:UInt64):List UInt64:=if 0≤x then r.set x.toNat v else r
def valR (o:Lo) (a b:UInt64) (c:Bool):UInt64×UInt64 :=
 if o.kind=1 then (o.imm,0) else if o.kind=2 then (a,0) else if o.kind=3 then (a+b,0) else if o.kind=4 then (a - b,0)
 else if o.kind=5 then (a &&& b,0) else if o.kind=6 then (a ||| b,0) else if o.kind=7 then (a ^^^ b,0)
 else if o.kind=8 then (UInt64.ofNat (a.toNat * 2 ^ o.imm.toNat),0) else if o.kind=9 then (UInt64.ofNat (a.toNat / 2 ^ o.imm.toNat),0)
 else if o.kind=10 then (zdp a b,a * b) else if o.kind=11 then ((addC a b c).1,bitR (addC a b c).2) else if o.kind=12 then ((subC a b c).1,bitR (subC a b c).2)
 else if o.kind=13 then (if c then a else b,0) else (0,0)
def rowR (bufs:List (List UInt64)) (x:Int):List UInt64:=bufs.getD x.toNat []
def doR (o:Lo) (s:Ms):Option Ms :=
 if o.kind=14 then
  (if (o.imm+atR s.r o.a).toNat < (rowR s.bufs o.buf).length then
   some ⟨s.i+1,s.first,putR (putR s.r o.d ((rowR s.bufs o.buf).getD (o.imm+atR s.r o.a).toNat 0)) o.e 0,s.bufs,s.l++[((s.i:Int),(((o.imm+atR s.r o.a).toNat:Nat):Int))]⟩ else none)
 else if o.kind=15 then
  (if (o.imm+atR s.r o.a).toNat < (rowR s.bufs o.buf).length then
   some ⟨s.i+1,s.first,putR (putR s.r o.d 0) o.e 0,s.bufs.set o.buf.toNat ((rowR s.bufs o.buf).set (o.imm+atR s.r o.a).toNat (atR s.r o.b)),s.l++[((s.i:Int),(((o.imm+atR s.r o.a).toNat:Nat):Int))]⟩ else none)
 else some ⟨s.i+1,s.first,putR (putR s.r o.d (valR o (atR s.r o.a) (atR s.r o.b) (decide (atR s.r o.c % 2=1))).1) o.e (valR o (atR s.r o.a) (atR s.r o.b) (decide (atR s.r o.c % 2=1))).2,s.bufs,s.l++[((s.i:Int),(-1:Int))]⟩
def z6c (os:List Lo) (es:List Int) (s:Ms):Option Ms :=
 match os[s.i]? with
 | none=>some s
 | some o =>
  if o.kind=16 then some ⟨s.i+1,true,if s.first then putR s.r o.d 0 else s.r,s.bufs,s.l++[((s.i:Int),(-1:Int))]⟩
  else if o.kind=17 then
   (match os[(es.getD s.i 0).toNat]? with
   | none=>none
   | some p=>if atR s.r p.d+1 < p.imm then some ⟨(es.getD s.i 0).toNat,false,putR s.r p.d (atR s.r p.d+1),s.bufs,s.l⟩ else some ⟨s.i+1,s.first,s.r,s.bufs,s.l⟩)
  else doR o s
def runZ (os:List Lo) (es:List Int):Nat→Ms→Option Ms
 | 0,s=>some s
 | n+1,s=>match z6c os es s with
  | none=>none
  | some s'=>runZ os es n s'
end Go.Sv
namespace Go.Sv
def kdL (o:Lo):Nat:=if o.kind=16 then 1 else if o.kind=17 then 2 else 0
structure Fs where
 r:Nat→UInt64
 m:Nat→Nat→UInt64
def Fs.put (s:Fs) (d:Nat) (v:UInt64):Fs:=⟨fun x=>if x=d then v else s.r x,s.m⟩
def Fs.sto (s:Fs) (b n:Nat) (v:UInt64):Fs:=⟨s.r,fun x y=>if x=b∧y=n then v else s.m x y⟩
def atZ (s:Fs) (x:Int):UInt64:=if x < 0 then 0 else s.r x.toNat
def putZ (s:Fs) (x:Int) (v:UInt64):Fs:=if 0≤x then s.put x.toNat v else s
def opZ (sz:Nat→Nat) (o:Lo) (s:Fs):Option Fs :=
 if o.kind=14 then (if (o.imm+atZ s o.a).toNat < sz o.buf.toNat then some (putZ (putZ s o.d (s.m o.buf.toNat (o.imm+atZ s o.a).toNat)) o.e 0) else none)
 else if o.kind=15 then (if (o.imm+atZ s o.a).toNat < sz o.buf.toNat then some (putZ (putZ (s.sto o.buf.toNat (o.imm+atZ s o.a).toNat (atZ s o.b)) o.d 0) o.e 0) else none)
 else some (putZ (putZ s o.d (valR o (atZ s o.a) (atZ s o.b) (decide (atZ s o.c % 2=1))).1) o.e (valR o (atZ s o.a) (atZ s o.b) (decide (atZ s o.c % 2=1))).2)
def itZ (f:Fs→Option Fs) (d:Nat):Nat→Nat→Fs→Option Fs
 | 0,_,s=>some s
 | n+1,j,s=>match f (s.put d (UInt64.ofNat j)) with
  | none=>none
  | some s'=>itZ f d n (j+1) s'
def exZ (sz:Nat→Nat):Fr Lo→Fs→Option Fs
 | .nil,s=>some s
 | .op o r,s=>match opZ sz o s with
  | none=>none
  | some s'=>exZ sz r s'
 | .loop o b _ r,s=>match itZ (exZ sz b) o.d.toNat o.imm.toNat 0 s with
  | none=>none
  | some s'=>exZ sz r s'
def Fr.noW (x:Nat):Fr Lo→Bool
 | .nil=>true
 | .op o r=>!decide (o.d=x) && (!decide (o.e=x) && r.noW x)
 | .loop o b _ r=>!decide (o.d.toNat=x) && (b.noW x && r.noW x)
theorem zif {s:Fs} {d:Int} {v:UInt64} {x:Nat} (h:¬ d=x):(putZ s d v).r x=s.r x:=by
 unfold putZ
 split
 ·show (if x=d.toNat then v else s.r x)=s.r x
  rw[if_neg (by omega)]
 ·rfl
theorem opZ_r {sz:Nat→Nat} {o:Lo} {s s':Fs} {x:Nat} (h:opZ sz o s=some s') (h1:¬ o.d=x) (h2:¬ o.e=x):s'.r x=s.r x:=by
 unfold opZ at h
 split at h
 ·split at h
  ·cases h; rw[zif h2,zif h1]
  ·cases h
 ·split at h
  ·split at h
   ·cases h; rw[zif h2,zif h1]; rfl
   ·cases h
  ·cases h; rw[zif h2,zif h1]
theorem zq9 {f:Fs→Option Fs} {P:Fs→Prop} {d:Nat} (hd:∀ s v,P s→P (s.put d v)) (hf:∀ s s',P s→f s=some s'→P s'):∀ (n j:Nat) (s s':Fs),P s→itZ f d n j s=some s'→P s'
 | 0,_,s,s',hp,h=>by cases h; exact hp
 | n+1,j,s,s',hp,h=>by
  unfold itZ at h
  split at h
  ·cases h
  ·rename_i s1 h1
   exact zq9 hd hf n (j+1) s1 s' (hf _ _ (hd _ _ hp) h1) h
theorem exZ_r {sz:Nat→Nat} {x:Nat}:∀ (f:Fr Lo) (s s':Fs),f.noW x=true→exZ sz f s=some s'→s'.r x=s.r x
 | .nil,s,s',_,h=>by cases h; rfl
 | .op o r,s,s',hw,h=>by
  simp only[Fr.noW,Bool.and_eq_true,Bool.not_eq_true',decide_eq_false_iff_not] at hw
  unfold exZ at h
  split at h
  ·cases h
  ·rename_i s1 h1
   rw[exZ_r r s1 s' hw.2.2 h,opZ_r h1 hw.1 hw.2.1]
 | .loop o b e r,s,s',hw,h=>by
  simp only[Fr.noW,Bool.and_eq_true,Bool.not_eq_true',decide_eq_false_iff_not] at hw
  unfold exZ at h
  split at h
  ·cases h
  ·rename_i s1 h1
   rw[exZ_r r s1 s' hw.2.2 h]
   refine zq9 (P:=fun t=>t.r x=s.r x) (fun t v ht=>?_) (fun t t' ht h=>by rw[exZ_r b t t' hw.2.1 h,ht]) _ _ _ _ rfl h1
   show (if x=o.d.toNat then v else t.r x)=_
   rw[if_neg (fun q=>hw.1 q.symm)]; exact ht
def zi3 (ls:List Nat) (x:Int):Bool:=decide (-1≤x) && (decide (x < 64) && !ls.contains x.toNat || decide (x=-1))
def Fr.regs (nb:Nat):List Nat→Fr Lo→Bool
 | _,.nil=>true
 | ls,.op o r=>zi3 ls o.d && (zi3 ls o.e && (decide (o.a < 64) && (decide (o.b < 64) && (decide (o.c < 64) && (decide (o.buf.toNat < nb) && r.regs nb ls)))))
 | ls,.loop o b _ r=>zi3 ls o.d && (decide (0≤o.d) && (decide (1≤o.imm.toNat) && (b.regs nb (o.d.toNat::ls) && r.regs nb ls)))
theorem zfa {nb x:Nat}:∀ (f:Fr Lo) (ls:List Nat),x∈ls→f.regs nb ls=true→f.noW x=true
 | .nil,_,_,_=>rfl
 | .op o r,ls,hx,h=>by
  simp only[Fr.regs,Bool.and_eq_true,zi3,decide_eq_true_eq,Bool.or_eq_true,Bool.not_eq_true',List.contains_eq_mem,decide_eq_false_iff_not] at h
  obtain⟨⟨h1,h2⟩,⟨h3,h4⟩,_,_,_,_,h5⟩:=h
  simp only[Fr.noW,Bool.and_eq_true,Bool.not_eq_true',decide_eq_false_iff_not]
  refine⟨fun q=>?_,fun q=>?_,zfa r ls hx h5⟩
  ·rcases h2 with ⟨_,h2⟩ | h2
   ·apply h2; rw[q]; exact hx
   ·omega
  ·rcases h4 with ⟨_,h4⟩ | h4
   ·apply h4; rw[q]; exact hx
   ·omega
 | .loop o b e r,ls,hx,h=>by
  simp only[Fr.regs,Bool.and_eq_true,zi3,decide_eq_true_eq,Bool.or_eq_true,Bool.not_eq_true',List.contains_eq_mem,decide_eq_false_iff_not] at h
  obtain⟨⟨h1,h2⟩,h3,_,h4,h5⟩:=h
  simp only[Fr.noW,Bool.and_eq_true,Bool.not_eq_true',decide_eq_false_iff_not]
  refine⟨fun q=>?_,zfa b _ (List.mem_cons_of_mem _ hx) h4,zfa r ls hx h5⟩
  rcases h2 with ⟨_,h2⟩ | h2
  ·apply h2; rw[q]; exact hx
  ·omega
structure Rep (nb:Nat) (sz:Nat→Nat) (s:Ms) (t:Fs):Prop where
 rl:s.r.length=64
 r:∀ x,x < 64→s.r.getD x 0=t.r x
 bl:s.bufs.length=nb
 len:∀ b,b < nb→(s.bufs.getD b []).length=sz b
 m:∀ b n,b < nb→n < sz b→(s.bufs.getD b []).getD n 0=t.m b n
section rep
variable {nb : Nat} {sz : Nat → Nat} {s : Ms} {t : Fs}
theorem Rep.at (h:Rep nb sz s t) {x:Int} (hx:x < 64):atR s.r x=atZ t x:=by
 unfold atR atZ
 split
 ·rfl
 ·exact h.r _ (by omega)
theorem z41 {α:Type} (l:List α) (i j:Nat) (v d:α) (h:i < l.length):(l.set i v).getD j d=if j=i then v else l.getD j d:=by
 simp only[List.getD_eq_getElem?_getD,List.getElem?_set]
 by_cases q:j=i
 ·subst q; simp[h]
 ·rw[if_neg (Ne.symm q),if_neg q]
theorem Rep.put (h:Rep nb sz s t) {x:Int} {v:UInt64} {i:Nat} {f:Bool} {l:List (Int×Int)} (hx:x < 64):Rep nb sz ⟨i,f,putR s.r x v,s.bufs,l⟩ (putZ t x v):=by
 unfold putR putZ
 split
 ·refine⟨by simpa using h.rl,fun y hy=>?_,h.bl,h.len,h.m⟩
  show (s.r.set x.toNat v).getD y 0=if y=x.toNat then v else t.r y
  rw[z41 _ _ _ _ _ (by rw[h.rl]; omega)]
  split
  ·rfl
  ·exact h.r y hy
 ·exact⟨h.rl,h.r,h.bl,h.len,h.m⟩
theorem Rep.ctl (h:Rep nb sz s t) {i:Nat} {f:Bool} {l:List (Int×Int)}:Rep nb sz ⟨i,f,s.r,s.bufs,l⟩ t:=⟨h.rl,h.r,h.bl,h.len,h.m⟩
theorem Rep.sto (h:Rep nb sz s t) {b n:Nat} {v:UInt64} {i:Nat} {f:Bool} {l:List (Int×Int)} (hb:b < nb) (hn:n < sz b):Rep nb sz ⟨i,f,s.r,s.bufs.set b ((s.bufs.getD b []).set n v),l⟩ (t.sto b n v):=by
 have hbl:b < s.bufs.length:=by rw[h.bl]; exact hb
 refine⟨h.rl,h.r,by simpa using h.bl,fun x hx=>?_,fun x y hx hy=>?_⟩
 ·show ((s.bufs.set b _).getD x []).length=_
  rw[z41 _ _ _ _ _ hbl]
  split
  ·rename_i q; subst q; rw[List.length_set]; exact h.len x hx
  ·exact h.len x hx
 ·show ((s.bufs.set b _).getD x []).getD y 0=if x=b∧y=n then v else t.m x y
  rw[z41 _ _ _ _ _ hbl]
  by_cases q:x=b
  ·subst q
   rw[if_pos rfl,z41 _ _ _ _ _ (by rw[h.len x hx]; exact hn)]
   by_cases q2:y=n
   ·simp[q2]
   ·simp only[q2,and_false,if_false]; exact h.m x y hx hy
  ·simp only[q,false_and,if_false]; exact h.m x y hx hy
end rep
theorem zf7 {os:List Lo} {es:List Int}:∀ (n k:Nat) (s s':Ms),runZ os es n s=some s'→runZ os es (n+k) s=runZ os es k s'
 | 0,k,s,s',h=>by cases h; rw[Nat.zero_add]
 | n+1,k,s,s',h=>by
  unfold runZ at h
  split at h
  ·cases h
  ·rename_i s1 h1
   rw[show n+1+k=(n+k)+1 by omega]
   show (match z6c os es s with | none=>none | some s'=>runZ os es (n+k) s')=_
   rw[h1]
   exact zf7 n k s1 s' h
theorem doR_ok {nb:Nat} {sz:Nat→Nat} {s:Ms} {t t':Fs} {o:Lo} (h:Rep nb sz s t) (hd:o.d < 64) (he:o.e < 64) (ha:o.a < 64) (hb:o.b < 64) (hc:o.c < 64) (hbuf:o.buf.toNat < nb) (hx:opZ sz o t=some t') :
  ∃ s',doR o s=some s'∧s'.i=s.i+1∧s'.first=s.first∧Rep nb sz s' t'∧s'.l.length=s.l.length+1:=by
 unfold opZ at hx
 unfold doR
 rw[h.at ha,h.at hb,h.at hc]
 unfold rowR
 have hbl:o.buf.toNat < s.bufs.length:=by rw[h.bl]; exact hbuf
 split at hx
 ·rename_i k14
  rw[if_pos k14,h.len _ hbuf]
  split at hx
  ·rename_i hlt
   rw[if_pos hlt]
   cases hx
   refine⟨_,rfl,rfl,rfl,?_,by simp⟩
   rw[h.m _ _ hbuf hlt]
   have h1:=h.put (x:=o.d) (v:=t.m o.buf.toNat (o.imm+atZ t o.a).toNat) (i:=0) (f:=true) (l:=[]) hd
   exact h1.put he
  ·cases hx
 ·rename_i k14
  rw[if_neg k14]
  split at hx
  ·rename_i k15
   rw[if_pos k15,h.len _ hbuf]
   split at hx
   ·rename_i hlt
    rw[if_pos hlt]
    cases hx
    refine⟨_,rfl,rfl,rfl,?_,by simp⟩
    have h0:=h.sto (v:=atZ t o.b) (i:=0) (f:=true) (l:=[]) hbuf hlt
    have h1:=h0.put (x:=o.d) (v:=0) (i:=0) (f:=true) (l:=[]) hd
    exact h1.put he
   ·cases hx
  ·rename_i k15
   rw[if_neg k15]
   cases hx
   refine⟨_,rfl,rfl,rfl,?_,by simp⟩
   have h1:=h.put (x:=o.d) (v:=(valR o (atZ t o.a) (atZ t o.b) (decide (atZ t o.c % 2=1))).1) (i:=0) (f:=true) (l:=[]) hd
   exact h1.put he
def Fr.costZ:Fr Lo→Nat
 | .nil=>0
 | .op _ r=>1+r.costZ
 | .loop o b _ r=>o.imm.toNat * (b.costZ+2)+r.costZ
theorem zb4 {α:Type} {l:List α} {i:Nat} {a:α} {r:List α} (h:l.drop i=a::r):l[i]?=some a∧l.drop (i+1)=r:=by
 have h1:=congrArg (fun l=>l[0]?) h
 simp at h1
 refine⟨h1,?_⟩
 rw[←List.drop_drop,h]; rfl
theorem zlq {α:Type} {l a r:List α} {i:Nat} (h:l.drop i=a++r):l.drop (i+a.length)=r:=by
 rw[←List.drop_drop,h,List.drop_left]
theorem ofNat_lt {j:Nat}:(UInt64.ofNat j+1:UInt64)=UInt64.ofNat (j+1):=by
 apply UInt64.toNat.inj
 simp
theorem zfd {os:List Lo} {es:List Int} {nb:Nat} {sz:Nat→Nat}:∀ (f:Fr Lo) (i:Nat) (ls:List Nat) (rest:List Lo) (rs:List Int) (s:Ms) (t t':Fs),f.wf kdL→f.regs nb ls=true→os.drop i=f.flat++rest→es.drop i=f.ends i++rs→s.i=i→s.first=true→Rep nb sz s t→exZ sz f t=some t' →
  ∃ n s',runZ os es n s=some s'∧s'.i=i+f.size∧s'.first=true∧Rep nb sz s' t'∧n≤f.costZ∧s'.l.length≤s.l.length+f.costZ
 | .nil,i,ls,rest,rs,s,t,t',_,_,_,_,hi,hf,hr,hx=>by
  cases hx
  exact⟨0,s,rfl,by simp[Fr.size,hi],hf,hr,Nat.le_refl _,Nat.le_refl _⟩
 | .op o r,i,ls,rest,rs,s,t,t',hw,hg,ho,he,hi,hf,hr,hx=>by
  simp only[Fr.regs,Bool.and_eq_true,zi3,decide_eq_true_eq,Bool.or_eq_true] at hg
  obtain⟨⟨d1,d2⟩,⟨e1,e2⟩,a1,b1,c1,f1,hg⟩:=hg
  have d3:o.d < 64:=by rcases d2 with d2 | d2 <;> omega
  have e3:o.e < 64:=by rcases e2 with e2 | e2 <;> omega
  simp only[Fr.flat,List.cons_append] at ho
  simp only[Fr.ends,List.cons_append] at he
  obtain⟨ho1,ho2⟩:=zb4 ho
  obtain⟨he1,he2⟩:=zb4 he
  unfold exZ at hx
  split at hx
  ·cases hx
  rename_i t1 h1
  obtain⟨s1,q1,q2,q3,q4,q5⟩:=doR_ok hr d3 e3 a1 b1 c1 f1 h1
  obtain⟨n,s',p1,p2,p3,p4,p5,p6⟩:=zfd r (i+1) ls rest rs s1 t1 t' hw.2 hg ho2 he2 (by rw[q2,hi]) (by rw[q3,hf]) q4 hx
  have hk:=hw.1
  have hst:z6c os es s=some s1:=by
   unfold z6c
   rw[hi,ho1]
   dsimp only
   unfold kdL at hk
   rw[if_neg (fun q=>by simp[q] at hk),if_neg (fun q=>by simp[q] at hk)]
   exact q1
  refine⟨n+1,s',?_,by rw[p2]; simp[Fr.size]; omega,p3,p4,by simp[Fr.costZ]; omega,by simp[Fr.costZ]; omega⟩
  show (match z6c os es s with | none=>none | some s'=>runZ os es n s')=_
  rw[hst]; exact p1
 | .loop o b e r,i,ls,rest,rs,s,t,t',hw,hg,ho,he,hi,hf,hr,hx=>by
  simp only[Fr.regs,Bool.and_eq_true,zi3,decide_eq_true_eq,Bool.or_eq_true] at hg
  obtain⟨⟨d1,d2⟩,d0,m1,hg1,hg2⟩:=hg
  have d3:o.d < 64:=by rcases d2 with d2 | d2 <;> omega
  obtain⟨w1,w2,w3,w4⟩:=hw
  have k16:o.kind=16:=by unfold kdL at w1; split at w1 <;> first | assumption | (split at w1 <;> omega)
  have k17:e.kind=17:=by
   unfold kdL at w2
   split at w2
   ·omega
   ·split at w2
    ·assumption
    ·omega
  simp only[Fr.flat,List.cons_append,List.append_assoc] at ho
  simp only[Fr.ends,List.cons_append,List.append_assoc] at he
  obtain⟨ho1,ho2⟩:=zb4 ho
  obtain⟨he1,he2⟩:=zb4 he
  have ho3:=zlq ho2
  have he3:=zlq he2
  rw[Fr.flat_len] at ho3
  rw[Fr.ends_len] at he3
  obtain⟨ho4,ho5⟩:=zb4 ho3
  obtain⟨he4,he5⟩:=zb4 he3
  have hendi:(es.getD (i+1+b.size) 0).toNat=i:=by rw[List.getD_eq_getElem?_getD,he4]; simp
  unfold exZ at hx
  split at hx
  ·cases hx
  rename_i t1 h1
  have hnw:=zfa b (o.d.toNat::ls) (List.mem_cons_self ..) hg1
  have him:=o.imm.toNat_lt
  have round:∀ (n j:Nat) (s:Ms) (t:Fs),1≤n→j+n=o.imm.toNat→s.i=i+1→s.first=true→Rep nb sz s (t.put o.d.toNat (UInt64.ofNat j))→itZ (exZ sz b) o.d.toNat n j t=some t1 →
    ∃ k s',runZ os es k s=some s'∧s'.i=i+b.size+2∧s'.first=true∧Rep nb sz s' t1∧k≤n * (b.costZ+2) - 1∧s'.l.length≤s.l.length+(n * (b.costZ+2) - 1):=by
   intro n
   induction n with
   | zero=>intro j s t h; omega
   | succ n ih =>
    intro j s t _ hj hsi hsf hrep hit
    unfold itZ at hit
    split at hit
    ·cases hit
    rename_i t2 h2
    obtain⟨k,s2,p1,p2,p3,p4,p5,p6⟩:=zfd b (i+1) (o.d.toNat::ls) _ _ s _ t2 w3 hg1 ho2 he2 hsi hsf hrep h2
    have hrd:t2.r o.d.toNat=UInt64.ofNat j:=by
     rw[exZ_r b _ _ hnw h2]
     show (if o.d.toNat=o.d.toNat then _ else _)=_
     rw[if_pos rfl]
    have hat:atR s2.r o.d=UInt64.ofNat j:=by
     rw[p4.at d3]; unfold atZ; rw[if_neg (by omega),hrd]
    have hst:z6c os es s2=if UInt64.ofNat j+1 < o.imm then some ⟨i,false,putR s2.r o.d (UInt64.ofNat j+1),s2.bufs,s2.l⟩ else some ⟨s2.i+1,s2.first,s2.r,s2.bufs,s2.l⟩:=by
     unfold z6c
     rw[p2,ho4]
     dsimp only
     rw[if_neg (by omega),if_pos k17,hendi,ho1]
     dsimp only
     rw[hat]
    cases n with
    | zero =>
     have hnl:¬ (UInt64.ofNat j+1 < o.imm):=by
      rw[UInt64.lt_iff_toNat_lt]
      have:(UInt64.ofNat j+1:UInt64).toNat=(j+1) % 18446744073709551616:=by simp
      rw[this]
      by_cases q:j+1 < 18446744073709551616
      ·rw[Nat.mod_eq_of_lt q]; omega
      ·omega
     rw[if_neg hnl] at hst
     cases hit
     refine⟨k+1,⟨s2.i+1,s2.first,s2.r,s2.bufs,s2.l⟩,?_,?_,p3,p4.ctl,by omega,by show s2.l.length≤_; omega⟩
     ·rw[zf7 k 1 s s2 p1]
      show (match z6c os es s2 with | none=>none | some s'=>runZ os es 0 s')=_
      rw[hst]; rfl
     ·show s2.i+1=_; rw[p2]; omega
    | succ n =>
     have hlt:UInt64.ofNat j+1 < o.imm:=by
      rw[UInt64.lt_iff_toNat_lt]
      have:(UInt64.ofNat j+1:UInt64).toNat=(j+1) % 18446744073709551616:=by simp
      rw[this,Nat.mod_eq_of_lt (by omega)]; omega
     rw[if_pos hlt] at hst
     have hj1:(UInt64.ofNat j+1:UInt64)=UInt64.ofNat (j+1):=ofNat_lt
     have hrep2:Rep nb sz ⟨i+1,true,putR s2.r o.d (UInt64.ofNat j+1),s2.bufs,s2.l++[((i:Int),-1)]⟩ (t2.put o.d.toNat (UInt64.ofNat (j+1))):=by
      have h:=p4.put (x:=o.d) (v:=UInt64.ofNat j+1) (i:=i+1) (f:=true) (l:=s2.l++[((i:Int),-1)]) d3
      rw[hj1] at h ⊢
      unfold putZ at h
      rw[if_pos d0] at h
      exact h
     obtain⟨k2,s3,u1,u2,u3,u4,u5,u6⟩:=ih (j+1) _ t2 (by omega) (by omega) rfl rfl hrep2 hit
     have hm:(n+1+1) * (b.costZ+2)=(n+1) * (b.costZ+2)+(b.costZ+2):=Nat.succ_mul _ _
     have hm2:b.costZ+2≤(n+1) * (b.costZ+2):=Nat.le_mul_of_pos_left _ (by omega)
     refine⟨k+(k2+2),s3,?_,u2,u3,u4,by omega,?_⟩
     ·rw[zf7 k _ s s2 p1]
      show (match z6c os es s2 with | none=>none | some s'=>runZ os es (k2+1) s')=_
      rw[hst]
      show (match z6c os es (⟨i,false,putR s2.r o.d (UInt64.ofNat j+1),s2.bufs,s2.l⟩:Ms) with | none=>none | some s'=>runZ os es k2 s')=_
      have:z6c os es (⟨i,false,putR s2.r o.d (UInt64.ofNat j+1),s2.bufs,s2.l⟩:Ms)=some ⟨i+1,true,putR s2.r o.d (UInt64.ofNat j+1),s2.bufs,s2.l++[((i:Int),-1)]⟩:=by
       unfold z6c
       dsimp only
       rw[ho1]
       dsimp only
       rw[if_pos k16]; rfl
      rw[this]; exact u1
     ·simp only[List.length_append,List.length_cons,List.length_nil] at u6; omega
  have hrep0:Rep nb sz ⟨i+1,true,putR s.r o.d 0,s.bufs,s.l++[((i:Int),-1)]⟩ (t.put o.d.toNat (UInt64.ofNat 0)):=by
   have h:=hr.put (x:=o.d) (v:=0) (i:=i+1) (f:=true) (l:=s.l++[((i:Int),-1)]) d3
   unfold putZ at h
   rw[if_pos d0] at h
   exact h
  obtain⟨k,s1,p1,p2,p3,p4,p5,p6⟩:=round o.imm.toNat 0 _ t m1 (by omega) rfl rfl hrep0 h1
  have hpos:b.costZ+2≤o.imm.toNat * (b.costZ+2):=Nat.le_mul_of_pos_left _ (by omega)
  obtain⟨k2,s2,u1,u2,u3,u4,u5,u6⟩:=zfd r (i+b.size+2) ls rest rs s1 t1 t' w4 hg2 (by rw[show i+b.size+2=i+1+b.size+1 by omega]; exact ho5) (by rw[show i+b.size+2=i+1+b.size+1 by omega] at he5 ⊢; exact he5) p2 p3 p4 hx
  refine⟨(k+k2)+1,s2,?_,by rw[u2]; simp[Fr.size]; omega,u3,u4,by simp only[Fr.costZ]; omega,?_⟩
  ·show (match z6c os es s with | none=>none | some s'=>runZ os es (k+k2) s')=_
   have:z6c os es s=some ⟨i+1,true,putR s.r o.d 0,s.bufs,s.l++[((i:Int),-1)]⟩:=by
    unfold z6c
    rw[hi,ho1]
    dsimp only
    rw[if_pos k16,hf]; rfl
   rw[this]
   show runZ os es (k+k2) _=_
   rw[zf7 k k2 _ s1 p1]; exact u1
  ·simp only[List.length_append,List.length_cons,List.length_nil] at p6
   simp only[Fr.costZ]; omega
end Go.Sv
namespace Go.Sv
def z98:Nat→List Nat→List Int→List Lo→List Int
 | _,_,out,[]=>out
 | i,st,out,o::l=>if o.kind=16 then z98 (i+1) (i::st) (out.set i (-1)) l
  else if o.kind=17 then (match st with
   | []=>z98 (i+1) [] (out.set i (-1)) l
   | a::st'=>z98 (i+1) st' (((out.set i (-1)).set i a).set a i) l)
  else z98 (i+1) st (out.set i (-1)) l
theorem endsR_tree:∀ (f:Fr Lo) (i:Nat) (st:List Nat) (out out':List Int) (rest:List Lo),f.wf kdL→out.length=i →
  z98 i st (out++List.replicate f.size 0++out') (f.flat++rest)=z98 (i+f.size) st (out++f.ends i++out') rest
 | .nil,i,st,out,out',rest,_,_=>by simp[Fr.flat,Fr.size,Fr.ends]
 | .op o r,i,st,out,out',rest,w,hl=>by
  have h:=endsR_tree r (i+1) st (out++[-1]) out' rest w.2 (by simp[hl])
  have hk:=w.1
  have k1:¬ o.kind=16:=fun q=>by simp[kdL,q] at hk
  have k2:¬ o.kind=17:=fun q=>by simp[kdL,q] at hk
  simp only[Fr.flat,Fr.size,Fr.ends,List.cons_append,z98,k1,k2,if_false,List.replicate_succ]
  simp only[List.append_assoc,List.cons_append,List.nil_append] at h ⊢
  rw[List.set_append_right _ _ (by omega),show i - out.length=0 by omega,List.set_cons_zero,h]
  congr 1; omega
 | .loop o b e r,i,st,out,out',rest,w,hl=>by
  obtain⟨w1,w2,w3,w4⟩:=w
  have k16:o.kind=16:=by unfold kdL at w1; split at w1 <;> first | assumption | (split at w1 <;> omega)
  have k17:e.kind=17:=by
   unfold kdL at w2
   split at w2
   ·omega
   ·split at w2
    ·assumption
    ·omega
  have hb:=endsR_tree b (i+1) (i::st) (out++[-1]) ([0]++List.replicate r.size 0++out') (e::(r.flat++rest)) w3 (by simp[hl])
  have hr:=endsR_tree r (i+b.size+2) st (out++[((i+b.size+1:Nat):Int)]++b.ends (i+1)++[(i:Int)]) out' rest w4 (by simp[hl,Fr.ends_len]; omega)
  have e1:List.replicate (b.size+r.size+2) (0:Int)=[0]++List.replicate b.size 0++([0]++List.replicate r.size 0):=by
   rw[show b.size+r.size+2=1+b.size+(1+r.size) by omega,←List.replicate_append_replicate,←List.replicate_append_replicate,←List.replicate_append_replicate]; rfl
  simp only[Fr.flat,Fr.size,List.cons_append,z98,k16,if_true]
  rw[e1]
  simp only[List.append_assoc,List.cons_append,List.nil_append] at hb hr ⊢
  rw[List.set_append_right _ _ (by omega),show i - out.length=0 by omega,List.set_cons_zero,hb]
  simp only[z98,k17]
  have hset:(((out++(-1:Int)::(b.ends (i+1)++(0:Int)::(List.replicate r.size 0++out'))).set (i+1+b.size) (-1)).set (i+1+b.size) (i:Int)).set i ((i+1+b.size:Nat):Int)
    = out++((i+b.size+1:Nat):Int)::(b.ends (i+1)++(i:Int)::(List.replicate r.size 0++out')):=by
   rw[List.set_set,List.set_append_right _ _ (by omega),List.set_append_right _ _ (by omega),show i+1+b.size - out.length=b.size+1 by omega,show i - out.length=0 by omega,List.set_cons_succ,List.set_cons_zero,
    List.set_append_right _ _ (by rw[Fr.ends_len]; exact Nat.le_refl _),Fr.ends_len,Nat.sub_self,List.set_cons_zero,show i+1+b.size=i+b.size+1 by omega]
  rw[hset,show i+1+b.size+1=i+b.size+2 by omega,hr]
  simp only[Fr.ends,List.cons_append,List.append_assoc]
  rw[show i+(b.size+r.size+2)=i+b.size+2+r.size by omega]
  simp[Nat.add_comm]
theorem zri {f:Fr Lo} (w:f.wf kdL):z98 0 [] (List.replicate f.size 0) f.flat=f.ends 0:=by
 have h:=endsR_tree f 0 [] [] [] [] w rfl
 simp only[List.append_nil,List.nil_append,z98] at h
 exact h
theorem flat_bal {f:Fr Lo}:∀ {d:Nat} {rest:List Lo},f.wf kdL→bal kdL d rest→bal kdL d (f.flat++rest):=by
 induction f with
 | nil=>intro d rest _ h; exact h
 | op o r ih =>
  intro d rest w h
  simp only[Fr.flat,List.cons_append]
  unfold bal
  rw[w.1,if_neg (by decide),if_neg (by decide)]
  exact⟨rfl,ih w.2 h⟩
 | loop o b e r ih1 ih2 =>
  intro d rest w h
  obtain⟨w1,w2,w3,w4⟩:=w
  simp only[Fr.flat,List.cons_append,List.append_assoc]
  unfold bal
  rw[w1,if_pos rfl]
  refine ih1 w3 ?_
  unfold bal
  rw[w2,if_neg (by decide),if_pos rfl]
  exact⟨by omega,ih2 w4 h⟩
theorem endsR_len:∀ (l:List Lo) (i:Nat) (st:List Nat) (out:List Int),(z98 i st out l).length=out.length
 | [],_,_,_=>rfl
 | o::l,i,st,out=>by
  unfold z98
  split
  ·rw[endsR_len]; simp
  ·split
   ·split <;> rw[endsR_len] <;> simp
   ·rw[endsR_len]; simp
def stR:List (Int×Int)→Int→List Lo→Int
 | _,s,[]=>s
 | st,s,o::l=>if o.kind=16 then stR ((s,(o.imm.toNat:Int))::st) 1 l
  else if o.kind=17 then (match st with
   | []=>stR [] s l
   | (s0,t)::st'=>stR st' (min 1125899906842624 ((if 1125899906842624 / t < s then 1125899906842624 else s * t)+s0)) l)
  else stR st (min 1125899906842624 (s+1)) l
def Fr.stp:Fr Lo→Nat
 | .nil=>0
 | .op _ r=>1+r.stp
 | .loop o b _ r=>o.imm.toNat * (1+b.stp)+r.stp
theorem zgp {a b:Nat} (h:1≤a):b≤a * b:=Nat.le_mul_of_pos_left _ h
theorem zez {nb:Nat}:∀ (f:Fr Lo) (ls:List Nat) (st:List (Int×Int)) (s:Nat) (rest:List Lo),f.wf kdL→f.regs nb ls=true→s+f.stp≤1125899906842624→stR st s (f.flat++rest)=stR st ((s+f.stp:Nat):Int) rest
 | .nil,_,st,s,rest,_,_,_=>by simp[Fr.flat,Fr.stp]
 | .op o r,ls,st,s,rest,w,hg,hs=>by
  have hk:=w.1
  have k1:¬ o.kind=16:=fun q=>by simp[kdL,q] at hk
  have k2:¬ o.kind=17:=fun q=>by simp[kdL,q] at hk
  simp only[Fr.regs,Bool.and_eq_true] at hg
  simp only[Fr.stp] at hs ⊢
  simp only[Fr.flat,List.cons_append,stR,k1,k2,if_false]
  rw[show min (1125899906842624:Int) ((s:Int)+1)=((s+1:Nat):Int) by omega,zez r ls st (s+1) rest w.2 hg.2.2.2.2.2.2 (by omega)]
  congr 1; omega
 | .loop o b e r,ls,st,s,rest,w,hg,hs=>by
  obtain⟨w1,w2,w3,w4⟩:=w
  have k16:o.kind=16:=by unfold kdL at w1; split at w1 <;> first | assumption | (split at w1 <;> omega)
  have k17:e.kind=17:=by
   unfold kdL at w2
   split at w2
   ·omega
   ·split at w2
    ·assumption
    ·omega
  simp only[Fr.regs,Bool.and_eq_true,decide_eq_true_eq] at hg
  obtain⟨_,_,m1,hg1,hg2⟩:=hg
  simp only[Fr.stp] at hs ⊢
  have hle:=zgp (b:=1+b.stp) m1
  simp only[Fr.flat,List.cons_append,List.append_assoc,stR,k16,if_true]
  rw[show (1:Int)=((1:Nat):Int) from rfl,zez b _ _ 1 _ w3 hg1 (by omega)]
  simp only[stR,k17]
  rw[if_neg (show ¬ (17:Int)=16 by decide),if_pos trivial]
  have hq:¬ (1125899906842624 / ((o.imm.toNat:Nat):Int) < ((1+b.stp:Nat):Int)):=by
   have h1:(1+b.stp) * o.imm.toNat≤1125899906842624:=by rw[Nat.mul_comm]; omega
   have h2:1+b.stp≤1125899906842624 / o.imm.toNat:=(Nat.le_div_iff_mul_le m1).2 h1
   have h3:((1125899906842624 / o.imm.toNat:Nat):Int)=1125899906842624 / ((o.imm.toNat:Nat):Int):=by simp
   omega
  rw[if_neg hq]
  have hm:(((1+b.stp:Nat):Int) * ((o.imm.toNat:Nat):Int))=((o.imm.toNat * (1+b.stp):Nat):Int):=by rw[Nat.mul_comm]; simp
  rw[hm,show min (1125899906842624:Int) (((o.imm.toNat * (1+b.stp):Nat):Int)+(s:Int))=((s+o.imm.toNat * (1+b.stp):Nat):Int) by omega,zez r ls st _ rest w4 hg2 (by omega)]
  congr 1; omega
theorem stR_flat {nb:Nat} {ls:List Nat} {f:Fr Lo} (w:f.wf kdL) (hg:f.regs nb ls=true) (hs:f.stp≤1125899906842624):stR [] 0 f.flat=f.stp:=by
 have h:=zez f ls [] 0 [] w hg (by omega)
 simp only[List.append_nil,stR,Nat.zero_add] at h
 exact h
end Go.Sv
namespace Go.Sv
def rowS (b:Bf) (x:List UInt64):List UInt64:=x++List.replicate (b.size.toNat - x.length) 0
def bufS (bs:List Bf) (X:List (List UInt64)) (n:Nat):List (List UInt64):=(List.range n).map fun i=>rowS (gbf bs i) (X.getD i [])
def z1d (regs:Int) (bs:List Bf) (X:List (List UInt64)):Ms:=⟨0,true,List.replicate regs.toNat 0,bufS bs X bs.length,[]⟩
theorem bufS_len (bs:List Bf) (X:List (List UInt64)) (n:Nat):(bufS bs X n).length=n:=by simp[bufS]
theorem zct (r:List UInt64) (x:Int) (v:UInt64):(putR r x v).length=r.length:=by unfold putR; split <;> simp
structure SameLen (s s':Ms):Prop where
 r:s'.r.length=s.r.length
 b:s'.bufs.map List.length=s.bufs.map List.length
 i:s'.i=s.i+1
 l:s'.l.length=s.l.length+1
 f:s'.first=s.first
theorem doR_len {o:Lo} {s s':Ms} (h:doR o s=some s'):SameLen s s':=by
 unfold doR at h
 split at h
 ·split at h
  ·cases h; exact⟨by simp[zct],rfl,rfl,by simp,rfl⟩
  ·cases h
 ·split at h
  ·split at h
   ·rename_i hlt
    cases h
    refine⟨by simp[zct],?_,rfl,by simp,rfl⟩
    show (s.bufs.set _ _).map List.length=_
    rw[List.map_set,List.length_set]
    refine List.ext_getElem? fun j=>?_
    by_cases q:o.buf.toNat=j
    ·subst q
     by_cases hl:o.buf.toNat < s.bufs.length
     ·rw[List.getElem?_set_self (by simpa using hl)]; simp[rowR,List.getD_eq_getElem?_getD,hl]
     ·rw[List.getElem?_eq_none (by simpa using hl),List.getElem?_eq_none (by simpa using hl)]
    ·rw[List.getElem?_set_ne q]
   ·cases h
  ·cases h; exact⟨by simp[zct],rfl,rfl,by simp,rfl⟩
theorem zpy {os:List Lo} {es:List Int} {s:Ms} (h:os[s.i]?=none):∀ n,runZ os es n s=some s
 | 0=>rfl
 | n+1=>by
  show (match z6c os es s with | none=>none | some s'=>runZ os es n s')=_
  have:z6c os es s=some s:=by unfold z6c; rw[h]
  rw[this]; exact zpy h n
theorem ends_at:∀ (f:Fr Lo) (i j:Nat) (o:Lo),f.wf kdL→f.flat[j]?=some o→o.kind=17→∃ k p,(f.ends i)[j]?=some ((i+k:Nat):Int)∧f.flat[k]?=some p∧p.kind=16
 | .nil,_,_,_,_,h,_=>by simp[Fr.flat] at h
 | .op a r,i,j,o,w,h,hk=>by
  have hka:=w.1
  have k2:¬ a.kind=17:=fun q=>by simp[kdL,q] at hka
  cases j with
  | zero=>simp[Fr.flat] at h; subst h; exact absurd hk k2
  | succ j =>
   simp only[Fr.flat,List.getElem?_cons_succ] at h
   obtain⟨k,p,h1,h2,h3⟩:=ends_at r (i+1) j o w.2 h hk
   exact⟨k+1,p,by simp only[Fr.ends,List.getElem?_cons_succ]; rw[h1]; congr 2; omega,by simpa only[Fr.flat,List.getElem?_cons_succ] using h2,h3⟩
 | .loop a b e r,i,j,o,w,h,hk=>by
  obtain⟨w1,w2,w3,w4⟩:=w
  have k16:a.kind=16:=by unfold kdL at w1; split at w1 <;> first | assumption | (split at w1 <;> omega)
  cases j with
  | zero=>simp[Fr.flat] at h; subst h; omega
  | succ j =>
   simp only[Fr.flat,List.getElem?_cons_succ] at h
   simp only[Fr.ends,List.getElem?_cons_succ]
   by_cases q1:j < b.size
   ·rw[List.getElem?_append_left (by rw[Fr.flat_len]; exact q1)] at h
    obtain⟨k,p,h1,h2,h3⟩:=ends_at b (i+1) j o w3 h hk
    have hk2:k < b.size:=by rw[←Fr.flat_len]; exact (List.getElem?_eq_some_iff.1 h2).1
    refine⟨k+1,p,?_,?_,h3⟩
    ·rw[List.getElem?_append_left (by rw[Fr.ends_len]; exact q1),h1]; congr 2; omega
    ·simp only[Fr.flat,List.getElem?_cons_succ]
     rw[List.getElem?_append_left (by rw[Fr.flat_len]; exact hk2)]; exact h2
   ·rw[List.getElem?_append_right (by rw[Fr.flat_len]; omega),Fr.flat_len] at h
    rw[List.getElem?_append_right (by rw[Fr.ends_len]; omega),Fr.ends_len]
    cases hj:j - b.size with
    | zero =>
     refine⟨0,a,by simp,by simp[Fr.flat],k16⟩
    | succ m =>
     rw[hj] at h
     simp only[List.getElem?_cons_succ] at h ⊢
     obtain⟨k,p,h1,h2,h3⟩:=ends_at r (i+b.size+2) m o w4 h hk
     refine⟨k+b.size+2,p,by rw[h1]; congr 2; omega,?_,h3⟩
     simp only[Fr.flat,List.getElem?_cons_succ]
     rw[List.getElem?_append_right (by rw[Fr.flat_len]; omega),Fr.flat_len,show k+b.size+1 - b.size=k+1 by omega,List.getElem?_cons_succ]
     exact h2
end Go.Sv
namespace Go.Sv
structure Pc where
 buf:Int
 at_:Int
 size:Int
def Pc.f (p:Pc):List LV:=[.i p.buf,.i p.at_,.i p.size]
def cK (d:Int) (n:UInt64):Lo:=⟨1,d,-1,-1,-1,-1,0,n⟩
def cTwo (k d a b:Int):Lo:=⟨k,d,-1,a,b,-1,0,0⟩
def cMul (h l a b:Int):Lo:=⟨10,h,l,a,b,-1,0,0⟩
def cCar (k d out a b c:Int):Lo:=⟨k,d,out,a,b,c,0,0⟩
def cSel (d c a b:Int):Lo:=⟨13,d,-1,a,b,c,0,0⟩
noncomputable def cLd (d:Int) (p:Pc) (i off:Int):Lo:=⟨14,d,-1,i,-1,-1,p.buf,iU (p.at_+off)⟩
noncomputable def cSt (p:Pc) (i off b:Int):Lo:=⟨15,-1,-1,i,b,-1,p.buf,iU (p.at_+off)⟩
noncomputable def cLp (d times:Int):Lo:=⟨16,d,-1,-1,-1,-1,0,iU times⟩
def cEn:Lo:=⟨17,-1,-1,-1,-1,-1,0,0⟩
def Kp (e:Nat) (G G':z03):Prop:=G.length≤G'.length∧∀ (q:Nat) (ob:LObj),q≠e→(∀ R m k st,ob≠LObj.dyn R m 8 k st)→G[q]?=some ob→G'[q]?=some ob
theorem Kp.refl (e:Nat) (G:z03):Kp e G G:=⟨Nat.le_refl _,fun _ _ _ _ h=>h⟩
theorem Kp.trans {e:Nat} {a b c:z03} (h:Kp e a b) (k:Kp e b c):Kp e a c:=⟨Nat.le_trans h.1 k.1,fun q ob h1 h2 h3=>k.2 q ob h1 h2 (h.2 q ob h1 h2 h3)⟩
theorem Kp.cells {e:Nat} {a b:z03} (h:Kp e a b) {q st:Nat} {l:List LV} (hq:q≠e) (hc:a[q]?=some (.cells l st)):b[q]?=some (.cells l st):=h.2 q _ hq (fun _ _ _ _ e=>by cases e) hc
theorem Kp.app {e:Nat} {a b:z03} (h:Kp e a b) (x:List LObj):Kp e a (b++x):=⟨by have:=h.1; simp; omega,fun q ob h1 h2 h3=>by have h4:=h.2 q ob h1 h2 h3; rw[oldP (List.getElem?_eq_some_iff.1 h4).1]; exact h4⟩
theorem Kp.app' (e:Nat) (a:z03) (x:List LObj):Kp e a (a++x):=(Kp.refl e a).app x
def EmH (G:z03) (e:Nat) (ops:List Lo) (deep:Int):Prop:=∃ (st:Nat) (v:LV),G[e]?=some (.cells [v,.i deep] st)∧StD 0 G v 8 ops.length (loC ops)
theorem EmH.app {G:z03} {e:Nat} {ops:List Lo} {deep:Int} (h:EmH G e ops deep) (x:List LObj):EmH (G++x) e ops deep:=by
 obtain⟨st,v,h1,h2⟩:=h
 exact⟨st,v,by rw[oldP (List.getElem?_eq_some_iff.1 h1).1]; exact h1,h2.push_end⟩
end Go.Sv
namespace Go.Sv
section made
variable {wk : Bool → Int} {a b lim : Nat → Int} {sec : Nat → Bool} {done busy : List Nat} {iv : Nat → Hl} {ps : Bool → St} {cur base : Int} {n : Nat}
end made
end Go.Sv
namespace Go.Sv
def Srt {α:Type} (k:α→Int) (l:List α):Prop:=l.Pairwise fun x y=>k x≤k y
section sym
variable {α : Type} {k : α → Int}
theorem Srt.last {l:List α} (h:Srt k l) {u z:α} (hu:u∈l) (hz:l.getLast?=some z):k u≤k z:=by
 obtain⟨ys,rfl⟩:=List.getLast?_eq_some_iff.1 hz
 have:=List.pairwise_append.1 h
 rcases List.mem_append.1 hu with q | q
 ·exact this.2.2 u q z (by simp)
 ·rw[List.mem_singleton.1 q]; exact Int.le_refl _
theorem Srt.head {l:List α} (h:Srt k l) {u z:α} (hu:u∈l) (hz:l.head?=some z):k z≤k u:=by
 obtain⟨ys,rfl⟩:=List.head?_eq_some_iff.1 hz
 have:=List.pairwise_cons.1 h
 rcases List.mem_cons.1 hu with q | q
 ·rw[q]; exact Int.le_refl _
 ·exact this.1 u q
theorem ztd {l:List α} {u:α} (h:u∈l):∃ z,l.getLast?=some z:=by
 cases hl:l.getLast? with
 | none=>rw[List.getLast?_eq_none_iff] at hl; subst hl; cases h
 | some z=>exact⟨z,rfl⟩
theorem zur {l:List α} {u:α} (h:u∈l):∃ z,l.head?=some z:=by
 cases l with
 | nil=>cases h
 | cons z t=>exact⟨z,rfl⟩
theorem halves {X1 X2 Y1 Y2:List α} (hX:Srt k (X1++X2)) (hY:Srt k (Y1++Y2)) (h1:∀ u w,X1.getLast?=some u→Y2.head?=some w→k u≤k w) (h2:∀ u w,Y1.getLast?=some u→X2.head?=some w→k u≤k w) :
  ∀ u∈X1++Y1,∀ w∈X2++Y2,k u≤k w:=by
 obtain⟨a1,a2,a3⟩:=List.pairwise_append.1 hX
 obtain⟨b1,b2,b3⟩:=List.pairwise_append.1 hY
 intro u hu w hw
 rcases List.mem_append.1 hu with hu | hu <;> rcases List.mem_append.1 hw with hw | hw
 ·exact a3 u hu w hw
 ·obtain⟨z,hz⟩:=ztd hu
  obtain⟨y,hy⟩:=zur hw
  exact Int.le_trans (Srt.last a1 hu hz) (Int.le_trans (h1 z y hz hy) (Srt.head b2 hw hy))
 ·obtain⟨z,hz⟩:=ztd hu
  obtain⟨y,hy⟩:=zur hw
  exact Int.le_trans (Srt.last b1 hu hz) (Int.le_trans (h2 z y hz hy) (Srt.head a2 hw hy))
 ·exact b3 u hu w hw
end sym
end Go.Sv
namespace Go.Sv
theorem zts (vs:List Vr):chkB vs (z2s 0 vs) []=z81 vs:=by
 unfold chkB
 cases hv:z81 vs with
 | false=>rfl
 | true =>
  have hl:=zh1 hv
  have hsl:=startOs_len vs 0
  obtain⟨m,q1,q2,q3⟩:=zcf vs 0 (z7a vs) rfl (by simp[z7a]) (fun j hj=>by omega) (fun j _ hj=>by
   unfold gb z7a
   rw[List.getD_eq_getElem?_getD,List.getElem?_map,zbw hj]; rfl)
  rw[q1]
  have hm:z7b vs m=true:=by
   unfold z7b
   rw[List.all_eq_true]
   intro i hi
   simp[q3 i (List.mem_range.1 hi)]
  have e1:(z2s 0 vs).length≤4096:=by omega
  simp[hm,e1]
def gpc (l:List Pc) (n:Nat):Pc:=l.getD n ⟨0,0,0⟩
def zi9 (bs:List Bf):Int :=
 if 32 < bs.length then 3 else if (bs.any fun b=>decide (65536 < b.size))=true then 3 else if (bs.any fun b=>decide (b.size < 1) || (decide (b.kind < 1) || decide (3 < b.kind)))=true then 2 else 0
def zc5 (bs:List Bf) (x:Pc):Bool:=decide (0≤x.buf) && (decide (x.buf < bs.length) && (decide (1≤x.size) && (decide (x.size≤32768) && (decide (0≤x.at_) && (decide (x.at_≤(gbf bs x.buf.toNat).size) && decide (x.size≤(gbf bs x.buf.toNat).size - x.at_))))))
def zb8 (bs:List Bf) (v:Vr) (x:Pc):Bool :=
 zc5 bs x && (decide (x.size=v.limbs) && (!(decide ((gbf bs x.buf.toNat).kind=1) && !z2v v) && (!(decide ((gbf bs x.buf.toNat).kind=2) && z2v v) && (v.sec==(gbf bs x.buf.toNat).sec))))
def zd2 (bs:List Bf) (s:Bool) (x:Pc):Bool:=zc5 bs x && (!decide ((gbf bs x.buf.toNat).kind=1) && ((gbf bs x.buf.toNat).sec==s))
def zen (vs:List Vr) (bs:List Bf) (ps:List Pc) (w0 w1:Pc):Bool :=
 z81 vs && (decide (1≤bs.length) && (decide (ps.length=vs.length) && (decide (zi9 bs=0) && (((List.range vs.length).all fun i=>zb8 bs (gv vs i) (gpc ps i)) && (zd2 bs false w0 && zd2 bs true w1)))))
def pcC (l:List Pc):List LV:=l.flatMap Pc.f
end Go.Sv
namespace Go.Sv
def frZ:List Lo→Fr Lo
 | []=>.nil
 | o::l=>.op o (frZ l)
def Fr.cat {α:Type}:Fr α→Fr α→Fr α
 | .nil,g=>g
 | .op o r,g=>.op o (r.cat g)
 | .loop o b e r,g=>.loop o b e (r.cat g)
theorem flat_frL:∀ l:List Lo,(frZ l).flat=l
 | []=>rfl
 | o::l=>by rw[frZ,Fr.flat,flat_frL l]
theorem z1e {α:Type}:∀ f g:Fr α,(f.cat g).flat=f.flat++g.flat
 | .nil,g=>rfl
 | .op o r,g=>by rw[Fr.cat,Fr.flat,Fr.flat,z1e r g]; rfl
 | .loop o b e r,g=>by rw[Fr.cat,Fr.flat,Fr.flat,z1e r g]; simp
theorem frL_app:∀ a b:List Lo,frZ (a++b)=(frZ a).cat (frZ b)
 | [],_=>rfl
 | o::a,b=>by rw[List.cons_append,frZ,frZ,Fr.cat,frL_app a b]
theorem stp_cat:∀ f g:Fr Lo,(f.cat g).stp=f.stp+g.stp
 | .nil,g=>by simp[Fr.cat,Fr.stp]
 | .op o r,g=>by rw[Fr.cat,Fr.stp,Fr.stp,stp_cat r g]; omega
 | .loop o b e r,g=>by rw[Fr.cat,Fr.stp,Fr.stp,stp_cat r g]; omega
theorem zgy (l:List Lo):(frZ l).stp=l.length:=by
 induction l with
 | nil=>rfl
 | cons o l ih=>rw[frZ,Fr.stp,ih,List.length_cons]; omega
section ex
variable {sz : Nat → Nat} {s : Fs}
theorem exZ_cat:∀ (f g:Fr Lo) (s:Fs),exZ sz (f.cat g) s=(exZ sz f s).bind (exZ sz g)
 | .nil,g,s=>rfl
 | .op o r,g,s=>by
  rw[Fr.cat,exZ,exZ]
  cases opZ sz o s with
  | none=>rfl
  | some s'=>exact exZ_cat r g s'
 | .loop o b e r,g,s=>by
  rw[Fr.cat,exZ,exZ]
  cases itZ (exZ sz b) o.d.toNat o.imm.toNat 0 s with
  | none=>rfl
  | some s'=>exact exZ_cat r g s'
def Tx (sz:Nat→Nat) (f:Fr Lo) (s:Fs) (Q:Fs→Prop):Prop:=∃ s',exZ sz f s=some s'∧Q s'
theorem Tx.nil {Q:Fs→Prop} (h:Q s):Tx sz .nil s Q:=⟨s,rfl,h⟩
theorem Tx.op {o:Lo} {r:Fr Lo} {s1:Fs} {Q:Fs→Prop} (h:opZ sz o s=some s1) (k:Tx sz r s1 Q):Tx sz (.op o r) s Q:=by
 obtain⟨s',h1,h2⟩:=k
 exact⟨s',by rw[exZ,h]; exact h1,h2⟩
theorem Tx.cat {f g:Fr Lo} {Q R:Fs→Prop} (h:Tx sz f s R) (k:∀ s',R s'→Tx sz g s' Q):Tx sz (f.cat g) s Q:=by
 obtain⟨s1,h1,h2⟩:=h
 obtain⟨s2,h3,h4⟩:=k s1 h2
 exact⟨s2,by rw[exZ_cat,h1]; exact h3,h4⟩
theorem Tx.mono {f:Fr Lo} {Q R:Fs→Prop} (h:Tx sz f s R) (k:∀ s',R s'→Q s'):Tx sz f s Q:=by
 obtain⟨s1,h1,h2⟩:=h; exact⟨s1,h1,k s1 h2⟩
theorem it_ex {f:Fs→Option Fs} {d:Nat} {I:Nat→Fs→Prop}:∀ (n j:Nat) (s:Fs),I j s→(∀ i s,i < j+n→I i s→∃ s',f (s.put d (UInt64.ofNat i))=some s'∧I (i+1) s')→∃ s',itZ f d n j s=some s'∧I (j+n) s'
 | 0,j,s,h,_=>⟨s,rfl,h⟩
 | n+1,j,s,h,k=>by
  obtain⟨s1,h1,h2⟩:=k j s (by omega) h
  obtain⟨s2,h3,h4⟩:=it_ex n (j+1) s1 h2 fun i s hi hI=>k i s (by omega) hI
  refine⟨s2,?_,by rw[show j+(n+1)=j+1+n by omega]; exact h4⟩
  show (match f (s.put d (UInt64.ofNat j)) with | none=>none | some s'=>itZ f d n (j+1) s')=_
  rw[h1]; exact h3
theorem Tx.loop {o e:Lo} {b r:Fr Lo} {Q:Fs→Prop} (I:Nat→Fs→Prop) (h0:I 0 s) (h1:∀ i s,i < o.imm.toNat→I i s→Tx sz b (s.put o.d.toNat (UInt64.ofNat i)) (I (i+1))) (h2:∀ s',I o.imm.toNat s'→Tx sz r s' Q):Tx sz (.loop o b e r) s Q:=by
 obtain⟨s1,h3,h4⟩:=it_ex o.imm.toNat 0 s h0 fun i s hi hI=>h1 i s (by omega) hI
 rw[Nat.zero_add] at h4
 obtain⟨s2,h5,h6⟩:=h2 s1 h4
 exact⟨s2,by rw[exZ,h3]; exact h5,h6⟩
theorem zbc (s:Fs) (d:Nat) (v:UInt64):putZ s (d:Int) v=s.put d v:=by unfold putZ; rw[if_pos (by omega)]; rfl
theorem z92 (s:Fs) (v:UInt64):putZ s (-1) v=s:=by unfold putZ; rw[if_neg (by omega)]
theorem zht (s:Fs) (d:Nat):atZ s (d:Int)=s.r d:=by unfold atZ; rw[if_neg (by omega)]; rfl
theorem atZ_m1 (s:Fs):atZ s (-1)=0:=by unfold atZ; rw[if_pos (by omega)]
theorem zn2 {d:Nat} {v:UInt64}:opZ sz (cK d v) s=some (s.put d v):=by simp[opZ,cK,valR,zbc,z92]
theorem znx {d a b:Nat}:opZ sz (cTwo 3 d a b) s=some (s.put d (s.r a+s.r b)):=by simp[opZ,cTwo,valR,zbc,z92,zht]
theorem zws {d a b:Nat}:opZ sz (cTwo 4 d a b) s=some (s.put d (s.r a - s.r b)):=by simp[opZ,cTwo,valR,zbc,z92,zht]
theorem opZ_xor {d a b:Nat}:opZ sz (cTwo 7 d a b) s=some (s.put d (s.r a ^^^ s.r b)):=by simp[opZ,cTwo,valR,zbc,z92,zht]
theorem zg0 {h l a b:Nat}:opZ sz (cMul h l a b) s=some ((s.put h (zdp (s.r a) (s.r b))).put l (s.r a * s.r b)):=by simp[opZ,cMul,valR,zbc,zht]
theorem zov {d e a b c:Nat}:opZ sz (cCar 11 d e a b c) s=some ((s.put d (addC (s.r a) (s.r b) (decide (s.r c % 2=1))).1).put e (bitR (addC (s.r a) (s.r b) (decide (s.r c % 2=1))).2)):=by simp[opZ,cCar,valR,zbc,zht]
theorem zvl {d e a b c:Nat}:opZ sz (cCar 12 d e a b c) s=some ((s.put d (subC (s.r a) (s.r b) (decide (s.r c % 2=1))).1).put e (bitR (subC (s.r a) (s.r b) (decide (s.r c % 2=1))).2)):=by simp[opZ,cCar,valR,zbc,zht]
theorem opZ_sel {d c a b:Nat}:opZ sz (cSel d c a b) s=some (s.put d (if s.r c % 2=1 then s.r a else s.r b)):=by
 simp[opZ,cSel,valR,zbc,z92,zht]
theorem opZ_ld {d i:Nat} {p:Pc} {off:Int} {b n:Nat} (hb:p.buf=(b:Int)) (hn:(iU (p.at_+off)+s.r i).toNat=n) (hlt:n < sz b):opZ sz (cLd d p i off) s=some (s.put d (s.m b n)):=by
 simp[opZ,cLd,zbc,z92,zht,hb,hn,hlt]
theorem opZ_ld0 {d:Nat} {p:Pc} {off:Int} {b n:Nat} (hb:p.buf=(b:Int)) (hn:(iU (p.at_+off)).toNat=n) (hlt:n < sz b):opZ sz (cLd d p (-1) off) s=some (s.put d (s.m b n)):=by
 simp[opZ,cLd,zbc,z92,atZ_m1,hb,hn,hlt]
theorem opZ_st {v i:Nat} {p:Pc} {off:Int} {b n:Nat} (hb:p.buf=(b:Int)) (hn:(iU (p.at_+off)+s.r i).toNat=n) (hlt:n < sz b):opZ sz (cSt p i off v) s=some (s.sto b n (s.r v)):=by
 simp[opZ,cSt,z92,zht,hb,hn,hlt]
theorem opZ_st0 {v:Nat} {p:Pc} {off:Int} {b n:Nat} (hb:p.buf=(b:Int)) (hn:(iU (p.at_+off)).toNat=n) (hlt:n < sz b):opZ sz (cSt p (-1) off v) s=some (s.sto b n (s.r v)):=by
 simp[opZ,cSt,z92,atZ_m1,zht,hb,hn,hlt]
end ex
theorem z0z (s:Fs) (d x:Nat) (v:UInt64):(s.put d v).r x=if x=d then v else s.r x:=rfl
theorem z5u (s:Fs) (d:Nat) (v:UInt64):(s.put d v).m=s.m:=rfl
theorem zdg (s:Fs) (b n:Nat) (v:UInt64):(s.sto b n v).r=s.r:=rfl
theorem sto_m (s:Fs) (b n x y:Nat) (v:UInt64):(s.sto b n v).m x y=if x=b∧y=n then v else s.m x y:=rfl
def absZ (s:Ms):Fs:=⟨fun x=>s.r.getD x 0,fun b n=>(s.bufs.getD b []).getD n 0⟩
def szZ (s:Ms):Nat→Nat:=fun b=>(s.bufs.getD b []).length
theorem Rep.abs (s:Ms) (h:s.r.length=64):Rep s.bufs.length (szZ s) s (absZ s):=⟨h,fun _ _=>rfl,rfl,fun _ _=>rfl,fun _ _ _ _=>rfl⟩
end Go.Sv
namespace Go.Sv
theorem zf8 {regs:Int} {bs:List Bf} {d:Int} {v:UInt64} (h:0≤d∧d < regs):z0p regs bs (cK d v)=true:=by
 simp[z0p,cK,z06,hasD,hasE,hasA,z40,z3z,memK,h]
theorem zb0 {regs:Int} {bs:List Bf} {k d a b:Int} (hk:3≤k∧k≤7) (h:0≤d∧d < regs) (ha:0≤a∧a < regs) (hb:0≤b∧b < regs):z0p regs bs (cTwo k d a b)=true:=by
 have hc:k=3∨k=4∨k=5∨k=6∨k=7:=by omega
 rcases hc with rfl | rfl | rfl | rfl | rfl <;> simp[z0p,cTwo,z06,hasD,hasE,hasA,z40,z3z,memK,h,ha,hb]
theorem zas {regs:Int} {bs:List Bf} {d e a b:Int} (h:0≤d∧d < regs) (he:0≤e∧e < regs) (ha:0≤a∧a < regs) (hb:0≤b∧b < regs) (hn:d≠e):z0p regs bs (cMul d e a b)=true:=by
 simp[z0p,cMul,z06,hasD,hasE,hasA,z40,z3z,memK,h,ha,hb,he,hn]
theorem zsf {regs:Int} {bs:List Bf} {k d e a b c:Int} (hk:k=11∨k=12) (h:0≤d∧d < regs) (he:0≤e∧e < regs) (ha:0≤a∧a < regs) (hb:0≤b∧b < regs) (hc:0≤c∧c < regs) (hn:d≠e):z0p regs bs (cCar k d e a b c)=true:=by
 rcases hk with rfl | rfl <;> simp[z0p,cCar,z06,hasD,hasE,hasA,z40,z3z,memK,h,ha,hb,hc,he,hn]
theorem zr9 {regs:Int} {bs:List Bf} {d c a b:Int} (h:0≤d∧d < regs) (hc:0≤c∧c < regs) (ha:0≤a∧a < regs) (hb:0≤b∧b < regs):z0p regs bs (cSel d c a b)=true:=by
 simp[z0p,cSel,z06,hasD,hasE,hasA,z40,z3z,memK,h,ha,hb,hc]
theorem zlb {regs:Int} {bs:List Bf} {d i off:Int} {p:Pc} (h:0≤d∧d < regs) (hi:i=-1∨0≤i∧i < regs) (hb:0≤p.buf∧p.buf < bs.length) (hm:i=-1→iU (p.at_+off) < iU (gbf bs p.buf.toNat).size):z0p regs bs (cLd d p i off)=true:=by
 rcases hi with rfl | hi
 ·simp[z0p,cLd,z06,hasD,hasE,hasA,z40,z3z,memK,h,hb,hm rfl]
 ·have:i≠-1:=by omega
  simp[z0p,cLd,z06,hasD,hasE,hasA,z40,z3z,memK,h,hb,hi,this]
theorem zkr {regs:Int} {bs:List Bf} {v i off:Int} {p:Pc} (h:0≤v∧v < regs) (hi:i=-1∨0≤i∧i < regs) (hb:0≤p.buf∧p.buf < bs.length) (hk:(gbf bs p.buf.toNat).kind≠1) (hm:i=-1→iU (p.at_+off) < iU (gbf bs p.buf.toNat).size):z0p regs bs (cSt p i off v)=true:=by
 rcases hi with rfl | hi
 ·simp[z0p,cSt,z06,hasD,hasE,hasA,z40,z3z,memK,h,hb,hm rfl,hk]
 ·have:i≠-1:=by omega
  simp[z0p,cSt,z06,hasD,hasE,hasA,z40,z3z,memK,h,hb,hi,this,hk]
def okL (regs:Int) (bs:List Bf):List Int→List Lo→Prop
 | _,[]=>True
 | S,o::l=>z0p regs bs o=true∧(o.kind≠16∧o.kind≠17)∧(∀ x∈z0u o,x∈S)∧okL regs bs (z08 o++S) l
theorem zje {regs:Int} {bs:List Bf}:∀ {l:List Lo} {S S':List Int},(∀ x∈S,x∈S')→okL regs bs S l→okL regs bs S' l
 | [],_,_,_,_=>trivial
 | o::l,S,S',h,k=>⟨k.1,k.2.1,fun x hx=>h x (k.2.2.1 x hx),zje (fun x hx=>by
   rcases List.mem_append.1 hx with hx | hx
   ·exact List.mem_append_left _ hx
   ·exact List.mem_append_right _ (h x hx)) k.2.2.2⟩
theorem zox {regs:Int} {bs:List Bf}:∀ {a b:List Lo} {S:List Int},okL regs bs S a→okL regs bs ((a.flatMap z08)++S) b→okL regs bs S (a++b)
 | [],b,S,_,k=>by simpa using k
 | o::a,b,S,h,k=>⟨h.1,h.2.1,h.2.2.1,zox h.2.2.2 (zje (fun x hx=>by
   simp only[List.flatMap_cons,List.mem_append] at hx ⊢
   rcases hx with (hx | hx) | hx
   ·exact .inr (.inl hx)
   ·exact .inl hx
   ·exact .inr (.inr hx)) k)⟩
theorem zqi {regs:Int} {bs:List Bf} {a b:List Lo} {S:List Int} (h:okL regs bs S a) (k:okL regs bs S b):okL regs bs S (a++b) :=
 zox h (zje (fun _ hx=>List.mem_append_right _ hx) k)
def zek (regs:Int) (m:List Bool) (S:List Int):Prop:=(m.length:Int)=regs∧∀ x∈S,0≤x∧x < regs∧z3d m x=true
theorem zck {m:List Bool} {a x:Int} (ha:0≤a∧a < m.length) (hx:0≤x):z3d (m.set a.toNat true) x=true↔x=a∨z3d m x=true:=by
 unfold z3d
 rw[z41 _ _ _ _ _ (by omega)]
 by_cases e:x.toNat=a.toNat
 ·rw[if_pos e]; simp; left; omega
 ·rw[if_neg e]
  constructor
  ·exact .inr
  ·rintro (rfl | h)
   ·exact absurd rfl e
   ·exact h
theorem zek.fold {regs:Int}:∀ (mk:List Int) (m:List Bool) (S:List Int),zek regs m S→(∀ x∈mk,0≤x∧x < regs)→zek regs (mk.foldl (fun m r=>m.set r.toNat true) m) (mk++S)
 | [],_,_,h,_=>h
 | a::mk,m,S,h,hr=>by
  have ha:=hr a (List.mem_cons_self ..)
  have h1:zek regs (m.set a.toNat true) (a::S):=by
   refine⟨by simpa using h.1,fun x hx=>?_⟩
   rcases List.mem_cons.1 hx with rfl | hx
   ·exact⟨ha.1,ha.2,(zck ⟨ha.1,by rw[h.1]; exact ha.2⟩ ha.1).2 (.inl rfl)⟩
   ·obtain⟨h1,h2,h3⟩:=h.2 x hx
    exact⟨h1,h2,(zck ⟨ha.1,by rw[h.1]; exact ha.2⟩ h1).2 (.inr h3)⟩
  have h2:=zek.fold mk _ _ h1 fun x hx=>hr x (List.mem_cons_of_mem _ hx)
  refine⟨h2.1,fun x hx=>h2.2 x ?_⟩
  simp only[List.mem_append,List.mem_cons] at hx ⊢
  rcases hx with (hx | hx) | hx
  ·exact .inr (.inl hx)
  ·exact .inl hx
  ·exact .inr (.inr hx)
theorem stepR_op {regs:Int} {bs:List Bf} {m:List Bool} {ls:List Int} {o:Lo} (hf:z0p regs bs o=true) (h16:o.kind≠16) (h17:o.kind≠17) (hm:∀ x∈z08 o,¬ x∈ls) (ht:∀ x∈z0u o,z3d m x=true) :
  z7r regs bs m ls o=(0,(z08 o).foldl (fun m r=>m.set r.toNat true) m,ls):=by
 unfold z7r
 rw[if_neg (by rw[hf]; decide),if_neg h17,if_neg,if_neg (fun q=>h16 q.1),if_neg (fun q=>h16 q.1),if_neg,if_neg h16]
 ·rw[List.any_eq_true]; rintro⟨x,hx,h⟩; rw[ht x hx] at h; cases h
 ·rw[List.any_eq_true]; rintro⟨x,hx,h⟩; exact hm x hx (by simpa using h)
theorem makes_in {regs:Int} {bs:List Bf} {o:Lo} (h:z0p regs bs o=true):∀ x∈z08 o,0≤x∧x < regs:=by
 unfold z0p at h
 simp only[Bool.and_eq_true,decide_eq_true_eq] at h
 obtain⟨⟨k1,k2⟩,d,e,_⟩:=h
 have f1:∀ {x:Int},z06 regs x true=true→0≤x∧x < regs:=fun h=>by unfold z06 at h; simpa using h
 intro x hx
 unfold z08 at hx
 split at hx
 ·rename_i hk
  have hd:hasD o.kind=true:=by rcases hk with h | h | h <;> rw[h] <;> rfl
  have he:hasE o.kind=true:=by rcases hk with h | h | h <;> rw[h] <;> rfl
  rw[hd] at d; rw[he] at e
  simp at hx
  rcases hx with rfl | rfl
  ·exact f1 d
  ·exact f1 e
 ·split at hx
  ·cases hx
  ·rename_i hk
   have hd:hasD o.kind=true:=by simp[hasD]; omega
   rw[hd] at d
   simp at hx
   subst hx
   exact f1 d
end Go.Sv
namespace Go.Sv
def zeo (n r:Int):List Lo:=[cK (r+3) 3,cMul (r+1) r n (r+3),cK (r+3) 2,cTwo 7 r r (r+3)]
def zmh (n r:Int):List Lo:=[cMul (r+1) (r+2) n r,cTwo 4 (r+2) (r+3) (r+2),cMul (r+1) r r (r+2)]
def zdy (n r:Int) (i:Nat):List Lo:=(List.range i).flatMap fun _=>zmh n r
theorem zap (n r:Int) (i:Nat):zdy n r (i+1)=zdy n r i++zmh n r:=by simp[zdy,List.range_succ]
theorem zgq (n r:Int) (i:Nat):(zdy n r i).length=3 * i:=by
 induction i with
 | zero=>rfl
 | succ i ih=>rw[zap,List.length_append,ih]; simp[zmh]; omega
def z90 (n r:Int):List Lo:=zeo n r++(zdy n r 5++[cK (r+3) 0,cTwo 4 r (r+3) r])
theorem xor2 (x:Nat):x ^^^ 2=if x % 4 < 2 then x+2 else x - 2:=by
 have h1:(x ^^^ 2) / 4=x / 4:=by
  have:=Nat.xor_div_two_pow (a:=x) (b:=2) (n:=2)
  simpa using this
 have h2:(x ^^^ 2) % 4=(x % 4) ^^^ 2:=by
  have:=Nat.xor_mod_two_pow (a:=x) (b:=2) (n:=2)
  simpa using this
 have h3:x % 4 < 4:=Nat.mod_lt _ (by decide)
 have h4:(x % 4) ^^^ 2=if x % 4 < 2 then x % 4+2 else x % 4 - 2:=by
  generalize x % 4=c at h3 ⊢
  match c,h3 with
  | 0,_=>rfl
  | 1,_=>rfl
  | 2,_=>rfl
  | 3,_=>rfl
 rw[h4] at h2
 split at h2 <;> rename_i hc
 ·rw[if_pos hc]; omega
 ·rw[if_neg hc]; omega
theorem even_k (k c:Nat) (hc:c % 2=1):∃ t,k * (3 * k+c)=2 * t:=by
 have h:k * (3 * k+c) % 2=0:=by
  have h2:k % 2=0∨k % 2=1:=by omega
  rw[Nat.mul_mod,Nat.add_mod,Nat.mul_mod 3 k]
  rcases h2 with h2 | h2 <;> simp[h2,hc]
 exact⟨k * (3 * k+c) / 2,by omega⟩
theorem reck0 (a:UInt64) (h:a % 2=1):∃ t:UInt64,a * ((a * 3) ^^^ 2)=1+32 * t:=by
 have hn:a.toNat % 2=1:=by
  have:=congrArg UInt64.toNat h
  simpa using this
 have hx:((a * 3) ^^^ 2:UInt64).toNat=(a.toNat * 3 % 18446744073709551616) ^^^ 2:=by simp
 rw[xor2] at hx
 have hlt:a.toNat * 3 % 18446744073709551616 < 18446744073709551616:=Nat.mod_lt _ (by decide)
 obtain⟨k,hk⟩:∃ k,a.toNat=4 * k+a.toNat % 4:=⟨a.toNat / 4,by omega⟩
 have hm4:a.toNat * 3 % 18446744073709551616 % 4=a.toNat * 3 % 4:=Nat.mod_mod_of_dvd _ (by decide)
 have ha:a=UInt64.ofNat a.toNat:=by simp
 have hc:a.toNat % 4=1∨a.toNat % 4=3:=by omega
 rcases hc with hc | hc
 ·rw[if_neg (by omega)] at hx
  have hx0:(a * 3) ^^^ 2=a * 3 - 2:=by
   apply UInt64.toNat.inj
   rw[hx,UInt64.toNat_sub]
   simp
   omega
  obtain⟨t,ht⟩:=even_k k 1 rfl
  have hb:a=4 * UInt64.ofNat k+1:=by rw[ha,hk,hc]; simp
  have ht2:UInt64.ofNat k * (3 * UInt64.ofNat k+1)=2 * UInt64.ofNat t:=by
   have:=congrArg UInt64.ofNat ht
   simpa using this
  refine⟨UInt64.ofNat t,?_⟩
  rw[hx0]
  generalize UInt64.ofNat k=b at *
  generalize UInt64.ofNat t=u at *
  clear hx ha
  grind
 ·rw[if_pos (by omega)] at hx
  have hx0:(a * 3) ^^^ 2=a * 3+2:=by
   apply UInt64.toNat.inj
   rw[hx,UInt64.toNat_add]
   simp
   omega
  obtain⟨t,ht⟩:=even_k k 5 rfl
  have hb:a=4 * UInt64.ofNat k+3:=by rw[ha,hk,hc]; simp
  have ht2:UInt64.ofNat k * (3 * UInt64.ofNat k+5)=2 * UInt64.ofNat t:=by
   have:=congrArg UInt64.ofNat ht
   simpa using this
  refine⟨UInt64.ofNat t+1,?_⟩
  rw[hx0]
  generalize UInt64.ofNat k=b at *
  generalize UInt64.ofNat t=u at *
  clear hx ha
  grind
def nwt (a x:UInt64):UInt64:=x * (2 - a * x)
theorem zn1 (a x:UInt64):1 - a * nwt a x=(1 - a * x) * (1 - a * x):=by unfold nwt; grind
def zor (a:UInt64):UInt64:=nwt a (nwt a (nwt a (nwt a (nwt a ((a * 3) ^^^ 2)))))
theorem sq32 (t:UInt64):((32 * t) * (32 * t)) * ((32 * t) * (32 * t))=1048576 * (t * t * (t * t)):=by grind
theorem zwm (a:UInt64) (h:a % 2=1):a * zor a=1:=by
 obtain⟨t,ht⟩:=reck0 a h
 have e0:1 - a * ((a * 3) ^^^ 2)=32 * (0 - t):=by rw[ht]; grind
 generalize 0 - t=u at e0
 have h5:1 - a * zor a=0:=by
  unfold zor
  rw[zn1,zn1,zn1,zn1,zn1,e0]
  have h4:(32 * u) * (32 * u) * ((32 * u) * (32 * u))=1048576 * (u * u * (u * u)):=sq32 u
  rw[h4]
  generalize u * u * (u * u)=w
  have h8:(1048576 * w) * (1048576 * w) * ((1048576 * w) * (1048576 * w))=0:=by
   have:(1048576 * w) * (1048576 * w) * ((1048576 * w) * (1048576 * w))=(1048576 * 1048576 * (1048576 * 1048576)) * (w * w * (w * w)):=by grind
   rw[this,show (1048576 * 1048576 * (1048576 * 1048576):UInt64)=0 by decide]
   simp
  rw[h8]; simp
 have:a * zor a=1 - (1 - a * zor a):=by grind
 rw[this,h5]; rfl
end Go.Sv
namespace Go.Sv
def nwtI (a x:UInt64):Nat→UInt64
 | 0=>x
 | i+1=>nwt a (nwtI a x i)
theorem reck_ex {sz:Nat→Nat} {s:Fs} {n r:Nat} (h:¬ (r≤n∧n≤r+3)):Tx sz (frZ (z90 n r)) s fun s'=>s'.r r=0 - zor (s.r n)∧s'.m=s.m∧∀ x,¬ (r≤x∧x≤r+3)→s'.r x=s.r x:=by
 have e1:z90 (n:Int) (r:Int)=[cK ((r+3:Nat):Int) 3,cMul ((r+1:Nat):Int) (r:Nat) (n:Nat) ((r+3:Nat):Int),cK ((r+3:Nat):Int) 2,cTwo 7 (r:Nat) (r:Nat) ((r+3:Nat):Int)]++(zdy n r 5++[cK ((r+3:Nat):Int) 0,cTwo 4 (r:Nat) ((r+3:Nat):Int) (r:Nat)]):=rfl
 have round:∀ (i:Nat) (s:Fs),s.r (r+3)=2→Tx sz (frZ (zdy n r i)) s fun s'=>s'.r (r+3)=2∧s'.r r=nwtI (s.r n) (s.r r) i∧s'.m=s.m∧∀ x,¬ (r≤x∧x≤r+3)→s'.r x=s.r x:=by
  intro i
  induction i with
  | zero=>intro s h2; exact .nil ⟨h2,rfl,rfl,fun _ _=>rfl⟩
  | succ i ih =>
   intro s h2
   rw[zap,frL_app]
   refine (ih s h2).cat fun s1 ⟨a1,a2,a3,a4⟩=>?_
   have e2:zmh (n:Int) (r:Int)=[cMul ((r+1:Nat):Int) ((r+2:Nat):Int) (n:Nat) (r:Nat),cTwo 4 ((r+2:Nat):Int) ((r+3:Nat):Int) ((r+2:Nat):Int),cMul ((r+1:Nat):Int) (r:Nat) (r:Nat) ((r+2:Nat):Int)]:=rfl
   rw[e2]
   refine .op zg0 (.op zws (.op zg0 (.nil ⟨?_,?_,?_,fun x hx=>?_⟩)))
   ·simp[z0z,a1]
   ·have hn:=a4 n h
    have hn0:¬ n=r:=by omega
    simp[z0z,a1,a2,hn,nwt,nwtI]
   ·simp[z5u,a3]
   ·have x0:¬ x=r:=by omega
    have x1:¬ x=r+1:=by omega
    have x2:¬ x=r+2:=by omega
    simp[z0z,x0,x1,x2,a4 x hx]
 rw[e1,frL_app]
 refine Tx.cat (R:=fun s'=>s'.r (r+3)=2∧s'.r r=(s.r n * 3) ^^^ 2∧s'.m=s.m∧∀ x,¬ (r≤x∧x≤r+3)→s'.r x=s.r x) (.op zn2 (.op zg0 (.op zn2 (.op opZ_xor (.nil ⟨?_,?_,?_,fun x hx=>?_⟩))))) fun s1 ⟨a1,a2,a3,a4⟩=>?_
 ·simp[z0z]
 ·have n3:¬ n=r+3:=by omega
  simp[z0z,n3]
 ·simp[z5u]
 ·have x0:¬ x=r:=by omega
  have x1:¬ x=r+1:=by omega
  have x3:¬ x=r+3:=by omega
  simp[z0z,x0,x1,x3]
 rw[frL_app]
 refine (round 5 s1 a1).cat fun s2 ⟨b1,b2,b3,b4⟩=>?_
 refine .op zn2 (.op zws (.nil ⟨?_,?_,fun x hx=>?_⟩))
 ·simp[z0z,b2,a2,a4 n h,zor,nwtI]
 ·simp[z5u,b3,a3]
 ·have x0:¬ x=r:=by omega
  have x3:¬ x=r+3:=by omega
  simp[z0z,x0,x3,b4 x hx,a4 x hx]
end Go.Sv
namespace Go.Sv
theorem zvq {bs:List Bf} {n r:Int} {S:List Int} (hn:0≤n∧n < 64) (hr:0≤r∧r+4 < 64) (h1:n∈S) (h2:r∈S) (h3:r+3∈S):okL 64 bs S (zmh n r):=by
 refine⟨zas (by omega) (by omega) hn (by omega) (by omega),by simp[cMul],?_,zb0 (by omega) (by omega) (by omega) (by omega),by simp[cTwo],?_,zas (by omega) (by omega) (by omega) (by omega) (by omega),by simp[cMul],?_,trivial⟩
 ·simp[z0u,cMul,h1,h2]
 ·simp[z0u,cTwo,z08,cMul,h3]
 ·simp[z0u,z08,cMul,cTwo,h2]
theorem zln {bs:List Bf} {n r:Int} {S:List Int} (hn:0≤n∧n < 64) (hr:0≤r∧r+4 < 64) (h1:n∈S) (h2:r∈S) (h3:r+3∈S):∀ i,okL 64 bs S (zdy n r i)
 | 0=>trivial
 | i+1=>by rw[zap]; exact zqi (zln hn hr h1 h2 h3 i) (zvq hn hr h1 h2 h3)
theorem okL_reck {bs:List Bf} {n r:Int} {S:List Int} (hn:0≤n∧n < 64) (hr:0≤r∧r+4 < 64) (h1:n∈S):okL 64 bs S (z90 n r):=by
 refine zox (a:=zeo n r) ?_ ?_
 ·refine⟨zf8 (by omega),by simp[cK],by simp[z0u,cK],zas (by omega) (by omega) hn (by omega) (by omega),by simp[cMul],?_,zf8 (by omega),by simp[cK],by simp[z0u,cK],zb0 (by omega) (by omega) (by omega) (by omega),by simp[cTwo],?_,trivial⟩
  ·simp[z0u,z08,cMul,cK,h1]
  ·simp[z0u,z08,cMul,cK,cTwo]
 ·refine zqi (zln hn hr (List.mem_append_right _ h1) ?_ ?_ 5) ?_
  ·simp[zeo,z08,cK,cMul,cTwo]
  ·simp[zeo,z08,cK,cMul,cTwo]
  ·refine⟨zf8 (by omega),by simp[cK],by simp[z0u,cK],zb0 (by omega) (by omega) (by omega) (by omega),by simp[cTwo],?_,trivial⟩
   simp[z0u,z08,cK,cTwo,zeo,cMul]
theorem zt5 (n r:Int):(z90 n r).length=21:=by
 unfold z90
 rw[List.length_append,List.length_append,zgq]; rfl
end Go.Sv
namespace Go.Sv
def prS (e:Nat) (d a b n t:Pc) (R:Int):List LV :=
 [.ptr e 0,.i d.buf,.i d.at_,.i d.size,.i a.buf,.i a.at_,.i a.size,.i b.buf,.i b.at_,.i b.size,.i n.buf,.i n.at_,.i n.size,.i t.buf,.i t.at_,.i t.size,
  .i R,.i (R+1),.i (R+2),.i (R+3),.i (R+4),.i (R+5),.i (R+6),.i (R+7),.i (R+8),.i (R+9),.i (R+10)]
def sumL (R a b:Int):List Lo:=[cMul (R+5) (R+6) a b,cCar 11 (R+6) (R+8) (R+6) (R+7) R,cCar 11 (R+6) (R+9) (R+6) (R+3) R,cTwo 3 (R+5) (R+5) (R+8),cTwo 3 (R+3) (R+5) (R+9)]
noncomputable def topL (t:Pc) (k R:Int):List Lo:=[cLd (R+7) t (-1) k,cCar 11 (R+7) (R+8) (R+7) (R+3) R]
noncomputable def lpT (d times:Int) (b:Fr Lo):Fr Lo:=if times < 1 then .nil else .loop (cLp d times) b cEn .nil
theorem z43 (d times:Int) (b:Fr Lo):(lpT d times b).flat=if times < 1 then [] else cLp d times::(b.flat++[cEn]):=by
 unfold lpT; split <;> rfl
noncomputable def z4t (a t:Pc) (R j:Int):List Lo:=[cLd (R+4) a j 0,cLd (R+7) t j 0]++(sumL R (R+4) (R+2)++[cSt t j 0 (R+6)])
noncomputable def z4g (a b t:Pc) (k R D i:Int):Fr Lo:=(frZ [cLd (R+2) b i 0,cK (R+3) 0]).cat ((lpT D k (frZ (z4t a t R D))).cat (frZ (topL t k R++[cSt t (-1) k (R+7),cSt t (-1) (k+1) (R+8)])))
noncomputable def z9y (n t:Pc) (R j:Int):List Lo:=[cLd (R+4) n j 1,cLd (R+7) t j 1]++(sumL R (R+10) (R+4)++[cSt t j 0 (R+6)])
noncomputable def z9l (n t:Pc) (k R D:Int):Fr Lo:=(frZ ([cLd (R+7) t (-1) 0,cMul (R+5) (R+10) (R+7) (R+1),cLd (R+4) n (-1) 0,cK (R+3) 0]++sumL R (R+10) (R+4))).cat
 ((lpT D (k - 1) (frZ (z9y n t R D))).cat (frZ (topL t k R++[cSt t (-1) (k - 1) (R+7),cLd (R+7) t (-1) (k+1),cTwo 3 (R+7) (R+7) (R+8),cSt t (-1) k (R+7)])))
noncomputable def zb6 (n t:Pc) (R j:Int):List Lo:=[cLd (R+7) t j 0,cLd (R+4) n j 0,cCar 12 (R+6) (R+8) (R+7) (R+4) (R+8)]
noncomputable def z9n (n t:Pc) (k R D:Int) (x:List Lo):Fr Lo:=(frZ [cK (R+8) 0]).cat (lpT D k (frZ (zb6 n t R D++x)))
noncomputable def zeq (d n t:Pc) (k R D:Int):Fr Lo:=(z9n n t k R D []).cat ((frZ [cLd (R+7) t (-1) k,cCar 12 (R+6) (R+10) (R+7) R (R+8)]).cat (z9n n t k R D [cSel (R+6) (R+10) (R+7) (R+6),cSt d D 0 (R+6)]))
noncomputable def zer (p:Pc) (a D:Int):Fr Lo:=lpT D p.size (frZ [cSt p D 0 a])
noncomputable def zhf (d a b n t:Pc) (k R D:Int):Fr Lo:=(frZ ([cK R 0,cLd (R+10) n (-1) 0]++z90 (R+10) (R+1))).cat ((zer t R D).cat ((lpT D k ((z4g a b t k R (D+1) D).cat (z9l n t k R (D+1)))).cat (zeq d n t k R D)))
end Go.Sv
namespace Go.Sv
def vl (f:Nat→UInt64):Nat→Nat
 | 0=>0
 | n+1=>vl f n+(f n).toNat * 18446744073709551616 ^ n
theorem vl_lt (f:Nat→UInt64):∀ n,vl f n < 18446744073709551616 ^ n
 | 0=>by simp[vl]
 | n+1=>by
  have h:=vl_lt f n
  have h2:(f n).toNat+1≤18446744073709551616:=(f n).toNat_lt
  have h3:=Nat.mul_le_mul_right (18446744073709551616 ^ n) h2
  rw[Nat.add_mul,Nat.one_mul] at h3
  rw[vl,Nat.pow_succ,Nat.mul_comm (18446744073709551616 ^ n)]
  omega
theorem z96 {f g:Nat→UInt64}:∀ {n:Nat},(∀ i,i < n→f i=g i)→vl f n=vl g n
 | 0,_=>rfl
 | n+1,h=>by rw[vl,vl,z96 fun i hi=>h i (by omega),h n (by omega)]
theorem vl_low (f:Nat→UInt64):∀ n,vl f (n+1)=(f 0).toNat+18446744073709551616 * vl (fun i=>f (i+1)) n
 | 0=>by simp[vl]
 | n+1=>by
  rw[vl,vl_low f n,vl,Nat.pow_succ]
  grind
structure Pn where
 b:Nat
 a:Nat
 k:Nat
def Pn.p (p:Pn):Pc:=⟨p.b,p.a,p.k⟩
def pl (m:Nat→Nat→UInt64) (p:Pn) (i:Nat):UInt64:=m p.b (p.a+i)
def Dj (p q:Pn):Prop:=p.b≠q.b∨p.a+p.k≤q.a∨q.a+q.k≤p.a
def Only (p:Pn) (m m':Nat→Nat→UInt64):Prop:=∀ x y,¬ (x=p.b∧p.a≤y∧y < p.a+p.k)→m' x y=m x y
theorem Only.trans {p:Pn} {m m' m'':Nat→Nat→UInt64} (h:Only p m m') (k:Only p m' m''):Only p m m'':=fun x y hn=>(k x y hn).trans (h x y hn)
theorem Only.pl {p q:Pn} {m m':Nat→Nat→UInt64} (h:Only p m m') (d:Dj p q) {i:Nat} (hi:i < q.k):pl m' q i=pl m q i :=
 h _ _ fun ⟨h1,h2,h3⟩=>by
  rcases d with d | d | d
  ·exact d h1.symm
  ·omega
  ·omega
theorem Only.vl {p q:Pn} {m m':Nat→Nat→UInt64} (h:Only p m m') (d:Dj p q) {n:Nat} (hn:n≤q.k):vl (Go.Sv.pl m' q) n=vl (Go.Sv.pl m q) n:=z96 fun _ hi=>h.pl d (by omega)
theorem z7c {p:Pn} {s:Fs} {i:Nat} {v:UInt64} (h:i < p.k):Only p s.m (s.sto p.b (p.a+i) v).m:=fun x y hn=>by
 rw[sto_m,if_neg]
 rintro⟨rfl,rfl⟩
 exact hn ⟨rfl,by omega,by omega⟩
theorem z6e (p:Pn) (s:Fs) (i j:Nat) (v:UInt64):pl (s.sto p.b (p.a+i) v).m p j=if j=i then v else pl s.m p j:=by
 unfold pl
 rw[sto_m]
 by_cases h:j=i
 ·subst h; simp
 ·rw[if_neg (by omega),if_neg h]
theorem ix_reg {p:Pn} {off:Nat} {x:UInt64} (h:p.a+off+x.toNat < 18446744073709551616):(iU (p.p.at_+(off:Int))+x).toNat=p.a+off+x.toNat:=by
 have:p.p.at_+(off:Int)=((p.a+off:Nat):Int):=by simp[Pn.p]
 rw[this,UInt64.toNat_add,zba (by omega),Nat.mod_eq_of_lt (by simpa using h)]
theorem ix_no {p:Pn} {off:Nat} (h:p.a+off < 18446744073709551616):(iU (p.p.at_+(off:Int))).toNat=p.a+off:=by
 have:p.p.at_+(off:Int)=((p.a+off:Nat):Int):=by simp[Pn.p]
 rw[this,zba h]
section ls
variable {sz : Nat → Nat} {s : Fs} {p : Pn}
theorem zhg {d i off:Nat} (h:p.a+off+(s.r i).toNat < sz p.b) (hs:sz p.b≤65536):opZ sz (cLd d p.p i off) s=some (s.put d (pl s.m p (off+(s.r i).toNat))):=by
 rw[opZ_ld (b:=p.b) (n:=p.a+off+(s.r i).toNat) rfl (ix_reg (by omega)) h]; unfold pl; rw[Nat.add_assoc]
theorem zrr {d off:Nat} (h:p.a+off < sz p.b) (hs:sz p.b≤65536):opZ sz (cLd d p.p (-1) off) s=some (s.put d (pl s.m p off)):=by
 rw[opZ_ld0 (b:=p.b) (n:=p.a+off) rfl (ix_no (by omega)) h]; rfl
theorem zqh {v i off:Nat} (h:p.a+off+(s.r i).toNat < sz p.b) (hs:sz p.b≤65536):opZ sz (cSt p.p i off v) s=some (s.sto p.b (p.a+(off+(s.r i).toNat)) (s.r v)):=by
 rw[opZ_st (b:=p.b) (n:=p.a+off+(s.r i).toNat) rfl (ix_reg (by omega)) h,Nat.add_assoc]
theorem st_no {v off:Nat} (h:p.a+off < sz p.b) (hs:sz p.b≤65536):opZ sz (cSt p.p (-1) off v) s=some (s.sto p.b (p.a+off) (s.r v)):=by
 rw[opZ_st0 (b:=p.b) (n:=p.a+off) rfl (ix_no (by omega)) h]
end ls
end Go.Sv
namespace Go.Sv
theorem zcl (b:Bool):(bitR b).toNat=b.toNat:=by cases b <;> rfl
theorem zey (b:Bool):decide (bitR b % 2=1)=b:=by cases b <;> decide
theorem sum_val {x y w m:UInt64} {hi lo p q h1 h2:UInt64} {c1 c2:Bool} (e1:hi=zdp x y) (e2:lo=x * y) (e3:addC lo w false=(p,c1)) (e4:addC p m false=(q,c2)) (e5:h1=hi+bitR c1) (e6:h2=h1+bitR c2) :
  q.toNat+18446744073709551616 * h2.toNat=x.toNat * y.toNat+w.toNat+m.toNat:=by
 have a1:=zud x y
 have a2:=zf3 lo w false
 have a3:=zf3 p m false
 rw[e3] at a2
 rw[e4] at a3
 subst e1 e2 e5 e6
 simp only[Bool.toNat_false,Nat.add_zero] at a2 a3
 have b1:x.toNat * y.toNat≤18446744073709551615 * 18446744073709551615:=Nat.mul_le_mul (by have:=x.toNat_lt; omega) (by have:=y.toNat_lt; omega)
 have b2:=w.toNat_lt
 have b3:=m.toNat_lt
 have b4:=q.toNat_lt
 have d1:c1.toNat≤1:=by cases c1 <;> decide
 have d2:c2.toNat≤1:=by cases c2 <;> decide
 have f1:((zdp x y)+bitR c1).toNat=(zdp x y).toNat+c1.toNat:=by
  rw[UInt64.toNat_add,zcl,Nat.mod_eq_of_lt]
  omega
 have f2:((zdp x y)+bitR c1+bitR c2).toNat=(zdp x y).toNat+c1.toNat+c2.toNat:=by
  rw[UInt64.toNat_add,f1,zcl,Nat.mod_eq_of_lt]
  omega
 rw[f2]
 omega
section mu
variable {sz : Nat → Nat}
def inS (R z:Nat):Prop:=R+3≤z∧z≤R+9
theorem zu8 {s:Fs} {R a b:Nat} (h0:s.r R=0):Tx sz (frZ (sumL R a b)) s fun s'=>s'.m=s.m∧(s'.r (R+6)).toNat+18446744073709551616 * (s'.r (R+3)).toNat=(s.r a).toNat * (s.r b).toNat+(s.r (R+7)).toNat+(s.r (R+3)).toNat∧∀ z,(¬ inS R z∨z=R+4∨z=R+7)→s'.r z=s.r z:=by
 have e:sumL (R:Int) a b=[cMul ((R+5:Nat):Int) ((R+6:Nat):Int) (a:Nat) (b:Nat),cCar 11 ((R+6:Nat):Int) ((R+8:Nat):Int) ((R+6:Nat):Int) ((R+7:Nat):Int) (R:Nat),cCar 11 ((R+6:Nat):Int) ((R+9:Nat):Int) ((R+6:Nat):Int) ((R+3:Nat):Int) (R:Nat),cTwo 3 ((R+5:Nat):Int) ((R+5:Nat):Int) ((R+8:Nat):Int),cTwo 3 ((R+3:Nat):Int) ((R+5:Nat):Int) ((R+9:Nat):Int)]:=rfl
 rw[e]
 unfold inS at *
 refine .op zg0 (.op zov (.op zov (.op znx (.op znx (.nil ⟨rfl,?_,fun z hz=>?_⟩)))))
 ·simp[z0z,h0,-UInt64.toNat_add]
  exact sum_val (x:=s.r a) (y:=s.r b) (w:=s.r (R+7)) (m:=s.r (R+3)) rfl rfl rfl rfl rfl rfl
 ·have z5:¬ z=R+5:=by omega
  have z6:¬ z=R+6:=by omega
  have z8:¬ z=R+8:=by omega
  have z9:¬ z=R+9:=by omega
  have z3:¬ z=R+3:=by omega
  simp[z0z,z3,z5,z6,z8,z9]
theorem z2g (f:Nat→UInt64) (n:Nat):vl f (n+1)=vl f n+(f n).toNat * 18446744073709551616 ^ n:=rfl
theorem Tx.lp {s:Fs} {d n:Nat} {b:Fr Lo} {Q:Fs→Prop} (I:Nat→Fs→Prop) (h0:I 0 s) (hn:n < 18446744073709551616) (h1:∀ i s,i < n→I i s→Tx sz b (s.put d (UInt64.ofNat i)) (I (i+1))) (h2:∀ s',I n s'→Q s'):Tx sz (lpT (d:Nat) (n:Nat) b) s Q:=by
 unfold lpT
 have e:(cLp (d:Nat) (n:Nat)).imm.toNat=n:=zba hn
 split
 ·have:n=0:=by omega
  subst this
  exact .nil (h2 _ h0)
 ·refine .loop I h0 (fun i s hi hI=>?_) fun s' hI=>.nil (h2 _ ?_)
  ·rw[e] at hi
   exact h1 i s hi hI
  ·rw[e] at hI; exact hI
def RgS (R D:Nat) (s s':Fs):Prop:=∀ z,¬ inS R z→z≠D→s'.r z=s.r z
def RgA (R D:Nat) (s s':Fs):Prop:=∀ z,¬ (R+2≤z∧z≤R+10)→z≠D→s'.r z=s.r z
def Pn.in_ (sz:Nat→Nat) (p:Pn):Prop:=p.a+p.k≤sz p.b∧sz p.b≤65536
theorem znu {s:Fs} {R D j:Nat} {a t:Pn} (hR:s.r R=0) (hD:D < R) (hj:(s.r D).toNat=j) (ha:a.in_ sz) (ht:t.in_ sz) (ja:j < a.k) (jt:j < t.k) :
  Tx sz (frZ (z4t a.p t.p R D)) s fun s'=>∃ q:UInt64,(∀ i,pl s'.m t i=if i=j then q else pl s.m t i)∧Only t s.m s'.m∧RgS R D s s' ∧
   q.toNat+18446744073709551616 * (s'.r (R+3)).toNat=(pl s.m a j).toNat * (s.r (R+2)).toNat+(pl s.m t j).toNat+(s.r (R+3)).toNat:=by
 obtain⟨ha1,ha2⟩:=ha
 obtain⟨ht1,ht2⟩:=ht
 have e:z4t a.p t.p R D=[cLd ((R+4:Nat):Int) a.p (D:Nat) ((0:Nat):Int),cLd ((R+7:Nat):Int) t.p (D:Nat) ((0:Nat):Int)]++(sumL R ((R+4:Nat):Int) ((R+2:Nat):Int)++[cSt t.p (D:Nat) ((0:Nat):Int) ((R+6:Nat):Int)]):=rfl
 rw[e,frL_app,frL_app]
 have dn:∀ n,n < 11→¬ D=R+n:=fun n h=>by omega
 refine .op (zhg (by omega) ha2) (.op (zhg (by simp only[z0z,if_neg (dn 4 (by omega))]; omega) ht2) ((zu8 (by simp[z0z,hR])).cat fun s1 ⟨m1,v1,r1⟩=>?_))
 have hD1:s1.r D=s.r D:=by rw[r1 _ (.inl (by unfold inS; omega))]; simp[z0z,dn]
 refine .op (zqh (by rw[hD1]; omega) ht2) (.nil ⟨s1.r (R+6),fun i=>?_,?_,fun z hz hz2=>?_,?_⟩)
 ·rw[z6e,hD1,hj,m1]; simp[z5u]
 ·have:=z7c (p:=t) (s:=s1) (i:=0+(s1.r D).toNat) (v:=s1.r (R+6)) (by rw[hD1]; omega)
  intro x y hn
  rw[this x y hn,m1]; rfl
 ·rw[zdg,r1 z (.inl hz)]
  unfold inS at hz
  have z4:¬ z=R+4:=by omega
  have z7:¬ z=R+7:=by omega
  simp[z0z,z4,z7]
 ·rw[zdg]
  simpa [z0z,z5u,dn,hj] using v1
theorem step_law {W P v r T A y q r' x t:Nat} (h:v+P * r=T+A * y) (k:q+W * r'=x * y+t+r):v+q * P+P * W * r'=T+t * P+(A+x * P) * y:=by
 have h2:P * (q+W * r')=P * (x * y+t+r):=by rw[k]
 grind
theorem top_law {W P v r T A y p c t:Nat} (h:v+P * r=T+A * y) (k:p+W * c=t+r):v+p * P+c * (P * W)=T+t * P+A * y:=by
 have h2:P * (p+W * c)=P * (t+r):=by rw[k]
 grind
theorem top_ex {s:Fs} {R k:Nat} {t:Pn} (hR:s.r R=0) (ht:t.in_ sz) (hk:k+2≤t.k) (r:Fr Lo) (Q:Fs→Prop)
  (h:∀ (s1:Fs) (c:Bool),s1.m=s.m→s1.r (R+8)=bitR c→(s1.r (R+7)).toNat+18446744073709551616 * c.toNat=(pl s.m t k).toNat+(s.r (R+3)).toNat→(∀ z,z≠R+7→z≠R+8→s1.r z=s.r z)→Tx sz r s1 Q) :
  Tx sz ((frZ (topL t.p k R)).cat r) s Q:=by
 obtain⟨ht1,ht2⟩:=ht
 have e:topL t.p k R=[cLd ((R+7:Nat):Int) t.p (-1) (k:Nat),cCar 11 ((R+7:Nat):Int) ((R+8:Nat):Int) ((R+7:Nat):Int) ((R+3:Nat):Int) (R:Nat)]:=rfl
 rw[e]
 refine .op (zrr (by omega) ht2) (.op zov ?_)
 refine h _ (addC (pl s.m t k) (s.r (R+3)) false).2 rfl ?_ ?_ fun z h7 h8=>?_
 ·simp[z0z,hR]
 ·have:=zf3 (pl s.m t k) (s.r (R+3)) false
  simpa [z0z,hR] using this
 ·simp[z0z,h7,h8]
theorem times_ex {s:Fs} {R D i k:Nat} {a b t:Pn} (hR:s.r R=0) (hD:D < R) (hi:(s.r i).toNat < b.k) (hb:b.in_ sz) (ha:a.in_ sz) (ht:t.in_ sz) (hk:k≤a.k) (hk2:k+2≤t.k) (dj:Dj t a) (hW:sz t.b≤65536) :
  Tx sz (z4g a.p b.p t.p k R D i) s fun s'=>RgA R D s s'∧Only t s.m s'.m∧vl (pl s'.m t) (k+2)=vl (pl s.m t) (k+1)+vl (pl s.m a) k * (pl s.m b (s.r i).toNat).toNat∧(pl s'.m t (k+1)).toNat≤1:=by
 have e:z4g a.p b.p t.p k R D i=(frZ [cLd ((R+2:Nat):Int) b.p (i:Nat) ((0:Nat):Int),cK ((R+3:Nat):Int) 0]).cat ((lpT (D:Nat) (k:Nat) (frZ (z4t a.p t.p R D))).cat ((frZ (topL t.p k R)).cat (frZ [cSt t.p (-1) (k:Nat) ((R+7:Nat):Int),cSt t.p (-1) ((k+1:Nat):Int) ((R+8:Nat):Int)]))):=by
  rw[←frL_app]; rfl
 rw[e]
 obtain⟨hb1,hb2⟩:=hb
 have ht0:=ht
 obtain⟨ht1,ht2⟩:=ht
 have dn:∀ n,n < 11→¬ D=R+n:=fun n h=>by omega
 refine .op (zhg (by omega) hb2) (.op zn2 ?_)
 rw[show ∀ g:Fr Lo,Fr.cat (frZ []) g=g from fun _=>rfl]
 generalize hs0:(Fs.put (s.put (R+2) (pl s.m b (0+(s.r i).toNat))) (R+3) 0)=s0
 have m0:s0.m=s.m:=by rw[←hs0]; rfl
 have y0:s0.r (R+2)=pl s.m b (s.r i).toNat:=by rw[←hs0]; simp[z0z]
 have c0:s0.r (R+3)=0:=by rw[←hs0]; simp[z0z]
 have r0:∀ z,z≠R+2→z≠R+3→s0.r z=s.r z:=fun z h2 h3=>by rw[←hs0]; simp[z0z,h2,h3]
 have R0:s0.r R=0:=by rw[r0 R (by omega) (by omega),hR]
 refine .cat (R:=fun s1=>RgS R D s0 s1∧Only t s.m s1.m∧(∀ i,k≤i→pl s1.m t i=pl s.m t i)∧vl (pl s1.m t) k+18446744073709551616 ^ k * (s1.r (R+3)).toNat=vl (pl s.m t) k+vl (pl s.m a) k * (s0.r (R+2)).toNat) ?_ fun s1 ⟨g1,o1,u1,v1⟩=>?_
 ·refine .lp (fun j s1=>RgS R D s0 s1∧Only t s.m s1.m∧(∀ i,j≤i→pl s1.m t i=pl s.m t i)∧vl (pl s1.m t) j+18446744073709551616 ^ j * (s1.r (R+3)).toNat=vl (pl s.m t) j+vl (pl s.m a) j * (s0.r (R+2)).toNat) ⟨fun _ _ _=>rfl,fun _ _ _=>by rw[m0],fun _ _=>by rw[m0],by simp[vl,c0]⟩ (by omega) (fun j s1 hj ⟨g1,o1,u1,v1⟩=>?_) fun _ h=>h
  have hn2:∀ z,¬ inS R z→z≠D→(s1.put D (UInt64.ofNat j)).r z=s0.r z:=fun z a b=>by rw[z0z,if_neg b,g1 z a b]
  have j3:(s1.put D (UInt64.ofNat j)).r (R+3)=s1.r (R+3):=by rw[z0z,if_neg (by omega)]
  refine (znu (j:=j) (by rw[hn2 _ (by unfold inS; omega) (by omega),R0]) hD (by simp[z0z]; omega) ha ht0 (by omega) (by omega)).mono fun s2 ⟨q,e1,e2,e3,e4⟩=>⟨fun z a b=>(e3 z a b).trans (hn2 z a b),o1.trans e2,fun i hi=>?_,?_⟩
  ·rw[e1,if_neg (by omega)]; exact u1 i (by omega)
  ·rw[hn2 _ (by unfold inS; omega) (by omega),z5u,o1.pl dj (by omega),u1 j (by omega),j3] at e4
   rw[z2g,z2g,z2g,e1,if_pos rfl,Nat.pow_succ,z96 (g:=pl s1.m t) fun i hi=>by rw[e1,if_neg (by omega)]; rfl]
   exact step_law v1 e4
 ·refine top_ex (by rw[g1 _ (by unfold inS; omega) (by omega),R0]) ht0 hk2 _ _ fun s2 c m2 c2 v2 r2=>?_
  refine .op (st_no (by omega) ht2) (.op (st_no (by omega) ht2) (.nil ⟨fun z hz hz2=>?_,?_,?_,?_⟩))
  ·rw[zdg,zdg,r2 z (by omega) (by omega),g1 z (by unfold inS; omega) hz2,r0 z (by omega) (by omega)]
  ·exact o1.trans (m2 ▸ (z7c (by omega)).trans (z7c (by omega)))
  ·rw[z2g,z2g,z2g,z6e,z6e,z6e,if_pos rfl,if_neg (by omega),if_pos rfl,zdg,c2,zcl,z96 (g:=pl s1.m t) fun i hi=>by rw[z6e,if_neg (by omega),z6e,if_neg (by omega),m2],Nat.pow_succ,←y0]
   rw[u1 k (by omega)] at v2
   exact top_law v1 v2
  ·rw[z6e,if_pos rfl,zdg,c2,zcl]; cases c <;> decide
theorem zrp {s:Fs} {R D j:Nat} {n t:Pn} (hR:s.r R=0) (hD:D < R) (hj:(s.r D).toNat=j) (hn:n.in_ sz) (ht:t.in_ sz) (jn:j+1 < n.k) (jt:j+1 < t.k) :
  Tx sz (frZ (z9y n.p t.p R D)) s fun s'=>∃ q:UInt64,(∀ i,pl s'.m t i=if i=j then q else pl s.m t i)∧Only t s.m s'.m∧RgS R D s s' ∧
   q.toNat+18446744073709551616 * (s'.r (R+3)).toNat=(s.r (R+10)).toNat * (pl s.m n (j+1)).toNat+(pl s.m t (j+1)).toNat+(s.r (R+3)).toNat:=by
 obtain⟨hn1,hn2⟩:=hn
 obtain⟨ht1,ht2⟩:=ht
 have e:z9y n.p t.p R D=[cLd ((R+4:Nat):Int) n.p (D:Nat) ((1:Nat):Int),cLd ((R+7:Nat):Int) t.p (D:Nat) ((1:Nat):Int)]++(sumL R ((R+10:Nat):Int) ((R+4:Nat):Int)++[cSt t.p (D:Nat) ((0:Nat):Int) ((R+6:Nat):Int)]):=rfl
 rw[e,frL_app,frL_app]
 have dn:∀ n,n < 11→¬ D=R+n:=fun n h=>by omega
 refine .op (zhg (by omega) hn2) (.op (zhg (by simp only[z0z,if_neg (dn 4 (by omega))]; omega) ht2) ((zu8 (by simp[z0z,hR])).cat fun s1 ⟨m1,v1,r1⟩=>?_))
 have hD1:s1.r D=s.r D:=by rw[r1 _ (.inl (by unfold inS; omega))]; simp[z0z,dn]
 refine .op (zqh (by rw[hD1]; omega) ht2) (.nil ⟨s1.r (R+6),fun i=>?_,?_,fun z hz hz2=>?_,?_⟩)
 ·rw[z6e,hD1,hj,m1]; simp[z5u]
 ·have:=z7c (p:=t) (s:=s1) (i:=0+(s1.r D).toNat) (v:=s1.r (R+6)) (by rw[hD1]; omega)
  intro x y hn
  rw[this x y hn,m1]; rfl
 ·rw[zdg,r1 z (.inl hz)]
  unfold inS at hz
  have z4:¬ z=R+4:=by omega
  have z7:¬ z=R+7:=by omega
  simp[z0z,z4,z7]
 ·rw[zdg]
  simpa [z0z,z5u,dn,hj,Nat.add_comm 1] using v1
theorem zte {W P v r T N m q r' x t:Nat} (h:W * v+P * W * r=T+m * N) (k:q+W * r'=m * x+t+r):W * (v+q * P)+P * W * W * r'=T+t * (P * W)+m * (N+x * (P * W)):=by
 have h2:P * W * (q+W * r')=P * W * (m * x+t+r):=by rw[k]
 grind
theorem dtop_law {W P v r T N m p c t u:Nat} (h:W * v+P * W * r=T+m * N) (k:p+W * c=t+r):W * (v+p * P+(u+c) * (P * W))=T+t * (P * W)+u * (P * W * W)+m * N:=by
 have h2:P * W * (p+W * c)=P * W * (t+r):=by rw[k]
 grind
theorem low_law {t i n q h:UInt64} (hi:i * n+1=0) (e:q.toNat+18446744073709551616 * h.toNat=(t * i).toNat * n.toNat+t.toNat):q.toNat=0:=by
 have h1:(t * i * n+t).toNat=0:=by
  rw[show t * i * n+t=t * (i * n+1) by grind,hi]; simp
 rw[UInt64.toNat_add,UInt64.toNat_mul] at h1
 have:=q.toNat_lt
 omega
theorem down_ex {s:Fs} {R D k:Nat} {n t:Pn} (hR:s.r R=0) (hD:D < R) (hinv:s.r (R+1) * pl s.m n 0+1=0) (hn:n.in_ sz) (ht:t.in_ sz) (hk:k+1≤n.k) (hk2:k+3≤t.k) (dj:Dj t n) (hc:(pl s.m t (k+2)).toNat≤1) :
  Tx sz (z9l n.p t.p (k+1:Nat) R D) s fun s'=>RgA R D s s'∧Only t s.m s'.m∧pl s'.m t (k+2)=pl s.m t (k+2)∧∃ m:UInt64,18446744073709551616 * vl (pl s'.m t) (k+2)=vl (pl s.m t) (k+3)+m.toNat * vl (pl s.m n) (k+1):=by
 have hk1:((k+1:Nat):Int) - 1=(k:Nat):=by omega
 have e:z9l n.p t.p (k+1:Nat) R D=(frZ ([cLd ((R+7:Nat):Int) t.p (-1) ((0:Nat):Int),cMul ((R+5:Nat):Int) ((R+10:Nat):Int) ((R+7:Nat):Int) ((R+1:Nat):Int),cLd ((R+4:Nat):Int) n.p (-1) ((0:Nat):Int),cK ((R+3:Nat):Int) 0]++sumL R ((R+10:Nat):Int) ((R+4:Nat):Int))).cat
   ((lpT (D:Nat) (k:Nat) (frZ (z9y n.p t.p R D))).cat ((frZ (topL t.p (k+1:Nat) R)).cat (frZ [cSt t.p (-1) (k:Nat) ((R+7:Nat):Int),cLd ((R+7:Nat):Int) t.p (-1) ((k+2:Nat):Int),cTwo 3 ((R+7:Nat):Int) ((R+7:Nat):Int) ((R+8:Nat):Int),cSt t.p (-1) ((k+1:Nat):Int) ((R+7:Nat):Int)]))):=by
  rw[←frL_app,←hk1]; rfl
 rw[e]
 have hn0:=hn
 have ht0:=ht
 obtain⟨hn1,hn2⟩:=hn
 obtain⟨ht1,ht2⟩:=ht
 have dn:∀ n,n < 11→¬ D=R+n:=fun n h=>by omega
 rw[frL_app]
 refine Tx.cat (R:=fun s1=>(∀ z,¬ inS R z→z≠R+10→s1.r z=s.r z)∧s1.m=s.m∧18446744073709551616 * (s1.r (R+3)).toNat=(s1.r (R+10)).toNat * (pl s.m n 0).toNat+(pl s.m t 0).toNat) ?_ fun s1 ⟨g1,m1,v1⟩=>?_
 ·refine .op (zrr (by omega) ht2) (.op zg0 (.op (zrr (by omega) hn2) (.op zn2 ((zu8 (by simp[z0z,hR])).mono fun s1 ⟨m1,v1,r1⟩=>⟨fun z hz hz2=>?_,?_,?_⟩))))
  ·rw[r1 z (.inl hz)]
   unfold inS at hz
   have z3:¬ z=R+3:=by omega
   have z4:¬ z=R+4:=by omega
   have z5:¬ z=R+5:=by omega
   have z7:¬ z=R+7:=by omega
   simp[z0z,z3,z4,z5,z7,hz2]
  ·rw[m1]; rfl
  ·have r10:=r1 (R+10) (.inl (by unfold inS; omega))
   simp[z0z,z5u] at v1 r10
   rw[r10]
   have:=low_law (t:=pl s.m t 0) hinv (by simpa using v1)
   rw[UInt64.toNat_mul,show (2:Nat) ^ 64=18446744073709551616 from rfl]
   rw[this,Nat.zero_add] at v1
   exact v1
 have R1:s1.r R=0:=by rw[g1 R (by unfold inS; omega) (by omega),hR]
 refine .cat (R:=fun s2=>RgS R D s1 s2∧Only t s.m s2.m∧(∀ i,k≤i→pl s2.m t i=pl s.m t i)∧18446744073709551616 * vl (pl s2.m t) k+18446744073709551616 ^ k * 18446744073709551616 * (s2.r (R+3)).toNat=vl (pl s.m t) (k+1)+(s1.r (R+10)).toNat * vl (pl s.m n) (k+1)) ?_ fun s2 ⟨g2,o2,u2,v2⟩=>?_
 ·refine .lp (fun j s2=>RgS R D s1 s2∧Only t s.m s2.m∧(∀ i,j≤i→pl s2.m t i=pl s.m t i)∧18446744073709551616 * vl (pl s2.m t) j+18446744073709551616 ^ j * 18446744073709551616 * (s2.r (R+3)).toNat=vl (pl s.m t) (j+1)+(s1.r (R+10)).toNat * vl (pl s.m n) (j+1)) ⟨fun _ _ _=>rfl,fun _ _ _=>by rw[m1],fun _ _=>by rw[m1],by simp[vl]; omega⟩ (by omega) (fun j s2 hj ⟨g2,o2,u2,v2⟩=>?_) fun _ h=>h
  have hn2:∀ z,¬ inS R z→z≠D→(s2.put D (UInt64.ofNat j)).r z=s1.r z:=fun z a b=>by rw[z0z,if_neg b,g2 z a b]
  have j3:(s2.put D (UInt64.ofNat j)).r (R+3)=s2.r (R+3):=by rw[z0z,if_neg (by omega)]
  refine (zrp (j:=j) (by rw[hn2 _ (by unfold inS; omega) (by omega),R1]) hD (by simp[z0z]; omega) hn0 ht0 (by omega) (by omega)).mono fun s3 ⟨q,e1,e2,e3,e4⟩=>⟨fun z a b=>(e3 z a b).trans (hn2 z a b),o2.trans e2,fun i hi=>?_,?_⟩
  ·rw[e1,if_neg (by omega)]; exact u2 i (by omega)
  ·rw[hn2 _ (by unfold inS; omega) (by omega),z5u,o2.pl dj (by omega),u2 (j+1) (by omega),j3] at e4
   rw[z2g,z2g _ (j+1),z2g _ (j+1),e1,if_pos rfl,Nat.pow_succ,z96 (g:=pl s2.m t) fun i hi=>by rw[e1,if_neg (by omega)]; rfl]
   exact zte v2 e4
 ·refine top_ex (by rw[g2 _ (by unfold inS; omega) (by omega),R1]) ht0 (by omega) _ _ fun s3 c m3 c3 v3 r3=>?_
  refine .op (st_no (by omega) ht2) (.op (zrr (by omega) ht2) (.op znx (.op (st_no (by omega) ht2) (.nil ⟨fun z hz hz2=>?_,?_,?_,s1.r (R+10),?_⟩))))
  ·have z7:¬ z=R+7:=by omega
   simp only[zdg,z0z,if_neg z7]
   rw[r3 z (by omega) (by omega),g2 z (by unfold inS; omega) hz2,g1 z (by unfold inS; omega) (by omega)]
  ·exact o2.trans (m3 ▸ (z7c (by omega)).trans (z7c (p:=t) (by omega)))
  ·rw[z6e,if_neg (by omega),z5u,z5u,z6e,if_neg (by omega),m3,u2 (k+2) (by omega)]
  ·rw[u2 (k+1) (by omega)] at v3
   have hcc:((pl s.m t (k+2))+bitR c).toNat=(pl s.m t (k+2)).toNat+c.toNat:=by
    rw[UInt64.toNat_add,zcl,Nat.mod_eq_of_lt]
    have:c.toNat≤1:=by cases c <;> decide
    omega
   rw[z2g _ (k+2),z2g _ (k+1),z2g _ (k+1),z2g _ k,z96 (g:=pl s2.m t) (n:=k) fun i hi=>by rw[z6e,if_neg (by omega),z5u,z5u,z6e,if_neg (by omega),m3]]
   have hu:=u2 (k+2) (by omega)
   simp[z0z,z5u,zdg,z6e,c3,-UInt64.toNat_add,m3]
   rw[hu,hcc,Nat.pow_succ,Nat.pow_succ]
   exact dtop_law v2 v3
theorem zqs {W P v n t c q x y b:Nat} (h:v+n=t+P * c) (k:q+x+c=y+W * b):v+q * P+(n+x * P)=t+y * P+P * W * b:=by
 have h2:P * (q+x+c)=P * (y+W * b):=by rw[k]
 grind
theorem zl4 {s:Fs} {R D j:Nat} {n t:Pn} {c:Bool} (hD:D < R) (hj:(s.r D).toNat=j) (hc:s.r (R+8)=bitR c) (hn:n.in_ sz) (ht:t.in_ sz) (jn:j < n.k) (jt:j < t.k) (x:List Lo) (Q:Fs→Prop)
  (h:∀ (s1:Fs) (b:Bool),s1.m=s.m→s1.r (R+8)=bitR b→s1.r (R+7)=pl s.m t j→(s1.r (R+6)).toNat+(pl s.m n j).toNat+c.toNat=(pl s.m t j).toNat+18446744073709551616 * b.toNat→(∀ z,¬ inS R z→s1.r z=s.r z)→Tx sz (frZ x) s1 Q) :
  Tx sz (frZ (zb6 n.p t.p R D++x)) s Q:=by
 obtain⟨hn1,hn2⟩:=hn
 obtain⟨ht1,ht2⟩:=ht
 have e:zb6 n.p t.p R D++x=cLd ((R+7:Nat):Int) t.p (D:Nat) ((0:Nat):Int)::cLd ((R+4:Nat):Int) n.p (D:Nat) ((0:Nat):Int)::cCar 12 ((R+6:Nat):Int) ((R+8:Nat):Int) ((R+7:Nat):Int) ((R+4:Nat):Int) ((R+8:Nat):Int)::x:=rfl
 rw[e]
 have dn:∀ n,n < 11→¬ D=R+n:=fun n h=>by omega
 refine .op (zhg (by omega) ht2) (.op (zhg (by simp only[z0z,if_neg (dn 7 (by omega))]; omega) hn2) (.op zvl ?_))
 have hv:=zji (pl s.m t j) (pl s.m n j) c
 refine h _ (subC (pl s.m t j) (pl s.m n j) c).2 rfl ?_ ?_ ?_ fun z hz=>?_
 ·simp[z0z,z5u,dn,hj,hc,zey]
 ·simp[z0z,z5u,dn,hj]
 ·simpa [z0z,z5u,dn,hj,hc,zey] using hv
 ·unfold inS at hz
  have z4:¬ z=R+4:=by omega
  have z6:¬ z=R+6:=by omega
  have z7:¬ z=R+7:=by omega
  have z8:¬ z=R+8:=by omega
  simp[z0z,z4,z6,z7,z8]
theorem less_ex {s:Fs} {R D k:Nat} {n t:Pn} (hD:D < R) (hn:n.in_ sz) (ht:t.in_ sz) (hk:k≤n.k) (hk2:k≤t.k) :
  Tx sz (z9n n.p t.p k R D []) s fun s'=>RgS R D s s'∧s'.m=s.m∧∃ (c:Bool) (v:Nat),s'.r (R+8)=bitR c∧v < 18446744073709551616 ^ k∧v+vl (pl s.m n) k=vl (pl s.m t) k+18446744073709551616 ^ k * c.toNat:=by
 have hW:k < 18446744073709551616:=by have:=hn.1; have:=hn.2; omega
 have e:z9n n.p t.p k R D []=(frZ [cK ((R+8:Nat):Int) 0]).cat (lpT (D:Nat) (k:Nat) (frZ (zb6 n.p t.p R D++[]))):=rfl
 rw[e]
 refine .op zn2 ?_
 refine .lp (fun j s1=>RgS R D s s1∧s1.m=s.m∧∃ (c:Bool) (v:Nat),s1.r (R+8)=bitR c∧v < 18446744073709551616 ^ j∧v+vl (pl s.m n) j=vl (pl s.m t) j+18446744073709551616 ^ j * c.toNat) ⟨fun z hz _=>?_,rfl,false,0,by simp[z0z,bitR],by simp,by simp[vl]⟩ hW (fun j s1 hj ⟨g1,m1,c,v,c1,l1,v1⟩=>?_) fun _ h=>h
 ·unfold inS at hz; rw[z0z,if_neg (by omega)]
 ·refine zl4 (j:=j) (c:=c) hD (by simp[z0z]; omega) (by rw[z0z,if_neg (by omega),c1]) hn ht (by omega) (by omega) _ _ fun s2 b m2 b2 t2 v2 r2=>.nil ⟨fun z hz hz2=>?_,by rw[m2,z5u,m1],b,v+(s2.r (R+6)).toNat * 18446744073709551616 ^ j,b2,?_,?_⟩
  ·rw[r2 z hz,z0z,if_neg hz2,g1 z hz hz2]
  ·have:=(s2.r (R+6)).toNat_lt
   have h3:=Nat.mul_le_mul_right (18446744073709551616 ^ j) (show (s2.r (R+6)).toNat+1≤18446744073709551616 by omega)
   rw[Nat.add_mul,Nat.one_mul] at h3
   rw[Nat.pow_succ,Nat.mul_comm (18446744073709551616 ^ j)]
   omega
  ·rw[z5u,m1] at v2
   rw[z2g,z2g,Nat.pow_succ]
   exact zqs v1 v2
theorem pick_ex {s:Fs} {R D k:Nat} {d n t:Pn} {p:Bool} (hD:D < R) (hp:s.r (R+10)=bitR p) (hn:n.in_ sz) (ht:t.in_ sz) (hd:d.in_ sz) (hk:k≤n.k) (hk2:k≤t.k) (hk3:k≤d.k) (dn:Dj d n) (dt:Dj d t) :
  Tx sz (z9n n.p t.p k R D [cSel (R+6) (R+10) (R+7) (R+6),cSt d.p D 0 (R+6)]) s fun s'=>RgS R D s s'∧Only d s.m s'.m∧∃ (c:Bool) (v:Nat),v < 18446744073709551616 ^ k∧v+vl (pl s.m n) k=vl (pl s.m t) k+18446744073709551616 ^ k * c.toNat∧vl (pl s'.m d) k=if p=true then vl (pl s.m t) k else v:=by
 have hW:k < 18446744073709551616:=by have:=hn.1; have:=hn.2; omega
 have e:z9n n.p t.p k R D [cSel (R+6) (R+10) (R+7) (R+6),cSt d.p D 0 (R+6)]=(frZ [cK ((R+8:Nat):Int) 0]).cat (lpT (D:Nat) (k:Nat) (frZ (zb6 n.p t.p R D++[cSel ((R+6:Nat):Int) ((R+10:Nat):Int) ((R+7:Nat):Int) ((R+6:Nat):Int),cSt d.p (D:Nat) ((0:Nat):Int) ((R+6:Nat):Int)]))):=rfl
 rw[e]
 refine .op zn2 ?_
 refine .lp (fun j s1=>RgS R D s s1∧Only d s.m s1.m∧∃ (c:Bool) (v:Nat),s1.r (R+8)=bitR c∧v < 18446744073709551616 ^ j∧v+vl (pl s.m n) j=vl (pl s.m t) j+18446744073709551616 ^ j * c.toNat∧vl (pl s1.m d) j=if p=true then vl (pl s.m t) j else v) ⟨fun z hz _=>?_,fun _ _ _=>rfl,false,0,by simp[z0z,bitR],by simp,by simp[vl],by simp[vl]⟩ hW (fun j s1 hj ⟨g1,o1,c,v,c1,l1,v1,d1⟩=>?_) fun _ ⟨h1,h2,c,v,_,h3,h4,h5⟩=>⟨h1,h2,c,v,h3,h4,h5⟩
 ·unfold inS at hz; rw[z0z,if_neg (by omega)]
 ·refine zl4 (j:=j) (c:=c) hD (by simp[z0z]; omega) (by rw[z0z,if_neg (by omega),c1]) hn ht (by omega) (by omega) _ _ fun s2 b m2 b2 t2 v2 r2=>?_
  have hD2:(s2.r D).toNat=j:=by rw[r2 D (by unfold inS; omega)]; simp[z0z]; omega
  rw[z5u] at t2 v2 m2
  rw[o1.pl dn (by omega),o1.pl dt (by omega)] at v2
  rw[o1.pl dt (by omega)] at t2
  have hp2:s2.r (R+10)=bitR p:=by rw[r2 _ (by unfold inS; omega),z0z,if_neg (by omega),g1 _ (by unfold inS; omega) (by omega),hp]
  refine .op opZ_sel (.op (zqh (by simp only[z0z]; rw[if_neg (by omega)]; have:=hd.1; omega) hd.2) (.nil ⟨fun z hz hz2=>?_,?_,b,v+(s2.r (R+6)).toNat * 18446744073709551616 ^ j,?_,?_,?_,?_⟩))
  ·rw[zdg,z0z,if_neg (by unfold inS at hz; omega),r2 z hz,z0z,if_neg hz2,g1 z hz hz2]
  ·refine o1.trans (m2 ▸ ?_)
   exact z7c (p:=d) (s:=s2.put _ _) (by rw[z0z,if_neg (by omega)]; omega)
  ·rw[zdg,z0z,if_neg (by omega),b2]
  ·have:=(s2.r (R+6)).toNat_lt
   have h3:=Nat.mul_le_mul_right (18446744073709551616 ^ j) (show (s2.r (R+6)).toNat+1≤18446744073709551616 by omega)
   rw[Nat.add_mul,Nat.one_mul] at h3
   rw[Nat.pow_succ,Nat.mul_comm (18446744073709551616 ^ j)]
   omega
  ·rw[z2g,z2g,Nat.pow_succ]
   exact zqs v1 v2
  ·have hj2:0+((s2.put (R+6) (if s2.r (R+10) % 2=1 then s2.r (R+7) else s2.r (R+6))).r D).toNat=j:=by rw[z0z,if_neg (by omega)]; omega
   rw[z2g,hj2,z6e,if_pos rfl,z96 (g:=pl s1.m d) (n:=j) fun i hi=>by rw[z6e,if_neg (by omega),z5u,m2],d1,z0z,if_pos rfl,hp2,t2]
   have hb:=zey p
   cases p
   ·simp at hb; simp[hb]
   ·simp at hb; simp[hb,z2g]
theorem last_law {P V N t c b v e:Nat} {W q:Nat} (hN:N < P) (h2:V+t * P < 2 * N) (hv:v < P) (hc:c≤1) (hb:b≤1) (h:v+N=V+P * c) (k:q+c=t+W * b) (hq:q < W) (g:e+N=V+P * c):(V+t * P < N↔b=1)∧(b=1→t=0)∧(b=0→e=V+t * P - N):=by
 have ht:t≤1:=by
  rcases Nat.lt_or_ge t 2 with h | h
  ·omega
  ·have:=Nat.mul_le_mul_right P h
   omega
 have ht:t=0∨t=1:=by omega
 have hc:c=0∨c=1:=by omega
 have hb:b=0∨b=1:=by omega
 rcases ht with rfl | rfl <;> rcases hc with rfl | rfl <;> rcases hb with rfl | rfl <;> simp at * <;> omega
theorem last_ex {s:Fs} {R D k:Nat} {d n t:Pn} (hR:s.r R=0) (hD:D < R) (hn:n.in_ sz) (ht:t.in_ sz) (hd:d.in_ sz) (hk:k≤n.k) (hk2:k+1≤t.k) (hk3:k≤d.k) (dn:Dj d n) (dt:Dj d t) (h2:vl (pl s.m t) (k+1) < 2 * vl (pl s.m n) k) :
  Tx sz (zeq d.p n.p t.p k R D) s fun s'=>RgA R D s s'∧Only d s.m s'.m∧vl (pl s'.m d) k=if vl (pl s.m t) (k+1) < vl (pl s.m n) k then vl (pl s.m t) (k+1) else vl (pl s.m t) (k+1) - vl (pl s.m n) k:=by
 have e:zeq d.p n.p t.p k R D=(z9n n.p t.p k R D []).cat ((frZ [cLd ((R+7:Nat):Int) t.p (-1) (k:Nat),cCar 12 ((R+6:Nat):Int) ((R+10:Nat):Int) ((R+7:Nat):Int) (R:Nat) ((R+8:Nat):Int)]).cat (z9n n.p t.p k R D [cSel (R+6) (R+10) (R+7) (R+6),cSt d.p D 0 (R+6)])):=rfl
 rw[e]
 refine (less_ex hD hn ht hk (by omega)).cat fun s1 ⟨g1,m1,c,v,c1,l1,v1⟩=>?_
 have hT:=zji (pl s.m t k) 0 c
 refine .op (zrr (by have:=ht.1; omega) ht.2) (.op zvl ?_)
 have R1:s1.r R=0:=by rw[g1 R (by unfold inS; omega) (by omega),hR]
 refine (pick_ex (p:=(subC (pl s.m t k) 0 c).2) hD ?_ hn ht hd hk (by omega) hk3 dn dt).mono fun s3 ⟨g3,o3,c',v',l3,v3,d3⟩=>⟨fun z hz hz2=>?_,?_,?_⟩
 ·simp[z0z,R1,c1,zey,m1]
 ·rw[g3 z (by unfold inS; omega) hz2]
  simp only[z0z]
  rw[if_neg (by omega),if_neg (by omega),if_neg (by omega),g1 z (by unfold inS; omega) hz2]
 ·rw[←m1]; exact o3
 ·simp only[z5u,m1] at v3 d3
  rw[z2g] at h2 ⊢
  have hN:=vl_lt (pl s.m n) k
  have hq:=(subC (pl s.m t k) 0 c).1.toNat_lt
  have hcc:c.toNat≤1:=by cases c <;> decide
  have hc':c'.toNat=c.toNat:=by
   rcases c with _ | _ <;> rcases c' with _ | _ <;> simp at * <;> omega
  rw[hc'] at v3
  generalize (subC (pl s.m t k) 0 c).2=b at *
  have hb:b.toNat≤1:=by cases b <;> decide
  obtain⟨q1,q2,q3⟩:=last_law hN h2 l1 hcc hb v1 (by simpa using hT) hq v3
  rw[d3]
  cases b
  ·rw[if_neg (by simp),if_neg (by rw[q1]; simp),q3 rfl]
  ·rw[if_pos rfl,if_pos (by rw[q1]; rfl),q2 rfl]; simp
theorem fill_ex {s:Fs} {D a:Nat} {p:Pn} (hp:p.in_ sz) (ha:a≠D):Tx sz (zer p.p a D) s fun s'=>(∀ z,z≠D→s'.r z=s.r z)∧Only p s.m s'.m∧∀ i,i < p.k→pl s'.m p i=s.r a:=by
 have e:zer p.p a D=lpT (D:Nat) (p.k:Nat) (frZ [cSt p.p (D:Nat) ((0:Nat):Int) (a:Nat)]):=rfl
 rw[e]
 obtain⟨h1,h2⟩:=hp
 refine .lp (fun j s1=>(∀ z,z≠D→s1.r z=s.r z)∧Only p s.m s1.m∧∀ i,i < j→pl s1.m p i=s.r a) ⟨fun _ _=>rfl,fun _ _ _=>rfl,fun _ h=>absurd h (by omega)⟩ (by omega) (fun j s1 hj ⟨g1,o1,v1⟩=>?_) fun _ h=>h
 have hj2:((s1.put D (UInt64.ofNat j)).r D).toNat=j:=by simp[z0z]; omega
 refine .op (zqh (by rw[hj2]; omega) h2) (.nil ⟨fun z hz=>?_,?_,fun i hi=>?_⟩)
 ·rw[zdg,z0z,if_neg hz,g1 z hz]
 ·exact o1.trans (z7c (p:=p) (s:=s1.put _ _) (by rw[hj2]; omega))
 ·rw[z6e,hj2]
  split
  ·rw[z0z,if_neg ha,g1 a ha]
  ·rw[z5u]; exact v1 i (by omega)
theorem znz {f:Nat→UInt64}:∀ {n:Nat},(∀ i,i < n→f i=0)→vl f n=0
 | 0,_=>rfl
 | n+1,h=>by rw[vl,znz fun i hi=>h i (by omega),h n (by omega)]; simp
theorem ztk {W P A B Q N V V' X b m:Nat} (h:P * V=A * B+Q * N) (h1:X=V+A * b) (h2:W * V'=X+m * N):P * W * V'=A * (B+b * P)+(Q+m * P) * N:=by
 have:P * (W * V')=P * (V+A * b+m * N):=by rw[h2,h1]
 grind
theorem round_lt {W A N V V' X b m:Nat} (h0:V < 2 * N) (hA:A < N) (hb:b < W) (hm:m < W) (h1:X=V+A * b) (h2:W * V'=X+m * N):V' < 2 * N:=by
 have g1:A * b≤N * (W - 1):=Nat.mul_le_mul (by omega) (by omega)
 have g2:m * N≤(W - 1) * N:=Nat.mul_le_mul_right _ (by omega)
 have g3:(W - 1) * N+N=W * N:=by
  rw[←Nat.succ_mul]; congr 1; omega
 rw[Nat.mul_comm N] at g1
 have g4:W * V' < W * (2 * N):=by
  rw[h2,h1,Nat.mul_left_comm]; omega
 exact Nat.lt_of_mul_lt_mul_left g4
theorem into_ex {s:Fs} {R D k:Nat} {d a b n t:Pn} (hD:D+1 < R) (hd:d.in_ sz) (ha:a.in_ sz) (hb:b.in_ sz) (hn:n.in_ sz) (ht:t.in_ sz) (kd:k+1≤d.k) (ka:k+1≤a.k) (kb:k+1≤b.k) (kn:k+1≤n.k) (kt:k+3≤t.k)
  (dn:Dj d n) (dt:Dj d t) (ta:Dj t a) (tb:Dj t b) (tn:Dj t n) (odd:pl s.m n 0 % 2=1) (hA:vl (pl s.m a) (k+1) < vl (pl s.m n) (k+1)) :
  Tx sz (zhf d.p a.p b.p n.p t.p (k+1:Nat) R D) s fun s'=>(∀ z,¬ (R≤z∧z≤R+10)→z≠D→z≠D+1→s'.r z=s.r z)∧(∀ x y,¬ (x=d.b∧d.a≤y∧y < d.a+d.k)→¬ (x=t.b∧t.a≤y∧y < t.a+t.k)→s'.m x y=s.m x y) ∧
   vl (pl s'.m d) (k+1) < vl (pl s.m n) (k+1)∧∃ Q Q':Nat,18446744073709551616 ^ (k+1) * vl (pl s'.m d) (k+1)+Q' * vl (pl s.m n) (k+1)=vl (pl s.m a) (k+1) * vl (pl s.m b) (k+1)+Q * vl (pl s.m n) (k+1):=by
 have e:zhf d.p a.p b.p n.p t.p (k+1:Nat) R D=(frZ ([cK (R:Nat) 0,cLd ((R+10:Nat):Int) n.p (-1) ((0:Nat):Int)]++z90 ((R+10:Nat):Int) ((R+1:Nat):Int))).cat ((zer t.p (R:Nat) (D:Nat)).cat ((lpT (D:Nat) (k+1:Nat) ((z4g a.p b.p t.p (k+1:Nat) R ((D+1:Nat):Int) D).cat (z9l n.p t.p (k+1:Nat) R ((D+1:Nat):Int)))).cat (zeq d.p n.p t.p (k+1:Nat) R D))):=rfl
 rw[e,frL_app]
 have hks:k+1 < 18446744073709551616:=by have:=hn.1; have:=hn.2; omega
 refine Tx.cat (R:=fun s1=>s1.r R=0∧s1.r (R+1) * pl s.m n 0+1=0∧s1.m=s.m∧∀ z,¬ (R≤z∧z≤R+10)→s1.r z=s.r z) ?_ fun s1 ⟨R1,I1,m1,g1⟩=>?_
 ·refine .op zn2 (.op (zrr (by have:=hn.1; omega) hn.2) ((reck_ex (by omega)).mono fun s1 ⟨e1,e2,e3⟩=>⟨?_,?_,?_,fun z hz=>?_⟩))
  ·rw[e3 R (by omega)]; simp[z0z]
  ·rw[e1]
   simp only[z0z,if_true,z5u]
   have:=zwm _ odd
   grind
  ·rw[e2]; rfl
  ·rw[e3 z (by omega),z0z,if_neg (by omega),z0z,if_neg (by omega)]
 refine (fill_ex ht (by omega)).cat fun s2 ⟨g2,o2,z2⟩=>?_
 have R2:s2.r R=0:=by rw[g2 R (by omega),R1]
 have I2:s2.r (R+1) * pl s.m n 0+1=0:=by rw[g2 (R+1) (by omega),I1]
 rw[m1] at o2
 rw[R1] at z2
 refine .cat (R:=fun s3=>(∀ z,¬ (R+2≤z∧z≤R+10)→z≠D→z≠D+1→s3.r z=s2.r z)∧Only t s.m s3.m∧(pl s3.m t (k+2)).toNat≤1∧vl (pl s3.m t) (k+2) < 2 * vl (pl s.m n) (k+1)∧∃ Q,18446744073709551616 ^ (k+1) * vl (pl s3.m t) (k+2)=vl (pl s.m a) (k+1) * vl (pl s.m b) (k+1)+Q * vl (pl s.m n) (k+1)) ?_ fun s3 ⟨g3,o3,_,l3,Q,v3⟩=>?_
 ·refine .lp (fun i s3=>(∀ z,¬ (R+2≤z∧z≤R+10)→z≠D→z≠D+1→s3.r z=s2.r z)∧Only t s.m s3.m∧(pl s3.m t (k+2)).toNat≤1∧vl (pl s3.m t) (k+2) < 2 * vl (pl s.m n) (k+1)∧∃ Q,18446744073709551616 ^ i * vl (pl s3.m t) (k+2)=vl (pl s.m a) (k+1) * vl (pl s.m b) i+Q * vl (pl s.m n) (k+1)) ⟨fun _ _ _ _=>rfl,o2,by rw[z2 _ (by omega)]; decide,?_,0,?_⟩ hks (fun i s3 hi ⟨g3,o3,c3,l3,Q,v3⟩=>?_) fun _ h=>h
  ·rw[znz fun i hi=>z2 i (by omega)]; omega
  ·rw[znz fun i hi=>z2 i (by omega)]; simp[vl]
  ·have hDi:((s3.put D (UInt64.ofNat i)).r D).toNat=i:=by simp[z0z]; omega
   have g3':∀ z,¬ (R+2≤z∧z≤R+10)→z≠D→z≠D+1→(s3.put D (UInt64.ofNat i)).r z=s2.r z:=fun z h1 h2 h3=>by rw[z0z,if_neg h2,g3 z h1 h2 h3]
   refine (times_ex (k:=k+1) (b:=b) (i:=D) (by rw[g3' R (by omega) (by omega) (by omega),R2]) (by omega) (by rw[hDi]; omega) hb ha ht ka kt ta ht.2).cat fun s4 ⟨g4,o4,v4,c4⟩=>?_
   rw[z5u] at o4 v4
   rw[hDi,o3.pl tb (by omega),o3.vl ta ka] at v4
   have o4':=o3.trans o4
   refine (down_ex (k:=k) (by rw[g4 R (by omega) (by omega),g3' R (by omega) (by omega) (by omega),R2]) (by omega) (by rw[g4 (R+1) (by omega) (by omega),g3' _ (by omega) (by omega) (by omega),o4'.pl tn (by omega),I2]) hn ht kn kt tn c4).mono fun s5 ⟨g5,o5,c5,m,v5⟩=>⟨fun z h1 h2 h3=>?_,o4'.trans o5,?_,?_,Q+m.toNat * 18446744073709551616 ^ i,?_⟩
   ·rw[g5 z h1 h3,g4 z h1 h3,g3' z h1 h2 h3]
   ·rw[c5]; exact c4
   ·rw[o4'.vl tn kn] at v5
    exact round_lt l3 hA (pl s.m b i).toNat_lt m.toNat_lt v4 v5
   ·rw[o4'.vl tn kn] at v5
    rw[Nat.pow_succ,z2g]
    exact ztk v3 v4 v5
 ·refine (last_ex (k:=k+1) (by rw[g3 R (by omega) (by omega) (by omega),R2]) (by omega) hn ht hd kn (by omega) kd dn dt (by rw[o3.vl tn kn]; exact l3)).mono fun s4 ⟨g4,o4,v4⟩=>⟨fun z h1 h2 h3=>?_,fun x y h1 h2=>?_,?_,?_⟩
  ·rw[g4 z (by omega) h2,g3 z (by omega) h2 h3,g2 z h2,g1 z h1]
  ·rw[o4 x y h1,o3 x y h2]
  ·have l3:vl (pl s3.m t) (k+1+1) < 2 * vl (pl s.m n) (k+1):=l3
   rw[o3.vl tn kn] at v4
   rw[v4]; split <;> omega
  ·have v3:18446744073709551616 ^ (k+1) * vl (pl s3.m t) (k+1+1)=vl (pl s.m a) (k+1) * vl (pl s.m b) (k+1)+Q * vl (pl s.m n) (k+1):=v3
   rw[o3.vl tn kn] at v4
   rw[v4]
   split
   ·exact⟨Q,0,by rw[v3]; omega⟩
   ·refine⟨Q,18446744073709551616 ^ (k+1),?_⟩
    rw[←v3,←Nat.mul_add,Nat.sub_add_cancel (by omega)]
end mu
end Go.Sv
namespace Go.Sv
noncomputable def secR (bs:List Bf) (m:List Bool) (o:Lo):Bool:=if o.kind=16 then false else if o.kind=14 then (gbf bs o.buf.toNat).sec else (z0u o).any (z3d m)
noncomputable def mkS (bs:List Bf) (o:Lo):List Int→List Bool×Bool→List Bool×Bool
 | [],s=>s
 | r::rs,s=>mkS bs o rs (if (!z3d s.1 r && secR bs s.1 o)=true then (s.1.set r.toNat true,true) else s)
end Go.Sv
